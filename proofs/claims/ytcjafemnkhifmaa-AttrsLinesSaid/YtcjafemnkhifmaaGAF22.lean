import Derived.Test.YtcjafemnkhifmaaGA0
import Derived.Test.YtcjafemnkhifmaaGM2
import Derived.Test.YtcjafemnkhifmaaMX
namespace Go.Proofs.Ytcjafemnkhifmaa.GA
open Go.RowKit Go.Proofs.Ytcjafemnkhifmaa Go.Proofs.Ytcjafemnkhifmaa.MW Go.Proofs.YtcjafemnkhifmaaW.PrintWords Go.Proofs.YtcjafemnkhifmaaW.PrintLast Go.Proofs.YtcjafemnkhifmaaW.PrintMore
attribute [local go_sem] max2_int min2_int max_two min_two
set_option maxHeartbeats 8000000
set_option maxRecDepth 100000
set_option linter.unusedVariables false
set_option linter.unusedSimpArgs false
mutual
def toponymref20_Below.l0:Nat→(List ByteArray)→Int→(List (S26))→(List ByteArray)→Option (List ByteArray)
 |0,_,_,_,_=>none
 |k+1,x1,x4,l0,l1=>if x4<(l0.length:Int) then((toponymref20_Below.l1 k false 0 l0 l1 x1 x4)) else(some x1)
def toponymref20_Below.l1:Nat→Bool→Int→(List (S26))→(List ByteArray)→(List ByteArray)→Int→Option (List ByteArray)
 |0,_,_,_,_,_,_=>none
 |k+1,x10,x11,l0,l1,x1,x4=>if x11<(l1.length:Int) then(if x10=true then((toponymref20_Below.l1 k true (wrap64 (x11+1)) l0 l1 x1 x4)) else(if 0≤x4 then(if x4<(l0.length:Int) then(if 0≤x11 then((toponymref20_Is.f k l0 ((rd_T26 l0 x4).f0) (rdOf ByteArray.empty l1 x11)).bind fun t28=>((toponymref20_Below.l1 k t28 (wrap64 (x11+1)) l0 l1 x1 x4))) else(none)) else(none)) else(none))) else(if x10=true then(if 0≤x4 then(if x4<(l0.length:Int) then(if x1.length<8796093022208 then((some (x1++[(rd_T26 l0 x4).f0]:List ByteArray)).bind fun y45=>((toponymref20_Below.l0 k y45 (wrap64 (x4+1)) l0 l1))) else(none)) else(none)) else(none)) else((toponymref20_Below.l0 k x1 (wrap64 (x4+1)) l0 l1)))
end
def toponymref20_Below.f (k:Nat) (l0:List (S26)) (l1:List ByteArray):Option (List ByteArray):=(toponymref20_Below.l0 k ([]:List ByteArray) 0 l0 l1)
theorem toponymref20_Below.mono_l:∀ k,(∀ y0 y1 y2 y3,LeO (toponymref20_Below.l0 k y0 y1 y2 y3) (toponymref20_Below.l0 (k+1) y0 y1 y2 y3))∧(∀ y0 y1 y2 y3 y4 y5,LeO (toponymref20_Below.l1 k y0 y1 y2 y3 y4 y5) (toponymref20_Below.l1 (k+1) y0 y1 y2 y3 y4 y5))
 |0=>⟨fun _ _ _ _ r h=>by simp[toponymref20_Below.l0] at h,fun _ _ _ _ _ _ r h=>by simp[toponymref20_Below.l1] at h⟩
 |k+1=>by
  obtain⟨ih0,ih1⟩:=toponymref20_Below.mono_l k
  refine⟨?_,?_⟩
  ·intro y0 y1 y2 y3
   unfold toponymref20_Below.l0
   with_reducible repeat' first|exact ih0 _ _ _ _|exact ih1 _ _ _ _ _ _|exact toponymref20_Is.mono _ _ _ _|exact LeO.refl _|exact LeO.none _|refine LeO.ite ?_ ?_|refine LeO.bind ?_ (fun _=>?_)
  intro y0 y1 y2 y3 y4 y5
  unfold toponymref20_Below.l1
  with_reducible repeat' first|exact ih0 _ _ _ _|exact ih1 _ _ _ _ _ _|exact toponymref20_Is.mono _ _ _ _|exact LeO.refl _|exact LeO.none _|refine LeO.ite ?_ ?_|refine LeO.bind ?_ (fun _=>?_)
theorem toponymref20_Below.mono:∀ a0_ a1_ k,LeO (toponymref20_Below.f k a0_ a1_) (toponymref20_Below.f (k+1) a0_ a1_):=by
 intro a0_ a1_ k
 obtain⟨ih0,ih1⟩:=toponymref20_Below.mono_l k
 unfold toponymref20_Below.f
 with_reducible repeat' first|exact ih0 _ _ _ _|exact ih1 _ _ _ _ _ _|exact toponymref20_Is.mono _ _ _ _|exact LeO.refl _|exact LeO.none _|refine LeO.ite ?_ ?_|refine LeO.bind ?_ (fun _=>?_)
theorem toponymref20_Below.calls (k:Nat) (P_:Nat→Prop) (A0:Option Addr) (c0:Nat) (l0:List (S26)) (A1:Option Addr) (c1:Nat) (l1:List ByteArray) (r:List ByteArray) (w:World) (hs0:Kd.F k26 w P_ A0 l0.length l0) (hc0:l0.length≤c0) (hs1:Kd.F Kd.string w P_ A1 l1.length l1) (hc1:l1.length≤c1) (h:toponymref20_Below.f k l0 l1=some r):
  Calls Try.prog 22 #[.slice A0 l0.length c0,.slice A1 l1.length c1] w (fun e w'=>∃ v0_:Value,e=.returned (v0_)∧Kd.N Kd.string 9 w' w.heap.size (fun k_=>P_ k_∨w.heap.size≤k_) v0_ r∧Below w.heap.size w w'):=by
 unfold toponymref20_Below.f at h
 have HH:=za h
 clear h
 have HF0:=zfp hs0
 have HL0:=za hc0
 clear hs0 hc0
 have HF1:=zfp hs1
 clear hs1 hc1
 have HB:=za (Below.refl w.heap.size w)
 go_enter Try.func22,Try.ntmps22
 go_wp2
 go_loopg [5,6] k (fun kq u5 u6 w'=>∃ (x1:List ByteArray) (x4:Int),u6=.int .i64 x4∧Aside0 ((toponymref20_Below.l0 kq x1 x4 l0 l1)=some r)∧Aside0 (kq≤k)∧Aside0 (Kd.F k26 w' (fun k_=>(P_ k_∨w.heap.size≤k_)∧some k_≠(u5:Value).ownBlock) A0 l0.length l0)∧Aside0 (Kd.F Kd.string w' (fun k_=>(P_ k_∨w.heap.size≤k_)∧some k_≠(u5:Value).ownBlock) A1 l1.length l1)∧Aside0 (Kd.N Kd.string 9 w' w.heap.size (fun k_=>(P_ k_∨w.heap.size≤k_)) u5 x1)∧Aside0 (Below w.heap.size w w'))
 case atStart=>exact⟨([]:List ByteArray),0,(by first|rfl|(simp;done)|(simp[*];done)),HH,⟨Nat.le_refl _⟩,⟨(Kd.F_mono (ok:=(fun k_=>(P_ k_∨w.heap.size≤k_))) HF0.out (fun k_ hk_=>⟨hk_,(by simp[Value.ownBlock])⟩))⟩,⟨(Kd.F_mono (ok:=(fun k_=>(P_ k_∨w.heap.size≤k_))) HF1.out (fun k_ hk_=>⟨hk_,(by simp[Value.ownBlock])⟩))⟩,⟨Kd.N_nil _ _ _ _ _⟩,⟨HB.out⟩⟩
 case round=>
  clear HH
  clear HF0 HF1 HB
  obtain⟨x1,x4,rfl,HA,HK0,HF0,HF1,HN3,HB⟩:=hrel
  obtain⟨v2,rfl⟩:∃ z_:Value,z_=u5:=⟨_,rfl⟩
  obtain⟨w6,rfl⟩:∃ wo_:World,wo_=wr:=⟨_,rfl⟩
  cases gk with
  |zero=>exact absurd HA.out (by simp[toponymref20_Below.l0])
  |succ k5=>
   have H:=HA.out
   clear HA
   simp only[toponymref20_Below.l0] at H
   have HH:=za H
   clear H
   replace HH:=zqt HH
   rcases HH with⟨HH,hk8,hk9⟩|⟨HH,hk52,hk53⟩
   ·go_wp2
    go_loopg [7,8] k5 (fun kq u7 u8 w'=>∃ (x10:Bool) (x11:Int),u7=.bool x10∧u8=.int .i64 x11∧Aside0 ((toponymref20_Below.l1 kq x10 x11 l0 l1 x1 x4)=some r)∧Aside0 (kq≤k5)∧Aside0 (Kd.F k26 w' (fun k_=>(P_ k_∨w.heap.size≤k_)∧some k_≠(v2:Value).ownBlock) A0 l0.length l0)∧Aside0 (Kd.F Kd.string w' (fun k_=>(P_ k_∨w.heap.size≤k_)∧some k_≠(v2:Value).ownBlock) A1 l1.length l1)∧Aside0 (Kd.N Kd.string 9 w' w.heap.size (fun k_=>(P_ k_∨w.heap.size≤k_)) v2 x1)∧Aside0 (Below w.heap.size w w'))
    case atStart=>exact⟨false,0,(by first|rfl|(simp;done)|(simp[*];done)),(by first|rfl|(simp;done)|(simp[*];done)),HH,⟨Nat.le_refl _⟩,⟨HF0.out⟩,⟨HF1.out⟩,⟨(Kd.N_mono (ok:=(fun k_=>(P_ k_∨w.heap.size≤k_))) HN3.out (fun k_ hk_=>hk_))⟩,⟨HB.out⟩⟩
    case round=>
     clear hk8
     clear hk9
     clear HH
     clear HF0 HF1 HN3 HB
     obtain⟨x10,x11,rfl,rfl,HA,HK1,HF0,HF1,HN3,HB⟩:=hrel
     obtain⟨w13,rfl⟩:∃ wo_:World,wo_=wr:=⟨_,rfl⟩
     cases gk with
     |zero=>exact absurd HA.out (by simp[toponymref20_Below.l1])
     |succ k12=>
      have H:=HA.out
      clear HA
      simp only[toponymref20_Below.l1] at H
      have HH:=za H
      clear H
      replace HH:=zqt HH
      rcases HH with⟨HH,hk15,hk16⟩|⟨HH,hk35,hk36⟩
      ·go_wp2
       have hwr_:∀ n_:Int,IntKind.i64.wrap n_=wrap64 n_:=fun n_=>IntWalk.i64_left n_
       refine wp_region_any (by kernel_rfl) ?_
       change wpAny _ _ _ _ 15 #[false,false,false,false,false,false,false,false,false,false,false,false,false,false,false] _ w13.drew
       obtain⟨w17,hw_⟩:∃ w_:World,w_=w13.drew:=⟨_,rfl⟩
       rw[← hw_]
       have hb:Below w13.heap.size w13 w17:=by rw[hw_];exact below_drew1 (Below.refl _ _)
       clear hw_
       replace HF0:=zfb HF0.out hb
       replace HF1:=zfb HF1.out hb
       replace HN3:=znb HN3.out hb
       replace HB:=zhb HB.out hb
       clear hb
       refine zt 0 (.bool x10) #[_,_,_,_,_,_,_,_,_,_,_,_,_,_,_] ⟨[_,_,_,_,_,_,_,_,_,_,_,_,_,_,_,_,_,_,_,_,_,_,_,_,_,_,_,_,_,_,_,_,_,_,_,_,_,_,_,_,_,_,_,_,_].toArray,[]⟩ (h:=?_)
       refine zt 1 (.bool x10) #[_,_,_,_,_,_,_,_,_,_,_,_,_,_,_] ⟨[_,_,_,_,_,_,_,_,_,_,_,_,_,_,_,_,_,_,_,_,_,_,_,_,_,_,_,_,_,_,_,_,_,_,_,_,_,_,_,_,_,_,_,_,_].toArray,[]⟩ (h:=?_)
       by_cases c18:x10=true
       ·replace HH:=MW.hpos HH c18
        subst c18
        refine MW.any_take (i:=2) (v:=undef) (listed':= #[true,true,true,false,false,false,false,false,false,false,false,false,false,false,false]) (a':=⟨[_,_,_,_,_,_,_,_,_,_,_,_,_,_,_,_,_,_,_,_,_,_,_,_,_,_,_,_,_,_,_,_,_,_,_,_,_,_,_,_,_,_,_,_,_].toArray,[]⟩) rfl (by kernel_rfl) (by kernel_rfl) (by kernel_rfl) (fun _ _ _ h_=>h_) (.inr ⟨(by kernel_rfl),rfl⟩) (by kernel_rfl) rfl ?_
        refine MW.any_take (i:=3) (v:=undef) (listed':= #[true,true,true,true,false,false,false,false,false,false,false,false,false,false,false]) (a':=⟨[_,_,_,_,_,_,_,_,_,_,_,_,_,_,_,_,_,_,_,_,_,_,_,_,_,_,_,_,_,_,_,_,_,_,_,_,_,_,_,_,_,_,_,_,_].toArray,[]⟩) rfl (by kernel_rfl) (by kernel_rfl) (by kernel_rfl) (fun _ _ _ h_=>h_) (.inr ⟨(by kernel_rfl),rfl⟩) (by kernel_rfl) rfl ?_
        refine MW.any_take (i:=4) (v:=undef) (listed':= #[true,true,true,true,true,false,false,false,false,false,false,false,false,false,false]) (a':=⟨[_,_,_,_,_,_,_,_,_,_,_,_,_,_,_,_,_,_,_,_,_,_,_,_,_,_,_,_,_,_,_,_,_,_,_,_,_,_,_,_,_,_,_,_,_].toArray,[]⟩) rfl (by kernel_rfl) (by kernel_rfl) (by kernel_rfl) (fun _ _ _ h_=>h_) (.inr ⟨(by kernel_rfl),rfl⟩) (by kernel_rfl) rfl ?_
        refine MW.any_take (i:=5) (v:=undef) (listed':= #[true,true,true,true,true,true,false,false,false,false,false,false,false,false,false]) (a':=⟨[_,_,_,_,_,_,_,_,_,_,_,_,_,_,_,_,_,_,_,_,_,_,_,_,_,_,_,_,_,_,_,_,_,_,_,_,_,_,_,_,_,_,_,_,_].toArray,[]⟩) rfl (by kernel_rfl) (by kernel_rfl) (by kernel_rfl) (fun _ _ _ h_=>h_) (.inr ⟨(by kernel_rfl),rfl⟩) (by kernel_rfl) rfl ?_
        refine MW.any_take (i:=6) (v:=undef) (listed':= #[true,true,true,true,true,true,true,false,false,false,false,false,false,false,false]) (a':=⟨[_,_,_,_,_,_,_,_,_,_,_,_,_,_,_,_,_,_,_,_,_,_,_,_,_,_,_,_,_,_,_,_,_,_,_,_,_,_,_,_,_,_,_,_,_].toArray,[]⟩) rfl (by kernel_rfl) (by kernel_rfl) (by kernel_rfl) (fun _ _ _ h_=>h_) (.inr ⟨(by kernel_rfl),rfl⟩) (by kernel_rfl) rfl ?_
        refine MW.any_take (i:=7) (v:=undef) (listed':= #[true,true,true,true,true,true,true,true,false,false,false,false,false,false,false]) (a':=⟨[_,_,_,_,_,_,_,_,_,_,_,_,_,_,_,_,_,_,_,_,_,_,_,_,_,_,_,_,_,_,_,_,_,_,_,_,_,_,_,_,_,_,_,_,_].toArray,[]⟩) rfl (by kernel_rfl) (by kernel_rfl) (by kernel_rfl) (fun _ _ _ h_=>h_) (.inr ⟨(by kernel_rfl),rfl⟩) (by kernel_rfl) rfl ?_
        refine MW.any_take (i:=8) (v:=undef) (listed':= #[true,true,true,true,true,true,true,true,true,false,false,false,false,false,false]) (a':=⟨[_,_,_,_,_,_,_,_,_,_,_,_,_,_,_,_,_,_,_,_,_,_,_,_,_,_,_,_,_,_,_,_,_,_,_,_,_,_,_,_,_,_,_,_,_].toArray,[]⟩) rfl (by kernel_rfl) (by kernel_rfl) (by kernel_rfl) (fun _ _ _ h_=>h_) (.inr ⟨(by kernel_rfl),rfl⟩) (by kernel_rfl) rfl ?_
        refine MW.any_take (i:=9) (v:=undef) (listed':= #[true,true,true,true,true,true,true,true,true,true,false,false,false,false,false]) (a':=⟨[_,_,_,_,_,_,_,_,_,_,_,_,_,_,_,_,_,_,_,_,_,_,_,_,_,_,_,_,_,_,_,_,_,_,_,_,_,_,_,_,_,_,_,_,_].toArray,[]⟩) rfl (by kernel_rfl) (by kernel_rfl) (by kernel_rfl) (fun _ _ _ h_=>h_) (.inr ⟨(by kernel_rfl),rfl⟩) (by kernel_rfl) rfl ?_
        refine MW.any_take (i:=10) (v:=undef) (listed':= #[true,true,true,true,true,true,true,true,true,true,true,false,false,false,false]) (a':=⟨[_,_,_,_,_,_,_,_,_,_,_,_,_,_,_,_,_,_,_,_,_,_,_,_,_,_,_,_,_,_,_,_,_,_,_,_,_,_,_,_,_,_,_,_,_].toArray,[]⟩) rfl (by kernel_rfl) (by kernel_rfl) (by kernel_rfl) (fun _ _ _ h_=>h_) (.inr ⟨(by kernel_rfl),rfl⟩) (by kernel_rfl) rfl ?_
        refine MW.any_take (i:=11) (v:=undef) (listed':= #[true,true,true,true,true,true,true,true,true,true,true,true,false,false,false]) (a':=⟨[_,_,_,_,_,_,_,_,_,_,_,_,_,_,_,_,_,_,_,_,_,_,_,_,_,_,_,_,_,_,_,_,_,_,_,_,_,_,_,_,_,_,_,_,_].toArray,[]⟩) rfl (by kernel_rfl) (by kernel_rfl) (by kernel_rfl) (fun _ _ _ h_=>h_) (.inr ⟨(by kernel_rfl),rfl⟩) (by kernel_rfl) rfl ?_
        refine MW.any_take (i:=12) (v:=undef) (listed':= #[true,true,true,true,true,true,true,true,true,true,true,true,true,false,false]) (a':=⟨[_,_,_,_,_,_,_,_,_,_,_,_,_,_,_,_,_,_,_,_,_,_,_,_,_,_,_,_,_,_,_,_,_,_,_,_,_,_,_,_,_,_,_,_,_].toArray,[]⟩) rfl (by kernel_rfl) (by kernel_rfl) (by kernel_rfl) (fun _ _ _ h_=>h_) (.inr ⟨(by kernel_rfl),rfl⟩) (by kernel_rfl) rfl ?_
        refine zt 13 (.bool true) #[_,_,_,_,_,_,_,_,_,_,_,_,_,_,_] ⟨[_,_,_,_,_,_,_,_,_,_,_,_,_,_,_,_,_,_,_,_,_,_,_,_,_,_,_,_,_,_,_,_,_,_,_,_,_,_,_,_,_,_,_,_,_].toArray,[]⟩ (h:=?_)
        refine zt 14 (.bool true) #[_,_,_,_,_,_,_,_,_,_,_,_,_,_,_] ⟨[_,_,_,_,_,_,_,_,_,_,_,_,_,_,_,_,_,_,_,_,_,_,_,_,_,_,_,_,_,_,_,_,_,_,_,_,_,_,_,_,_,_,_,_,_].toArray,[]⟩ (h:=?_)
        refine wpAny_done (by kernel_rfl) ?_ _
        clear hwr_
        go_wp2
        go_roundg k12
        case measure=>have:=HK0.out;have:=HK1.out;omega
        case rel=>exact⟨true,wrap64 (x11+1),(by first|rfl|(simp;done)|(simp[*];done)),(by first|rfl|(simp;done)|(simp[*];done)),HH,⟨by have:=HK0.out;have:=HK1.out;omega⟩,⟨HF0.out⟩,⟨HF1.out⟩,⟨(Kd.N_mono (ok:=(fun k_=>(P_ k_∨w.heap.size≤k_))) HN3.out (fun k_ hk_=>hk_))⟩,⟨HB.out⟩⟩
       replace HH:=MW.hneg HH c18
       replace c18:=Bool.eq_false_iff.mpr c18
       subst c18
       refine zt 2 (.slice A0 l0.length c0) #[_,_,_,_,_,_,_,_,_,_,_,_,_,_,_] ⟨[_,_,_,_,_,_,_,_,_,_,_,_,_,_,_,_,_,_,_,_,_,_,_,_,_,_,_,_,_,_,_,_,_,_,_,_,_,_,_,_,_,_,_,_,_].toArray,[]⟩ (h:=?_)
       refine zt 3 (.slice A0 l0.length c0) #[_,_,_,_,_,_,_,_,_,_,_,_,_,_,_] ⟨[_,_,_,_,_,_,_,_,_,_,_,_,_,_,_,_,_,_,_,_,_,_,_,_,_,_,_,_,_,_,_,_,_,_,_,_,_,_,_,_,_,_,_,_,_].toArray,[]⟩ (h:=?_)
       refine zt 4 (.int .i64 x4) #[_,_,_,_,_,_,_,_,_,_,_,_,_,_,_] ⟨[_,_,_,_,_,_,_,_,_,_,_,_,_,_,_,_,_,_,_,_,_,_,_,_,_,_,_,_,_,_,_,_,_,_,_,_,_,_,_,_,_,_,_,_,_].toArray,[]⟩ (h:=?_)
       replace HH:=zqdo HH
       obtain⟨HH,hk20⟩:=HH
       (try simp only[hk20,Bool.not_true,Bool.not_false])
       replace HH:=zqto HH
       obtain⟨HH,hk22,hk23⟩:=HH
       (try simp only[hk22,Bool.not_true,Bool.not_false])
       (try simp only[hk23,Bool.not_true,Bool.not_false])
       have p24:0≤(x4:Int):=of_decide_eq_true (by first|(with_reducible assumption)|assumption)
       have q24:x4<(l0.length:Int):=of_decide_eq_true (by first|(with_reducible assumption)|assumption)
       obtain⟨ad24,e24,hx24_0,hx24_1,hx24_2,hx24_3,hx24_4,hx24_5⟩:=atF_T26 HF0.out x4 p24 q24
       cases e24
       replace p24:=eq_true p24
       replace q24:=eq_true q24
       refine zt 5 (.pointer (some (ad24.add (x4.toNat*6)))) #[_,_,_,_,_,_,_,_,_,_,_,_,_,_,_] ⟨[_,_,_,_,_,_,_,_,_,_,_,_,_,_,_,_,_,_,_,_,_,_,_,_,_,_,_,_,_,_,_,_,_,_,_,_,_,_,_,_,_,_,_,_,_].toArray,[]⟩ (h:=?_)
       refine zt 6 (.pointer (some (ad24.add (x4.toNat*6)))) #[_,_,_,_,_,_,_,_,_,_,_,_,_,_,_] ⟨[_,_,_,_,_,_,_,_,_,_,_,_,_,_,_,_,_,_,_,_,_,_,_,_,_,_,_,_,_,_,_,_,_,_,_,_,_,_,_,_,_,_,_,_,_].toArray,[]⟩ (h:=?_)
       refine zt 8 (.slice A1 l1.length c1) #[_,_,_,_,_,_,_,_,_,_,_,_,_,_,_] ⟨[_,_,_,_,_,_,_,_,_,_,_,_,_,_,_,_,_,_,_,_,_,_,_,_,_,_,_,_,_,_,_,_,_,_,_,_,_,_,_,_,_,_,_,_,_].toArray,[]⟩ (h:=?_)
       refine zt 9 (.int .i64 x11) #[_,_,_,_,_,_,_,_,_,_,_,_,_,_,_] ⟨[_,_,_,_,_,_,_,_,_,_,_,_,_,_,_,_,_,_,_,_,_,_,_,_,_,_,_,_,_,_,_,_,_,_,_,_,_,_,_,_,_,_,_,_,_].toArray,[]⟩ (h:=?_)
       replace HH:=zqdo HH
       obtain⟨HH,hk26⟩:=HH
       (try simp only[hk26,Bool.not_true,Bool.not_false])
       have p27:0≤(x11:Int):=of_decide_eq_true (by first|(with_reducible assumption)|assumption)
       have q27:x11<(l1.length:Int):=of_decide_eq_true (by first|(with_reducible assumption)|assumption)
       obtain⟨ad27,e27,hx27_0⟩:=Kd.at_string (Kd.F_now HF1.out) x11 p27 q27
       cases e27
       replace p27:=eq_true p27
       replace q27:=eq_true q27
       refine zt 10 (.pointer (some (ad27.add (x11.toNat)))) #[_,_,_,_,_,_,_,_,_,_,_,_,_,_,_] ⟨[_,_,_,_,_,_,_,_,_,_,_,_,_,_,_,_,_,_,_,_,_,_,_,_,_,_,_,_,_,_,_,_,_,_,_,_,_,_,_,_,_,_,_,_,_].toArray,[]⟩ (h:=?_)
       refine MW.any_two (i:=7) (j:=11) (vi:=.string ((rd_T26 l0 x4).f0)) (vj:=.string (rdOf ByteArray.empty l1 x11)) #[true,true,true,true,true,true,true,true,true,true,true,true,false,false,false] ⟨[(.slice (some ad24) l0.length c0),(.slice (some ad27) l1.length c1),undef,undef,(.slice none 0 0),v2,(.int .i64 x4),(.bool false),(.int .i64 x11),(.int .i64 x4),(.slice (some ad24) l0.length c0),(.int .i64 (l0.length:Int)),(.bool true),u13,u14,(.int .i64 x11),(.slice (some ad27) l1.length c1),(.int .i64 (l1.length:Int)),(.bool true),u19,u20,(.bool false),(.bool false),(.slice (some ad24) l0.length c0),(.slice (some ad24) l0.length c0),(.int .i64 x4),(.pointer (some (ad24.add (x4.toNat*6)))),(.pointer (some (ad24.add (x4.toNat*6)))),(.string ((rd_T26 l0 x4).f0)),(.slice (some ad27) l1.length c1),(.int .i64 x11),(.pointer (some (ad27.add (x11.toNat)))),(.string (rdOf ByteArray.empty l1 x11)),u33,u34,u35,u36,u37,u38,u39,u40,u41,u42,u43,undef].toArray,[]⟩ (by decide) rfl rfl (by kernel_rfl) (by kernel_rfl) (by kernel_rfl) (by kernel_rfl) (by kernel_rfl) (by first|rfl|(go_simp;done)|(go_simp;rfl)) (by first|rfl|(go_simp;done)|(go_simp;rfl)) (by first|rfl|(go_simp;done)|(go_simp;rfl)) (by first|rfl|(go_simp;done)|(go_simp;rfl)) (by kernel_rfl) (by kernel_rfl) (by kernel_rfl) (by kernel_rfl) (by kernel_rfl) (by kernel_rfl) ?_
       refine MW.any_act (i:=12) (listed':= #[true,true,true,true,true,true,true,true,true,true,true,true,true,false,false]) rfl (by kernel_rfl) (by kernel_rfl) ?_
       replace HH:=zd HH
       obtain⟨t28,At29,HH⟩:=HH
       go_wp2_with ((with_reducible refine gc 17 rfl ?_);refine zc 17 (some 33) Try.func17 #[.slice (some ad24) l0.length c0,.string ((rd_T26 l0 x4).f0),.string (rdOf ByteArray.empty l1 x11)] (h:=?_);(with_reducible refine(toponymref20_Is.calls k12 (fun k_=>(P_ k_∨w.heap.size≤k_)∧some k_≠(v2:Value).ownBlock) _ _ l0 ((rd_T26 l0 x4).f0) (rdOf ByteArray.empty l1 x11) t28 _ HF0.out HL0.out At29.out).mono ?_);rintro e w30 ⟨rfl,hb⟩;refine⟨_,rfl,?_⟩)
       refine zg ?_
       replace HF0:=zfb HF0.out hb
       replace HF1:=zfb HF1.out hb
       replace HN3:=znb HN3.out hb
       replace HB:=zhb HB.out hb
       clear hb
       clear hx24_0 hx24_1 hx24_2 hx24_3 hx24_4 hx24_5 p24 q24 hx27_0 p27 q27
       refine wpList_nil ?_
       change wpAny _ _ _ _ 2 #[true,true,true,true,true,true,true,true,true,true,true,true,true,false,false] ⟨[(.slice (some ad24) l0.length c0),(.slice (some ad27) l1.length c1),undef,undef,(.slice none 0 0),v2,(.int .i64 x4),(.bool false),(.int .i64 x11),(.int .i64 x4),(.slice (some ad24) l0.length c0),(.int .i64 (l0.length:Int)),(.bool true),u13,u14,(.int .i64 x11),(.slice (some ad27) l1.length c1),(.int .i64 (l1.length:Int)),(.bool true),u19,u20,(.bool false),(.bool false),(.slice (some ad24) l0.length c0),(.slice (some ad24) l0.length c0),(.int .i64 x4),(.pointer (some (ad24.add (x4.toNat*6)))),(.pointer (some (ad24.add (x4.toNat*6)))),(.string ((rd_T26 l0 x4).f0)),(.slice (some ad27) l1.length c1),(.int .i64 x11),(.pointer (some (ad27.add (x11.toNat)))),(.string (rdOf ByteArray.empty l1 x11)),(.bool t28),u34,u35,u36,u37,u38,u39,u40,u41,u42,u43,undef].toArray,[]⟩ _
       refine zt 13 (.bool t28) #[_,_,_,_,_,_,_,_,_,_,_,_,_,_,_] ⟨[_,_,_,_,_,_,_,_,_,_,_,_,_,_,_,_,_,_,_,_,_,_,_,_,_,_,_,_,_,_,_,_,_,_,_,_,_,_,_,_,_,_,_,_,_].toArray,[]⟩ (h:=?_)
       refine zt 14 (.bool t28) #[_,_,_,_,_,_,_,_,_,_,_,_,_,_,_] ⟨[_,_,_,_,_,_,_,_,_,_,_,_,_,_,_,_,_,_,_,_,_,_,_,_,_,_,_,_,_,_,_,_,_,_,_,_,_,_,_,_,_,_,_,_,_].toArray,[]⟩ (h:=?_)
       refine wpAny_done (by kernel_rfl) ?_ _
       clear hwr_
       go_wp2
       go_roundg k12
       case measure=>have:=HK0.out;have:=HK1.out;omega
       case rel=>exact⟨t28,wrap64 (x11+1),(by first|rfl|(simp;done)|(simp[*];done)),(by first|rfl|(simp;done)|(simp[*];done)),HH,⟨by have:=HK0.out;have:=HK1.out;omega⟩,⟨HF0.out⟩,⟨HF1.out⟩,⟨(Kd.N_mono (ok:=(fun k_=>(P_ k_∨w.heap.size≤k_))) HN3.out (fun k_ hk_=>hk_))⟩,⟨HB.out⟩⟩
      by_cases c37:x10=true
      ·replace HH:=MW.hpos HH c37
       subst c37
       replace HH:=zqdo HH
       obtain⟨HH,hk39⟩:=HH
       replace HH:=zqto HH
       obtain⟨HH,hk41,hk42⟩:=HH
       have p43:0≤(x4:Int):=of_decide_eq_true (by first|(with_reducible assumption)|assumption)
       have q43:x4<(l0.length:Int):=of_decide_eq_true (by first|(with_reducible assumption)|assumption)
       obtain⟨ad43,e43,hx43_0,hx43_1,hx43_2,hx43_3,hx43_4,hx43_5⟩:=atF_T26 HF0.out x4 p43 q43
       cases e43
       replace p43:=eq_true p43
       replace q43:=eq_true q43
       obtain⟨HH,LMc44⟩:=zlm HH
       obtain⟨y45,hy45⟩:∃ y_:List ByteArray,y_=(x1++[(rd_T26 l0 x4).f0]):=⟨_,rfl⟩
       have H:((toponymref20_Below.l0 k12 y45 (wrap64 (x4+1)) l0 l1))=some r:=by rw[hy45];exact HH.out
       replace HH:=za H
       clear H
       have NYy45:=za hy45
       clear hy45
       go_wp2_with (((with_reducible refine gate_dst (N:=43) rfl ?_);(try(refine gate_guard (by rfl) ?_;dsimp only));refine Kd.N_append Kd.string w.heap.size rfl _ _ 36 9 (.string ⟨#[]⟩) 16 rfl Try.underlying36 info9 rfl (by decide) (by decide) (v2) x1 ((rd_T26 l0 x4).f0) [.string ((rd_T26 l0 x4).f0)] (fun k_=>(P_ k_∨w.heap.size≤k_)) (fun k_=>(fun k_=>(P_ k_∨w.heap.size≤k_)) k_∧some k_≠(v2:Value).ownBlock) rfl rfl (fun _ _=>rfl) (fun _ hk_=>hk_) (fun k_ h_=>.inr (Nat.le_trans (below_size (by repeat(first|(with_reducible first|exact HB.out|apply below_alloc|apply pw_below_drewN|apply below_drew1)|exact HB.out))) h_)) (by(with_reducible repeat(first|apply Kd.N_alloc|apply Kd.N_drewN|apply Kd.N_drew));exact HN3.out) (by repeat(first|(with_reducible first|exact HB.out|apply below_alloc|apply pw_below_drewN|apply below_drew1)|exact HB.out)) (below_size (by repeat(first|(with_reducible first|exact HB.out|apply below_alloc|apply pw_below_drewN|apply below_drew1)|exact HB.out))) (by first|(have:=LMc44.out;omega)|(have:=LMc44.out;simp at *;omega)) ?_;intro v46 w47 hn1 hb1 hg1 hat1);replace hat1:=za hat1;refine stop_ ?_)
       refine zg ?_
       replace hat1:=hat1.out
       replace HF0:=za (Kd.F_mono (Kd.F_after (v:=v2) (ok:=(fun k_=>(P_ k_∨w.heap.size≤k_))) (Kd.F_mono (ok:=(fun k_=>(P_ k_∨w.heap.size≤k_)∧some k_≠(v2:Value).ownBlock)) (by(with_reducible repeat(first|apply Kd.F_alloc|apply Kd.F_drewN|apply Kd.F_drew));exact HF0.out) (fun k_ hk_=>⟨hk_.1,hk_.2⟩)) hg1 hat1) (fun k_ hk_=>hk_):Kd.F k26 _ (fun k_=>(P_ k_∨w.heap.size≤k_)∧some k_≠(v46:Value).ownBlock) _ _ _)
       replace HF1:=za (Kd.F_mono (Kd.F_after (v:=v2) (ok:=(fun k_=>(P_ k_∨w.heap.size≤k_))) (Kd.F_mono (ok:=(fun k_=>(P_ k_∨w.heap.size≤k_)∧some k_≠(v2:Value).ownBlock)) (by(with_reducible repeat(first|apply Kd.F_alloc|apply Kd.F_drewN|apply Kd.F_drew));exact HF1.out) (fun k_ hk_=>⟨hk_.1,hk_.2⟩)) hg1 hat1) (fun k_ hk_=>hk_):Kd.F Kd.string _ (fun k_=>(P_ k_∨w.heap.size≤k_)∧some k_≠(v46:Value).ownBlock) _ _ _)
       replace HB:=za hb1
       clear HN3
       have HN48:=za hn1
       clear hn1 hb1 hg1 hat1
       replace HN48:=za (by rw[NYy45.out];exact HN48.out:Kd.N Kd.string 9 w47 w.heap.size (fun k_=>(P_ k_∨w.heap.size≤k_)) v46 y45)
       clear hx43_0 hx43_1 hx43_2 hx43_3 hx43_4 hx43_5 p43 q43
       go_wp2
       go_roundg k12
       case measure=>have:=HK0.out;have:=HK1.out;omega
       case rel=>exact⟨y45,wrap64 (x4+1),(by first|rfl|(simp;done)|(simp[*];done)),HH,⟨by have:=HK0.out;have:=HK1.out;omega⟩,⟨HF0.out⟩,⟨HF1.out⟩,⟨(Kd.N_mono (ok:=(fun k_=>(P_ k_∨w.heap.size≤k_))) HN48.out (fun k_ hk_=>hk_))⟩,⟨HB.out⟩⟩
      replace HH:=MW.hneg HH c37
      replace c37:=Bool.eq_false_iff.mpr c37
      subst c37
      go_wp2
      go_roundg k12
      case measure=>have:=HK0.out;have:=HK1.out;omega
      case rel=>exact⟨x1,wrap64 (x4+1),(by first|rfl|(simp;done)|(simp[*];done)),HH,⟨by have:=HK0.out;have:=HK1.out;omega⟩,⟨HF0.out⟩,⟨HF1.out⟩,⟨(Kd.N_mono (ok:=(fun k_=>(P_ k_∨w.heap.size≤k_))) HN3.out (fun k_ hk_=>hk_))⟩,⟨HB.out⟩⟩
   obtain rfl:=Option.some.inj HH.out
   clear HH
   go_wp2
   go_ret
   exact⟨_,by first|rfl|(simp;done)|(simp[*];done),(Kd.N_mono (ok:=(fun k_=>(P_ k_∨w.heap.size≤k_))) HN3.out (fun k_ hk_=>hk_)),HB.out⟩
end Go.Proofs.Ytcjafemnkhifmaa.GA
