import Derived.Test.YtcjafemnkhifmaaGA0
import Derived.Test.YtcjafemnkhifmaaGAF21
import Derived.Test.YtcjafemnkhifmaaGAF22
import Derived.Test.YtcjafemnkhifmaaGM1
import Derived.Test.YtcjafemnkhifmaaGM2
import Derived.Test.YtcjafemnkhifmaaMX
namespace Go.Proofs.Ytcjafemnkhifmaa.GA
open Go.RowKit Go.Proofs.Ytcjafemnkhifmaa Go.Proofs.Ytcjafemnkhifmaa.MW Go.Proofs.YtcjafemnkhifmaaW.PrintWords Go.Proofs.YtcjafemnkhifmaaW.PrintLast Go.Proofs.YtcjafemnkhifmaaW.PrintMore
attribute [local go_sem] max2_int min2_int max_two min_two
set_option maxHeartbeats 8000000
set_option maxRecDepth 100000
set_option linter.unusedVariables false
set_option linter.unusedSimpArgs false
def toponymlaw20_AttrsTrees.l0:Nat→Int→ByteArray→(List (S26))→(List ByteArray)→Option (Bool)
 |0,_,_,_,_=>none
 |k+1,x13,a1,l0,l2=>if x13<(l2.length:Int) then(if 0≤x13 then((attrs_Is.f k l0 a1 (rdOf ByteArray.empty l2 x13)).bind fun t24=>((toponymref20_Is.f k l0 a1 (rdOf ByteArray.empty l2 x13)).bind fun t27=>(if (t24 != t27)=true then(some false) else((toponymlaw20_AttrsTrees.l0 k (wrap64 (x13+1)) a1 l0 l2))))) else(none)) else((attrs_Line.f k l0 a1).bind fun t41=>((toponymref20_Line.f k l0 a1).bind fun t45=>((toponymref16_SameTexts.f k t41 t45).bind fun t57=>(if t57=true then((attrs_Below.f k l0 l2).bind fun t61=>((toponymref20_Below.f k l0 l2).bind fun t65=>((toponymref16_SameTexts.f k t61 t65).bind fun t77=>(if t77=true then((toponymlaw20_awake.f k).bind fun t81=>(some t81)) else(some false))))) else(some false)))))
def toponymlaw20_AttrsTrees.f (k:Nat) (l0:List (S26)) (a1:ByteArray) (l2:List ByteArray):Option (Bool):=(toponymlaw20_Few.f k l0).bind fun t1=>(if t1=true then(if (l2.length:Int)>30 then((toponymlaw20_awake.f k).bind fun t8=>(some t8)) else((toponymlaw20_AttrsTrees.l0 k 0 a1 l0 l2))) else((toponymlaw20_awake.f k).bind fun t84=>(some t84)))
theorem toponymlaw20_AttrsTrees.mono_l:∀ k,(∀ y0 y1 y2 y3,LeO (toponymlaw20_AttrsTrees.l0 k y0 y1 y2 y3) (toponymlaw20_AttrsTrees.l0 (k+1) y0 y1 y2 y3))
 |0=>fun _ _ _ _ r h=>by simp[toponymlaw20_AttrsTrees.l0] at h
 |k+1=>by
  have ih0:=toponymlaw20_AttrsTrees.mono_l k
  ·intro y0 y1 y2 y3
   unfold toponymlaw20_AttrsTrees.l0
   with_reducible repeat' first|exact ih0 _ _ _ _|exact attrs_Below.mono _ _ _|exact attrs_Is.mono _ _ _ _|exact attrs_Line.mono _ _ _|exact toponymlaw20_Few.mono _ _|exact toponymlaw20_awake.mono _|exact toponymref16_SameTexts.mono _ _ _|exact toponymref20_Below.mono _ _ _|exact toponymref20_Is.mono _ _ _ _|exact toponymref20_Line.mono _ _ _|exact LeO.refl _|exact LeO.none _|refine LeO.ite ?_ ?_|refine LeO.bind ?_ (fun _=>?_)
theorem toponymlaw20_AttrsTrees.mono:∀ a0_ a1_ a2_ k,LeO (toponymlaw20_AttrsTrees.f k a0_ a1_ a2_) (toponymlaw20_AttrsTrees.f (k+1) a0_ a1_ a2_):=by
 intro a0_ a1_ a2_ k
 have ih0:=toponymlaw20_AttrsTrees.mono_l k
 unfold toponymlaw20_AttrsTrees.f
 with_reducible repeat' first|exact ih0 _ _ _ _|exact attrs_Below.mono _ _ _|exact attrs_Is.mono _ _ _ _|exact attrs_Line.mono _ _ _|exact toponymlaw20_Few.mono _ _|exact toponymlaw20_awake.mono _|exact toponymref16_SameTexts.mono _ _ _|exact toponymref20_Below.mono _ _ _|exact toponymref20_Is.mono _ _ _ _|exact toponymref20_Line.mono _ _ _|exact LeO.refl _|exact LeO.none _|refine LeO.ite ?_ ?_|refine LeO.bind ?_ (fun _=>?_)
theorem toponymlaw20_AttrsTrees.calls (k:Nat) (P_:Nat→Prop) (A0:Option Addr) (c0:Nat) (l0:List (S26)) (a1:ByteArray) (A2:Option Addr) (c2:Nat) (l2:List ByteArray) (r:Bool) (w:World) (hs0:Kd.F k26 w P_ A0 l0.length l0) (hc0:l0.length≤c0) (hs2:Kd.F Kd.string w P_ A2 l2.length l2) (hc2:l2.length≤c2) (h:toponymlaw20_AttrsTrees.f k l0 a1 l2=some r):
  Calls Try.prog 4 #[.slice A0 l0.length c0,.string a1,.slice A2 l2.length c2] w (fun e w'=>e=.returned (.bool r)∧Below w.heap.size w w'):=by
 unfold toponymlaw20_AttrsTrees.f at h
 have HH:=za h
 clear h
 have HF0:=zfp hs0
 have HL0:=za hc0
 clear hs0 hc0
 have HF2:=zfp hs2
 have HL2:=za hc2
 clear hs2 hc2
 have HB:=za (Below.refl w.heap.size w)
 go_enter Try.func4,Try.ntmps4
 replace HH:=zd HH
 obtain⟨t1,At2,HH⟩:=HH
 go_wp2_with ((with_reducible refine gc 7 rfl ?_);refine zc 7 (some 9) Try.func7 #[.slice A0 l0.length c0] (h:=?_);(with_reducible refine(toponymlaw20_Few.calls k (fun k_=>(P_ k_∨w.heap.size≤k_)) _ _ l0 t1 _ HF0.out HL0.out At2.out).mono ?_);rintro e w' ⟨rfl,⟨nd,rfl⟩⟩;refine⟨_,rfl,?_⟩)
 refine zg ?_
 by_cases c4:t1=true
 ·replace HH:=MW.hpos HH c4
  subst c4
  replace HH:=zqK 30 HH
  rcases HH with⟨HH,hk6,hk7⟩|⟨HH,hk11,hk12⟩
  ·replace HH:=zd HH
   obtain⟨t8,At9,HH⟩:=HH
   go_wp2_with ((with_reducible refine gc 8 rfl ?_);refine zc 8 (some 16) Try.func8 #[] (h:=?_);(with_reducible refine(toponymlaw20_awake.calls k  t8 _  At9.out).mono ?_);rintro e w10 ⟨rfl,hb⟩;refine⟨_,rfl,?_⟩)
   refine zg ?_
   replace HB:=zhb (by repeat(first|(with_reducible first|exact HB.out|apply below_alloc|apply pw_below_drewN|apply below_drew1)|exact HB.out)) hb
   clear hb
   obtain rfl:=Option.some.inj HH.out
   clear HH
   go_wp2
   go_ret
   exact zfi HB.out
  go_wp2
  go_loopg [7] k (fun kq u7 w'=>∃ (x13:Int),u7=.int .i64 x13∧Aside0 ((toponymlaw20_AttrsTrees.l0 kq x13 a1 l0 l2)=some r)∧Aside0 (kq≤k)∧Aside0 (Kd.F k26 w' (fun k_=>(P_ k_∨w.heap.size≤k_)) A0 l0.length l0)∧Aside0 (Kd.F Kd.string w' (fun k_=>(P_ k_∨w.heap.size≤k_)) A2 l2.length l2)∧Aside0 (Below w.heap.size w w'))
  case atStart=>exact⟨0,(by first|rfl|(simp;done)|(simp[*];done)),HH,⟨Nat.le_refl _⟩,⟨(by(with_reducible repeat(first|apply Kd.F_alloc|apply Kd.F_drewN|apply Kd.F_drew));exact HF0.out)⟩,⟨(by(with_reducible repeat(first|apply Kd.F_alloc|apply Kd.F_drewN|apply Kd.F_drew));exact HF2.out)⟩,⟨(by repeat(first|(with_reducible first|exact HB.out|apply below_alloc|apply pw_below_drewN|apply below_drew1)|exact HB.out))⟩⟩
  case round=>
   clear hk11
   clear hk12
   clear HH
   clear HF0 HF2 HB
   obtain⟨x13,rfl,HA,HK0,HF0,HF2,HB⟩:=hrel
   obtain⟨w15,rfl⟩:∃ wo_:World,wo_=wr:=⟨_,rfl⟩
   cases gk with
   |zero=>exact absurd HA.out (by simp[toponymlaw20_AttrsTrees.l0])
   |succ k16=>
    have H:=HA.out
    clear HA
    simp only[toponymlaw20_AttrsTrees.l0] at H
    have HH:=za H
    clear H
    replace HH:=zqt HH
    rcases HH with⟨HH,hk18,hk19⟩|⟨HH,hk39,hk40⟩
    ·go_wp2
     have hwr_:∀ n_:Int,IntKind.i64.wrap n_=wrap64 n_:=fun n_=>IntWalk.i64_left n_
     refine wp_region_any (by kernel_rfl) ?_
     change wpAny _ _ _ _ 15 #[false,false,false,false,false,false,false,false,false,false,false,false,false,false,false] _ w15.drew
     obtain⟨w20,hw_⟩:∃ w_:World,w_=w15.drew:=⟨_,rfl⟩
     rw[← hw_]
     have hb:Below w15.heap.size w15 w20:=by rw[hw_];exact below_drew1 (Below.refl _ _)
     clear hw_
     replace HF0:=zfb HF0.out hb
     replace HF2:=zfb HF2.out hb
     replace HB:=zhb HB.out hb
     clear hb
     replace HH:=zqdo HH
     obtain⟨HH,hk22⟩:=HH
     have p23:0≤(x13:Int):=of_decide_eq_true (by first|(with_reducible assumption)|assumption)
     have q23:x13<(l2.length:Int):=of_decide_eq_true (by first|(with_reducible assumption)|assumption)
     obtain⟨ad23,e23,hx23_0⟩:=Kd.at_string (Kd.F_now HF2.out) x13 p23 q23
     cases e23
     replace p23:=eq_true p23
     replace q23:=eq_true q23
     refine MW.last_in (ds:=[13]) (zk hx23_0 z0) ?_
     refine zlp 0 (.slice A0 l0.length c0) #[_,_,_,_,_,_,_,_,_,_,_,_,_,_,_] ⟨[_,_,_,_,_,_,_,_,_,_,_,_,_,_,_,_,_,_,_,_,_,_,_,_,_,_,_,_,_,_,_,_,_,_,_,_,_,_,_,_,_,_,_,_,_,_,_,_,_,_,_,_,_,_,_,_,_].toArray,[]⟩ (h:=?_)
     refine zlp 1 (.string a1) #[_,_,_,_,_,_,_,_,_,_,_,_,_,_,_] ⟨[_,_,_,_,_,_,_,_,_,_,_,_,_,_,_,_,_,_,_,_,_,_,_,_,_,_,_,_,_,_,_,_,_,_,_,_,_,_,_,_,_,_,_,_,_,_,_,_,_,_,_,_,_,_,_,_,_].toArray,[]⟩ (h:=?_)
     refine zlp 2 (.slice (some ad23) l2.length c2) #[_,_,_,_,_,_,_,_,_,_,_,_,_,_,_] ⟨[_,_,_,_,_,_,_,_,_,_,_,_,_,_,_,_,_,_,_,_,_,_,_,_,_,_,_,_,_,_,_,_,_,_,_,_,_,_,_,_,_,_,_,_,_,_,_,_,_,_,_,_,_,_,_,_,_].toArray,[]⟩ (h:=?_)
     refine zlp 3 (.int .i64 x13) #[_,_,_,_,_,_,_,_,_,_,_,_,_,_,_] ⟨[_,_,_,_,_,_,_,_,_,_,_,_,_,_,_,_,_,_,_,_,_,_,_,_,_,_,_,_,_,_,_,_,_,_,_,_,_,_,_,_,_,_,_,_,_,_,_,_,_,_,_,_,_,_,_,_,_].toArray,[]⟩ (h:=?_)
     refine zlp 4 (.pointer (some (ad23.add (x13.toNat)))) #[_,_,_,_,_,_,_,_,_,_,_,_,_,_,_] ⟨[_,_,_,_,_,_,_,_,_,_,_,_,_,_,_,_,_,_,_,_,_,_,_,_,_,_,_,_,_,_,_,_,_,_,_,_,_,_,_,_,_,_,_,_,_,_,_,_,_,_,_,_,_,_,_,_,_].toArray,[]⟩ (h:=?_)
     refine zlp 7 (.slice A0 l0.length c0) #[_,_,_,_,_,_,_,_,_,_,_,_,_,_,_] ⟨[_,_,_,_,_,_,_,_,_,_,_,_,_,_,_,_,_,_,_,_,_,_,_,_,_,_,_,_,_,_,_,_,_,_,_,_,_,_,_,_,_,_,_,_,_,_,_,_,_,_,_,_,_,_,_,_,_].toArray,[]⟩ (h:=?_)
     refine zlp 8 (.string a1) #[_,_,_,_,_,_,_,_,_,_,_,_,_,_,_] ⟨[_,_,_,_,_,_,_,_,_,_,_,_,_,_,_,_,_,_,_,_,_,_,_,_,_,_,_,_,_,_,_,_,_,_,_,_,_,_,_,_,_,_,_,_,_,_,_,_,_,_,_,_,_,_,_,_,_].toArray,[]⟩ (h:=?_)
     refine zlp 9 (.slice (some ad23) l2.length c2) #[_,_,_,_,_,_,_,_,_,_,_,_,_,_,_] ⟨[_,_,_,_,_,_,_,_,_,_,_,_,_,_,_,_,_,_,_,_,_,_,_,_,_,_,_,_,_,_,_,_,_,_,_,_,_,_,_,_,_,_,_,_,_,_,_,_,_,_,_,_,_,_,_,_,_].toArray,[]⟩ (h:=?_)
     refine zlp 10 (.int .i64 x13) #[_,_,_,_,_,_,_,_,_,_,_,_,_,_,_] ⟨[_,_,_,_,_,_,_,_,_,_,_,_,_,_,_,_,_,_,_,_,_,_,_,_,_,_,_,_,_,_,_,_,_,_,_,_,_,_,_,_,_,_,_,_,_,_,_,_,_,_,_,_,_,_,_,_,_].toArray,[]⟩ (h:=?_)
     refine zlp 11 (.pointer (some (ad23.add (x13.toNat)))) #[_,_,_,_,_,_,_,_,_,_,_,_,_,_,_] ⟨[_,_,_,_,_,_,_,_,_,_,_,_,_,_,_,_,_,_,_,_,_,_,_,_,_,_,_,_,_,_,_,_,_,_,_,_,_,_,_,_,_,_,_,_,_,_,_,_,_,_,_,_,_,_,_,_,_].toArray,[]⟩ (h:=?_)
     refine MW.last_take (i:=5) (v:=.string (rdOf ByteArray.empty l2 x13)) (listed':= #[_,_,_,_,_,_,_,_,_,_,_,_,_,_,_]) (a':=⟨[_,_,_,_,_,_,_,_,_,_,_,_,_,_,_,_,_,_,_,_,_,_,_,_,_,_,_,_,_,_,_,_,_,_,_,_,_,_,_,_,_,_,_,_,_,_,_,_,_,_,_,_,_,_,_,_,_].toArray,[]⟩) rfl (by kernel_rfl) (by kernel_rfl) (by kernel_rfl) (by kernel_rfl) (by kernel_rfl) (fun _ _ _ h_=>h_) (by kernel_rfl) (fun w_ hS_=>?go) (zk hx23_0 z0) rfl rfl ?_
     case go=>obtain⟨hs0_,_⟩:=hS_;first|(go_simp;done)|(go_simp;rfl)
     refine MW.last_take (i:=12) (v:=.string (rdOf ByteArray.empty l2 x13)) (listed':= #[_,_,_,_,_,_,_,_,_,_,_,_,_,_,_]) (a':=⟨[_,_,_,_,_,_,_,_,_,_,_,_,_,_,_,_,_,_,_,_,_,_,_,_,_,_,_,_,_,_,_,_,_,_,_,_,_,_,_,_,_,_,_,_,_,_,_,_,_,_,_,_,_,_,_,_,_].toArray,[]⟩) rfl (by kernel_rfl) (by kernel_rfl) (by kernel_rfl) (by kernel_rfl) (by kernel_rfl) (fun _ _ _ h_=>h_) (by kernel_rfl) (fun w_ hS_=>?go) (zk hx23_0 z0) rfl rfl ?_
     case go=>obtain⟨hs0_,_⟩:=hS_;first|(go_simp;done)|(go_simp;rfl)
     refine MW.last_act (i:=6) (listed':= #[true,true,true,true,true,true,true,true,true,true,true,true,true,false,false]) rfl (by kernel_rfl) (by kernel_rfl) (by decide) ?_
     replace HH:=zd HH
     obtain⟨t24,At25,HH⟩:=HH
     go_wp2_with ((with_reducible refine gc 16 rfl ?_);refine zc 16 (some 29) Try.func16 #[.slice A0 l0.length c0,.string a1,.string (rdOf ByteArray.empty l2 x13)] (h:=?_);(with_reducible refine(attrs_Is.calls k16 (fun k_=>(P_ k_∨w.heap.size≤k_)) _ _ l0 a1 (rdOf ByteArray.empty l2 x13) t24 _ HF0.out HL0.out At25.out).mono ?_);rintro e w26 ⟨rfl,hb⟩;refine⟨_,rfl,?_⟩)
     refine zg ?_
     replace HF0:=zfb HF0.out hb
     replace HF2:=zfb HF2.out hb
     replace hx23_0:=zcl hx23_0 hb
     replace HB:=zhb HB.out hb
     clear hb
     clear p23 q23
     refine wpList_nil ?_
     change MW.Cells _ _∧wpAnyLast _ _ _ _ _ _ 2 #[true,true,true,true,true,true,true,true,true,true,true,true,true,false,false] ⟨[_,_,_,_,_,_,_,_,_,_,_,_,_,_,_,_,_,_,_,_,_,_,_,_,_,_,_,_,_,_,_,_,_,_,_,_,_,_,_,_,_,_,_,_,_,_,_,_,_,_,_,_,_,_,_,_,_].toArray,[]⟩ _
     refine⟨(zk hx23_0 z0),?_⟩
     refine MW.last_fin (i:=13) (listed':= #[true,true,true,true,true,true,true,true,true,true,true,true,true,true,false]) rfl (by kernel_rfl) (by kernel_rfl) (by kernel_rfl) ?_
     replace HH:=zd HH
     obtain⟨t27,At28,HH⟩:=HH
     go_wp2_with ((with_reducible refine gc 17 rfl ?_);refine zc 17 (some 36) Try.func17 #[.slice A0 l0.length c0,.string a1,.string (rdOf ByteArray.empty l2 x13)] (h:=?_);(with_reducible refine(toponymref20_Is.calls k16 (fun k_=>(P_ k_∨w.heap.size≤k_)) _ _ l0 a1 (rdOf ByteArray.empty l2 x13) t27 _ HF0.out HL0.out At28.out).mono ?_);rintro e w29 ⟨rfl,hb⟩;refine⟨_,rfl,?_⟩)
     refine zg ?_
     replace HF0:=zfb HF0.out hb
     replace HF2:=zfb HF2.out hb
     replace HB:=zhb HB.out hb
     clear hb
     clear hx23_0
     refine wpList_nil ?_
     change wpAnyLast _ _ _ _ _ _ 1 #[true,true,true,true,true,true,true,true,true,true,true,true,true,true,false] ⟨[_,_,_,_,_,_,_,_,_,_,_,_,_,_,_,_,_,_,_,_,_,_,_,_,_,_,_,_,_,_,_,_,_,_,_,_,_,_,_,_,_,_,_,_,_,_,_,_,_,_,_,_,_,_,_,_,_].toArray,[]⟩ _
     refine zlp 14 (.bool (t24 != t27)) #[_,_,_,_,_,_,_,_,_,_,_,_,_,_,_] ⟨[_,_,_,_,_,_,_,_,_,_,_,_,_,_,_,_,_,_,_,_,_,_,_,_,_,_,_,_,_,_,_,_,_,_,_,_,_,_,_,_,_,_,_,_,_,_,_,_,_,_,_,_,_,_,_,_,_].toArray,[]⟩ (h:=?_)
     refine MW.last_done (by kernel_rfl) ?_ _
     clear hwr_
     by_cases c30:(t24 != t27)=true
     ·replace HH:=MW.hpos HH c30
      have hk31:(t24 != t27)=true:=c30
      (try simp only[hk31,Bool.not_true,Bool.not_false])
      try have hk32:decide (t24=t27)=false:=by simpa using c30
      try have hk33:(t24==t27)=false:=by simpa using c30
      try have hk34: ¬ (t24=t27):=by simpa using c30
      clear c30
      obtain rfl:=Option.some.inj HH.out
      clear HH
      go_wp2
      go_ret
      exact zfi HB.out
     replace HH:=MW.hneg HH c30
     have hk35:(t24 != t27)=false:=by simpa using c30
     (try simp only[hk35,Bool.not_true,Bool.not_false])
     try have hk36:decide (t24=t27)=true:=by simpa using c30
     try have hk37:(t24==t27)=true:=by simpa using c30
     clear c30
     go_wp2
     go_roundg k16
     case measure=>have:=HK0.out;omega
     case rel=>exact⟨wrap64 (x13+1),(by first|rfl|(simp;done)|(simp[*];done)),HH,⟨by have:=HK0.out;omega⟩,⟨HF0.out⟩,⟨HF2.out⟩,⟨HB.out⟩⟩
    replace HH:=zd HH
    obtain⟨t41,At42,HH⟩:=HH
    go_wp2_with ((with_reducible refine gc 19 rfl ?_);refine zc 19 (some 40) Try.func19 #[.slice A0 l0.length c0,.string a1] (h:=?_);(with_reducible refine(attrs_Line.calls k16 (fun k_=>(P_ k_∨w.heap.size≤k_)) _ _ l0 a1 t41 _ HF0.out HL0.out At42.out).mono ?_);rintro e w43 ⟨v44,rfl,hn44,hb⟩;refine⟨_,rfl,?_⟩)
    refine zg ?_
    have hba:=Kd.N_base hn44
    have HN44:=znl (ok2:=(fun k_=>(P_ k_∨w.heap.size≤k_))) hn44 (below_size HB.out) (fun k_ hk_=>hk_.elim (fun h_=>h_) (fun h_=>.inr (Nat.le_trans (below_size HB.out) h_)))
    replace HF0:=zfr (v:=v44) HF0.out hba hb
    replace HF2:=zfr (v:=v44) HF2.out hba hb
    replace HB:=zhb HB.out hb
    clear hn44 hba hb
    replace HH:=zd HH
    obtain⟨t45,At46,HH⟩:=HH
    go_wp2_with ((with_reducible refine gc 20 rfl ?_);refine zc 20 (some 43) Try.func20 #[.slice A0 l0.length c0,.string a1] (h:=?_);(with_reducible refine(toponymref20_Line.calls k16 (fun k_=>(P_ k_∨w.heap.size≤k_)∧some k_≠(v44:Value).ownBlock) _ _ l0 a1 t45 _ HF0.out HL0.out At46.out).mono ?_);rintro e w47 ⟨v48,rfl,hn48,hb⟩;refine⟨_,rfl,?_⟩)
    refine zg ?_
    have hba:=Kd.N_base hn48
    have HN48:=znl (ok2:=(fun k_=>(P_ k_∨w.heap.size≤k_)∧some k_≠(v44:Value).ownBlock)) hn48 (below_size HB.out) (fun k_ hk_=>hk_.elim (fun h_=>h_) (fun h_=>⟨.inr (Nat.le_trans (below_size HB.out) h_),Kd.fresh' (Kd.N_lt HN44.out) k_ h_⟩))
    replace HF0:=zfr (v:=v48) HF0.out hba hb
    replace HF2:=zfr (v:=v48) HF2.out hba hb
    replace HN44:=znr (u:=v48) HN44.out hba hb
    replace HB:=zhb HB.out hb
    clear hn48 hba hb
    obtain⟨A49,cp50,he_⟩:=Kd.N_slice HN44.out
    subst he_
    have HL52:=za (Kd.N_reads' HN44.out).2.1
    have HF51:=za (Kd.N_F HN44.out)
    clear HN44
    replace HF0:=za (Kd.F_mono (ok:=(fun k_=>((P_ k_∨w.heap.size≤k_)∧some k_≠((.slice A49 t41.length cp50):Value).ownBlock)∧some k_≠(v48:Value).ownBlock)) HF0.out (fun k_ hk_=>⟨hk_.1.1,hk_.2⟩):Kd.F k26 _ (fun k_=>(P_ k_∨w.heap.size≤k_)∧some k_≠(v48:Value).ownBlock) _ _ _)
    replace HF2:=za (Kd.F_mono (ok:=(fun k_=>((P_ k_∨w.heap.size≤k_)∧some k_≠((.slice A49 t41.length cp50):Value).ownBlock)∧some k_≠(v48:Value).ownBlock)) HF2.out (fun k_ hk_=>⟨hk_.1.1,hk_.2⟩):Kd.F Kd.string _ (fun k_=>(P_ k_∨w.heap.size≤k_)∧some k_≠(v48:Value).ownBlock) _ _ _)
    replace HN48:=za (Kd.N_mono (ok:=(fun k_=>(P_ k_∨w.heap.size≤k_)∧some k_≠((.slice A49 t41.length cp50):Value).ownBlock)) HN48.out (fun k_ hk_=>hk_.1):Kd.N Kd.string _ _ _ (fun k_=>(P_ k_∨w.heap.size≤k_)) _ _)
    obtain⟨A53,cp54,he_⟩:=Kd.N_slice HN48.out
    subst he_
    have HL56:=za (Kd.N_reads' HN48.out).2.1
    have HF55:=za (Kd.N_F HN48.out)
    clear HN48
    replace HF0:=za (Kd.F_mono (ok:=(fun k_=>(P_ k_∨w.heap.size≤k_)∧some k_≠((.slice A53 t45.length cp54):Value).ownBlock)) HF0.out (fun k_ hk_=>hk_.1):Kd.F k26 _ (fun k_=>(P_ k_∨w.heap.size≤k_)) _ _ _)
    replace HF2:=za (Kd.F_mono (ok:=(fun k_=>(P_ k_∨w.heap.size≤k_)∧some k_≠((.slice A53 t45.length cp54):Value).ownBlock)) HF2.out (fun k_ hk_=>hk_.1):Kd.F Kd.string _ (fun k_=>(P_ k_∨w.heap.size≤k_)) _ _ _)
    replace HF51:=za (Kd.F_mono (ok:=(fun k_=>(P_ k_∨w.heap.size≤k_)∧some k_≠((.slice A53 t45.length cp54):Value).ownBlock)) HF51.out (fun k_ hk_=>hk_.1):Kd.F Kd.string _ (fun k_=>(P_ k_∨w.heap.size≤k_)) _ _ _)
    replace HH:=zd HH
    obtain⟨t57,At58,HH⟩:=HH
    go_wp2_with ((with_reducible refine gc 18 rfl ?_);refine zc 18 (some 44) Try.func18 #[.slice A49 t41.length cp50,.slice A53 t45.length cp54] (h:=?_);(with_reducible refine(toponymref16_SameTexts.calls k16 (fun k_=>(P_ k_∨w.heap.size≤k_)) _ _ t41 _ _ t45 t57 _ HF51.out HL52.out HF55.out HL56.out At58.out).mono ?_);rintro e w' ⟨rfl,⟨nd,rfl⟩⟩;refine⟨_,rfl,?_⟩)
    refine zg ?_
    by_cases c60:t57=true
    ·replace HH:=MW.hpos HH c60
     subst c60
     replace HH:=zd HH
     obtain⟨t61,At62,HH⟩:=HH
     go_wp2_with ((with_reducible refine gc 21 rfl ?_);refine zc 21 (some 48) Try.func21 #[.slice A0 l0.length c0,.slice A2 l2.length c2] (h:=?_);(with_reducible refine(attrs_Below.calls k16 (fun k_=>(P_ k_∨w.heap.size≤k_)) _ _ l0 _ _ l2 t61 _ (by(with_reducible repeat(first|apply Kd.F_alloc|apply Kd.F_drewN|apply Kd.F_drew));exact HF0.out) HL0.out (by(with_reducible repeat(first|apply Kd.F_alloc|apply Kd.F_drewN|apply Kd.F_drew));exact HF2.out) HL2.out At62.out).mono ?_);rintro e w63 ⟨v64,rfl,hn64,hb⟩;refine⟨_,rfl,?_⟩)
     refine zg ?_
     have hba:=Kd.N_base hn64
     have HN64:=znl (ok2:=(fun k_=>(P_ k_∨w.heap.size≤k_))) hn64 (below_size (by repeat(first|(with_reducible first|exact HB.out|apply below_alloc|apply pw_below_drewN|apply below_drew1)|exact HB.out))) (fun k_ hk_=>hk_.elim (fun h_=>h_) (fun h_=>.inr (Nat.le_trans (below_size (by repeat(first|(with_reducible first|exact HB.out|apply below_alloc|apply pw_below_drewN|apply below_drew1)|exact HB.out))) h_)))
     replace HF0:=zfr (v:=v64) (by(with_reducible repeat(first|apply Kd.F_alloc|apply Kd.F_drewN|apply Kd.F_drew));exact HF0.out) hba hb
     replace HF2:=zfr (v:=v64) (by(with_reducible repeat(first|apply Kd.F_alloc|apply Kd.F_drewN|apply Kd.F_drew));exact HF2.out) hba hb
     replace HB:=zhb (by repeat(first|(with_reducible first|exact HB.out|apply below_alloc|apply pw_below_drewN|apply below_drew1)|exact HB.out)) hb
     clear hn64 hba hb
     replace HH:=zd HH
     obtain⟨t65,At66,HH⟩:=HH
     go_wp2_with ((with_reducible refine gc 22 rfl ?_);refine zc 22 (some 51) Try.func22 #[.slice A0 l0.length c0,.slice A2 l2.length c2] (h:=?_);(with_reducible refine(toponymref20_Below.calls k16 (fun k_=>(P_ k_∨w.heap.size≤k_)∧some k_≠(v64:Value).ownBlock) _ _ l0 _ _ l2 t65 _ HF0.out HL0.out HF2.out HL2.out At66.out).mono ?_);rintro e w67 ⟨v68,rfl,hn68,hb⟩;refine⟨_,rfl,?_⟩)
     refine zg ?_
     have hba:=Kd.N_base hn68
     have HN68:=znl (ok2:=(fun k_=>(P_ k_∨w.heap.size≤k_)∧some k_≠(v64:Value).ownBlock)) hn68 (below_size HB.out) (fun k_ hk_=>hk_.elim (fun h_=>h_) (fun h_=>⟨.inr (Nat.le_trans (below_size HB.out) h_),Kd.fresh' (Kd.N_lt HN64.out) k_ h_⟩))
     replace HN64:=znr (u:=v68) HN64.out hba hb
     replace HB:=zhb HB.out hb
     clear hn68 hba hb
     obtain⟨A69,cp70,he_⟩:=Kd.N_slice HN64.out
     subst he_
     have HL72:=za (Kd.N_reads' HN64.out).2.1
     have HF71:=za (Kd.N_F HN64.out)
     clear HN64
     replace HN68:=za (Kd.N_mono (ok:=(fun k_=>(P_ k_∨w.heap.size≤k_)∧some k_≠((.slice A69 t61.length cp70):Value).ownBlock)) HN68.out (fun k_ hk_=>hk_.1):Kd.N Kd.string _ _ _ (fun k_=>(P_ k_∨w.heap.size≤k_)) _ _)
     obtain⟨A73,cp74,he_⟩:=Kd.N_slice HN68.out
     subst he_
     have HL76:=za (Kd.N_reads' HN68.out).2.1
     have HF75:=za (Kd.N_F HN68.out)
     clear HN68
     replace HF71:=za (Kd.F_mono (ok:=(fun k_=>(P_ k_∨w.heap.size≤k_)∧some k_≠((.slice A73 t65.length cp74):Value).ownBlock)) HF71.out (fun k_ hk_=>hk_.1):Kd.F Kd.string _ (fun k_=>(P_ k_∨w.heap.size≤k_)) _ _ _)
     replace HH:=zd HH
     obtain⟨t77,At78,HH⟩:=HH
     go_wp2_with ((with_reducible refine gc 18 rfl ?_);refine zc 18 (some 52) Try.func18 #[.slice A69 t61.length cp70,.slice A73 t65.length cp74] (h:=?_);(with_reducible refine(toponymref16_SameTexts.calls k16 (fun k_=>(P_ k_∨w.heap.size≤k_)) _ _ t61 _ _ t65 t77 _ HF71.out HL72.out HF75.out HL76.out At78.out).mono ?_);rintro e w' ⟨rfl,⟨nd,rfl⟩⟩;refine⟨_,rfl,?_⟩)
     refine zg ?_
     by_cases c80:t77=true
     ·replace HH:=MW.hpos HH c80
      subst c80
      replace HH:=zd HH
      obtain⟨t81,At82,HH⟩:=HH
      go_wp2_with ((with_reducible refine gc 8 rfl ?_);refine zc 8 (some 55) Try.func8 #[] (h:=?_);(with_reducible refine(toponymlaw20_awake.calls k16  t81 _  At82.out).mono ?_);rintro e w83 ⟨rfl,hb⟩;refine⟨_,rfl,?_⟩)
      refine zg ?_
      replace HB:=zhb (by repeat(first|(with_reducible first|exact HB.out|apply below_alloc|apply pw_below_drewN|apply below_drew1)|exact HB.out)) hb
      clear hb
      obtain rfl:=Option.some.inj HH.out
      clear HH
      go_wp2
      go_ret
      exact zfi HB.out
     replace HH:=MW.hneg HH c80
     replace c80:=Bool.eq_false_iff.mpr c80
     subst c80
     obtain rfl:=Option.some.inj HH.out
     clear HH
     go_wp2
     go_ret
     exact zfi (by repeat(first|(with_reducible first|exact HB.out|apply below_alloc|apply pw_below_drewN|apply below_drew1)|exact HB.out))
    replace HH:=MW.hneg HH c60
    replace c60:=Bool.eq_false_iff.mpr c60
    subst c60
    obtain rfl:=Option.some.inj HH.out
    clear HH
    go_wp2
    go_ret
    exact zfi (by repeat(first|(with_reducible first|exact HB.out|apply below_alloc|apply pw_below_drewN|apply below_drew1)|exact HB.out))
 replace HH:=MW.hneg HH c4
 replace c4:=Bool.eq_false_iff.mpr c4
 subst c4
 replace HH:=zd HH
 obtain⟨t84,At85,HH⟩:=HH
 go_wp2_with ((with_reducible refine gc 8 rfl ?_);refine zc 8 (some 16) Try.func8 #[] (h:=?_);(with_reducible refine(toponymlaw20_awake.calls k  t84 _  At85.out).mono ?_);rintro e w86 ⟨rfl,hb⟩;refine⟨_,rfl,?_⟩)
 refine zg ?_
 replace HB:=zhb (by repeat(first|(with_reducible first|exact HB.out|apply below_alloc|apply pw_below_drewN|apply below_drew1)|exact HB.out)) hb
 clear hb
 obtain rfl:=Option.some.inj HH.out
 clear HH
 go_wp2
 go_ret
 exact zfi HB.out
end Go.Proofs.Ytcjafemnkhifmaa.GA
