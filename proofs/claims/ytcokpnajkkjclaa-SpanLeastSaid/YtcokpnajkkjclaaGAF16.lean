import Derived.Test.YtcokpnajkkjclaaGA0
import Derived.Test.YtcokpnajkkjclaaGM1
import Derived.Test.YtcokpnajkkjclaaMS
import Derived.Test.YtcokpnajkkjclaaMT
import Derived.Test.YtcokpnajkkjclaaMX
namespace Go.Proofs.Ytcokpnajkkjclaa.GA
open Go.RowKit Go.Proofs.Ytcokpnajkkjclaa Go.Proofs.Ytcokpnajkkjclaa.MW Go.Proofs.YtcokpnajkkjclaaW.PrintWords Go.Proofs.YtcokpnajkkjclaaW.PrintLast Go.Proofs.YtcokpnajkkjclaaW.PrintMore
attribute [local go_sem] max2_int min2_int max_two min_two
set_option maxHeartbeats 8000000
set_option maxRecDepth 100000
set_option linter.unusedVariables false
set_option linter.unusedSimpArgs false
mutual
def toponymref02_Build.l0:Nat→Int→(List (S37))→Option ((List (S37)) × Int)
 |0,_,_=>none
 |k+1,x6,l0=>if x6<(l0.length:Int) then(if 0≤x6 then((toponymref02_may.f ((rd_T37 l0 x6).f0) ((rd_T37 l0 x6).f1) ((rd_T37 l0 x6).f2)).bind fun t16=>(if t16=true then((toponymref02_Build.l0 k (wrap64 (x6+1)) l0)) else(some (([]:List (S37)),20)))) else(none)) else((toponymref02_Build.l1 k ([]:List (S37)) 0 l0))
def toponymref02_Build.l1:Nat→(List (S37))→Int→(List (S37))→Option ((List (S37)) × Int)
 |0,_,_,_=>none
 |k+1,x23,x26,l0=>if x26<1114112 then((toponymref02_next.f k l0 x26).bind fun t32=>((toponymref02_Last.f k l0 x26).bind fun t35=>(if t35=0 then((toponymref02_Build.l1 k x23 t32 l0)) else(if (x23.length:Int)>0 then(if 0≤(wrap64 ((x23.length:Int) - 1)) then(if (wrap64 ((x23.length:Int) - 1))<(x23.length:Int) then(if ((rd_T37 x23 (wrap64 ((x23.length:Int) - 1))).f2)=t35 then(if ((rd_T37 x23 (wrap64 ((x23.length:Int) - 1))).f1)=(wrap32 (x26 - 1)) then(if (wrap64 ((x23.length:Int) - 1))≤(x23.length:Int) then((some (List.take (wrap64 ((x23.length:Int) - 1)).toNat x23:List (S37))).bind fun y70=>(if ([]:List (S37)).length+y70.length<8796093022208 then((some (([]:List (S37))++y70:List (S37))).bind fun y76=>(if y76.length+[(⟨(rd_T37 x23 (wrap64 ((x23.length:Int) - 1))).f0,wrap32 (t32 - 1),t35⟩:S37)].length<8796093022208 then((some (y76++[(⟨(rd_T37 x23 (wrap64 ((x23.length:Int) - 1))).f0,wrap32 (t32 - 1),t35⟩:S37)]:List (S37))).bind fun y89=>((toponymref02_Build.l1 k y89 t32 l0))) else(none))) else(none))) else(none)) else(if x23.length<8796093022208 then((some (x23++[(⟨x26,wrap32 (t32 - 1),t35⟩:S37)]:List (S37))).bind fun y137=>((toponymref02_Build.l1 k y137 t32 l0))) else(none))) else(if x23.length<8796093022208 then((some (x23++[(⟨x26,wrap32 (t32 - 1),t35⟩:S37)]:List (S37))).bind fun y144=>((toponymref02_Build.l1 k y144 t32 l0))) else(none))) else(none)) else(none)) else(if x23.length<8796093022208 then((some (x23++[(⟨x26,wrap32 (t32 - 1),t35⟩:S37)]:List (S37))).bind fun y154=>((toponymref02_Build.l1 k y154 t32 l0))) else(none)))))) else(some (x23,0))
end
def toponymref02_Build.f (k:Nat) (l0:List (S37)):Option ((List (S37)) × Int):=if (l0.length:Int)>200 then(some (([]:List (S37)),20)) else((toponymref02_Build.l0 k 0 l0))
theorem toponymref02_Build.mono_l:∀ k,(∀ y0 y1,LeO (toponymref02_Build.l0 k y0 y1) (toponymref02_Build.l0 (k+1) y0 y1))∧(∀ y0 y1 y2,LeO (toponymref02_Build.l1 k y0 y1 y2) (toponymref02_Build.l1 (k+1) y0 y1 y2))
 |0=>⟨fun _ _ r h=>by simp[toponymref02_Build.l0] at h,fun _ _ _ r h=>by simp[toponymref02_Build.l1] at h⟩
 |k+1=>by
  obtain⟨ih0,ih1⟩:=toponymref02_Build.mono_l k
  refine⟨?_,?_⟩
  ·intro y0 y1
   unfold toponymref02_Build.l0
   with_reducible repeat' first|exact ih0 _ _|exact ih1 _ _ _|exact toponymref02_Last.mono _ _ _|exact toponymref02_next.mono _ _ _|exact LeO.refl _|exact LeO.none _|refine LeO.ite ?_ ?_|refine LeO.bind ?_ (fun _=>?_)
  intro y0 y1 y2
  unfold toponymref02_Build.l1
  with_reducible repeat' first|exact ih0 _ _|exact ih1 _ _ _|exact toponymref02_Last.mono _ _ _|exact toponymref02_next.mono _ _ _|exact LeO.refl _|exact LeO.none _|refine LeO.ite ?_ ?_|refine LeO.bind ?_ (fun _=>?_)
theorem toponymref02_Build.mono:∀ a0_ k,LeO (toponymref02_Build.f k a0_) (toponymref02_Build.f (k+1) a0_):=by
 intro a0_ k
 obtain⟨ih0,ih1⟩:=toponymref02_Build.mono_l k
 unfold toponymref02_Build.f
 with_reducible repeat' first|exact ih0 _ _|exact ih1 _ _ _|exact toponymref02_Last.mono _ _ _|exact toponymref02_next.mono _ _ _|exact LeO.refl _|exact LeO.none _|refine LeO.ite ?_ ?_|refine LeO.bind ?_ (fun _=>?_)
theorem toponymref02_Build.calls (k:Nat) (P_:Nat→Prop) (A0:Option Addr) (c0:Nat) (l0:List (S37)) (r1:List (S37)) (r2:Int) (w:World) (hs0:Kd.F k37 w P_ A0 l0.length l0) (hc0:l0.length≤c0) (h:toponymref02_Build.f k l0=some (r1,r2)):
  Calls Try.prog 16 #[.slice A0 l0.length c0] w (fun e w'=>∃ v0_:Value,e=.returned (.tuple #[v0_,.int .i64 r2])∧Kd.N k37 37 w' w.heap.size (fun k_=>P_ k_∨w.heap.size≤k_) v0_ r1∧Below w.heap.size w w'):=by
 unfold toponymref02_Build.f at h
 have HH:=za h
 clear h
 have HF0:=zfp hs0
 have HL0:=za hc0
 clear hs0 hc0
 have HB:=za (Below.refl w.heap.size w)
 have hu37:=Try.underlying37
 go_enter Try.func16,Try.ntmps16
 replace HH:=zqK 200 HH
 rcases HH with⟨HH,hk2,hk3⟩|⟨HH,hk4,hk5⟩
 ·have H:=HH.out
  simp only[Option.some.injEq,Prod.mk.injEq] at H
  obtain⟨rfl,rfl⟩:=H
  clear HH
  go_wp2
  go_ret2
  exact⟨_,by first|rfl|(simp;done)|(simp[*];done),(Kd.N_nil _ _ _ _ _),HB.out⟩
 go_wp2
 go_loopg [4] k (fun kq u4 w'=>∃ (x6:Int),u4=.int .i64 x6∧Aside0 ((toponymref02_Build.l0 kq x6 l0)=some (r1,r2))∧Aside0 (kq≤k)∧Aside0 (Kd.F k37 w' (fun k_=>(P_ k_∨w.heap.size≤k_)) A0 l0.length l0)∧Aside0 (Below w.heap.size w w'))
 case atStart=>exact⟨0,(by first|rfl|(simp;done)|(simp[*];done)),HH,⟨Nat.le_refl _⟩,⟨HF0.out⟩,⟨HB.out⟩⟩
 case round=>
  clear hk4
  clear hk5
  clear HH
  clear HF0 HB
  obtain⟨x6,rfl,HA,HK0,HF0,HB⟩:=hrel
  obtain⟨w8,rfl⟩:∃ wo_:World,wo_=wr:=⟨_,rfl⟩
  cases gk with
  |zero=>exact absurd HA.out (by simp[toponymref02_Build.l0])
  |succ k9=>
   have H:=HA.out
   clear HA
   simp only[toponymref02_Build.l0] at H
   have HH:=za H
   clear H
   replace HH:=zqt HH
   rcases HH with⟨HH,hk11,hk12⟩|⟨HH,hk21,hk22⟩
   ·replace HH:=zqdo HH
    obtain⟨HH,hk14⟩:=HH
    have p15:0≤(x6:Int):=of_decide_eq_true (by first|(with_reducible assumption)|assumption)
    have q15:x6<(l0.length:Int):=of_decide_eq_true (by first|(with_reducible assumption)|assumption)
    obtain⟨ad15,e15,hx15_0,hx15_1,hx15_2⟩:=atF_T37 HF0.out x6 p15 q15
    cases e15
    replace p15:=eq_true p15
    replace q15:=eq_true q15
    replace HH:=zd HH
    obtain⟨t16,At17,HH⟩:=HH
    go_wp2_with ((with_reducible refine gc 19 rfl ?_);refine zc 19 (some 23) Try.func19 #[.agg #[.int .i32 ((rd_T37 l0 x6).f0),.int .i32 ((rd_T37 l0 x6).f1),.int .i64 ((rd_T37 l0 x6).f2)]] (h:=?_);(with_reducible refine(toponymref02_may.calls  ((rd_T37 l0 x6).f0) ((rd_T37 l0 x6).f1) ((rd_T37 l0 x6).f2) t16 _  At17.out).mono ?_);rintro e w18 ⟨rfl,hb⟩;refine⟨_,rfl,?_⟩)
    refine zg ?_
    replace HF0:=zfb HF0.out hb
    replace HB:=zhb HB.out hb
    clear hb
    clear hx15_0 hx15_1 hx15_2 p15 q15
    by_cases c19:t16=true
    ·replace HH:=MW.hpos HH c19
     subst c19
     go_wp2
     go_roundg k9
     case measure=>have:=HK0.out;omega
     case rel=>exact⟨wrap64 (x6+1),(by first|rfl|(simp;done)|(simp[*];done)),HH,⟨by have:=HK0.out;omega⟩,⟨HF0.out⟩,⟨HB.out⟩⟩
    replace HH:=MW.hneg HH c19
    replace c19:=Bool.eq_false_iff.mpr c19
    subst c19
    have H:=HH.out
    simp only[Option.some.injEq,Prod.mk.injEq] at H
    obtain⟨rfl,rfl⟩:=H
    clear HH
    go_wp2
    go_ret2
    exact⟨_,by first|rfl|(simp;done)|(simp[*];done),(Kd.N_nil _ _ _ _ _),HB.out⟩
   go_wp2
   go_loopg [5,6] k9 (fun kq u5 u6 w'=>∃ (x23:List (S37)) (x26:Int),u6=.int .i32 x26∧Aside0 ((toponymref02_Build.l1 kq x23 x26 l0)=some (r1,r2))∧Aside0 (kq≤k9)∧Aside0 (Kd.F k37 w' (fun k_=>(P_ k_∨w.heap.size≤k_)∧some k_≠(u5:Value).ownBlock) A0 l0.length l0)∧Aside0 (Kd.N k37 37 w' w.heap.size (fun k_=>(P_ k_∨w.heap.size≤k_)) u5 x23)∧Aside0 (Below w.heap.size w w'))
   case atStart=>exact⟨([]:List (S37)),0,(by first|rfl|(simp;done)|(simp[*];done)),HH,⟨Nat.le_refl _⟩,⟨(Kd.F_mono (ok:=(fun k_=>(P_ k_∨w.heap.size≤k_))) HF0.out (fun k_ hk_=>⟨hk_,(by simp[Value.ownBlock])⟩))⟩,⟨Kd.N_nil _ _ _ _ _⟩,⟨HB.out⟩⟩
   case round=>
    clear hk21
    clear hk22
    clear HH
    clear HF0 HB
    obtain⟨x23,x26,rfl,HA,HK1,HF0,HN25,HB⟩:=hrel
    obtain⟨v24,rfl⟩:∃ z_:Value,z_=u5:=⟨_,rfl⟩
    obtain⟨w28,rfl⟩:∃ wo_:World,wo_=wr:=⟨_,rfl⟩
    cases gk with
    |zero=>exact absurd HA.out (by simp[toponymref02_Build.l1])
    |succ k27=>
     have H:=HA.out
     clear HA
     simp only[toponymref02_Build.l1] at H
     have HH:=za H
     clear H
     replace HH:=zqt HH
     rcases HH with⟨HH,hk30,hk31⟩|⟨HH,hk158,hk159⟩
     ·replace HH:=zd HH
      obtain⟨t32,At33,HH⟩:=HH
      go_wp2_with ((with_reducible refine gc 26 rfl ?_);refine zc 26 (some 29) Try.func26 #[.slice A0 l0.length c0,.int .i32 x26] (h:=?_);(with_reducible refine(toponymref02_next.calls k27 (fun k_=>(P_ k_∨w.heap.size≤k_)∧some k_≠(v24:Value).ownBlock) _ _ l0 x26 t32 _ HF0.out HL0.out At33.out).mono ?_);rintro e w' ⟨rfl,⟨nd,rfl⟩⟩;refine⟨_,rfl,?_⟩)
      refine zg ?_
      replace HH:=zd HH
      obtain⟨t35,At36,HH⟩:=HH
      go_wp2_with ((with_reducible refine gc 27 rfl ?_);refine zc 27 (some 32) Try.func27 #[.slice A0 l0.length c0,.int .i32 x26] (h:=?_);(with_reducible refine(toponymref02_Last.calls k27 (fun k_=>(P_ k_∨w.heap.size≤k_)∧some k_≠(v24:Value).ownBlock) _ _ l0 x26 t35 _ (by(with_reducible repeat(first|apply Kd.F_alloc|apply Kd.F_drewN|apply Kd.F_drew));exact HF0.out) HL0.out At36.out).mono ?_);rintro e w' ⟨rfl,⟨nd,rfl⟩⟩;refine⟨_,rfl,?_⟩)
      refine zg ?_
      obtain⟨A38,cp39,he_⟩:=Kd.N_slice HN25.out
      subst he_
      replace HH:=zqe HH
      rcases HH with⟨HH,hk41,hk42⟩|⟨HH,hk43,hk44⟩
      ·go_wp2
       go_roundg k27
       case measure=>have:=HK0.out;have:=HK1.out;omega
       case rel=>exact⟨x23,t32,(by first|rfl|(simp;done)|(simp[*];done)),HH,⟨by have:=HK0.out;have:=HK1.out;omega⟩,⟨(by(with_reducible repeat(first|apply Kd.F_alloc|apply Kd.F_drewN|apply Kd.F_drew));exact HF0.out)⟩,⟨(Kd.N_mono (ok:=(fun k_=>(P_ k_∨w.heap.size≤k_))) (by(with_reducible repeat(first|apply Kd.N_alloc|apply Kd.N_drewN|apply Kd.N_drew));exact HN25.out) (fun k_ hk_=>hk_))⟩,⟨(by repeat(first|(with_reducible first|exact HB.out|apply below_alloc|apply pw_below_drewN|apply below_drew1)|exact HB.out))⟩⟩
      replace HH:=zqK 0 HH
      rcases HH with⟨HH,hk46,hk47⟩|⟨HH,hk151,hk152⟩
      ·replace HH:=zqdo HH
       obtain⟨HH,hk49⟩:=HH
       replace HH:=zqto HH
       obtain⟨HH,hk51,hk52⟩:=HH
       have p53:0≤((wrap64 ((x23.length:Int) - 1)):Int):=of_decide_eq_true (by first|(with_reducible assumption)|assumption)
       have q53:(wrap64 ((x23.length:Int) - 1))<(x23.length:Int):=of_decide_eq_true (by first|(with_reducible assumption)|assumption)
       obtain⟨ad53,e53,hx53_0,hx53_1,hx53_2⟩:=atF_T37 (Kd.N_F HN25.out) (wrap64 ((x23.length:Int) - 1)) p53 q53
       cases e53
       replace p53:=eq_true p53
       replace q53:=eq_true q53
       replace HH:=zqe HH
       rcases HH with⟨HH,hk55,hk56⟩|⟨HH,hk141,hk142⟩
       ·replace HH:=zqe HH
        rcases HH with⟨HH,hk58,hk59⟩|⟨HH,hk134,hk135⟩
        ·go_wp2
         refine MW.name_world (W0:=w28) (by repeat(first|exact Drawn0.refl _|apply Drawn0.step)) ?_
         intro w60 hb
         replace HF0:=zfb HF0.out hb
         replace HN25:=znb HN25.out hb
         replace HB:=zhb HB.out hb
         clear hb
         clear hx53_0 hx53_1 hx53_2 p53 q53
         go_wp2
         have hwr_:∀ n_:Int,IntKind.i64.wrap n_=wrap64 n_:=fun n_=>IntWalk.i64_left n_
         refine wp_region_any (by kernel_rfl) ?_
         change wpAny _ _ _ _ 19 #[false,false,false,false,false,false,false,false,false,false,false,false,false,false,false,false,false,false,false] _ w60.drew
         obtain⟨w61,hw_⟩:∃ w_:World,w_=w60.drew:=⟨_,rfl⟩
         rw[← hw_]
         have hb:Below w60.heap.size w60 w61:=by rw[hw_];exact below_drew1 (Below.refl _ _)
         clear hw_
         replace HF0:=zfb HF0.out hb
         replace HN25:=znb HN25.out hb
         replace HB:=zhb HB.out hb
         clear hb
         have p62:0≤((wrap64 ((x23.length:Int) - 1)):Int):=of_decide_eq_true (by first|(with_reducible assumption)|assumption)
         have q62:(wrap64 ((x23.length:Int) - 1))<(x23.length:Int):=of_decide_eq_true (by first|(with_reducible assumption)|assumption)
         obtain⟨ad62,e62,hx62_0,hx62_1,hx62_2⟩:=atF_T37 (Kd.N_F HN25.out) (wrap64 ((x23.length:Int) - 1)) p62 q62
         cases e62
         replace p62:=eq_true p62
         replace q62:=eq_true q62
         refine MW.last_in (ds:=[16,17]) (zk hx62_0 z0) ?_
         refine zlp 1 ((.slice (some ad53) x23.length cp39)) #[_,_,_,_,_,_,_,_,_,_,_,_,_,_,_,_,_,_,_] ⟨[_,_,_,_,_,_,_,_,_,_,_,_,_,_,_,_,_,_,_,_,_,_,_,_,_,_,_,_,_,_,_,_,_,_,_,_,_,_,_,_,_,_,_,_,_,_,_,_,_,_,_,_,_,_,_,_,_,_,_,_,_,_,_,_,_,_,_,_,_,_,_,_,_,_,_,_,_,_,_,_,_,_,_,_,_,_,_,_,_,_].toArray,[]⟩ (h:=?_)
         refine zlp 2 (.int .i64 (x23.length:Int)) #[_,_,_,_,_,_,_,_,_,_,_,_,_,_,_,_,_,_,_] ⟨[_,_,_,_,_,_,_,_,_,_,_,_,_,_,_,_,_,_,_,_,_,_,_,_,_,_,_,_,_,_,_,_,_,_,_,_,_,_,_,_,_,_,_,_,_,_,_,_,_,_,_,_,_,_,_,_,_,_,_,_,_,_,_,_,_,_,_,_,_,_,_,_,_,_,_,_,_,_,_,_,_,_,_,_,_,_,_,_,_,_].toArray,[]⟩ (h:=?_)
         refine zlp 3 (.int .i64 (wrap64 ((x23.length:Int) - 1))) #[_,_,_,_,_,_,_,_,_,_,_,_,_,_,_,_,_,_,_] ⟨[_,_,_,_,_,_,_,_,_,_,_,_,_,_,_,_,_,_,_,_,_,_,_,_,_,_,_,_,_,_,_,_,_,_,_,_,_,_,_,_,_,_,_,_,_,_,_,_,_,_,_,_,_,_,_,_,_,_,_,_,_,_,_,_,_,_,_,_,_,_,_,_,_,_,_,_,_,_,_,_,_,_,_,_,_,_,_,_,_,_].toArray,[]⟩ (h:=?_)
         have HL66:=za (Kd.N_reads' HN25.out).2.1
         have HF65:=za (Kd.N_F HN25.out)
         clear HN25
         replace HF0:=za (Kd.F_mono (ok:=(fun k_=>(P_ k_∨w.heap.size≤k_)∧some k_≠((.slice (some ad53) x23.length cp39):Value).ownBlock)) HF0.out (fun k_ hk_=>hk_.1):Kd.F k37 _ (fun k_=>(P_ k_∨w.heap.size≤k_)) _ _ _)
         replace HH:=zqdo HH
         obtain⟨HH,hk69⟩:=HH
         (try simp only[hk69,Bool.not_true,Bool.not_false])
         obtain⟨i067,hi067,_,hsz67,_⟩:=info_parts info37
         have ql67:((wrap64 ((x23.length:Int) - 1)):Int)≤(x23.length:Int):=(by first|exact Int.le_refl _|exact of_decide_eq_true (by first|(with_reducible assumption)|assumption)|(simp;done))
         have q067:0≤((wrap64 ((x23.length:Int) - 1)):Int):=(by first|exact Int.natCast_nonneg _|exact of_decide_eq_true (by first|(with_reducible assumption)|assumption))
         have hcut67:=cut_to (P:=Try.prog) 22 37 .i64 Try.underlying22 hi067 (some ad53) x23.length cp39 (wrap64 ((x23.length:Int) - 1)) q067 ql67 HL66.out
         have hr67:=Kd.F_take (m:=(wrap64 ((x23.length:Int) - 1)).toNat) HF65.out (by omega)
         have hy67:(List.take (wrap64 ((x23.length:Int) - 1)).toNat x23).length=(wrap64 ((x23.length:Int) - 1)).toNat:=(by rw[List.length_take];omega)
         try simp only[Int.toNat_ofNat] at hcut67 hr67 hy67
         rw[← hy67] at hcut67
         have hl67:(List.take (wrap64 ((x23.length:Int) - 1)).toNat x23).length≤cp39:=(by have:=HL66.out;rw[List.length_take];omega)
         clear hy67 ql67 q067
         have HF67:=za hr67
         have HL67:=za hl67
         clear hr67 hl67 hi067 hsz67
         obtain⟨y70,hy70⟩:∃ y_:List (S37),y_=List.take (wrap64 ((x23.length:Int) - 1)).toNat x23:=⟨_,rfl⟩
         rw[← hy70] at hcut67 HL67 HF67
         have H:(if ([]:List (S37)).length+y70.length<8796093022208 then((some (([]:List (S37))++y70:List (S37))).bind fun y76=>(if y76.length+[(⟨(rd_T37 x23 (wrap64 ((x23.length:Int) - 1))).f0,wrap32 (t32 - 1),t35⟩:S37)].length<8796093022208 then((some (y76++[(⟨(rd_T37 x23 (wrap64 ((x23.length:Int) - 1))).f0,wrap32 (t32 - 1),t35⟩:S37)]:List (S37))).bind fun y89=>((toponymref02_Build.l1 k27 y89 t32 l0))) else(none))) else(none))=some (r1,r2):=by rw[hy70];exact HH.out
         replace HH:=za H
         clear H
         clear hy70
         refine zlp 4 (.slice (some ad53) y70.length cp39) #[_,_,_,_,_,_,_,_,_,_,_,_,_,_,_,_,_,_,_] ⟨[_,_,_,_,_,_,_,_,_,_,_,_,_,_,_,_,_,_,_,_,_,_,_,_,_,_,_,_,_,_,_,_,_,_,_,_,_,_,_,_,_,_,_,_,_,_,_,_,_,_,_,_,_,_,_,_,_,_,_,_,_,_,_,_,_,_,_,_,_,_,_,_,_,_,_,_,_,_,_,_,_,_,_,_,_,_,_,_,_,_].toArray,[]⟩ (h:=?_)
         refine zlp 6 (.slice (some ad53) x23.length cp39) #[_,_,_,_,_,_,_,_,_,_,_,_,_,_,_,_,_,_,_] ⟨[_,_,_,_,_,_,_,_,_,_,_,_,_,_,_,_,_,_,_,_,_,_,_,_,_,_,_,_,_,_,_,_,_,_,_,_,_,_,_,_,_,_,_,_,_,_,_,_,_,_,_,_,_,_,_,_,_,_,_,_,_,_,_,_,_,_,_,_,_,_,_,_,_,_,_,_,_,_,_,_,_,_,_,_,_,_,_,_,_,_].toArray,[]⟩ (h:=?_)
         refine zlp 7 (.int .i64 (x23.length:Int)) #[_,_,_,_,_,_,_,_,_,_,_,_,_,_,_,_,_,_,_] ⟨[_,_,_,_,_,_,_,_,_,_,_,_,_,_,_,_,_,_,_,_,_,_,_,_,_,_,_,_,_,_,_,_,_,_,_,_,_,_,_,_,_,_,_,_,_,_,_,_,_,_,_,_,_,_,_,_,_,_,_,_,_,_,_,_,_,_,_,_,_,_,_,_,_,_,_,_,_,_,_,_,_,_,_,_,_,_,_,_,_,_].toArray,[]⟩ (h:=?_)
         refine zlp 8 (.int .i64 (wrap64 ((x23.length:Int) - 1))) #[_,_,_,_,_,_,_,_,_,_,_,_,_,_,_,_,_,_,_] ⟨[_,_,_,_,_,_,_,_,_,_,_,_,_,_,_,_,_,_,_,_,_,_,_,_,_,_,_,_,_,_,_,_,_,_,_,_,_,_,_,_,_,_,_,_,_,_,_,_,_,_,_,_,_,_,_,_,_,_,_,_,_,_,_,_,_,_,_,_,_,_,_,_,_,_,_,_,_,_,_,_,_,_,_,_,_,_,_,_,_,_].toArray,[]⟩ (h:=?_)
         refine zlp 9 (.pointer (some (ad53.add ((wrap64 ((x23.length:Int) - 1)).toNat*3)))) #[_,_,_,_,_,_,_,_,_,_,_,_,_,_,_,_,_,_,_] ⟨[_,_,_,_,_,_,_,_,_,_,_,_,_,_,_,_,_,_,_,_,_,_,_,_,_,_,_,_,_,_,_,_,_,_,_,_,_,_,_,_,_,_,_,_,_,_,_,_,_,_,_,_,_,_,_,_,_,_,_,_,_,_,_,_,_,_,_,_,_,_,_,_,_,_,_,_,_,_,_,_,_,_,_,_,_,_,_,_,_,_].toArray,[]⟩ (h:=?_)
         refine zlp 10 (.pointer (some (ad53.add ((wrap64 ((x23.length:Int) - 1)).toNat*3)))) #[_,_,_,_,_,_,_,_,_,_,_,_,_,_,_,_,_,_,_] ⟨[_,_,_,_,_,_,_,_,_,_,_,_,_,_,_,_,_,_,_,_,_,_,_,_,_,_,_,_,_,_,_,_,_,_,_,_,_,_,_,_,_,_,_,_,_,_,_,_,_,_,_,_,_,_,_,_,_,_,_,_,_,_,_,_,_,_,_,_,_,_,_,_,_,_,_,_,_,_,_,_,_,_,_,_,_,_,_,_,_,_].toArray,[]⟩ (h:=?_)
         refine zlp 12 (.int .i32 t32) #[_,_,_,_,_,_,_,_,_,_,_,_,_,_,_,_,_,_,_] ⟨[_,_,_,_,_,_,_,_,_,_,_,_,_,_,_,_,_,_,_,_,_,_,_,_,_,_,_,_,_,_,_,_,_,_,_,_,_,_,_,_,_,_,_,_,_,_,_,_,_,_,_,_,_,_,_,_,_,_,_,_,_,_,_,_,_,_,_,_,_,_,_,_,_,_,_,_,_,_,_,_,_,_,_,_,_,_,_,_,_,_].toArray,[]⟩ (h:=?_)
         refine zlp 13 (.int .i32 (wrap32 (t32 - 1))) #[_,_,_,_,_,_,_,_,_,_,_,_,_,_,_,_,_,_,_] ⟨[_,_,_,_,_,_,_,_,_,_,_,_,_,_,_,_,_,_,_,_,_,_,_,_,_,_,_,_,_,_,_,_,_,_,_,_,_,_,_,_,_,_,_,_,_,_,_,_,_,_,_,_,_,_,_,_,_,_,_,_,_,_,_,_,_,_,_,_,_,_,_,_,_,_,_,_,_,_,_,_,_,_,_,_,_,_,_,_,_,_].toArray,[]⟩ (h:=?_)
         refine zlp 14 (.int .i64 t35) #[_,_,_,_,_,_,_,_,_,_,_,_,_,_,_,_,_,_,_] ⟨[_,_,_,_,_,_,_,_,_,_,_,_,_,_,_,_,_,_,_,_,_,_,_,_,_,_,_,_,_,_,_,_,_,_,_,_,_,_,_,_,_,_,_,_,_,_,_,_,_,_,_,_,_,_,_,_,_,_,_,_,_,_,_,_,_,_,_,_,_,_,_,_,_,_,_,_,_,_,_,_,_,_,_,_,_,_,_,_,_,_].toArray,[]⟩ (h:=?_)
         refine MW.last_take (i:=11) (v:=.int .i32 ((rd_T37 x23 (wrap64 ((x23.length:Int) - 1))).f0)) (listed':= #[_,_,_,_,_,_,_,_,_,_,_,_,_,_,_,_,_,_,_]) (a':=⟨[_,_,_,_,_,_,_,_,_,_,_,_,_,_,_,_,_,_,_,_,_,_,_,_,_,_,_,_,_,_,_,_,_,_,_,_,_,_,_,_,_,_,_,_,_,_,_,_,_,_,_,_,_,_,_,_,_,_,_,_,_,_,_,_,_,_,_,_,_,_,_,_,_,_,_,_,_,_,_,_,_,_,_,_,_,_,_,_,_,_].toArray,[]⟩) rfl (by kernel_rfl) (by kernel_rfl) (by kernel_rfl) (by kernel_rfl) (by kernel_rfl) (fun _ _ _ h_=>h_) (by kernel_rfl) (fun w_ hS_=>?go) (zk hx62_0 z0) rfl rfl ?_
         case go=>obtain⟨hs0_,_⟩:=hS_;first|(go_simp;done)|(go_simp;rfl)
         refine zlp 15 (.agg #[.int .i32 ((rd_T37 x23 (wrap64 ((x23.length:Int) - 1))).f0),.int .i32 (wrap32 (t32 - 1)),.int .i64 t35]) #[_,_,_,_,_,_,_,_,_,_,_,_,_,_,_,_,_,_,_] ⟨[_,_,_,_,_,_,_,_,_,_,_,_,_,_,_,_,_,_,_,_,_,_,_,_,_,_,_,_,_,_,_,_,_,_,_,_,_,_,_,_,_,_,_,_,_,_,_,_,_,_,_,_,_,_,_,_,_,_,_,_,_,_,_,_,_,_,_,_,_,_,_,_,_,_,_,_,_,_,_,_,_,_,_,_,_,_,_,_,_,_].toArray,[]⟩ (h:=?_)
         refine MS.last_fork (i:=0) (j:=16) (by kernel_rfl) ?_ ?_
         ·refine MS.one_act (i:=0) (listed':= #[true,true,true,true,true,false,true,true,true,true,true,true,true,true,true,true,false,false,false]) rfl (by kernel_rfl) (by decide) ?_
          go_wp2_with (((with_reducible refine gate_dst (N:=70) rfl ?_);(try(refine gate_guard (by rfl) ?_;dsimp only));refine Kd.N_lit k37 w.heap.size 37 rfl (N':=70) rfl (xs:=([]:List (S37))) (inner:=[]) (ok:=(fun k_=>(P_ k_∨w.heap.size≤k_))) (okp:=(fun k_=>(P_ k_∨w.heap.size≤k_))) ?hr ?hp (fun _ hk_=>hk_) ?hf HB.out (below_size HB.out) (by first|simp|decide) ?_;(case hr=>first|(go_simp;done)|(go_simp;rfl));(case hp=>exact(Reps.none _ _));(case hf=>exact(show ∀ k_,w61.heap.size≤k_→(fun k_=>(P_ k_∨w.heap.size≤k_)) k_ from fun k_ h_=>.inr (Nat.le_trans (below_size HB.out) h_)) _ (Nat.le_refl _));intro v71 w72 hn1 hb1 hg1 hat1);replace hat1:=za hat1;refine stop_ ?_)
          refine zg ?_
          replace hat1:=hat1.out
          have hbe:=MW.grown_below hg1
          have hba:=MW.base_of hat1
          replace HF0:=za (Kd.F_mono (Kd.F_elder' (ok:=(fun k_=>(P_ k_∨w.heap.size≤k_))) HF0.out hba hbe) (fun k_ hk_=>hk_):Kd.F k37 _ (fun k_=>(P_ k_∨w.heap.size≤k_)∧some k_≠(v71:Value).ownBlock) _ _ _)
          replace HF65:=za (Kd.F_mono (Kd.F_elder' (ok:=(fun k_=>(P_ k_∨w.heap.size≤k_))) HF65.out hba hbe) (fun k_ hk_=>hk_):Kd.F k37 _ (fun k_=>(P_ k_∨w.heap.size≤k_)∧some k_≠(v71:Value).ownBlock) _ _ _)
          replace HF67:=za (Kd.F_mono (Kd.F_elder' (ok:=(fun k_=>(P_ k_∨w.heap.size≤k_))) HF67.out hba hbe) (fun k_ hk_=>hk_):Kd.F k37 _ (fun k_=>(P_ k_∨w.heap.size≤k_)∧some k_≠(v71:Value).ownBlock) _ _ _)
          replace HB:=za hb1
          have HN73:=za hn1
          clear hn1 hb1 hg1 hat1 hbe hba
          clear hx62_0 hx62_1 hx62_2 p62 q62 hcut67
          have p74:0≤((wrap64 ((x23.length:Int) - 1)):Int):=of_decide_eq_true (by first|(with_reducible assumption)|assumption)
          have q74:(wrap64 ((x23.length:Int) - 1))<(x23.length:Int):=of_decide_eq_true (by first|(with_reducible assumption)|assumption)
          obtain⟨ad74,e74,hx74_0,hx74_1,hx74_2⟩:=atF_T37 HF65.out (wrap64 ((x23.length:Int) - 1)) p74 q74
          cases e74
          replace p74:=eq_true p74
          replace q74:=eq_true q74
          refine wpList_nil ?_
          change MW.Cells _ _∧wpAnyLast _ _ _ _ _ _ 4 #[true,true,true,true,true,false,true,true,true,true,true,true,true,true,true,true,false,false,false] ⟨[_,_,_,_,_,_,_,_,_,_,_,_,_,_,_,_,_,_,_,_,_,_,_,_,_,_,_,_,_,_,_,_,_,_,_,_,_,_,_,_,_,_,_,_,_,_,_,_,_,_,_,_,_,_,_,_,_,_,_,_,_,_,_,_,_,_,_,_,_,_,_,_,_,_,_,_,_,_,_,_,_,_,_,_,_,_,_,_,_,_].toArray,[]⟩ _
          refine⟨(zk hx74_0 z0),?_⟩
          refine MS.last_fork (i:=5) (j:=16) (by kernel_rfl) ?_ ?_
          ·refine MS.one_act (i:=5) (listed':= #[true,true,true,true,true,true,true,true,true,true,true,true,true,true,true,true,false,false,false]) rfl (by kernel_rfl) (by decide) ?_
           obtain⟨HH,LMc75⟩:=zlm HH
           obtain⟨y76,hy76⟩:∃ y_:List (S37),y_=(([]:List (S37))++y70):=⟨_,rfl⟩
           have H:(if y76.length+[(⟨(rd_T37 x23 (wrap64 ((x23.length:Int) - 1))).f0,wrap32 (t32 - 1),t35⟩:S37)].length<8796093022208 then((some (y76++[(⟨(rd_T37 x23 (wrap64 ((x23.length:Int) - 1))).f0,wrap32 (t32 - 1),t35⟩:S37)]:List (S37))).bind fun y89=>((toponymref02_Build.l1 k27 y89 t32 l0))) else(none))=some (r1,r2):=by rw[hy76];exact HH.out
           replace HH:=za H
           clear H
           have NYy76:=za hy76
           clear hy76
           go_wp2_with (((with_reducible refine gate_dst (N:=75) rfl ?_);(try(refine gate_guard (by rfl) ?_;dsimp only));refine Kd.N_append_rows k37 w.heap.size rfl _ _ 22 37 (.agg #[(.int .i32 0),(.int .i32 0),(.int .i64 0)]) 16 rfl Try.underlying22 info37 rfl (by decide) (by decide) (v71) ([]:List (S37)) y70 _ _ _ (fun k_=>(P_ k_∨w.heap.size≤k_)) (fun k_=>(fun k_=>(P_ k_∨w.heap.size≤k_)) k_∧some k_≠(v71:Value).ownBlock) rfl rfl HN73.out (Kd.F_mono (ok:=(fun k_=>(P_ k_∨w.heap.size≤k_)∧some k_≠(v71:Value).ownBlock)) HF67.out (fun k_ hk_=>⟨hk_.1,hk_.2⟩)) (fun _ hk_=>hk_) (fun k_ h_=>.inr (Nat.le_trans (below_size HB.out) h_)) HB.out (below_size HB.out) (by first|(have:=LMc75.out;simp only[List.length_nil] at *;omega)|(have:=LMc75.out;simp at *;omega)) ?_;intro v77 w78 hn1 hb1 hg1 hat1);replace hat1:=za hat1;refine stop_ ?_)
           refine zg ?_
           replace hat1:=hat1.out
           replace HF0:=za (Kd.F_mono (Kd.F_after (v:=v71) (ok:=(fun k_=>(P_ k_∨w.heap.size≤k_))) (Kd.F_mono (ok:=(fun k_=>(P_ k_∨w.heap.size≤k_)∧some k_≠(v71:Value).ownBlock)) HF0.out (fun k_ hk_=>⟨hk_.1,hk_.2⟩)) hg1 hat1) (fun k_ hk_=>hk_):Kd.F k37 _ (fun k_=>(P_ k_∨w.heap.size≤k_)∧some k_≠(v77:Value).ownBlock) _ _ _)
           replace HF65:=za (Kd.F_mono (Kd.F_after (v:=v71) (ok:=(fun k_=>(P_ k_∨w.heap.size≤k_))) (Kd.F_mono (ok:=(fun k_=>(P_ k_∨w.heap.size≤k_)∧some k_≠(v71:Value).ownBlock)) HF65.out (fun k_ hk_=>⟨hk_.1,hk_.2⟩)) hg1 hat1) (fun k_ hk_=>hk_):Kd.F k37 _ (fun k_=>(P_ k_∨w.heap.size≤k_)∧some k_≠(v77:Value).ownBlock) _ _ _)
           replace HB:=za hb1
           clear HN73
           have HN79:=za hn1
           clear hn1 hb1 hg1 hat1
           replace HN79:=za (by rw[NYy76.out];exact HN79.out:Kd.N k37 37 w78 w.heap.size (fun k_=>(P_ k_∨w.heap.size≤k_)) v77 y76)
           clear hx74_0 hx74_1 hx74_2 p74 q74
           have p80:0≤((wrap64 ((x23.length:Int) - 1)):Int):=of_decide_eq_true (by first|(with_reducible assumption)|assumption)
           have q80:(wrap64 ((x23.length:Int) - 1))<(x23.length:Int):=of_decide_eq_true (by first|(with_reducible assumption)|assumption)
           obtain⟨ad80,e80,hx80_0,hx80_1,hx80_2⟩:=atF_T37 HF65.out (wrap64 ((x23.length:Int) - 1)) p80 q80
           cases e80
           replace p80:=eq_true p80
           replace q80:=eq_true q80
           refine wpList_nil ?_
           change MW.Cells _ _∧wpAnyLast _ _ _ _ _ _ 3 #[true,true,true,true,true,true,true,true,true,true,true,true,true,true,true,true,false,false,false] ⟨[_,_,_,_,_,_,_,_,_,_,_,_,_,_,_,_,_,_,_,_,_,_,_,_,_,_,_,_,_,_,_,_,_,_,_,_,_,_,_,_,_,_,_,_,_,_,_,_,_,_,_,_,_,_,_,_,_,_,_,_,_,_,_,_,_,_,_,_,_,_,_,_,_,_,_,_,_,_,_,_,_,_,_,_,_,_,_,_,_,_].toArray,[]⟩ _
           refine⟨(zk hx80_0 z0),?_⟩
           refine MW.last_fin (i:=16) (listed':= #[true,true,true,true,true,true,true,true,true,true,true,true,true,true,true,true,true,false,false]) rfl (by kernel_rfl) (by kernel_rfl) (by kernel_rfl) ?_
           go_wp2_with (((with_reducible refine gate_dst (N:=86) rfl ?_);(try(refine gate_guard (by rfl) ?_;dsimp only));refine Kd.N_lit k37 w.heap.size 37 rfl (N':=86) rfl (xs:=[(⟨(rd_T37 x23 (wrap64 ((x23.length:Int) - 1))).f0,wrap32 (t32 - 1),t35⟩:S37)]) (inner:=[.int .i32 ((rd_T37 x23 (wrap64 ((x23.length:Int) - 1))).f0),.int .i32 (wrap32 (t32 - 1)),.int .i64 t35]) (ok:=(fun k_=>(P_ k_∨w.heap.size≤k_)∧some k_≠(v77:Value).ownBlock)) (okp:=(fun k_=>(P_ k_∨w.heap.size≤k_)∧some k_≠(v77:Value).ownBlock)) ?hr ?hp (fun _ hk_=>hk_) ?hf HB.out (below_size HB.out) (by first|simp|decide) ?_;(case hr=>first|(go_simp;done)|(go_simp;rfl));(case hp=>exact(Reps.c3 (k37_mkF _ _ (⟨(rd_T37 x23 (wrap64 ((x23.length:Int) - 1))).f0,wrap32 (t32 - 1),t35⟩:S37)) (Reps.none _ _)));(case hf=>exact(show ∀ k_,w78.heap.size≤k_→(fun k_=>(P_ k_∨w.heap.size≤k_)∧some k_≠(v77:Value).ownBlock) k_ from fun k_ h_=>⟨.inr (Nat.le_trans (below_size HB.out) h_),Kd.fresh' (Kd.N_lt HN79.out) k_ h_⟩) _ (Nat.le_refl _));intro v81 w82 hn1 hb1 hg1 hat1);replace hat1:=za hat1;refine stop_ ?_)
           refine zg ?_
           replace hat1:=hat1.out
           have hbe:=MW.grown_below hg1
           have hba:=MW.base_of hat1
           replace HF0:=za (Kd.F_mono (Kd.F_elder' (ok:=(fun k_=>(P_ k_∨w.heap.size≤k_)∧some k_≠(v77:Value).ownBlock)) HF0.out hba hbe) (fun k_ hk_=>hk_):Kd.F k37 _ (fun k_=>((P_ k_∨w.heap.size≤k_)∧some k_≠(v77:Value).ownBlock)∧some k_≠(v81:Value).ownBlock) _ _ _)
           replace HN79:=za (Kd.N_mono (Kd.N_elder' (ok:=(fun k_=>(P_ k_∨w.heap.size≤k_))) HN79.out hba hbe) (fun k_ hk_=>hk_):Kd.N k37 _ _ _ (fun k_=>(P_ k_∨w.heap.size≤k_)∧some k_≠(v81:Value).ownBlock) _ _)
           replace HB:=za hb1
           have HN83:=za hn1
           clear hn1 hb1 hg1 hat1 hbe hba
           clear hx80_0 hx80_1 hx80_2 p80 q80
           refine wpList_nil ?_
           change wpAnyLast _ _ _ _ _ _ 2 #[true,true,true,true,true,true,true,true,true,true,true,true,true,true,true,true,true,false,false] ⟨[_,_,_,_,_,_,_,_,_,_,_,_,_,_,_,_,_,_,_,_,_,_,_,_,_,_,_,_,_,_,_,_,_,_,_,_,_,_,_,_,_,_,_,_,_,_,_,_,_,_,_,_,_,_,_,_,_,_,_,_,_,_,_,_,_,_,_,_,_,_,_,_,_,_,_,_,_,_,_,_,_,_,_,_,_,_,_,_,_,_].toArray,[]⟩ _
           refine MW.last_fin (i:=17) (listed':= #[true,true,true,true,true,true,true,true,true,true,true,true,true,true,true,true,true,true,false]) rfl (by kernel_rfl) (by kernel_rfl) (by kernel_rfl) ?_
           obtain⟨A84,cp85,he_⟩:=Kd.N_slice HN83.out
           subst he_
           have HF86:=za (Kd.N_F HN83.out)
           clear HN83
           replace HF0:=za (Kd.F_mono (ok:=(fun k_=>((P_ k_∨w.heap.size≤k_)∧some k_≠(v77:Value).ownBlock)∧some k_≠((.slice A84 [(⟨(rd_T37 x23 (wrap64 ((x23.length:Int) - 1))).f0,wrap32 (t32 - 1),t35⟩:S37)].length cp85):Value).ownBlock)) HF0.out (fun k_ hk_=>hk_.1):Kd.F k37 _ (fun k_=>(P_ k_∨w.heap.size≤k_)∧some k_≠(v77:Value).ownBlock) _ _ _)
           replace HN79:=za (Kd.N_mono (ok:=(fun k_=>(P_ k_∨w.heap.size≤k_)∧some k_≠((.slice A84 [(⟨(rd_T37 x23 (wrap64 ((x23.length:Int) - 1))).f0,wrap32 (t32 - 1),t35⟩:S37)].length cp85):Value).ownBlock)) HN79.out (fun k_ hk_=>hk_.1):Kd.N k37 _ _ _ (fun k_=>(P_ k_∨w.heap.size≤k_)) _ _)
           obtain⟨HH,LMc88⟩:=zlm HH
           obtain⟨y89,hy89⟩:∃ y_:List (S37),y_=(y76++[(⟨(rd_T37 x23 (wrap64 ((x23.length:Int) - 1))).f0,wrap32 (t32 - 1),t35⟩:S37)]):=⟨_,rfl⟩
           have H:((toponymref02_Build.l1 k27 y89 t32 l0))=some (r1,r2):=by rw[hy89];exact HH.out
           replace HH:=za H
           clear H
           have NYy89:=za hy89
           clear hy89
           go_wp2_with (((with_reducible refine gate_dst (N:=87) rfl ?_);(try(refine gate_guard (by rfl) ?_;dsimp only));refine Kd.N_append_rows k37 w.heap.size rfl _ _ 22 37 (.agg #[(.int .i32 0),(.int .i32 0),(.int .i64 0)]) 16 rfl Try.underlying22 info37 rfl (by decide) (by decide) (v77) y76 [(⟨(rd_T37 x23 (wrap64 ((x23.length:Int) - 1))).f0,wrap32 (t32 - 1),t35⟩:S37)] _ _ _ (fun k_=>(P_ k_∨w.heap.size≤k_)) (fun k_=>(fun k_=>(P_ k_∨w.heap.size≤k_)) k_∧some k_≠(v77:Value).ownBlock) rfl rfl HN79.out (Kd.F_mono (ok:=(fun k_=>(P_ k_∨w.heap.size≤k_)∧some k_≠(v77:Value).ownBlock)) HF86.out (fun k_ hk_=>⟨hk_.1,hk_.2⟩)) (fun _ hk_=>hk_) (fun k_ h_=>.inr (Nat.le_trans (below_size HB.out) h_)) HB.out (below_size HB.out) (by first|(have:=LMc88.out;simp only[List.length_nil] at *;omega)|(have:=LMc88.out;simp at *;omega)) ?_;intro v90 w91 hn1 hb1 hg1 hat1);replace hat1:=za hat1;refine stop_ ?_)
           refine zg ?_
           replace hat1:=hat1.out
           replace HF0:=za (Kd.F_mono (Kd.F_after (v:=v77) (ok:=(fun k_=>(P_ k_∨w.heap.size≤k_))) (Kd.F_mono (ok:=(fun k_=>(P_ k_∨w.heap.size≤k_)∧some k_≠(v77:Value).ownBlock)) HF0.out (fun k_ hk_=>⟨hk_.1,hk_.2⟩)) hg1 hat1) (fun k_ hk_=>hk_):Kd.F k37 _ (fun k_=>(P_ k_∨w.heap.size≤k_)∧some k_≠(v90:Value).ownBlock) _ _ _)
           replace HB:=za hb1
           clear HN79
           have HN92:=za hn1
           clear hn1 hb1 hg1 hat1
           replace HN92:=za (by rw[NYy89.out];exact HN92.out:Kd.N k37 37 w91 w.heap.size (fun k_=>(P_ k_∨w.heap.size≤k_)) v90 y89)
           refine wpList_nil ?_
           change wpAnyLast _ _ _ _ _ _ 1 #[true,true,true,true,true,true,true,true,true,true,true,true,true,true,true,true,true,true,false] ⟨[_,_,_,_,_,_,_,_,_,_,_,_,_,_,_,_,_,_,_,_,_,_,_,_,_,_,_,_,_,_,_,_,_,_,_,_,_,_,_,_,_,_,_,_,_,_,_,_,_,_,_,_,_,_,_,_,_,_,_,_,_,_,_,_,_,_,_,_,_,_,_,_,_,_,_,_,_,_,_,_,_,_,_,_,_,_,_,_,_,_].toArray,[]⟩ _
           refine zlp 18 (v90) #[_,_,_,_,_,_,_,_,_,_,_,_,_,_,_,_,_,_,_] ⟨[_,_,_,_,_,_,_,_,_,_,_,_,_,_,_,_,_,_,_,_,_,_,_,_,_,_,_,_,_,_,_,_,_,_,_,_,_,_,_,_,_,_,_,_,_,_,_,_,_,_,_,_,_,_,_,_,_,_,_,_,_,_,_,_,_,_,_,_,_,_,_,_,_,_,_,_,_,_,_,_,_,_,_,_,_,_,_,_,_,_].toArray,[]⟩ (h:=?_)
           refine MW.last_done (by kernel_rfl) ?_ _
           clear hwr_
           go_wp2
           go_roundg k27
           case measure=>have:=HK0.out;have:=HK1.out;omega
           case rel=>exact⟨y89,t32,(by first|rfl|(simp;done)|(simp[*];done)),HH,⟨by have:=HK0.out;have:=HK1.out;omega⟩,⟨HF0.out⟩,⟨(Kd.N_mono (ok:=(fun k_=>(P_ k_∨w.heap.size≤k_))) HN92.out (fun k_ hk_=>hk_))⟩,⟨HB.out⟩⟩
          refine MS.one_fin (i:=16) (listed':= #[true,true,true,true,true,false,true,true,true,true,true,true,true,true,true,true,true,false,false]) rfl (by kernel_rfl) (by kernel_rfl) ?_
          go_wp2_with (((with_reducible refine gate_dst (N:=86) rfl ?_);(try(refine gate_guard (by rfl) ?_;dsimp only));refine Kd.N_lit k37 w.heap.size 37 rfl (N':=86) rfl (xs:=[(⟨(rd_T37 x23 (wrap64 ((x23.length:Int) - 1))).f0,wrap32 (t32 - 1),t35⟩:S37)]) (inner:=[.int .i32 ((rd_T37 x23 (wrap64 ((x23.length:Int) - 1))).f0),.int .i32 (wrap32 (t32 - 1)),.int .i64 t35]) (ok:=(fun k_=>(P_ k_∨w.heap.size≤k_)∧some k_≠(v71:Value).ownBlock)) (okp:=(fun k_=>(P_ k_∨w.heap.size≤k_)∧some k_≠(v71:Value).ownBlock)) ?hr ?hp (fun _ hk_=>hk_) ?hf HB.out (below_size HB.out) (by first|simp|decide) ?_;(case hr=>first|(go_simp;done)|(go_simp;rfl));(case hp=>exact(Reps.c3 (k37_mkF _ _ (⟨(rd_T37 x23 (wrap64 ((x23.length:Int) - 1))).f0,wrap32 (t32 - 1),t35⟩:S37)) (Reps.none _ _)));(case hf=>exact(show ∀ k_,w72.heap.size≤k_→(fun k_=>(P_ k_∨w.heap.size≤k_)∧some k_≠(v71:Value).ownBlock) k_ from fun k_ h_=>⟨.inr (Nat.le_trans (below_size HB.out) h_),Kd.fresh' (Kd.N_lt HN73.out) k_ h_⟩) _ (Nat.le_refl _));intro v93 w94 hn1 hb1 hg1 hat1);replace hat1:=za hat1;refine stop_ ?_)
          refine zg ?_
          replace hat1:=hat1.out
          have hbe:=MW.grown_below hg1
          have hba:=MW.base_of hat1
          replace HF0:=za (Kd.F_mono (Kd.F_elder' (ok:=(fun k_=>(P_ k_∨w.heap.size≤k_)∧some k_≠(v71:Value).ownBlock)) HF0.out hba hbe) (fun k_ hk_=>hk_):Kd.F k37 _ (fun k_=>((P_ k_∨w.heap.size≤k_)∧some k_≠(v71:Value).ownBlock)∧some k_≠(v93:Value).ownBlock) _ _ _)
          replace HF65:=za (Kd.F_mono (Kd.F_elder' (ok:=(fun k_=>(P_ k_∨w.heap.size≤k_)∧some k_≠(v71:Value).ownBlock)) HF65.out hba hbe) (fun k_ hk_=>hk_):Kd.F k37 _ (fun k_=>((P_ k_∨w.heap.size≤k_)∧some k_≠(v71:Value).ownBlock)∧some k_≠(v93:Value).ownBlock) _ _ _)
          replace HF67:=za (Kd.F_mono (Kd.F_elder' (ok:=(fun k_=>(P_ k_∨w.heap.size≤k_)∧some k_≠(v71:Value).ownBlock)) HF67.out hba hbe) (fun k_ hk_=>hk_):Kd.F k37 _ (fun k_=>((P_ k_∨w.heap.size≤k_)∧some k_≠(v71:Value).ownBlock)∧some k_≠(v93:Value).ownBlock) _ _ _)
          replace HN73:=za (Kd.N_mono (Kd.N_elder' (ok:=(fun k_=>(P_ k_∨w.heap.size≤k_))) HN73.out hba hbe) (fun k_ hk_=>hk_):Kd.N k37 _ _ _ (fun k_=>(P_ k_∨w.heap.size≤k_)∧some k_≠(v93:Value).ownBlock) _ _)
          replace HB:=za hb1
          have HN95:=za hn1
          clear hn1 hb1 hg1 hat1 hbe hba
          clear hx74_0 hx74_1 hx74_2 p74 q74
          refine wpList_nil ?_
          change wpAnyLast _ _ _ _ _ _ 3 #[true,true,true,true,true,false,true,true,true,true,true,true,true,true,true,true,true,false,false] ⟨[_,_,_,_,_,_,_,_,_,_,_,_,_,_,_,_,_,_,_,_,_,_,_,_,_,_,_,_,_,_,_,_,_,_,_,_,_,_,_,_,_,_,_,_,_,_,_,_,_,_,_,_,_,_,_,_,_,_,_,_,_,_,_,_,_,_,_,_,_,_,_,_,_,_,_,_,_,_,_,_,_,_,_,_,_,_,_,_,_,_].toArray,[]⟩ _
          refine MW.last_act (i:=5) (listed':= #[true,true,true,true,true,true,true,true,true,true,true,true,true,true,true,true,true,false,false]) rfl (by kernel_rfl) (by kernel_rfl) (by decide) ?_
          obtain⟨HH,LMc96⟩:=zlm HH
          obtain⟨y97,hy97⟩:∃ y_:List (S37),y_=(([]:List (S37))++y70):=⟨_,rfl⟩
          have H:(if y97.length+[(⟨(rd_T37 x23 (wrap64 ((x23.length:Int) - 1))).f0,wrap32 (t32 - 1),t35⟩:S37)].length<8796093022208 then((some (y97++[(⟨(rd_T37 x23 (wrap64 ((x23.length:Int) - 1))).f0,wrap32 (t32 - 1),t35⟩:S37)]:List (S37))).bind fun y107=>((toponymref02_Build.l1 k27 y107 t32 l0))) else(none))=some (r1,r2):=by rw[hy97];exact HH.out
          replace HH:=za H
          clear H
          have NYy97:=za hy97
          clear hy97
          go_wp2_with (((with_reducible refine gate_dst (N:=75) rfl ?_);(try(refine gate_guard (by rfl) ?_;dsimp only));refine Kd.N_append_rows k37 w.heap.size rfl _ _ 22 37 (.agg #[(.int .i32 0),(.int .i32 0),(.int .i64 0)]) 16 rfl Try.underlying22 info37 rfl (by decide) (by decide) (v71) ([]:List (S37)) y70 _ _ _ (fun k_=>(P_ k_∨w.heap.size≤k_)∧some k_≠(v93:Value).ownBlock) (fun k_=>(fun k_=>(P_ k_∨w.heap.size≤k_)∧some k_≠(v93:Value).ownBlock) k_∧some k_≠(v71:Value).ownBlock) rfl rfl HN73.out (Kd.F_mono (ok:=(fun k_=>((P_ k_∨w.heap.size≤k_)∧some k_≠(v71:Value).ownBlock)∧some k_≠(v93:Value).ownBlock)) HF67.out (fun k_ hk_=>⟨⟨hk_.1.1,hk_.2⟩,hk_.1.2⟩)) (fun _ hk_=>hk_) (fun k_ h_=>⟨.inr (Nat.le_trans (below_size HB.out) h_),Kd.fresh' (Kd.N_lt HN95.out) k_ h_⟩) HB.out (below_size HB.out) (by first|(have:=LMc96.out;simp only[List.length_nil] at *;omega)|(have:=LMc96.out;simp at *;omega)) ?_;intro v98 w99 hn1 hb1 hg1 hat1);replace hat1:=za hat1;refine stop_ ?_)
          refine zg ?_
          replace hat1:=hat1.out
          replace HF0:=za (Kd.F_mono (Kd.F_after (v:=v71) (ok:=(fun k_=>(P_ k_∨w.heap.size≤k_)∧some k_≠(v93:Value).ownBlock)) (Kd.F_mono (ok:=(fun k_=>((P_ k_∨w.heap.size≤k_)∧some k_≠(v71:Value).ownBlock)∧some k_≠(v93:Value).ownBlock)) HF0.out (fun k_ hk_=>⟨⟨hk_.1.1,hk_.2⟩,hk_.1.2⟩)) hg1 hat1) (fun k_ hk_=>hk_):Kd.F k37 _ (fun k_=>((P_ k_∨w.heap.size≤k_)∧some k_≠(v93:Value).ownBlock)∧some k_≠(v98:Value).ownBlock) _ _ _)
          replace HF65:=za (Kd.F_mono (Kd.F_after (v:=v71) (ok:=(fun k_=>(P_ k_∨w.heap.size≤k_)∧some k_≠(v93:Value).ownBlock)) (Kd.F_mono (ok:=(fun k_=>((P_ k_∨w.heap.size≤k_)∧some k_≠(v71:Value).ownBlock)∧some k_≠(v93:Value).ownBlock)) HF65.out (fun k_ hk_=>⟨⟨hk_.1.1,hk_.2⟩,hk_.1.2⟩)) hg1 hat1) (fun k_ hk_=>hk_):Kd.F k37 _ (fun k_=>((P_ k_∨w.heap.size≤k_)∧some k_≠(v93:Value).ownBlock)∧some k_≠(v98:Value).ownBlock) _ _ _)
          replace HN95:=za (Kd.N_mono (Kd.N_after (u:=v71) (ok:=(fun k_=>(P_ k_∨w.heap.size≤k_))) (Kd.N_mono (ok:=(fun k_=>(P_ k_∨w.heap.size≤k_)∧some k_≠(v71:Value).ownBlock)) HN95.out (fun k_ hk_=>⟨hk_.1,hk_.2⟩)) hg1 hat1) (fun k_ hk_=>hk_):Kd.N k37 _ _ _ (fun k_=>(P_ k_∨w.heap.size≤k_)∧some k_≠(v98:Value).ownBlock) _ _)
          replace HB:=za hb1
          clear HN73
          have HN100:=za hn1
          clear hn1 hb1 hg1 hat1
          replace HN100:=za (by rw[NYy97.out];exact HN100.out:Kd.N k37 37 w99 w.heap.size (fun k_=>(P_ k_∨w.heap.size≤k_)∧some k_≠(v93:Value).ownBlock) v98 y97)
          have p101:0≤((wrap64 ((x23.length:Int) - 1)):Int):=of_decide_eq_true (by first|(with_reducible assumption)|assumption)
          have q101:(wrap64 ((x23.length:Int) - 1))<(x23.length:Int):=of_decide_eq_true (by first|(with_reducible assumption)|assumption)
          obtain⟨ad101,e101,hx101_0,hx101_1,hx101_2⟩:=atF_T37 HF65.out (wrap64 ((x23.length:Int) - 1)) p101 q101
          cases e101
          replace p101:=eq_true p101
          replace q101:=eq_true q101
          refine wpList_nil ?_
          change MW.Cells _ _∧wpAnyLast _ _ _ _ _ _ 2 #[true,true,true,true,true,true,true,true,true,true,true,true,true,true,true,true,true,false,false] ⟨[_,_,_,_,_,_,_,_,_,_,_,_,_,_,_,_,_,_,_,_,_,_,_,_,_,_,_,_,_,_,_,_,_,_,_,_,_,_,_,_,_,_,_,_,_,_,_,_,_,_,_,_,_,_,_,_,_,_,_,_,_,_,_,_,_,_,_,_,_,_,_,_,_,_,_,_,_,_,_,_,_,_,_,_,_,_,_,_,_,_].toArray,[]⟩ _
          refine⟨(zk hx101_0 z0),?_⟩
          refine MW.last_fin (i:=17) (listed':= #[true,true,true,true,true,true,true,true,true,true,true,true,true,true,true,true,true,true,false]) rfl (by kernel_rfl) (by kernel_rfl) (by kernel_rfl) ?_
          obtain⟨A102,cp103,he_⟩:=Kd.N_slice HN95.out
          subst he_
          have HF104:=za (Kd.N_F HN95.out)
          clear HN95
          replace HF0:=za (Kd.F_mono (ok:=(fun k_=>((P_ k_∨w.heap.size≤k_)∧some k_≠((.slice A102 [(⟨(rd_T37 x23 (wrap64 ((x23.length:Int) - 1))).f0,wrap32 (t32 - 1),t35⟩:S37)].length cp103):Value).ownBlock)∧some k_≠(v98:Value).ownBlock)) HF0.out (fun k_ hk_=>⟨hk_.1.1,hk_.2⟩):Kd.F k37 _ (fun k_=>(P_ k_∨w.heap.size≤k_)∧some k_≠(v98:Value).ownBlock) _ _ _)
          replace HN100:=za (Kd.N_mono (ok:=(fun k_=>(P_ k_∨w.heap.size≤k_)∧some k_≠((.slice A102 [(⟨(rd_T37 x23 (wrap64 ((x23.length:Int) - 1))).f0,wrap32 (t32 - 1),t35⟩:S37)].length cp103):Value).ownBlock)) HN100.out (fun k_ hk_=>hk_.1):Kd.N k37 _ _ _ (fun k_=>(P_ k_∨w.heap.size≤k_)) _ _)
          obtain⟨HH,LMc106⟩:=zlm HH
          obtain⟨y107,hy107⟩:∃ y_:List (S37),y_=(y97++[(⟨(rd_T37 x23 (wrap64 ((x23.length:Int) - 1))).f0,wrap32 (t32 - 1),t35⟩:S37)]):=⟨_,rfl⟩
          have H:((toponymref02_Build.l1 k27 y107 t32 l0))=some (r1,r2):=by rw[hy107];exact HH.out
          replace HH:=za H
          clear H
          have NYy107:=za hy107
          clear hy107
          go_wp2_with (((with_reducible refine gate_dst (N:=87) rfl ?_);(try(refine gate_guard (by rfl) ?_;dsimp only));refine Kd.N_append_rows k37 w.heap.size rfl _ _ 22 37 (.agg #[(.int .i32 0),(.int .i32 0),(.int .i64 0)]) 16 rfl Try.underlying22 info37 rfl (by decide) (by decide) (v98) y97 [(⟨(rd_T37 x23 (wrap64 ((x23.length:Int) - 1))).f0,wrap32 (t32 - 1),t35⟩:S37)] _ _ _ (fun k_=>(P_ k_∨w.heap.size≤k_)) (fun k_=>(fun k_=>(P_ k_∨w.heap.size≤k_)) k_∧some k_≠(v98:Value).ownBlock) rfl rfl HN100.out (Kd.F_mono (ok:=(fun k_=>(P_ k_∨w.heap.size≤k_)∧some k_≠(v98:Value).ownBlock)) HF104.out (fun k_ hk_=>⟨hk_.1,hk_.2⟩)) (fun _ hk_=>hk_) (fun k_ h_=>.inr (Nat.le_trans (below_size HB.out) h_)) HB.out (below_size HB.out) (by first|(have:=LMc106.out;simp only[List.length_nil] at *;omega)|(have:=LMc106.out;simp at *;omega)) ?_;intro v108 w109 hn1 hb1 hg1 hat1);replace hat1:=za hat1;refine stop_ ?_)
          refine zg ?_
          replace hat1:=hat1.out
          replace HF0:=za (Kd.F_mono (Kd.F_after (v:=v98) (ok:=(fun k_=>(P_ k_∨w.heap.size≤k_))) (Kd.F_mono (ok:=(fun k_=>(P_ k_∨w.heap.size≤k_)∧some k_≠(v98:Value).ownBlock)) HF0.out (fun k_ hk_=>⟨hk_.1,hk_.2⟩)) hg1 hat1) (fun k_ hk_=>hk_):Kd.F k37 _ (fun k_=>(P_ k_∨w.heap.size≤k_)∧some k_≠(v108:Value).ownBlock) _ _ _)
          replace HB:=za hb1
          clear HN100
          have HN110:=za hn1
          clear hn1 hb1 hg1 hat1
          replace HN110:=za (by rw[NYy107.out];exact HN110.out:Kd.N k37 37 w109 w.heap.size (fun k_=>(P_ k_∨w.heap.size≤k_)) v108 y107)
          clear hx101_0 hx101_1 hx101_2 p101 q101
          refine wpList_nil ?_
          change wpAnyLast _ _ _ _ _ _ 1 #[true,true,true,true,true,true,true,true,true,true,true,true,true,true,true,true,true,true,false] ⟨[_,_,_,_,_,_,_,_,_,_,_,_,_,_,_,_,_,_,_,_,_,_,_,_,_,_,_,_,_,_,_,_,_,_,_,_,_,_,_,_,_,_,_,_,_,_,_,_,_,_,_,_,_,_,_,_,_,_,_,_,_,_,_,_,_,_,_,_,_,_,_,_,_,_,_,_,_,_,_,_,_,_,_,_,_,_,_,_,_,_].toArray,[]⟩ _
          refine zlp 18 (v108) #[_,_,_,_,_,_,_,_,_,_,_,_,_,_,_,_,_,_,_] ⟨[_,_,_,_,_,_,_,_,_,_,_,_,_,_,_,_,_,_,_,_,_,_,_,_,_,_,_,_,_,_,_,_,_,_,_,_,_,_,_,_,_,_,_,_,_,_,_,_,_,_,_,_,_,_,_,_,_,_,_,_,_,_,_,_,_,_,_,_,_,_,_,_,_,_,_,_,_,_,_,_,_,_,_,_,_,_,_,_,_,_].toArray,[]⟩ (h:=?_)
          refine MW.last_done (by kernel_rfl) ?_ _
          clear hwr_
          go_wp2
          go_roundg k27
          case measure=>have:=HK0.out;have:=HK1.out;omega
          case rel=>exact⟨y107,t32,(by first|rfl|(simp;done)|(simp[*];done)),HH,⟨by have:=HK0.out;have:=HK1.out;omega⟩,⟨HF0.out⟩,⟨(Kd.N_mono (ok:=(fun k_=>(P_ k_∨w.heap.size≤k_))) HN110.out (fun k_ hk_=>hk_))⟩,⟨HB.out⟩⟩
         refine MS.one_fin (i:=16) (listed':= #[false,true,true,true,true,false,true,true,true,true,true,true,true,true,true,true,true,false,false]) rfl (by kernel_rfl) (by kernel_rfl) ?_
         go_wp2_with (((with_reducible refine gate_dst (N:=86) rfl ?_);(try(refine gate_guard (by rfl) ?_;dsimp only));refine Kd.N_lit k37 w.heap.size 37 rfl (N':=86) rfl (xs:=[(⟨(rd_T37 x23 (wrap64 ((x23.length:Int) - 1))).f0,wrap32 (t32 - 1),t35⟩:S37)]) (inner:=[.int .i32 ((rd_T37 x23 (wrap64 ((x23.length:Int) - 1))).f0),.int .i32 (wrap32 (t32 - 1)),.int .i64 t35]) (ok:=(fun k_=>(P_ k_∨w.heap.size≤k_))) (okp:=(fun k_=>(P_ k_∨w.heap.size≤k_))) ?hr ?hp (fun _ hk_=>hk_) ?hf HB.out (below_size HB.out) (by first|simp|decide) ?_;(case hr=>first|(go_simp;done)|(go_simp;rfl));(case hp=>exact(Reps.c3 (k37_mkF _ _ (⟨(rd_T37 x23 (wrap64 ((x23.length:Int) - 1))).f0,wrap32 (t32 - 1),t35⟩:S37)) (Reps.none _ _)));(case hf=>exact(show ∀ k_,w61.heap.size≤k_→(fun k_=>(P_ k_∨w.heap.size≤k_)) k_ from fun k_ h_=>.inr (Nat.le_trans (below_size HB.out) h_)) _ (Nat.le_refl _));intro v111 w112 hn1 hb1 hg1 hat1);replace hat1:=za hat1;refine stop_ ?_)
         refine zg ?_
         replace hat1:=hat1.out
         have hbe:=MW.grown_below hg1
         have hba:=MW.base_of hat1
         replace HF0:=za (Kd.F_mono (Kd.F_elder' (ok:=(fun k_=>(P_ k_∨w.heap.size≤k_))) HF0.out hba hbe) (fun k_ hk_=>hk_):Kd.F k37 _ (fun k_=>(P_ k_∨w.heap.size≤k_)∧some k_≠(v111:Value).ownBlock) _ _ _)
         replace HF65:=za (Kd.F_mono (Kd.F_elder' (ok:=(fun k_=>(P_ k_∨w.heap.size≤k_))) HF65.out hba hbe) (fun k_ hk_=>hk_):Kd.F k37 _ (fun k_=>(P_ k_∨w.heap.size≤k_)∧some k_≠(v111:Value).ownBlock) _ _ _)
         replace HF67:=za (Kd.F_mono (Kd.F_elder' (ok:=(fun k_=>(P_ k_∨w.heap.size≤k_))) HF67.out hba hbe) (fun k_ hk_=>hk_):Kd.F k37 _ (fun k_=>(P_ k_∨w.heap.size≤k_)∧some k_≠(v111:Value).ownBlock) _ _ _)
         replace HB:=za hb1
         have HN113:=za hn1
         clear hn1 hb1 hg1 hat1 hbe hba
         clear hx62_0 hx62_1 hx62_2 p62 q62 hcut67
         refine wpList_nil ?_
         change wpAnyLast _ _ _ _ _ _ 4 #[false,true,true,true,true,false,true,true,true,true,true,true,true,true,true,true,true,false,false] ⟨[_,_,_,_,_,_,_,_,_,_,_,_,_,_,_,_,_,_,_,_,_,_,_,_,_,_,_,_,_,_,_,_,_,_,_,_,_,_,_,_,_,_,_,_,_,_,_,_,_,_,_,_,_,_,_,_,_,_,_,_,_,_,_,_,_,_,_,_,_,_,_,_,_,_,_,_,_,_,_,_,_,_,_,_,_,_,_,_,_,_].toArray,[]⟩ _
         refine MW.last_act (i:=0) (listed':= #[true,true,true,true,true,false,true,true,true,true,true,true,true,true,true,true,true,false,false]) rfl (by kernel_rfl) (by kernel_rfl) (by decide) ?_
         go_wp2_with (((with_reducible refine gate_dst (N:=70) rfl ?_);(try(refine gate_guard (by rfl) ?_;dsimp only));refine Kd.N_lit k37 w.heap.size 37 rfl (N':=70) rfl (xs:=([]:List (S37))) (inner:=[]) (ok:=(fun k_=>(P_ k_∨w.heap.size≤k_)∧some k_≠(v111:Value).ownBlock)) (okp:=(fun k_=>(P_ k_∨w.heap.size≤k_)∧some k_≠(v111:Value).ownBlock)) ?hr ?hp (fun _ hk_=>hk_) ?hf HB.out (below_size HB.out) (by first|simp|decide) ?_;(case hr=>first|(go_simp;done)|(go_simp;rfl));(case hp=>exact(Reps.none _ _));(case hf=>exact(show ∀ k_,w112.heap.size≤k_→(fun k_=>(P_ k_∨w.heap.size≤k_)∧some k_≠(v111:Value).ownBlock) k_ from fun k_ h_=>⟨.inr (Nat.le_trans (below_size HB.out) h_),Kd.fresh' (Kd.N_lt HN113.out) k_ h_⟩) _ (Nat.le_refl _));intro v114 w115 hn1 hb1 hg1 hat1);replace hat1:=za hat1;refine stop_ ?_)
         refine zg ?_
         replace hat1:=hat1.out
         have hbe:=MW.grown_below hg1
         have hba:=MW.base_of hat1
         replace HF0:=za (Kd.F_mono (Kd.F_elder' (ok:=(fun k_=>(P_ k_∨w.heap.size≤k_)∧some k_≠(v111:Value).ownBlock)) HF0.out hba hbe) (fun k_ hk_=>hk_):Kd.F k37 _ (fun k_=>((P_ k_∨w.heap.size≤k_)∧some k_≠(v111:Value).ownBlock)∧some k_≠(v114:Value).ownBlock) _ _ _)
         replace HF65:=za (Kd.F_mono (Kd.F_elder' (ok:=(fun k_=>(P_ k_∨w.heap.size≤k_)∧some k_≠(v111:Value).ownBlock)) HF65.out hba hbe) (fun k_ hk_=>hk_):Kd.F k37 _ (fun k_=>((P_ k_∨w.heap.size≤k_)∧some k_≠(v111:Value).ownBlock)∧some k_≠(v114:Value).ownBlock) _ _ _)
         replace HF67:=za (Kd.F_mono (Kd.F_elder' (ok:=(fun k_=>(P_ k_∨w.heap.size≤k_)∧some k_≠(v111:Value).ownBlock)) HF67.out hba hbe) (fun k_ hk_=>hk_):Kd.F k37 _ (fun k_=>((P_ k_∨w.heap.size≤k_)∧some k_≠(v111:Value).ownBlock)∧some k_≠(v114:Value).ownBlock) _ _ _)
         replace HN113:=za (Kd.N_mono (Kd.N_elder' (ok:=(fun k_=>(P_ k_∨w.heap.size≤k_))) HN113.out hba hbe) (fun k_ hk_=>hk_):Kd.N k37 _ _ _ (fun k_=>(P_ k_∨w.heap.size≤k_)∧some k_≠(v114:Value).ownBlock) _ _)
         replace HB:=za hb1
         have HN116:=za hn1
         clear hn1 hb1 hg1 hat1 hbe hba
         have p117:0≤((wrap64 ((x23.length:Int) - 1)):Int):=of_decide_eq_true (by first|(with_reducible assumption)|assumption)
         have q117:(wrap64 ((x23.length:Int) - 1))<(x23.length:Int):=of_decide_eq_true (by first|(with_reducible assumption)|assumption)
         obtain⟨ad117,e117,hx117_0,hx117_1,hx117_2⟩:=atF_T37 HF65.out (wrap64 ((x23.length:Int) - 1)) p117 q117
         cases e117
         replace p117:=eq_true p117
         replace q117:=eq_true q117
         refine wpList_nil ?_
         change MW.Cells _ _∧wpAnyLast _ _ _ _ _ _ 3 #[true,true,true,true,true,false,true,true,true,true,true,true,true,true,true,true,true,false,false] ⟨[_,_,_,_,_,_,_,_,_,_,_,_,_,_,_,_,_,_,_,_,_,_,_,_,_,_,_,_,_,_,_,_,_,_,_,_,_,_,_,_,_,_,_,_,_,_,_,_,_,_,_,_,_,_,_,_,_,_,_,_,_,_,_,_,_,_,_,_,_,_,_,_,_,_,_,_,_,_,_,_,_,_,_,_,_,_,_,_,_,_].toArray,[]⟩ _
         refine⟨(zk hx117_0 z0),?_⟩
         refine MW.last_act (i:=5) (listed':= #[true,true,true,true,true,true,true,true,true,true,true,true,true,true,true,true,true,false,false]) rfl (by kernel_rfl) (by kernel_rfl) (by decide) ?_
         obtain⟨HH,LMc118⟩:=zlm HH
         obtain⟨y119,hy119⟩:∃ y_:List (S37),y_=(([]:List (S37))++y70):=⟨_,rfl⟩
         have H:(if y119.length+[(⟨(rd_T37 x23 (wrap64 ((x23.length:Int) - 1))).f0,wrap32 (t32 - 1),t35⟩:S37)].length<8796093022208 then((some (y119++[(⟨(rd_T37 x23 (wrap64 ((x23.length:Int) - 1))).f0,wrap32 (t32 - 1),t35⟩:S37)]:List (S37))).bind fun y129=>((toponymref02_Build.l1 k27 y129 t32 l0))) else(none))=some (r1,r2):=by rw[hy119];exact HH.out
         replace HH:=za H
         clear H
         have NYy119:=za hy119
         clear hy119
         go_wp2_with (((with_reducible refine gate_dst (N:=75) rfl ?_);(try(refine gate_guard (by rfl) ?_;dsimp only));refine Kd.N_append_rows k37 w.heap.size rfl _ _ 22 37 (.agg #[(.int .i32 0),(.int .i32 0),(.int .i64 0)]) 16 rfl Try.underlying22 info37 rfl (by decide) (by decide) (v114) ([]:List (S37)) y70 _ _ _ (fun k_=>(P_ k_∨w.heap.size≤k_)∧some k_≠(v111:Value).ownBlock) (fun k_=>(fun k_=>(P_ k_∨w.heap.size≤k_)∧some k_≠(v111:Value).ownBlock) k_∧some k_≠(v114:Value).ownBlock) rfl rfl HN116.out (Kd.F_mono (ok:=(fun k_=>((P_ k_∨w.heap.size≤k_)∧some k_≠(v111:Value).ownBlock)∧some k_≠(v114:Value).ownBlock)) HF67.out (fun k_ hk_=>⟨hk_.1,hk_.2⟩)) (fun _ hk_=>hk_) (fun k_ h_=>⟨.inr (Nat.le_trans (below_size HB.out) h_),Kd.fresh' (Kd.N_lt HN113.out) k_ h_⟩) HB.out (below_size HB.out) (by first|(have:=LMc118.out;simp only[List.length_nil] at *;omega)|(have:=LMc118.out;simp at *;omega)) ?_;intro v120 w121 hn1 hb1 hg1 hat1);replace hat1:=za hat1;refine stop_ ?_)
         refine zg ?_
         replace hat1:=hat1.out
         replace HF0:=za (Kd.F_mono (Kd.F_after (v:=v114) (ok:=(fun k_=>(P_ k_∨w.heap.size≤k_)∧some k_≠(v111:Value).ownBlock)) (Kd.F_mono (ok:=(fun k_=>((P_ k_∨w.heap.size≤k_)∧some k_≠(v111:Value).ownBlock)∧some k_≠(v114:Value).ownBlock)) HF0.out (fun k_ hk_=>⟨hk_.1,hk_.2⟩)) hg1 hat1) (fun k_ hk_=>hk_):Kd.F k37 _ (fun k_=>((P_ k_∨w.heap.size≤k_)∧some k_≠(v111:Value).ownBlock)∧some k_≠(v120:Value).ownBlock) _ _ _)
         replace HF65:=za (Kd.F_mono (Kd.F_after (v:=v114) (ok:=(fun k_=>(P_ k_∨w.heap.size≤k_)∧some k_≠(v111:Value).ownBlock)) (Kd.F_mono (ok:=(fun k_=>((P_ k_∨w.heap.size≤k_)∧some k_≠(v111:Value).ownBlock)∧some k_≠(v114:Value).ownBlock)) HF65.out (fun k_ hk_=>⟨hk_.1,hk_.2⟩)) hg1 hat1) (fun k_ hk_=>hk_):Kd.F k37 _ (fun k_=>((P_ k_∨w.heap.size≤k_)∧some k_≠(v111:Value).ownBlock)∧some k_≠(v120:Value).ownBlock) _ _ _)
         replace HN113:=za (Kd.N_mono (Kd.N_after (u:=v114) (ok:=(fun k_=>(P_ k_∨w.heap.size≤k_))) (Kd.N_mono (ok:=(fun k_=>(P_ k_∨w.heap.size≤k_)∧some k_≠(v114:Value).ownBlock)) HN113.out (fun k_ hk_=>⟨hk_.1,hk_.2⟩)) hg1 hat1) (fun k_ hk_=>hk_):Kd.N k37 _ _ _ (fun k_=>(P_ k_∨w.heap.size≤k_)∧some k_≠(v120:Value).ownBlock) _ _)
         replace HB:=za hb1
         clear HN116
         have HN122:=za hn1
         clear hn1 hb1 hg1 hat1
         replace HN122:=za (by rw[NYy119.out];exact HN122.out:Kd.N k37 37 w121 w.heap.size (fun k_=>(P_ k_∨w.heap.size≤k_)∧some k_≠(v111:Value).ownBlock) v120 y119)
         clear hx117_0 hx117_1 hx117_2 p117 q117
         have p123:0≤((wrap64 ((x23.length:Int) - 1)):Int):=of_decide_eq_true (by first|(with_reducible assumption)|assumption)
         have q123:(wrap64 ((x23.length:Int) - 1))<(x23.length:Int):=of_decide_eq_true (by first|(with_reducible assumption)|assumption)
         obtain⟨ad123,e123,hx123_0,hx123_1,hx123_2⟩:=atF_T37 HF65.out (wrap64 ((x23.length:Int) - 1)) p123 q123
         cases e123
         replace p123:=eq_true p123
         replace q123:=eq_true q123
         refine wpList_nil ?_
         change MW.Cells _ _∧wpAnyLast _ _ _ _ _ _ 2 #[true,true,true,true,true,true,true,true,true,true,true,true,true,true,true,true,true,false,false] ⟨[_,_,_,_,_,_,_,_,_,_,_,_,_,_,_,_,_,_,_,_,_,_,_,_,_,_,_,_,_,_,_,_,_,_,_,_,_,_,_,_,_,_,_,_,_,_,_,_,_,_,_,_,_,_,_,_,_,_,_,_,_,_,_,_,_,_,_,_,_,_,_,_,_,_,_,_,_,_,_,_,_,_,_,_,_,_,_,_,_,_].toArray,[]⟩ _
         refine⟨(zk hx123_0 z0),?_⟩
         refine MW.last_fin (i:=17) (listed':= #[true,true,true,true,true,true,true,true,true,true,true,true,true,true,true,true,true,true,false]) rfl (by kernel_rfl) (by kernel_rfl) (by kernel_rfl) ?_
         obtain⟨A124,cp125,he_⟩:=Kd.N_slice HN113.out
         subst he_
         have HF126:=za (Kd.N_F HN113.out)
         clear HN113
         replace HF0:=za (Kd.F_mono (ok:=(fun k_=>((P_ k_∨w.heap.size≤k_)∧some k_≠((.slice A124 [(⟨(rd_T37 x23 (wrap64 ((x23.length:Int) - 1))).f0,wrap32 (t32 - 1),t35⟩:S37)].length cp125):Value).ownBlock)∧some k_≠(v120:Value).ownBlock)) HF0.out (fun k_ hk_=>⟨hk_.1.1,hk_.2⟩):Kd.F k37 _ (fun k_=>(P_ k_∨w.heap.size≤k_)∧some k_≠(v120:Value).ownBlock) _ _ _)
         replace HN122:=za (Kd.N_mono (ok:=(fun k_=>(P_ k_∨w.heap.size≤k_)∧some k_≠((.slice A124 [(⟨(rd_T37 x23 (wrap64 ((x23.length:Int) - 1))).f0,wrap32 (t32 - 1),t35⟩:S37)].length cp125):Value).ownBlock)) HN122.out (fun k_ hk_=>hk_.1):Kd.N k37 _ _ _ (fun k_=>(P_ k_∨w.heap.size≤k_)) _ _)
         obtain⟨HH,LMc128⟩:=zlm HH
         obtain⟨y129,hy129⟩:∃ y_:List (S37),y_=(y119++[(⟨(rd_T37 x23 (wrap64 ((x23.length:Int) - 1))).f0,wrap32 (t32 - 1),t35⟩:S37)]):=⟨_,rfl⟩
         have H:((toponymref02_Build.l1 k27 y129 t32 l0))=some (r1,r2):=by rw[hy129];exact HH.out
         replace HH:=za H
         clear H
         have NYy129:=za hy129
         clear hy129
         go_wp2_with (((with_reducible refine gate_dst (N:=87) rfl ?_);(try(refine gate_guard (by rfl) ?_;dsimp only));refine Kd.N_append_rows k37 w.heap.size rfl _ _ 22 37 (.agg #[(.int .i32 0),(.int .i32 0),(.int .i64 0)]) 16 rfl Try.underlying22 info37 rfl (by decide) (by decide) (v120) y119 [(⟨(rd_T37 x23 (wrap64 ((x23.length:Int) - 1))).f0,wrap32 (t32 - 1),t35⟩:S37)] _ _ _ (fun k_=>(P_ k_∨w.heap.size≤k_)) (fun k_=>(fun k_=>(P_ k_∨w.heap.size≤k_)) k_∧some k_≠(v120:Value).ownBlock) rfl rfl HN122.out (Kd.F_mono (ok:=(fun k_=>(P_ k_∨w.heap.size≤k_)∧some k_≠(v120:Value).ownBlock)) HF126.out (fun k_ hk_=>⟨hk_.1,hk_.2⟩)) (fun _ hk_=>hk_) (fun k_ h_=>.inr (Nat.le_trans (below_size HB.out) h_)) HB.out (below_size HB.out) (by first|(have:=LMc128.out;simp only[List.length_nil] at *;omega)|(have:=LMc128.out;simp at *;omega)) ?_;intro v130 w131 hn1 hb1 hg1 hat1);replace hat1:=za hat1;refine stop_ ?_)
         refine zg ?_
         replace hat1:=hat1.out
         replace HF0:=za (Kd.F_mono (Kd.F_after (v:=v120) (ok:=(fun k_=>(P_ k_∨w.heap.size≤k_))) (Kd.F_mono (ok:=(fun k_=>(P_ k_∨w.heap.size≤k_)∧some k_≠(v120:Value).ownBlock)) HF0.out (fun k_ hk_=>⟨hk_.1,hk_.2⟩)) hg1 hat1) (fun k_ hk_=>hk_):Kd.F k37 _ (fun k_=>(P_ k_∨w.heap.size≤k_)∧some k_≠(v130:Value).ownBlock) _ _ _)
         replace HB:=za hb1
         clear HN122
         have HN132:=za hn1
         clear hn1 hb1 hg1 hat1
         replace HN132:=za (by rw[NYy129.out];exact HN132.out:Kd.N k37 37 w131 w.heap.size (fun k_=>(P_ k_∨w.heap.size≤k_)) v130 y129)
         clear hx123_0 hx123_1 hx123_2 p123 q123
         refine wpList_nil ?_
         change wpAnyLast _ _ _ _ _ _ 1 #[true,true,true,true,true,true,true,true,true,true,true,true,true,true,true,true,true,true,false] ⟨[_,_,_,_,_,_,_,_,_,_,_,_,_,_,_,_,_,_,_,_,_,_,_,_,_,_,_,_,_,_,_,_,_,_,_,_,_,_,_,_,_,_,_,_,_,_,_,_,_,_,_,_,_,_,_,_,_,_,_,_,_,_,_,_,_,_,_,_,_,_,_,_,_,_,_,_,_,_,_,_,_,_,_,_,_,_,_,_,_,_].toArray,[]⟩ _
         refine zlp 18 (v130) #[_,_,_,_,_,_,_,_,_,_,_,_,_,_,_,_,_,_,_] ⟨[_,_,_,_,_,_,_,_,_,_,_,_,_,_,_,_,_,_,_,_,_,_,_,_,_,_,_,_,_,_,_,_,_,_,_,_,_,_,_,_,_,_,_,_,_,_,_,_,_,_,_,_,_,_,_,_,_,_,_,_,_,_,_,_,_,_,_,_,_,_,_,_,_,_,_,_,_,_,_,_,_,_,_,_,_,_,_,_,_,_].toArray,[]⟩ (h:=?_)
         refine MW.last_done (by kernel_rfl) ?_ _
         clear hwr_
         go_wp2
         go_roundg k27
         case measure=>have:=HK0.out;have:=HK1.out;omega
         case rel=>exact⟨y129,t32,(by first|rfl|(simp;done)|(simp[*];done)),HH,⟨by have:=HK0.out;have:=HK1.out;omega⟩,⟨HF0.out⟩,⟨(Kd.N_mono (ok:=(fun k_=>(P_ k_∨w.heap.size≤k_))) HN132.out (fun k_ hk_=>hk_))⟩,⟨HB.out⟩⟩
        obtain⟨HH,LMc136⟩:=zlm HH
        obtain⟨y137,hy137⟩:∃ y_:List (S37),y_=(x23++[(⟨x26,wrap32 (t32 - 1),t35⟩:S37)]):=⟨_,rfl⟩
        have H:((toponymref02_Build.l1 k27 y137 t32 l0))=some (r1,r2):=by rw[hy137];exact HH.out
        replace HH:=za H
        clear H
        have NYy137:=za hy137
        clear hy137
        go_wp2_with (((with_reducible refine gate_dst (N:=42) rfl ?_);(try(refine gate_guard (by rfl) ?_;dsimp only));refine Kd.N_append k37 w.heap.size rfl _ _ 22 37 (.agg #[(.int .i32 0),(.int .i32 0),(.int .i64 0)]) 16 rfl Try.underlying22 info37 rfl (by decide) (by decide) ((.slice (some ad53) x23.length cp39)) x23 (⟨x26,wrap32 (t32 - 1),t35⟩:S37) [.int .i32 x26,.int .i32 (wrap32 (t32 - 1)),.int .i64 t35] (fun k_=>(P_ k_∨w.heap.size≤k_)) (fun k_=>(fun k_=>(P_ k_∨w.heap.size≤k_)) k_∧some k_≠((.slice (some ad53) x23.length cp39):Value).ownBlock) rfl rfl (k37_mkF _ _ (⟨x26,wrap32 (t32 - 1),t35⟩:S37)) (fun _ hk_=>hk_) (fun k_ h_=>.inr (Nat.le_trans (below_size (by repeat(first|(with_reducible first|exact HB.out|apply below_alloc|apply pw_below_drewN|apply below_drew1)|exact HB.out))) h_)) (by(with_reducible repeat(first|apply Kd.N_alloc|apply Kd.N_drewN|apply Kd.N_drew));exact HN25.out) (by repeat(first|(with_reducible first|exact HB.out|apply below_alloc|apply pw_below_drewN|apply below_drew1)|exact HB.out)) (below_size (by repeat(first|(with_reducible first|exact HB.out|apply below_alloc|apply pw_below_drewN|apply below_drew1)|exact HB.out))) (by first|(have:=LMc136.out;omega)|(have:=LMc136.out;simp at *;omega)) ?_;intro v138 w139 hn1 hb1 hg1 hat1);replace hat1:=za hat1;refine stop_ ?_)
        refine zg ?_
        replace hat1:=hat1.out
        replace HF0:=za (Kd.F_mono (Kd.F_after (v:=(.slice (some ad53) x23.length cp39)) (ok:=(fun k_=>(P_ k_∨w.heap.size≤k_))) (Kd.F_mono (ok:=(fun k_=>(P_ k_∨w.heap.size≤k_)∧some k_≠((.slice (some ad53) x23.length cp39):Value).ownBlock)) (by(with_reducible repeat(first|apply Kd.F_alloc|apply Kd.F_drewN|apply Kd.F_drew));exact HF0.out) (fun k_ hk_=>⟨hk_.1,hk_.2⟩)) hg1 hat1) (fun k_ hk_=>hk_):Kd.F k37 _ (fun k_=>(P_ k_∨w.heap.size≤k_)∧some k_≠(v138:Value).ownBlock) _ _ _)
        replace HB:=za hb1
        clear HN25
        have HN140:=za hn1
        clear hn1 hb1 hg1 hat1
        replace HN140:=za (by rw[NYy137.out];exact HN140.out:Kd.N k37 37 w139 w.heap.size (fun k_=>(P_ k_∨w.heap.size≤k_)) v138 y137)
        clear hx53_0 hx53_1 hx53_2 p53 q53
        go_wp2
        go_roundg k27
        case measure=>have:=HK0.out;have:=HK1.out;omega
        case rel=>exact⟨y137,t32,(by first|rfl|(simp;done)|(simp[*];done)),HH,⟨by have:=HK0.out;have:=HK1.out;omega⟩,⟨HF0.out⟩,⟨(Kd.N_mono (ok:=(fun k_=>(P_ k_∨w.heap.size≤k_))) HN140.out (fun k_ hk_=>hk_))⟩,⟨HB.out⟩⟩
       obtain⟨HH,LMc143⟩:=zlm HH
       obtain⟨y144,hy144⟩:∃ y_:List (S37),y_=(x23++[(⟨x26,wrap32 (t32 - 1),t35⟩:S37)]):=⟨_,rfl⟩
       have H:((toponymref02_Build.l1 k27 y144 t32 l0))=some (r1,r2):=by rw[hy144];exact HH.out
       replace HH:=za H
       clear H
       have NYy144:=za hy144
       clear hy144
       go_wp2_with (((with_reducible refine gate_dst (N:=42) rfl ?_);(try(refine gate_guard (by rfl) ?_;dsimp only));refine Kd.N_append k37 w.heap.size rfl _ _ 22 37 (.agg #[(.int .i32 0),(.int .i32 0),(.int .i64 0)]) 16 rfl Try.underlying22 info37 rfl (by decide) (by decide) ((.slice (some ad53) x23.length cp39)) x23 (⟨x26,wrap32 (t32 - 1),t35⟩:S37) [.int .i32 x26,.int .i32 (wrap32 (t32 - 1)),.int .i64 t35] (fun k_=>(P_ k_∨w.heap.size≤k_)) (fun k_=>(fun k_=>(P_ k_∨w.heap.size≤k_)) k_∧some k_≠((.slice (some ad53) x23.length cp39):Value).ownBlock) rfl rfl (k37_mkF _ _ (⟨x26,wrap32 (t32 - 1),t35⟩:S37)) (fun _ hk_=>hk_) (fun k_ h_=>.inr (Nat.le_trans (below_size (by repeat(first|(with_reducible first|exact HB.out|apply below_alloc|apply pw_below_drewN|apply below_drew1)|exact HB.out))) h_)) (by(with_reducible repeat(first|apply Kd.N_alloc|apply Kd.N_drewN|apply Kd.N_drew));exact HN25.out) (by repeat(first|(with_reducible first|exact HB.out|apply below_alloc|apply pw_below_drewN|apply below_drew1)|exact HB.out)) (below_size (by repeat(first|(with_reducible first|exact HB.out|apply below_alloc|apply pw_below_drewN|apply below_drew1)|exact HB.out))) (by first|(have:=LMc143.out;omega)|(have:=LMc143.out;simp at *;omega)) ?_;intro v145 w146 hn1 hb1 hg1 hat1);replace hat1:=za hat1;refine stop_ ?_)
       refine zg ?_
       replace hat1:=hat1.out
       replace HF0:=za (Kd.F_mono (Kd.F_after (v:=(.slice (some ad53) x23.length cp39)) (ok:=(fun k_=>(P_ k_∨w.heap.size≤k_))) (Kd.F_mono (ok:=(fun k_=>(P_ k_∨w.heap.size≤k_)∧some k_≠((.slice (some ad53) x23.length cp39):Value).ownBlock)) (by(with_reducible repeat(first|apply Kd.F_alloc|apply Kd.F_drewN|apply Kd.F_drew));exact HF0.out) (fun k_ hk_=>⟨hk_.1,hk_.2⟩)) hg1 hat1) (fun k_ hk_=>hk_):Kd.F k37 _ (fun k_=>(P_ k_∨w.heap.size≤k_)∧some k_≠(v145:Value).ownBlock) _ _ _)
       replace HB:=za hb1
       clear HN25
       have HN147:=za hn1
       clear hn1 hb1 hg1 hat1
       replace HN147:=za (by rw[NYy144.out];exact HN147.out:Kd.N k37 37 w146 w.heap.size (fun k_=>(P_ k_∨w.heap.size≤k_)) v145 y144)
       clear hx53_0 hx53_1 hx53_2 p53 q53
       go_wp2
       go_roundg k27
       case measure=>have:=HK0.out;have:=HK1.out;omega
       case rel=>exact⟨y144,t32,(by first|rfl|(simp;done)|(simp[*];done)),HH,⟨by have:=HK0.out;have:=HK1.out;omega⟩,⟨HF0.out⟩,⟨(Kd.N_mono (ok:=(fun k_=>(P_ k_∨w.heap.size≤k_))) HN147.out (fun k_ hk_=>hk_))⟩,⟨HB.out⟩⟩
      obtain⟨HH,LMc153⟩:=zlm HH
      obtain⟨y154,hy154⟩:∃ y_:List (S37),y_=(x23++[(⟨x26,wrap32 (t32 - 1),t35⟩:S37)]):=⟨_,rfl⟩
      have H:((toponymref02_Build.l1 k27 y154 t32 l0))=some (r1,r2):=by rw[hy154];exact HH.out
      replace HH:=za H
      clear H
      have NYy154:=za hy154
      clear hy154
      go_wp2_with (((with_reducible refine gate_dst (N:=42) rfl ?_);(try(refine gate_guard (by rfl) ?_;dsimp only));refine Kd.N_append k37 w.heap.size rfl _ _ 22 37 (.agg #[(.int .i32 0),(.int .i32 0),(.int .i64 0)]) 16 rfl Try.underlying22 info37 rfl (by decide) (by decide) ((.slice A38 x23.length cp39)) x23 (⟨x26,wrap32 (t32 - 1),t35⟩:S37) [.int .i32 x26,.int .i32 (wrap32 (t32 - 1)),.int .i64 t35] (fun k_=>(P_ k_∨w.heap.size≤k_)) (fun k_=>(fun k_=>(P_ k_∨w.heap.size≤k_)) k_∧some k_≠((.slice A38 x23.length cp39):Value).ownBlock) rfl rfl (k37_mkF _ _ (⟨x26,wrap32 (t32 - 1),t35⟩:S37)) (fun _ hk_=>hk_) (fun k_ h_=>.inr (Nat.le_trans (below_size (by repeat(first|(with_reducible first|exact HB.out|apply below_alloc|apply pw_below_drewN|apply below_drew1)|exact HB.out))) h_)) (by(with_reducible repeat(first|apply Kd.N_alloc|apply Kd.N_drewN|apply Kd.N_drew));exact HN25.out) (by repeat(first|(with_reducible first|exact HB.out|apply below_alloc|apply pw_below_drewN|apply below_drew1)|exact HB.out)) (below_size (by repeat(first|(with_reducible first|exact HB.out|apply below_alloc|apply pw_below_drewN|apply below_drew1)|exact HB.out))) (by first|(have:=LMc153.out;omega)|(have:=LMc153.out;simp at *;omega)) ?_;intro v155 w156 hn1 hb1 hg1 hat1);replace hat1:=za hat1;refine stop_ ?_)
      refine zg ?_
      replace hat1:=hat1.out
      replace HF0:=za (Kd.F_mono (Kd.F_after (v:=(.slice A38 x23.length cp39)) (ok:=(fun k_=>(P_ k_∨w.heap.size≤k_))) (Kd.F_mono (ok:=(fun k_=>(P_ k_∨w.heap.size≤k_)∧some k_≠((.slice A38 x23.length cp39):Value).ownBlock)) (by(with_reducible repeat(first|apply Kd.F_alloc|apply Kd.F_drewN|apply Kd.F_drew));exact HF0.out) (fun k_ hk_=>⟨hk_.1,hk_.2⟩)) hg1 hat1) (fun k_ hk_=>hk_):Kd.F k37 _ (fun k_=>(P_ k_∨w.heap.size≤k_)∧some k_≠(v155:Value).ownBlock) _ _ _)
      replace HB:=za hb1
      clear HN25
      have HN157:=za hn1
      clear hn1 hb1 hg1 hat1
      replace HN157:=za (by rw[NYy154.out];exact HN157.out:Kd.N k37 37 w156 w.heap.size (fun k_=>(P_ k_∨w.heap.size≤k_)) v155 y154)
      go_wp2
      go_roundg k27
      case measure=>have:=HK0.out;have:=HK1.out;omega
      case rel=>exact⟨y154,t32,(by first|rfl|(simp;done)|(simp[*];done)),HH,⟨by have:=HK0.out;have:=HK1.out;omega⟩,⟨HF0.out⟩,⟨(Kd.N_mono (ok:=(fun k_=>(P_ k_∨w.heap.size≤k_))) HN157.out (fun k_ hk_=>hk_))⟩,⟨HB.out⟩⟩
     have H:=HH.out
     simp only[Option.some.injEq,Prod.mk.injEq] at H
     obtain⟨rfl,rfl⟩:=H
     clear HH
     go_wp2
     go_ret2
     exact⟨_,by first|rfl|(simp;done)|(simp[*];done),(Kd.N_mono (ok:=(fun k_=>(P_ k_∨w.heap.size≤k_))) HN25.out (fun k_ hk_=>hk_)),HB.out⟩
end Go.Proofs.Ytcokpnajkkjclaa.GA
