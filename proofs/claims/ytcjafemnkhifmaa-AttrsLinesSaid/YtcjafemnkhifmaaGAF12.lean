import Derived.Test.YtcjafemnkhifmaaGA0
import Derived.Test.YtcjafemnkhifmaaGM1
import Derived.Test.YtcjafemnkhifmaaMX
namespace Go.Proofs.Ytcjafemnkhifmaa.GA
open Go.RowKit Go.Proofs.Ytcjafemnkhifmaa Go.Proofs.Ytcjafemnkhifmaa.MW Go.Proofs.YtcjafemnkhifmaaW.PrintWords Go.Proofs.YtcjafemnkhifmaaW.PrintLast Go.Proofs.YtcjafemnkhifmaaW.PrintMore
attribute [local go_sem] max2_int min2_int max_two min_two
set_option maxHeartbeats 8000000
set_option maxRecDepth 100000
set_option linter.unusedVariables false
set_option linter.unusedSimpArgs false
def toponymref20_Check.l0:Nat→Int→(List (S26))→Option (Int)
 |0,_,_=>none
 |k+1,x6,l0=>if x6<(l0.length:Int) then(if 0≤x6 then((toponymref20_one.f k l0 ((rd_T26 l0 x6).f0) ((rd_T26 l0 x6).f1) ((rd_T26 l0 x6).f2) ((rd_T26 l0 x6).f3) ((rd_T26 l0 x6).f4) ((rd_T26 l0 x6).f5)).bind fun t17=>(if t17=true then(if x6>0 then(if 0≤(wrap64 (x6 - 1)) then(if (wrap64 (x6 - 1))<(l0.length:Int) then(if (Op.bytesLess (((rd_T26 l0 (wrap64 (x6 - 1))).f0).toList) (((rd_T26 l0 x6).f0).toList))=true then((toponymref20_Check.l0 k (wrap64 (x6+1)) l0)) else(some 190)) else(none)) else(none)) else((toponymref20_Check.l0 k (wrap64 (x6+1)) l0))) else(some 190))) else(none)) else(some 0)
def toponymref20_Check.f (k:Nat) (l0:List (S26)):Option (Int):=if (l0.length:Int)>24 then(some 190) else((toponymref20_Check.l0 k 0 l0))
theorem toponymref20_Check.mono_l:∀ k,(∀ y0 y1,LeO (toponymref20_Check.l0 k y0 y1) (toponymref20_Check.l0 (k+1) y0 y1))
 |0=>fun _ _ r h=>by simp[toponymref20_Check.l0] at h
 |k+1=>by
  have ih0:=toponymref20_Check.mono_l k
  ·intro y0 y1
   unfold toponymref20_Check.l0
   with_reducible repeat' first|exact ih0 _ _|exact toponymref20_one.mono _ _ _ _ _ _ _ _|exact LeO.refl _|exact LeO.none _|refine LeO.ite ?_ ?_|refine LeO.bind ?_ (fun _=>?_)
theorem toponymref20_Check.mono:∀ a0_ k,LeO (toponymref20_Check.f k a0_) (toponymref20_Check.f (k+1) a0_):=by
 intro a0_ k
 have ih0:=toponymref20_Check.mono_l k
 unfold toponymref20_Check.f
 with_reducible repeat' first|exact ih0 _ _|exact toponymref20_one.mono _ _ _ _ _ _ _ _|exact LeO.refl _|exact LeO.none _|refine LeO.ite ?_ ?_|refine LeO.bind ?_ (fun _=>?_)
theorem toponymref20_Check.calls (k:Nat) (P_:Nat→Prop) (A0:Option Addr) (c0:Nat) (l0:List (S26)) (r:Int) (w:World) (hs0:Kd.F k26 w P_ A0 l0.length l0) (hc0:l0.length≤c0) (h:toponymref20_Check.f k l0=some r):
  Calls Try.prog 12 #[.slice A0 l0.length c0] w (fun e w'=>e=.returned (.int .i64 r)∧Below w.heap.size w w'):=by
 unfold toponymref20_Check.f at h
 have HH:=za h
 clear h
 have HF0:=zfp hs0
 have HL0:=za hc0
 clear hs0 hc0
 have HB:=za (Below.refl w.heap.size w)
 have hu26:=Try.underlying26
 go_enter Try.func12,Try.ntmps12
 replace HH:=zqK 24 HH
 rcases HH with⟨HH,hk2,hk3⟩|⟨HH,hk4,hk5⟩
 ·obtain rfl:=Option.some.inj HH.out
  clear HH
  go_wp2
  go_ret
  exact zfi HB.out
 go_wp2
 go_loopg [3] k (fun kq u3 w'=>∃ (x6:Int),u3=.int .i64 x6∧Aside0 ((toponymref20_Check.l0 kq x6 l0)=some r)∧Aside0 (kq≤k)∧Aside0 (Kd.F k26 w' (fun k_=>(P_ k_∨w.heap.size≤k_)) A0 l0.length l0)∧Aside0 (Below w.heap.size w w'))
 case atStart=>exact⟨0,(by first|rfl|(simp;done)|(simp[*];done)),HH,⟨Nat.le_refl _⟩,⟨HF0.out⟩,⟨HB.out⟩⟩
 case round=>
  clear hk4
  clear hk5
  clear HH
  clear HF0 HB
  obtain⟨x6,rfl,HA,HK0,HF0,HB⟩:=hrel
  obtain⟨w8,rfl⟩:∃ wo_:World,wo_=wr:=⟨_,rfl⟩
  cases gk with
  |zero=>exact absurd HA.out (by simp[toponymref20_Check.l0])
  |succ k9=>
   have H:=HA.out
   clear HA
   simp only[toponymref20_Check.l0] at H
   have HH:=za H
   clear H
   replace HH:=zqt HH
   rcases HH with⟨HH,hk11,hk12⟩|⟨HH,hk38,hk39⟩
   ·go_wp2
    have hwr_:∀ n_:Int,IntKind.i64.wrap n_=wrap64 n_:=fun n_=>IntWalk.i64_left n_
    refine wp_region_any (by kernel_rfl) ?_
    change wpAny _ _ _ _ 25 #[false,false,false,false,false,false,false,false,false,false,false,false,false,false,false,false,false,false,false,false,false,false,false,false,false] _ w8.drew
    obtain⟨w13,hw_⟩:∃ w_:World,w_=w8.drew:=⟨_,rfl⟩
    rw[← hw_]
    have hb:Below w8.heap.size w8 w13:=by rw[hw_];exact below_drew1 (Below.refl _ _)
    clear hw_
    replace HF0:=zfb HF0.out hb
    replace HB:=zhb HB.out hb
    clear hb
    refine zt 0 (.slice A0 l0.length c0) #[_,_,_,_,_,_,_,_,_,_,_,_,_,_,_,_,_,_,_,_,_,_,_,_,_] ⟨[_,_,_,_,_,_,_,_,_,_,_,_,_,_,_,_,_,_,_,_,_,_,_,_,_,_,_,_,_,_,_,_,_,_,_,_,_,_].toArray,[]⟩ (h:=?_)
    refine zt 1 (.slice A0 l0.length c0) #[_,_,_,_,_,_,_,_,_,_,_,_,_,_,_,_,_,_,_,_,_,_,_,_,_] ⟨[_,_,_,_,_,_,_,_,_,_,_,_,_,_,_,_,_,_,_,_,_,_,_,_,_,_,_,_,_,_,_,_,_,_,_,_,_,_].toArray,[]⟩ (h:=?_)
    refine zt 2 (.int .i64 x6) #[_,_,_,_,_,_,_,_,_,_,_,_,_,_,_,_,_,_,_,_,_,_,_,_,_] ⟨[_,_,_,_,_,_,_,_,_,_,_,_,_,_,_,_,_,_,_,_,_,_,_,_,_,_,_,_,_,_,_,_,_,_,_,_,_,_].toArray,[]⟩ (h:=?_)
    replace HH:=zqdo HH
    obtain⟨HH,hk15⟩:=HH
    (try simp only[hk15,Bool.not_true,Bool.not_false])
    have p16:0≤(x6:Int):=of_decide_eq_true (by first|(with_reducible assumption)|assumption)
    have q16:x6<(l0.length:Int):=of_decide_eq_true (by first|(with_reducible assumption)|assumption)
    obtain⟨ad16,e16,hx16_0,hx16_1,hx16_2,hx16_3,hx16_4,hx16_5⟩:=atF_T26 HF0.out x6 p16 q16
    cases e16
    replace p16:=eq_true p16
    replace q16:=eq_true q16
    refine zt 3 (.pointer (some (ad16.add (x6.toNat*6)))) #[_,_,_,_,_,_,_,_,_,_,_,_,_,_,_,_,_,_,_,_,_,_,_,_,_] ⟨[_,_,_,_,_,_,_,_,_,_,_,_,_,_,_,_,_,_,_,_,_,_,_,_,_,_,_,_,_,_,_,_,_,_,_,_,_,_].toArray,[]⟩ (h:=?_)
    refine MW.any_one (i:=4) (v:=.agg #[.string ((rd_T26 l0 x6).f0),.string ((rd_T26 l0 x6).f1),.int .i64 ((rd_T26 l0 x6).f2),.int .i64 ((rd_T26 l0 x6).f3),.bool ((rd_T26 l0 x6).f4),.bool ((rd_T26 l0 x6).f5)]) (listed':= #[true,true,true,true,true,false,false,false,false,false,false,false,false,false,false,false,false,false,false,false,false,false,false,false,false]) (a':=⟨[(.slice (some ad16) l0.length c0),undef,u2,(.int .i64 x6),(.slice (some ad16) l0.length c0),(.int .i64 (l0.length:Int)),(.bool false),(.int .i64 x6),(.slice (some ad16) l0.length c0),(.int .i64 (l0.length:Int)),(.bool true),u11,u12,(.slice (some ad16) l0.length c0),(.slice (some ad16) l0.length c0),(.int .i64 x6),(.pointer (some (ad16.add (x6.toNat*6)))),(.agg #[.string ((rd_T26 l0 x6).f0),.string ((rd_T26 l0 x6).f1),.int .i64 ((rd_T26 l0 x6).f2),.int .i64 ((rd_T26 l0 x6).f3),.bool ((rd_T26 l0 x6).f4),.bool ((rd_T26 l0 x6).f5)]),u18,u19,u20,u21,u22,u23,u24,u25,u26,u27,u28,u29,u30,u31,u32,u33,u34,u35,u36,u37].toArray,[]⟩) rfl (by kernel_rfl) (by kernel_rfl) (by first|rfl|(go_simp;done)|(go_simp;rfl)) (by kernel_rfl) (by kernel_rfl) ?_
    refine MW.any_act (i:=5) (listed':= #[true,true,true,true,true,true,false,false,false,false,false,false,false,false,false,false,false,false,false,false,false,false,false,false,false]) rfl (by kernel_rfl) (by kernel_rfl) ?_
    replace HH:=zd HH
    obtain⟨t17,At18,HH⟩:=HH
    go_wp2_with ((with_reducible refine gc 28 rfl ?_);refine zc 28 (some 18) Try.func28 #[.slice (some ad16) l0.length c0,.agg #[.string ((rd_T26 l0 x6).f0),.string ((rd_T26 l0 x6).f1),.int .i64 ((rd_T26 l0 x6).f2),.int .i64 ((rd_T26 l0 x6).f3),.bool ((rd_T26 l0 x6).f4),.bool ((rd_T26 l0 x6).f5)]] (h:=?_);(with_reducible refine(toponymref20_one.calls k9 (fun k_=>(P_ k_∨w.heap.size≤k_)) _ _ l0 ((rd_T26 l0 x6).f0) ((rd_T26 l0 x6).f1) ((rd_T26 l0 x6).f2) ((rd_T26 l0 x6).f3) ((rd_T26 l0 x6).f4) ((rd_T26 l0 x6).f5) t17 _ HF0.out HL0.out At18.out).mono ?_);rintro e w19 ⟨rfl,hb⟩;refine⟨_,rfl,?_⟩)
    refine zg ?_
    replace HF0:=zfb HF0.out hb
    replace HB:=zhb HB.out hb
    clear hb
    clear hx16_0 hx16_1 hx16_2 hx16_3 hx16_4 hx16_5 p16 q16
    refine wpList_nil ?_
    change wpAny _ _ _ _ 19 #[true,true,true,true,true,true,false,false,false,false,false,false,false,false,false,false,false,false,false,false,false,false,false,false,false] ⟨[(.slice (some ad16) l0.length c0),undef,u2,(.int .i64 x6),(.slice (some ad16) l0.length c0),(.int .i64 (l0.length:Int)),(.bool false),(.int .i64 x6),(.slice (some ad16) l0.length c0),(.int .i64 (l0.length:Int)),(.bool true),u11,u12,(.slice (some ad16) l0.length c0),(.slice (some ad16) l0.length c0),(.int .i64 x6),(.pointer (some (ad16.add (x6.toNat*6)))),(.agg #[.string ((rd_T26 l0 x6).f0),.string ((rd_T26 l0 x6).f1),.int .i64 ((rd_T26 l0 x6).f2),.int .i64 ((rd_T26 l0 x6).f3),.bool ((rd_T26 l0 x6).f4),.bool ((rd_T26 l0 x6).f5)]),(.bool t17),u19,u20,u21,u22,u23,u24,u25,u26,u27,u28,u29,u30,u31,u32,u33,u34,u35,u36,u37].toArray,[]⟩ _
    refine zt 6 (.bool (!t17)) #[_,_,_,_,_,_,_,_,_,_,_,_,_,_,_,_,_,_,_,_,_,_,_,_,_] ⟨[_,_,_,_,_,_,_,_,_,_,_,_,_,_,_,_,_,_,_,_,_,_,_,_,_,_,_,_,_,_,_,_,_,_,_,_,_,_].toArray,[]⟩ (h:=?_)
    refine zt 7 (.bool (!t17)) #[_,_,_,_,_,_,_,_,_,_,_,_,_,_,_,_,_,_,_,_,_,_,_,_,_] ⟨[_,_,_,_,_,_,_,_,_,_,_,_,_,_,_,_,_,_,_,_,_,_,_,_,_,_,_,_,_,_,_,_,_,_,_,_,_,_].toArray,[]⟩ (h:=?_)
    by_cases c20:t17=true
    ·replace HH:=MW.hpos HH c20
     subst c20
     refine zt 8 (.int .i64 x6) #[_,_,_,_,_,_,_,_,_,_,_,_,_,_,_,_,_,_,_,_,_,_,_,_,_] ⟨[_,_,_,_,_,_,_,_,_,_,_,_,_,_,_,_,_,_,_,_,_,_,_,_,_,_,_,_,_,_,_,_,_,_,_,_,_,_].toArray,[]⟩ (h:=?_)
     refine zt 9 (.bool (decide (x6>0))) #[_,_,_,_,_,_,_,_,_,_,_,_,_,_,_,_,_,_,_,_,_,_,_,_,_] ⟨[_,_,_,_,_,_,_,_,_,_,_,_,_,_,_,_,_,_,_,_,_,_,_,_,_,_,_,_,_,_,_,_,_,_,_,_,_,_].toArray,[]⟩ (h:=?_)
     refine zt 10 (.bool (decide (x6>0))) #[_,_,_,_,_,_,_,_,_,_,_,_,_,_,_,_,_,_,_,_,_,_,_,_,_] ⟨[_,_,_,_,_,_,_,_,_,_,_,_,_,_,_,_,_,_,_,_,_,_,_,_,_,_,_,_,_,_,_,_,_,_,_,_,_,_].toArray,[]⟩ (h:=?_)
     replace HH:=zqg HH
     rcases HH with⟨HH,hk22⟩|⟨HH,hk36⟩
     ·(try simp only[hk22,Bool.not_true,Bool.not_false])
      refine zt 11 (.slice (some ad16) l0.length c0) #[_,_,_,_,_,_,_,_,_,_,_,_,_,_,_,_,_,_,_,_,_,_,_,_,_] ⟨[_,_,_,_,_,_,_,_,_,_,_,_,_,_,_,_,_,_,_,_,_,_,_,_,_,_,_,_,_,_,_,_,_,_,_,_,_,_].toArray,[]⟩ (h:=?_)
      refine zt 12 (.int .i64 x6) #[_,_,_,_,_,_,_,_,_,_,_,_,_,_,_,_,_,_,_,_,_,_,_,_,_] ⟨[_,_,_,_,_,_,_,_,_,_,_,_,_,_,_,_,_,_,_,_,_,_,_,_,_,_,_,_,_,_,_,_,_,_,_,_,_,_].toArray,[]⟩ (h:=?_)
      refine zt 13 (.int .i64 (wrap64 (x6 - 1))) #[_,_,_,_,_,_,_,_,_,_,_,_,_,_,_,_,_,_,_,_,_,_,_,_,_] ⟨[_,_,_,_,_,_,_,_,_,_,_,_,_,_,_,_,_,_,_,_,_,_,_,_,_,_,_,_,_,_,_,_,_,_,_,_,_,_].toArray,[]⟩ (h:=?_)
      replace HH:=zqdo HH
      obtain⟨HH,hk24⟩:=HH
      (try simp only[hk24,Bool.not_true,Bool.not_false])
      replace HH:=zqto HH
      obtain⟨HH,hk26,hk27⟩:=HH
      (try simp only[hk26,Bool.not_true,Bool.not_false])
      (try simp only[hk27,Bool.not_true,Bool.not_false])
      have p28:0≤((wrap64 (x6 - 1)):Int):=of_decide_eq_true (by first|(with_reducible assumption)|assumption)
      have q28:(wrap64 (x6 - 1))<(l0.length:Int):=of_decide_eq_true (by first|(with_reducible assumption)|assumption)
      obtain⟨ad28,e28,hx28_0,hx28_1,hx28_2,hx28_3,hx28_4,hx28_5⟩:=atF_T26 HF0.out (wrap64 (x6 - 1)) p28 q28
      cases e28
      replace p28:=eq_true p28
      replace q28:=eq_true q28
      refine zt 14 (.pointer (some (ad16.add ((wrap64 (x6 - 1)).toNat*6)))) #[_,_,_,_,_,_,_,_,_,_,_,_,_,_,_,_,_,_,_,_,_,_,_,_,_] ⟨[_,_,_,_,_,_,_,_,_,_,_,_,_,_,_,_,_,_,_,_,_,_,_,_,_,_,_,_,_,_,_,_,_,_,_,_,_,_].toArray,[]⟩ (h:=?_)
      refine zt 15 (.pointer (some (ad16.add ((wrap64 (x6 - 1)).toNat*6)))) #[_,_,_,_,_,_,_,_,_,_,_,_,_,_,_,_,_,_,_,_,_,_,_,_,_] ⟨[_,_,_,_,_,_,_,_,_,_,_,_,_,_,_,_,_,_,_,_,_,_,_,_,_,_,_,_,_,_,_,_,_,_,_,_,_,_].toArray,[]⟩ (h:=?_)
      refine zt 17 (.slice (some ad16) l0.length c0) #[_,_,_,_,_,_,_,_,_,_,_,_,_,_,_,_,_,_,_,_,_,_,_,_,_] ⟨[_,_,_,_,_,_,_,_,_,_,_,_,_,_,_,_,_,_,_,_,_,_,_,_,_,_,_,_,_,_,_,_,_,_,_,_,_,_].toArray,[]⟩ (h:=?_)
      refine zt 18 (.int .i64 x6) #[_,_,_,_,_,_,_,_,_,_,_,_,_,_,_,_,_,_,_,_,_,_,_,_,_] ⟨[_,_,_,_,_,_,_,_,_,_,_,_,_,_,_,_,_,_,_,_,_,_,_,_,_,_,_,_,_,_,_,_,_,_,_,_,_,_].toArray,[]⟩ (h:=?_)
      have p29:0≤(x6:Int):=of_decide_eq_true (by first|(with_reducible assumption)|assumption)
      have q29:x6<(l0.length:Int):=of_decide_eq_true (by first|(with_reducible assumption)|assumption)
      obtain⟨ad29,e29,hx29_0,hx29_1,hx29_2,hx29_3,hx29_4,hx29_5⟩:=atF_T26 HF0.out x6 p29 q29
      cases e29
      replace p29:=eq_true p29
      replace q29:=eq_true q29
      refine zt 19 (.pointer (some (ad16.add (x6.toNat*6)))) #[_,_,_,_,_,_,_,_,_,_,_,_,_,_,_,_,_,_,_,_,_,_,_,_,_] ⟨[_,_,_,_,_,_,_,_,_,_,_,_,_,_,_,_,_,_,_,_,_,_,_,_,_,_,_,_,_,_,_,_,_,_,_,_,_,_].toArray,[]⟩ (h:=?_)
      refine zt 20 (.pointer (some (ad16.add (x6.toNat*6)))) #[_,_,_,_,_,_,_,_,_,_,_,_,_,_,_,_,_,_,_,_,_,_,_,_,_] ⟨[_,_,_,_,_,_,_,_,_,_,_,_,_,_,_,_,_,_,_,_,_,_,_,_,_,_,_,_,_,_,_,_,_,_,_,_,_,_].toArray,[]⟩ (h:=?_)
      refine MW.any_two (i:=16) (j:=21) (vi:=.string ((rd_T26 l0 (wrap64 (x6 - 1))).f0)) (vj:=.string ((rd_T26 l0 x6).f0)) #[true,true,true,true,true,true,true,true,true,true,true,true,true,true,true,true,true,true,true,true,true,true,false,false,false] ⟨[(.slice (some ad16) l0.length c0),undef,u2,(.int .i64 x6),(.slice (some ad16) l0.length c0),(.int .i64 (l0.length:Int)),(.bool false),(.int .i64 x6),(.slice (some ad16) l0.length c0),(.int .i64 (l0.length:Int)),(.bool true),u11,u12,(.slice (some ad16) l0.length c0),(.slice (some ad16) l0.length c0),(.int .i64 x6),(.pointer (some (ad16.add (x6.toNat*6)))),(.agg #[.string ((rd_T26 l0 x6).f0),.string ((rd_T26 l0 x6).f1),.int .i64 ((rd_T26 l0 x6).f2),.int .i64 ((rd_T26 l0 x6).f3),.bool ((rd_T26 l0 x6).f4),.bool ((rd_T26 l0 x6).f5)]),(.bool true),(.bool false),(.bool false),(.int .i64 x6),(.bool true),(.bool true),(.slice (some ad16) l0.length c0),(.int .i64 x6),(.int .i64 (wrap64 (x6 - 1))),(.pointer (some (ad16.add ((wrap64 (x6 - 1)).toNat*6)))),(.pointer (some (ad16.add ((wrap64 (x6 - 1)).toNat*6)))),(.string ((rd_T26 l0 (wrap64 (x6 - 1))).f0)),(.slice (some ad16) l0.length c0),(.int .i64 x6),(.pointer (some (ad16.add (x6.toNat*6)))),(.pointer (some (ad16.add (x6.toNat*6)))),(.string ((rd_T26 l0 x6).f0)),u35,u36,u37].toArray,[]⟩ (by decide) rfl rfl (by kernel_rfl) (by kernel_rfl) (by kernel_rfl) (by kernel_rfl) (by kernel_rfl) (by first|rfl|(go_simp;done)|(go_simp;rfl)) (by first|rfl|(go_simp;done)|(go_simp;rfl)) (by first|rfl|(go_simp;done)|(go_simp;rfl)) (by first|rfl|(go_simp;done)|(go_simp;rfl)) (by kernel_rfl) (by kernel_rfl) (by kernel_rfl) (by kernel_rfl) (by kernel_rfl) (by kernel_rfl) ?_
      refine zt 22 (.bool (!(Op.bytesLess (((rd_T26 l0 (wrap64 (x6 - 1))).f0).toList) (((rd_T26 l0 x6).f0).toList)))) #[_,_,_,_,_,_,_,_,_,_,_,_,_,_,_,_,_,_,_,_,_,_,_,_,_] ⟨[_,_,_,_,_,_,_,_,_,_,_,_,_,_,_,_,_,_,_,_,_,_,_,_,_,_,_,_,_,_,_,_,_,_,_,_,_,_].toArray,[]⟩ (h:=?_)
      refine zt 23 (.bool (!(Op.bytesLess (((rd_T26 l0 (wrap64 (x6 - 1))).f0).toList) (((rd_T26 l0 x6).f0).toList)))) #[_,_,_,_,_,_,_,_,_,_,_,_,_,_,_,_,_,_,_,_,_,_,_,_,_] ⟨[_,_,_,_,_,_,_,_,_,_,_,_,_,_,_,_,_,_,_,_,_,_,_,_,_,_,_,_,_,_,_,_,_,_,_,_,_,_].toArray,[]⟩ (h:=?_)
      refine zt 24 (.bool (!(Op.bytesLess (((rd_T26 l0 (wrap64 (x6 - 1))).f0).toList) (((rd_T26 l0 x6).f0).toList)))) #[_,_,_,_,_,_,_,_,_,_,_,_,_,_,_,_,_,_,_,_,_,_,_,_,_] ⟨[_,_,_,_,_,_,_,_,_,_,_,_,_,_,_,_,_,_,_,_,_,_,_,_,_,_,_,_,_,_,_,_,_,_,_,_,_,_].toArray,[]⟩ (h:=?_)
      refine wpAny_done (by kernel_rfl) ?_ _
      clear hwr_
      by_cases c30:(Op.bytesLess (((rd_T26 l0 (wrap64 (x6 - 1))).f0).toList) (((rd_T26 l0 x6).f0).toList))=true
      ·replace HH:=MW.hpos HH c30
       have hk31:(Op.bytesLess (((rd_T26 l0 (wrap64 (x6 - 1))).f0).toList) (((rd_T26 l0 x6).f0).toList))=true:=c30
       (try simp only[hk31,Bool.not_true,Bool.not_false])
       clear c30
       go_wp2
       go_roundg k9
       case measure=>have:=HK0.out;omega
       case rel=>exact⟨wrap64 (x6+1),(by first|rfl|(simp;done)|(simp[*];done)),HH,⟨by have:=HK0.out;omega⟩,⟨HF0.out⟩,⟨HB.out⟩⟩
      replace HH:=MW.hneg HH c30
      have hk32:(Op.bytesLess (((rd_T26 l0 (wrap64 (x6 - 1))).f0).toList) (((rd_T26 l0 x6).f0).toList))=false:=by simpa using c30
      (try simp only[hk32,Bool.not_true,Bool.not_false])
      clear c30
      obtain rfl:=Option.some.inj HH.out
      clear HH
      go_wp2
      go_ret
      exact zfi HB.out
     (try simp only[hk36,Bool.not_true,Bool.not_false])
     refine MW.any_take (i:=11) (v:=undef) (listed':= #[true,true,true,true,true,true,true,true,true,true,true,true,false,false,false,false,false,false,false,false,false,false,false,false,false]) (a':=⟨[_,_,_,_,_,_,_,_,_,_,_,_,_,_,_,_,_,_,_,_,_,_,_,_,_,_,_,_,_,_,_,_,_,_,_,_,_,_].toArray,[]⟩) rfl (by kernel_rfl) (by kernel_rfl) (by kernel_rfl) (fun _ _ _ h_=>h_) (.inr ⟨(by kernel_rfl),rfl⟩) (by kernel_rfl) rfl ?_
     refine MW.any_take (i:=12) (v:=undef) (listed':= #[true,true,true,true,true,true,true,true,true,true,true,true,true,false,false,false,false,false,false,false,false,false,false,false,false]) (a':=⟨[_,_,_,_,_,_,_,_,_,_,_,_,_,_,_,_,_,_,_,_,_,_,_,_,_,_,_,_,_,_,_,_,_,_,_,_,_,_].toArray,[]⟩) rfl (by kernel_rfl) (by kernel_rfl) (by kernel_rfl) (fun _ _ _ h_=>h_) (.inr ⟨(by kernel_rfl),rfl⟩) (by kernel_rfl) rfl ?_
     refine MW.any_take (i:=13) (v:=undef) (listed':= #[true,true,true,true,true,true,true,true,true,true,true,true,true,true,false,false,false,false,false,false,false,false,false,false,false]) (a':=⟨[_,_,_,_,_,_,_,_,_,_,_,_,_,_,_,_,_,_,_,_,_,_,_,_,_,_,_,_,_,_,_,_,_,_,_,_,_,_].toArray,[]⟩) rfl (by kernel_rfl) (by kernel_rfl) (by kernel_rfl) (fun _ _ _ h_=>h_) (.inr ⟨(by kernel_rfl),rfl⟩) (by kernel_rfl) rfl ?_
     refine MW.any_take (i:=14) (v:=undef) (listed':= #[true,true,true,true,true,true,true,true,true,true,true,true,true,true,true,false,false,false,false,false,false,false,false,false,false]) (a':=⟨[_,_,_,_,_,_,_,_,_,_,_,_,_,_,_,_,_,_,_,_,_,_,_,_,_,_,_,_,_,_,_,_,_,_,_,_,_,_].toArray,[]⟩) rfl (by kernel_rfl) (by kernel_rfl) (by kernel_rfl) (fun _ _ _ h_=>h_) (.inr ⟨(by kernel_rfl),rfl⟩) (by kernel_rfl) rfl ?_
     refine MW.any_take (i:=15) (v:=undef) (listed':= #[true,true,true,true,true,true,true,true,true,true,true,true,true,true,true,true,false,false,false,false,false,false,false,false,false]) (a':=⟨[_,_,_,_,_,_,_,_,_,_,_,_,_,_,_,_,_,_,_,_,_,_,_,_,_,_,_,_,_,_,_,_,_,_,_,_,_,_].toArray,[]⟩) rfl (by kernel_rfl) (by kernel_rfl) (by kernel_rfl) (fun _ _ _ h_=>h_) (.inr ⟨(by kernel_rfl),rfl⟩) (by kernel_rfl) rfl ?_
     refine MW.any_take (i:=16) (v:=undef) (listed':= #[true,true,true,true,true,true,true,true,true,true,true,true,true,true,true,true,true,false,false,false,false,false,false,false,false]) (a':=⟨[_,_,_,_,_,_,_,_,_,_,_,_,_,_,_,_,_,_,_,_,_,_,_,_,_,_,_,_,_,_,_,_,_,_,_,_,_,_].toArray,[]⟩) rfl (by kernel_rfl) (by kernel_rfl) (by kernel_rfl) (fun _ _ _ h_=>h_) (.inr ⟨(by kernel_rfl),rfl⟩) (by kernel_rfl) rfl ?_
     refine MW.any_take (i:=17) (v:=undef) (listed':= #[true,true,true,true,true,true,true,true,true,true,true,true,true,true,true,true,true,true,false,false,false,false,false,false,false]) (a':=⟨[_,_,_,_,_,_,_,_,_,_,_,_,_,_,_,_,_,_,_,_,_,_,_,_,_,_,_,_,_,_,_,_,_,_,_,_,_,_].toArray,[]⟩) rfl (by kernel_rfl) (by kernel_rfl) (by kernel_rfl) (fun _ _ _ h_=>h_) (.inr ⟨(by kernel_rfl),rfl⟩) (by kernel_rfl) rfl ?_
     refine MW.any_take (i:=18) (v:=undef) (listed':= #[true,true,true,true,true,true,true,true,true,true,true,true,true,true,true,true,true,true,true,false,false,false,false,false,false]) (a':=⟨[_,_,_,_,_,_,_,_,_,_,_,_,_,_,_,_,_,_,_,_,_,_,_,_,_,_,_,_,_,_,_,_,_,_,_,_,_,_].toArray,[]⟩) rfl (by kernel_rfl) (by kernel_rfl) (by kernel_rfl) (fun _ _ _ h_=>h_) (.inr ⟨(by kernel_rfl),rfl⟩) (by kernel_rfl) rfl ?_
     refine MW.any_take (i:=19) (v:=undef) (listed':= #[true,true,true,true,true,true,true,true,true,true,true,true,true,true,true,true,true,true,true,true,false,false,false,false,false]) (a':=⟨[_,_,_,_,_,_,_,_,_,_,_,_,_,_,_,_,_,_,_,_,_,_,_,_,_,_,_,_,_,_,_,_,_,_,_,_,_,_].toArray,[]⟩) rfl (by kernel_rfl) (by kernel_rfl) (by kernel_rfl) (fun _ _ _ h_=>h_) (.inr ⟨(by kernel_rfl),rfl⟩) (by kernel_rfl) rfl ?_
     refine MW.any_take (i:=20) (v:=undef) (listed':= #[true,true,true,true,true,true,true,true,true,true,true,true,true,true,true,true,true,true,true,true,true,false,false,false,false]) (a':=⟨[_,_,_,_,_,_,_,_,_,_,_,_,_,_,_,_,_,_,_,_,_,_,_,_,_,_,_,_,_,_,_,_,_,_,_,_,_,_].toArray,[]⟩) rfl (by kernel_rfl) (by kernel_rfl) (by kernel_rfl) (fun _ _ _ h_=>h_) (.inr ⟨(by kernel_rfl),rfl⟩) (by kernel_rfl) rfl ?_
     refine MW.any_take (i:=21) (v:=undef) (listed':= #[true,true,true,true,true,true,true,true,true,true,true,true,true,true,true,true,true,true,true,true,true,true,false,false,false]) (a':=⟨[_,_,_,_,_,_,_,_,_,_,_,_,_,_,_,_,_,_,_,_,_,_,_,_,_,_,_,_,_,_,_,_,_,_,_,_,_,_].toArray,[]⟩) rfl (by kernel_rfl) (by kernel_rfl) (by kernel_rfl) (fun _ _ _ h_=>h_) (.inr ⟨(by kernel_rfl),rfl⟩) (by kernel_rfl) rfl ?_
     refine MW.any_take (i:=22) (v:=undef) (listed':= #[true,true,true,true,true,true,true,true,true,true,true,true,true,true,true,true,true,true,true,true,true,true,true,false,false]) (a':=⟨[_,_,_,_,_,_,_,_,_,_,_,_,_,_,_,_,_,_,_,_,_,_,_,_,_,_,_,_,_,_,_,_,_,_,_,_,_,_].toArray,[]⟩) rfl (by kernel_rfl) (by kernel_rfl) (by kernel_rfl) (fun _ _ _ h_=>h_) (.inr ⟨(by kernel_rfl),rfl⟩) (by kernel_rfl) rfl ?_
     refine zt 23 (.bool false) #[_,_,_,_,_,_,_,_,_,_,_,_,_,_,_,_,_,_,_,_,_,_,_,_,_] ⟨[_,_,_,_,_,_,_,_,_,_,_,_,_,_,_,_,_,_,_,_,_,_,_,_,_,_,_,_,_,_,_,_,_,_,_,_,_,_].toArray,[]⟩ (h:=?_)
     refine zt 24 (.bool false) #[_,_,_,_,_,_,_,_,_,_,_,_,_,_,_,_,_,_,_,_,_,_,_,_,_] ⟨[_,_,_,_,_,_,_,_,_,_,_,_,_,_,_,_,_,_,_,_,_,_,_,_,_,_,_,_,_,_,_,_,_,_,_,_,_,_].toArray,[]⟩ (h:=?_)
     refine wpAny_done (by kernel_rfl) ?_ _
     clear hwr_
     go_wp2
     go_roundg k9
     case measure=>have:=HK0.out;omega
     case rel=>exact⟨wrap64 (x6+1),(by first|rfl|(simp;done)|(simp[*];done)),HH,⟨by have:=HK0.out;omega⟩,⟨HF0.out⟩,⟨HB.out⟩⟩
    replace HH:=MW.hneg HH c20
    replace c20:=Bool.eq_false_iff.mpr c20
    subst c20
    refine MW.any_take (i:=8) (v:=undef) (listed':= #[true,true,true,true,true,true,true,true,true,false,false,false,false,false,false,false,false,false,false,false,false,false,false,false,false]) (a':=⟨[_,_,_,_,_,_,_,_,_,_,_,_,_,_,_,_,_,_,_,_,_,_,_,_,_,_,_,_,_,_,_,_,_,_,_,_,_,_].toArray,[]⟩) rfl (by kernel_rfl) (by kernel_rfl) (by kernel_rfl) (fun _ _ _ h_=>h_) (.inr ⟨(by kernel_rfl),rfl⟩) (by kernel_rfl) rfl ?_
    refine MW.any_take (i:=9) (v:=undef) (listed':= #[true,true,true,true,true,true,true,true,true,true,false,false,false,false,false,false,false,false,false,false,false,false,false,false,false]) (a':=⟨[_,_,_,_,_,_,_,_,_,_,_,_,_,_,_,_,_,_,_,_,_,_,_,_,_,_,_,_,_,_,_,_,_,_,_,_,_,_].toArray,[]⟩) rfl (by kernel_rfl) (by kernel_rfl) (by kernel_rfl) (fun _ _ _ h_=>h_) (.inr ⟨(by kernel_rfl),rfl⟩) (by kernel_rfl) rfl ?_
    refine MW.any_take (i:=10) (v:=undef) (listed':= #[true,true,true,true,true,true,true,true,true,true,true,false,false,false,false,false,false,false,false,false,false,false,false,false,false]) (a':=⟨[_,_,_,_,_,_,_,_,_,_,_,_,_,_,_,_,_,_,_,_,_,_,_,_,_,_,_,_,_,_,_,_,_,_,_,_,_,_].toArray,[]⟩) rfl (by kernel_rfl) (by kernel_rfl) (by kernel_rfl) (fun _ _ _ h_=>h_) (.inr ⟨(by kernel_rfl),rfl⟩) (by kernel_rfl) rfl ?_
    refine MW.any_take (i:=11) (v:=undef) (listed':= #[true,true,true,true,true,true,true,true,true,true,true,true,false,false,false,false,false,false,false,false,false,false,false,false,false]) (a':=⟨[_,_,_,_,_,_,_,_,_,_,_,_,_,_,_,_,_,_,_,_,_,_,_,_,_,_,_,_,_,_,_,_,_,_,_,_,_,_].toArray,[]⟩) rfl (by kernel_rfl) (by kernel_rfl) (by kernel_rfl) (fun _ _ _ h_=>h_) (.inr ⟨(by kernel_rfl),rfl⟩) (by kernel_rfl) rfl ?_
    refine MW.any_take (i:=12) (v:=undef) (listed':= #[true,true,true,true,true,true,true,true,true,true,true,true,true,false,false,false,false,false,false,false,false,false,false,false,false]) (a':=⟨[_,_,_,_,_,_,_,_,_,_,_,_,_,_,_,_,_,_,_,_,_,_,_,_,_,_,_,_,_,_,_,_,_,_,_,_,_,_].toArray,[]⟩) rfl (by kernel_rfl) (by kernel_rfl) (by kernel_rfl) (fun _ _ _ h_=>h_) (.inr ⟨(by kernel_rfl),rfl⟩) (by kernel_rfl) rfl ?_
    refine MW.any_take (i:=13) (v:=undef) (listed':= #[true,true,true,true,true,true,true,true,true,true,true,true,true,true,false,false,false,false,false,false,false,false,false,false,false]) (a':=⟨[_,_,_,_,_,_,_,_,_,_,_,_,_,_,_,_,_,_,_,_,_,_,_,_,_,_,_,_,_,_,_,_,_,_,_,_,_,_].toArray,[]⟩) rfl (by kernel_rfl) (by kernel_rfl) (by kernel_rfl) (fun _ _ _ h_=>h_) (.inr ⟨(by kernel_rfl),rfl⟩) (by kernel_rfl) rfl ?_
    refine MW.any_take (i:=14) (v:=undef) (listed':= #[true,true,true,true,true,true,true,true,true,true,true,true,true,true,true,false,false,false,false,false,false,false,false,false,false]) (a':=⟨[_,_,_,_,_,_,_,_,_,_,_,_,_,_,_,_,_,_,_,_,_,_,_,_,_,_,_,_,_,_,_,_,_,_,_,_,_,_].toArray,[]⟩) rfl (by kernel_rfl) (by kernel_rfl) (by kernel_rfl) (fun _ _ _ h_=>h_) (.inr ⟨(by kernel_rfl),rfl⟩) (by kernel_rfl) rfl ?_
    refine MW.any_take (i:=15) (v:=undef) (listed':= #[true,true,true,true,true,true,true,true,true,true,true,true,true,true,true,true,false,false,false,false,false,false,false,false,false]) (a':=⟨[_,_,_,_,_,_,_,_,_,_,_,_,_,_,_,_,_,_,_,_,_,_,_,_,_,_,_,_,_,_,_,_,_,_,_,_,_,_].toArray,[]⟩) rfl (by kernel_rfl) (by kernel_rfl) (by kernel_rfl) (fun _ _ _ h_=>h_) (.inr ⟨(by kernel_rfl),rfl⟩) (by kernel_rfl) rfl ?_
    refine MW.any_take (i:=16) (v:=undef) (listed':= #[true,true,true,true,true,true,true,true,true,true,true,true,true,true,true,true,true,false,false,false,false,false,false,false,false]) (a':=⟨[_,_,_,_,_,_,_,_,_,_,_,_,_,_,_,_,_,_,_,_,_,_,_,_,_,_,_,_,_,_,_,_,_,_,_,_,_,_].toArray,[]⟩) rfl (by kernel_rfl) (by kernel_rfl) (by kernel_rfl) (fun _ _ _ h_=>h_) (.inr ⟨(by kernel_rfl),rfl⟩) (by kernel_rfl) rfl ?_
    refine MW.any_take (i:=17) (v:=undef) (listed':= #[true,true,true,true,true,true,true,true,true,true,true,true,true,true,true,true,true,true,false,false,false,false,false,false,false]) (a':=⟨[_,_,_,_,_,_,_,_,_,_,_,_,_,_,_,_,_,_,_,_,_,_,_,_,_,_,_,_,_,_,_,_,_,_,_,_,_,_].toArray,[]⟩) rfl (by kernel_rfl) (by kernel_rfl) (by kernel_rfl) (fun _ _ _ h_=>h_) (.inr ⟨(by kernel_rfl),rfl⟩) (by kernel_rfl) rfl ?_
    refine MW.any_take (i:=18) (v:=undef) (listed':= #[true,true,true,true,true,true,true,true,true,true,true,true,true,true,true,true,true,true,true,false,false,false,false,false,false]) (a':=⟨[_,_,_,_,_,_,_,_,_,_,_,_,_,_,_,_,_,_,_,_,_,_,_,_,_,_,_,_,_,_,_,_,_,_,_,_,_,_].toArray,[]⟩) rfl (by kernel_rfl) (by kernel_rfl) (by kernel_rfl) (fun _ _ _ h_=>h_) (.inr ⟨(by kernel_rfl),rfl⟩) (by kernel_rfl) rfl ?_
    refine MW.any_take (i:=19) (v:=undef) (listed':= #[true,true,true,true,true,true,true,true,true,true,true,true,true,true,true,true,true,true,true,true,false,false,false,false,false]) (a':=⟨[_,_,_,_,_,_,_,_,_,_,_,_,_,_,_,_,_,_,_,_,_,_,_,_,_,_,_,_,_,_,_,_,_,_,_,_,_,_].toArray,[]⟩) rfl (by kernel_rfl) (by kernel_rfl) (by kernel_rfl) (fun _ _ _ h_=>h_) (.inr ⟨(by kernel_rfl),rfl⟩) (by kernel_rfl) rfl ?_
    refine MW.any_take (i:=20) (v:=undef) (listed':= #[true,true,true,true,true,true,true,true,true,true,true,true,true,true,true,true,true,true,true,true,true,false,false,false,false]) (a':=⟨[_,_,_,_,_,_,_,_,_,_,_,_,_,_,_,_,_,_,_,_,_,_,_,_,_,_,_,_,_,_,_,_,_,_,_,_,_,_].toArray,[]⟩) rfl (by kernel_rfl) (by kernel_rfl) (by kernel_rfl) (fun _ _ _ h_=>h_) (.inr ⟨(by kernel_rfl),rfl⟩) (by kernel_rfl) rfl ?_
    refine MW.any_take (i:=21) (v:=undef) (listed':= #[true,true,true,true,true,true,true,true,true,true,true,true,true,true,true,true,true,true,true,true,true,true,false,false,false]) (a':=⟨[_,_,_,_,_,_,_,_,_,_,_,_,_,_,_,_,_,_,_,_,_,_,_,_,_,_,_,_,_,_,_,_,_,_,_,_,_,_].toArray,[]⟩) rfl (by kernel_rfl) (by kernel_rfl) (by kernel_rfl) (fun _ _ _ h_=>h_) (.inr ⟨(by kernel_rfl),rfl⟩) (by kernel_rfl) rfl ?_
    refine MW.any_take (i:=22) (v:=undef) (listed':= #[true,true,true,true,true,true,true,true,true,true,true,true,true,true,true,true,true,true,true,true,true,true,true,false,false]) (a':=⟨[_,_,_,_,_,_,_,_,_,_,_,_,_,_,_,_,_,_,_,_,_,_,_,_,_,_,_,_,_,_,_,_,_,_,_,_,_,_].toArray,[]⟩) rfl (by kernel_rfl) (by kernel_rfl) (by kernel_rfl) (fun _ _ _ h_=>h_) (.inr ⟨(by kernel_rfl),rfl⟩) (by kernel_rfl) rfl ?_
    refine MW.any_take (i:=23) (v:=undef) (listed':= #[true,true,true,true,true,true,true,true,true,true,true,true,true,true,true,true,true,true,true,true,true,true,true,true,false]) (a':=⟨[_,_,_,_,_,_,_,_,_,_,_,_,_,_,_,_,_,_,_,_,_,_,_,_,_,_,_,_,_,_,_,_,_,_,_,_,_,_].toArray,[]⟩) rfl (by kernel_rfl) (by kernel_rfl) (by kernel_rfl) (fun _ _ _ h_=>h_) (.inr ⟨(by kernel_rfl),rfl⟩) (by kernel_rfl) rfl ?_
    refine zt 24 (.bool true) #[_,_,_,_,_,_,_,_,_,_,_,_,_,_,_,_,_,_,_,_,_,_,_,_,_] ⟨[_,_,_,_,_,_,_,_,_,_,_,_,_,_,_,_,_,_,_,_,_,_,_,_,_,_,_,_,_,_,_,_,_,_,_,_,_,_].toArray,[]⟩ (h:=?_)
    refine wpAny_done (by kernel_rfl) ?_ _
    clear hwr_
    obtain rfl:=Option.some.inj HH.out
    clear HH
    go_wp2
    go_ret
    exact zfi HB.out
   obtain rfl:=Option.some.inj HH.out
   clear HH
   go_wp2
   go_ret
   exact zfi HB.out
end Go.Proofs.Ytcjafemnkhifmaa.GA
