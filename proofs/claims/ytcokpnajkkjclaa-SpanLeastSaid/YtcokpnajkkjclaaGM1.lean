import Derived.Lib.Hide
import Derived.Lib.SlicesCompact
import Derived.Outline
import Derived.OwnWalkIn
import Derived.Shelf.RegionOpen
import Derived.TacticsInMore
import Derived.Test.YtcokpnajkkjclaaGA0
import Derived.Test.YtcokpnajkkjclaaMQ
import Derived.Test.YtcokpnajkkjclaaMS
import Derived.Test.YtcokpnajkkjclaaMX
namespace Go.Proofs.Ytcokpnajkkjclaa.GA
open Go.RowKit Go.Proofs.Ytcokpnajkkjclaa Go.Proofs.Ytcokpnajkkjclaa.MW Go.Proofs.YtcokpnajkkjclaaW.PrintWords Go.Proofs.YtcokpnajkkjclaaW.PrintLast Go.Proofs.YtcokpnajkkjclaaW.PrintMore
attribute [local go_sem] max2_int min2_int max_two min_two
set_option linter.unusedVariables false
set_option linter.unusedSimpArgs false
def toponymref02_may.f (a0_0:Int) (a0_1:Int) (a0_2:Int):Option (Bool):=if a0_0≥0 then(if a0_1≥a0_0 then(some (decide (a0_1≤1114111))) else(some false)) else(some false)
set_option maxHeartbeats 8000000 in
set_option maxRecDepth 100000 in
theorem toponymref02_may.calls (a0_0:Int) (a0_1:Int) (a0_2:Int) (r:Bool) (w:World) (h:toponymref02_may.f a0_0 a0_1 a0_2=some r):
  Calls Try.prog 19 #[.agg #[.int .i32 a0_0,.int .i32 a0_1,.int .i64 a0_2]] w (fun e w'=>e=.returned (.bool r)∧Below w.heap.size w w'):=by
 unfold toponymref02_may.f at h
 have HH:=za h
 clear h
 have HB:=za (Below.refl w.heap.size w)
 have hu37:=Try.underlying37
 go_enter Try.func19,Try.ntmps19
 go_wp2_with ((with_reducible refine gd 1 rfl ?_);refine zb 1 37 #[.int .i32 a0_0,.int .i32 a0_1,.int .i64 a0_2] (h:=?_);intro g1 hg w2 BKg1 hb)
 refine zg ?_
 replace HB:=zhb HB.out hb
 clear hg hb
 replace cBKg1:=MB.lz3 BKg1.out
 replace HH:=zqG HH
 rcases HH with⟨HH,hk7⟩|⟨HH,hk11⟩
 ·replace HH:=zqG HH
  rcases HH with⟨HH,hk9⟩|⟨HH,hk10⟩
  ·obtain rfl:=Option.some.inj HH.out
   clear HH
   go_wp2
   go_ret
   exact zfi HB.out
  obtain rfl:=Option.some.inj HH.out
  clear HH
  go_wp2
  go_ret
  exact zfi HB.out
 obtain rfl:=Option.some.inj HH.out
 clear HH
 go_wp2
 go_ret
 exact zfi HB.out

def toponymref02_Check.l0:Nat→Int→(List (S37))→Option (Int)
 |0,_,_=>none
 |k+1,x6,l0=>if x6<(l0.length:Int) then(if 0≤x6 then((toponymref02_may.f ((rd_T37 l0 x6).f0) ((rd_T37 l0 x6).f1) ((rd_T37 l0 x6).f2)).bind fun t16=>(if t16=true then(if ((rd_T37 l0 x6).f2)=0 then(some 20) else(if x6=0 then((toponymref02_Check.l0 k (wrap64 (x6+1)) l0)) else(if 0≤(wrap64 (x6 - 1)) then(if (wrap64 (x6 - 1))<(l0.length:Int) then(if (wrap32 (((rd_T37 l0 x6).f0) - ((rd_T37 l0 (wrap64 (x6 - 1))).f1)))<1 then(some 20) else(if (wrap32 (((rd_T37 l0 x6).f0) - ((rd_T37 l0 (wrap64 (x6 - 1))).f1)))=1 then(if ((rd_T37 l0 x6).f2)=((rd_T37 l0 (wrap64 (x6 - 1))).f2) then(some 20) else((toponymref02_Check.l0 k (wrap64 (x6+1)) l0))) else((toponymref02_Check.l0 k (wrap64 (x6+1)) l0)))) else(none)) else(none)))) else(some 20))) else(none)) else(some 0)
def toponymref02_Check.f (k:Nat) (l0:List (S37)):Option (Int):=if (l0.length:Int)>500 then(some 20) else((toponymref02_Check.l0 k 0 l0))
theorem toponymref02_Check.mono_l:∀ k,(∀ y0 y1,LeO (toponymref02_Check.l0 k y0 y1) (toponymref02_Check.l0 (k+1) y0 y1))
 |0=>fun _ _ r h=>by simp[toponymref02_Check.l0] at h
 |k+1=>by
  have ih0:=toponymref02_Check.mono_l k
  ·intro y0 y1
   unfold toponymref02_Check.l0
   with_reducible repeat' first|exact ih0 _ _|exact LeO.refl _|exact LeO.none _|refine LeO.ite ?_ ?_|refine LeO.bind ?_ (fun _=>?_)
theorem toponymref02_Check.mono:∀ a0_ k,LeO (toponymref02_Check.f k a0_) (toponymref02_Check.f (k+1) a0_):=by
 intro a0_ k
 have ih0:=toponymref02_Check.mono_l k
 unfold toponymref02_Check.f
 with_reducible repeat' first|exact ih0 _ _|exact LeO.refl _|exact LeO.none _|refine LeO.ite ?_ ?_|refine LeO.bind ?_ (fun _=>?_)
set_option maxHeartbeats 8000000 in
set_option maxRecDepth 100000 in
theorem toponymref02_Check.calls (k:Nat) (P_:Nat→Prop) (A0:Option Addr) (c0:Nat) (l0:List (S37)) (r:Int) (w:World) (hs0:Kd.F k37 w P_ A0 l0.length l0) (hc0:l0.length≤c0) (h:toponymref02_Check.f k l0=some r):
  Calls Try.prog 10 #[.slice A0 l0.length c0] w (fun e w'=>e=.returned (.int .i64 r)∧Below w.heap.size w w'):=by
 unfold toponymref02_Check.f at h
 have HH:=za h
 clear h
 have HF0:=zfp hs0
 clear hs0 hc0
 have HB:=za (Below.refl w.heap.size w)
 have hu37:=Try.underlying37
 go_enter Try.func10,Try.ntmps10
 replace HH:=zqK 500 HH
 rcases HH with⟨HH,hk2,hk3⟩|⟨HH,hk4,hk5⟩
 ·obtain rfl:=Option.some.inj HH.out
  clear HH
  go_wp2
  go_ret
  exact zfi HB.out
 go_wp2
 go_loopg [3] k (fun kq u3 w'=>∃ (x6:Int),u3=.int .i64 x6∧Aside0 ((toponymref02_Check.l0 kq x6 l0)=some r)∧Aside0 (kq≤k)∧Aside0 (Kd.F k37 w' (fun k_=>(P_ k_∨w.heap.size≤k_)) A0 l0.length l0)∧Aside0 (Below w.heap.size w w'))
 case atStart=>exact⟨0,(by first|rfl|(simp;done)|(simp[*];done)),HH,⟨Nat.le_refl _⟩,⟨HF0.out⟩,⟨HB.out⟩⟩
 case round=>
  clear hk4
  clear hk5
  clear HH
  clear HF0 HB
  obtain⟨x6,rfl,HA,HK0,HF0,HB⟩:=hrel
  obtain⟨w8,rfl⟩:∃ wo_:World,wo_=wr:=⟨_,rfl⟩
  cases gk with
  |zero=>exact absurd HA.out (by simp[toponymref02_Check.l0])
  |succ k9=>
   have H:=HA.out
   clear HA
   simp only[toponymref02_Check.l0] at H
   have HH:=za H
   clear H
   replace HH:=zqt HH
   rcases HH with⟨HH,hk11,hk12⟩|⟨HH,hk56,hk57⟩
   ·replace HH:=zqdo HH
    obtain⟨HH,hk14⟩:=HH
    have p15:0≤(x6:Int):=of_decide_eq_true (by first|(with_reducible assumption)|assumption)
    have q15:x6<(l0.length:Int):=of_decide_eq_true (by first|(with_reducible assumption)|assumption)
    obtain⟨ad15,e15,hx15_0,hx15_1,hx15_2⟩:=atF_T37 HF0.out x6 p15 q15
    cases e15
    replace p15:=eq_true p15
    replace q15:=eq_true q15
    replace HH:=zd HH
    obtain⟨t16,At17,HH⟩:=HH
    go_wp2_with ((with_reducible refine gc 19 rfl ?_);refine zc 19 (some 18) Try.func19 #[.agg #[.int .i32 ((rd_T37 l0 x6).f0),.int .i32 ((rd_T37 l0 x6).f1),.int .i64 ((rd_T37 l0 x6).f2)]] (h:=?_);(with_reducible refine(toponymref02_may.calls  ((rd_T37 l0 x6).f0) ((rd_T37 l0 x6).f1) ((rd_T37 l0 x6).f2) t16 _  At17.out).mono ?_);rintro e w18 ⟨rfl,hb⟩;refine⟨_,rfl,?_⟩)
    refine zg ?_
    replace HF0:=zfb HF0.out hb
    replace HB:=zhb HB.out hb
    clear hb
    clear hx15_0 hx15_1 hx15_2 p15 q15
    by_cases c19:t16=true
    ·replace HH:=MW.hpos HH c19
     subst c19
     have p20:0≤(x6:Int):=of_decide_eq_true (by first|(with_reducible assumption)|assumption)
     have q20:x6<(l0.length:Int):=of_decide_eq_true (by first|(with_reducible assumption)|assumption)
     obtain⟨ad20,e20,hx20_0,hx20_1,hx20_2⟩:=atF_T37 HF0.out x6 p20 q20
     cases e20
     replace p20:=eq_true p20
     replace q20:=eq_true q20
     replace HH:=zqe HH
     rcases HH with⟨HH,hk22,hk23⟩|⟨HH,hk24,hk25⟩
     ·obtain rfl:=Option.some.inj HH.out
      clear HH
      go_wp2
      go_ret
      exact zfi HB.out
     replace HH:=zqe HH
     rcases HH with⟨HH,hk27,hk28⟩|⟨HH,hk29,hk30⟩
     ·go_wp2
      go_roundg k9
      case measure=>have:=HK0.out;omega
      case rel=>exact⟨wrap64 (x6+1),(by first|rfl|(simp;done)|(simp[*];done)),HH,⟨by have:=HK0.out;omega⟩,⟨HF0.out⟩,⟨HB.out⟩⟩
     replace HH:=zqdo HH
     obtain⟨HH,hk32⟩:=HH
     replace HH:=zqto HH
     obtain⟨HH,hk34,hk35⟩:=HH
     have p36:0≤((wrap64 (x6 - 1)):Int):=of_decide_eq_true (by first|(with_reducible assumption)|assumption)
     have q36:(wrap64 (x6 - 1))<(l0.length:Int):=of_decide_eq_true (by first|(with_reducible assumption)|assumption)
     obtain⟨ad36,e36,hx36_0,hx36_1,hx36_2⟩:=atF_T37 HF0.out (wrap64 (x6 - 1)) p36 q36
     cases e36
     replace p36:=eq_true p36
     replace q36:=eq_true q36
     replace HH:=zqt HH
     rcases HH with⟨HH,hk38,hk39⟩|⟨HH,hk40,hk41⟩
     ·obtain rfl:=Option.some.inj HH.out
      clear HH
      go_wp2
      go_quiet (fail)
      go_wp2
      go_quiet (fail)
      go_wp2
      go_ret
      exact zfi (by repeat(first|(with_reducible first|exact HB.out|apply below_alloc|apply pw_below_drewN|apply below_drew1)|exact HB.out))
     replace HH:=zqe HH
     rcases HH with⟨HH,hk43,hk44⟩|⟨HH,hk50,hk51⟩
     ·replace HH:=zqe HH
      rcases HH with⟨HH,hk46,hk47⟩|⟨HH,hk48,hk49⟩
      ·obtain rfl:=Option.some.inj HH.out
       clear HH
       go_wp2
       go_quiet (fail)
       go_wp2
       go_quiet (fail)
       go_wp2
       go_ret
       exact zfi (by repeat(first|(with_reducible first|exact HB.out|apply below_alloc|apply pw_below_drewN|apply below_drew1)|exact HB.out))
      go_wp2
      go_quiet (fail)
      go_wp2
      go_quiet (fail)
      go_wp2
      go_roundg k9
      case measure=>have:=HK0.out;omega
      case rel=>exact⟨wrap64 (x6+1),(by first|rfl|(simp;done)|(simp[*];done)),HH,⟨by have:=HK0.out;omega⟩,⟨(by(with_reducible repeat(first|apply Kd.F_alloc|apply Kd.F_drewN|apply Kd.F_drew));exact HF0.out)⟩,⟨(by repeat(first|(with_reducible first|exact HB.out|apply below_alloc|apply pw_below_drewN|apply below_drew1)|exact HB.out))⟩⟩
     go_wp2
     go_quiet (fail)
     go_wp2
     go_quiet (fail)
     go_wp2
     go_roundg k9
     case measure=>have:=HK0.out;omega
     case rel=>exact⟨wrap64 (x6+1),(by first|rfl|(simp;done)|(simp[*];done)),HH,⟨by have:=HK0.out;omega⟩,⟨(by(with_reducible repeat(first|apply Kd.F_alloc|apply Kd.F_drewN|apply Kd.F_drew));exact HF0.out)⟩,⟨(by repeat(first|(with_reducible first|exact HB.out|apply below_alloc|apply pw_below_drewN|apply below_drew1)|exact HB.out))⟩⟩
    replace HH:=MW.hneg HH c19
    replace c19:=Bool.eq_false_iff.mpr c19
    subst c19
    obtain rfl:=Option.some.inj HH.out
    clear HH
    go_wp2
    go_ret
    exact zfi HB.out
   obtain rfl:=Option.some.inj HH.out
   clear HH
   go_wp2
   go_ret
   exact zfi HB.out

def span_Find_1.f (a0_0:Int) (a0_1:Int) (a0_2:Int) (a1:Int):Option (Int):=some (wrap64 ((wrap64 (a0_1)) - (wrap64 (a1))))
set_option maxHeartbeats 8000000 in
set_option maxRecDepth 100000 in
theorem span_Find_1.calls (a0_0:Int) (a0_1:Int) (a0_2:Int) (a1:Int) (r:Int) (w:World) (h:span_Find_1.f a0_0 a0_1 a0_2 a1=some r):
  Calls Try.prog 21 #[.agg #[.int .i32 a0_0,.int .i32 a0_1,.int .i64 a0_2],.int .i32 a1] w (fun e w'=>e=.returned (.int .i64 r)∧Below w.heap.size w w'):=by
 unfold span_Find_1.f at h
 have HH:=za h
 clear h
 have HB:=za (Below.refl w.heap.size w)
 have hu37:=Try.underlying37
 go_enter Try.func21,Try.ntmps21
 go_wp2_with ((with_reducible refine gd 2 rfl ?_);refine zb 2 37 #[.int .i32 a0_0,.int .i32 a0_1,.int .i64 a0_2] (h:=?_);intro g1 hg w2 BKg1 hb)
 refine zg ?_
 replace HB:=zhb HB.out hb
 clear hg hb
 replace cBKg1:=MB.lz3 BKg1.out
 obtain rfl:=Option.some.inj HH.out
 clear HH
 go_wp2
 go_ret
 exact zfi HB.out

def span_piece_may.f (a0_0:Int) (a0_1:Int) (a0_2:Int):Option (Bool):=if a0_0≥0 then(if a0_0≤a0_1 then(some (decide (a0_1≤1114111))) else(some false)) else(some false)
set_option maxHeartbeats 8000000 in
set_option maxRecDepth 100000 in
theorem span_piece_may.calls (a0_0:Int) (a0_1:Int) (a0_2:Int) (r:Bool) (w:World) (h:span_piece_may.f a0_0 a0_1 a0_2=some r):
  Calls Try.prog 18 #[.agg #[.int .i32 a0_0,.int .i32 a0_1,.int .i64 a0_2]] w (fun e w'=>e=.returned (.bool r)∧Below w.heap.size w w'):=by
 unfold span_piece_may.f at h
 have HH:=za h
 clear h
 have HB:=za (Below.refl w.heap.size w)
 have hu39:=Try.underlying39
 go_enter Try.func18,Try.ntmps18
 go_wp2_with ((with_reducible refine gd 1 rfl ?_);refine zb 1 39 #[.int .i32 a0_0,.int .i32 a0_1,.int .i64 a0_2] (h:=?_);intro g1 hg w2 BKg1 hb)
 refine zg ?_
 replace HB:=zhb HB.out hb
 clear hg hb
 replace cBKg1:=MB.lz3 BKg1.out
 replace HH:=zqG HH
 rcases HH with⟨HH,hk7⟩|⟨HH,hk11⟩
 ·replace HH:=zqd HH
  rcases HH with⟨HH,hk9⟩|⟨HH,hk10⟩
  ·obtain rfl:=Option.some.inj HH.out
   clear HH
   go_wp2
   go_ret
   exact zfi HB.out
  obtain rfl:=Option.some.inj HH.out
  clear HH
  go_wp2
  go_ret
  exact zfi HB.out
 obtain rfl:=Option.some.inj HH.out
 clear HH
 go_wp2
 go_ret
 exact zfi HB.out

def span_Check.l0:Nat→Int→(List (S37))→Option (Int)
 |0,_,_=>none
 |k+1,x6,l0=>if x6<(l0.length:Int) then(if 0≤x6 then((span_piece_may.f ((rd_T37 l0 x6).f0) ((rd_T37 l0 x6).f1) ((rd_T37 l0 x6).f2)).bind fun t25=>(if t25=true then(if ((rd_T37 l0 x6).f2)=0 then(some 20) else(if x6>0 then(if 0≤(wrap64 (x6 - 1)) then(if (wrap64 (x6 - 1))<(l0.length:Int) then(if ((rd_T37 l0 (wrap64 (x6 - 1))).f1)≥((rd_T37 l0 x6).f0) then(some 20) else(if (wrap32 (((rd_T37 l0 (wrap64 (x6 - 1))).f1)+1))=((rd_T37 l0 x6).f0) then(if ((rd_T37 l0 (wrap64 (x6 - 1))).f2)=((rd_T37 l0 x6).f2) then(some 20) else((span_Check.l0 k (wrap64 (x6+1)) l0))) else((span_Check.l0 k (wrap64 (x6+1)) l0)))) else(none)) else(none)) else((span_Check.l0 k (wrap64 (x6+1)) l0)))) else(some 20))) else(none)) else(some 0)
def span_Check.f (k:Nat) (l0:List (S37)):Option (Int):=if (l0.length:Int)>500 then(some 20) else((span_Check.l0 k 0 l0))
theorem span_Check.mono_l:∀ k,(∀ y0 y1,LeO (span_Check.l0 k y0 y1) (span_Check.l0 (k+1) y0 y1))
 |0=>fun _ _ r h=>by simp[span_Check.l0] at h
 |k+1=>by
  have ih0:=span_Check.mono_l k
  ·intro y0 y1
   unfold span_Check.l0
   with_reducible repeat' first|exact ih0 _ _|exact LeO.refl _|exact LeO.none _|refine LeO.ite ?_ ?_|refine LeO.bind ?_ (fun _=>?_)
theorem span_Check.mono:∀ a0_ k,LeO (span_Check.f k a0_) (span_Check.f (k+1) a0_):=by
 intro a0_ k
 have ih0:=span_Check.mono_l k
 unfold span_Check.f
 with_reducible repeat' first|exact ih0 _ _|exact LeO.refl _|exact LeO.none _|refine LeO.ite ?_ ?_|refine LeO.bind ?_ (fun _=>?_)
set_option maxHeartbeats 8000000 in
set_option maxRecDepth 100000 in
theorem span_Check.calls (k:Nat) (P_:Nat→Prop) (A0:Option Addr) (c0:Nat) (l0:List (S37)) (r:Int) (w:World) (hs0:Kd.F k37 w P_ A0 l0.length l0) (hc0:l0.length≤c0) (h:span_Check.f k l0=some r):
  Calls Try.prog 9 #[.slice A0 l0.length c0] w (fun e w'=>e=.returned (.int .i64 r)∧Below w.heap.size w w'):=by
 unfold span_Check.f at h
 have HH:=za h
 clear h
 have HF0:=zfp hs0
 clear hs0 hc0
 have HB:=za (Below.refl w.heap.size w)
 have hu37:=Try.underlying37
 go_enter Try.func9,Try.ntmps9
 replace HH:=zqK 500 HH
 rcases HH with⟨HH,hk2,hk3⟩|⟨HH,hk4,hk5⟩
 ·obtain rfl:=Option.some.inj HH.out
  clear HH
  go_wp2
  go_ret
  exact zfi HB.out
 go_wp2
 go_loopg [10] k (fun kq u10 w'=>∃ (x6:Int),u10=.int .i64 x6∧Aside0 ((span_Check.l0 kq x6 l0)=some r)∧Aside0 (kq≤k)∧Aside0 (Kd.F k37 w' (fun k_=>(P_ k_∨w.heap.size≤k_)) A0 l0.length l0)∧Aside0 (Below w.heap.size w w'))
 case atStart=>exact⟨0,(by first|rfl|(simp;done)|(simp[*];done)),HH,⟨Nat.le_refl _⟩,⟨HF0.out⟩,⟨HB.out⟩⟩
 case round=>
  clear hk4
  clear hk5
  clear HH
  clear HF0 HB
  obtain⟨x6,rfl,HA,HK0,HF0,HB⟩:=hrel
  obtain⟨w8,rfl⟩:∃ wo_:World,wo_=wr:=⟨_,rfl⟩
  cases gk with
  |zero=>exact absurd HA.out (by simp[span_Check.l0])
  |succ k9=>
   have H:=HA.out
   clear HA
   simp only[span_Check.l0] at H
   have HH:=za H
   clear H
   replace HH:=zqt HH
   rcases HH with⟨HH,hk11,hk12⟩|⟨HH,hk63,hk64⟩
   ·replace HH:=zqdo HH
    obtain⟨HH,hk14⟩:=HH
    have p15:0≤(x6:Int):=of_decide_eq_true (by first|(with_reducible assumption)|assumption)
    have q15:x6<(l0.length:Int):=of_decide_eq_true (by first|(with_reducible assumption)|assumption)
    obtain⟨ad15,e15,hx15_0,hx15_1,hx15_2⟩:=atF_T37 HF0.out x6 p15 q15
    cases e15
    replace p15:=eq_true p15
    replace q15:=eq_true q15
    go_wp2_with ((with_reducible refine gd 4 rfl ?_);refine zb 4 37 #[.int .i32 0,.int .i32 0,.int .i64 0] (h:=?_);intro g16 hg w17 BKg16 hb)
    refine zg ?_
    have GEg16:=zge hg (below_size HB.out)
    replace HF0:=zfe HF0.out hg hb
    replace HB:=zhb HB.out hb
    clear hg hb
    clear hx15_0 hx15_1 hx15_2 p15 q15
    replace cBKg16:=MB.lz3 BKg16.out
    go_wp2_with ((with_reducible refine gs 37 4 rfl ?_);refine zs 37 4 #[.int .i32 ((rd_T37 l0 x6).f0),.int .i32 ((rd_T37 l0 x6).f1),.int .i64 ((rd_T37 l0 x6).f2)] BKg16.out [.int .i32 ((rd_T37 l0 x6).f0),.int .i32 ((rd_T37 l0 x6).f1),.int .i64 ((rd_T37 l0 x6).f2)] (h:=?_);intro w21 hbk hg)
    refine zg ?_
    replace HF0:=zfg HF0.out hg fun k_ hk_=>hk_.2
    replace HB:=zhg HB.out hg (below_size HB.out) GEg16
    replace BKg16:=hbk
    clear hg hbk
    replace cBKg16:=MB.lz3 BKg16.out
    replace HH:=zd HH
    obtain⟨t25,At26,HH⟩:=HH
    go_wp2_with ((with_reducible refine gc 18 rfl ?_);refine zc 18 (some 16) Try.func18 #[.agg #[.int .i32 ((rd_T37 l0 x6).f0),.int .i32 ((rd_T37 l0 x6).f1),.int .i64 ((rd_T37 l0 x6).f2)]] (h:=?_);(with_reducible refine(span_piece_may.calls  ((rd_T37 l0 x6).f0) ((rd_T37 l0 x6).f1) ((rd_T37 l0 x6).f2) t25 _  At26.out).mono ?_);rintro e w27 ⟨rfl,hb⟩;refine⟨_,rfl,?_⟩)
    refine zg ?_
    replace HF0:=zfb HF0.out hb
    replace BKg16:=zbb BKg16.out hb
    replace HB:=zhb HB.out hb
    clear hb
    replace cBKg16:=MB.lz3 BKg16.out
    by_cases c31:t25=true
    ·replace HH:=MW.hpos HH c31
     subst c31
     replace HH:=zqe HH
     rcases HH with⟨HH,hk33,hk34⟩|⟨HH,hk35,hk36⟩
     ·obtain rfl:=Option.some.inj HH.out
      clear HH
      go_wp2
      go_ret
      exact zfi HB.out
     replace HH:=zqg HH
     rcases HH with⟨HH,hk38⟩|⟨HH,hk61⟩
     ·replace HH:=zqdo HH
      obtain⟨HH,hk40⟩:=HH
      replace HH:=zqto HH
      obtain⟨HH,hk42,hk43⟩:=HH
      have p44:0≤((wrap64 (x6 - 1)):Int):=of_decide_eq_true (by first|(with_reducible assumption)|assumption)
      have q44:(wrap64 (x6 - 1))<(l0.length:Int):=of_decide_eq_true (by first|(with_reducible assumption)|assumption)
      obtain⟨ad44,e44,hx44_0,hx44_1,hx44_2⟩:=atF_T37 HF0.out (wrap64 (x6 - 1)) p44 q44
      cases e44
      replace p44:=eq_true p44
      replace q44:=eq_true q44
      replace HH:=zqG HH
      rcases HH with⟨HH,hk46⟩|⟨HH,hk47⟩
      ·obtain rfl:=Option.some.inj HH.out
       clear HH
       go_wp2
       go_quiet (fail)
       go_wp2
       go_ret
       exact zfi (by repeat(first|(with_reducible first|exact HB.out|apply below_alloc|apply pw_below_drewN|apply below_drew1)|exact HB.out))
      replace HH:=zqe HH
      rcases HH with⟨HH,hk49,hk50⟩|⟨HH,hk56,hk57⟩
      ·replace HH:=zqe HH
       rcases HH with⟨HH,hk52,hk53⟩|⟨HH,hk54,hk55⟩
       ·obtain rfl:=Option.some.inj HH.out
        clear HH
        go_wp2
        go_quiet (fail)
        go_wp2
        go_ret
        exact zfi (by repeat(first|(with_reducible first|exact HB.out|apply below_alloc|apply pw_below_drewN|apply below_drew1)|exact HB.out))
       go_wp2
       go_quiet (fail)
       go_wp2
       go_roundg k9
       case measure=>have:=HK0.out;omega
       case rel=>exact⟨wrap64 (x6+1),(by first|rfl|(simp;done)|(simp[*];done)),HH,⟨by have:=HK0.out;omega⟩,⟨(Kd.F_mono (ok:=(fun k_=>(P_ k_∨w.heap.size≤k_)∧k_≠g16)) (by(with_reducible repeat(first|apply Kd.F_alloc|apply Kd.F_drewN|apply Kd.F_drew));exact HF0.out) (fun k_ hk_=>hk_.1))⟩,⟨(by repeat(first|(with_reducible first|exact HB.out|apply below_alloc|apply pw_below_drewN|apply below_drew1)|exact HB.out))⟩⟩
      go_wp2
      go_quiet (fail)
      go_wp2
      go_roundg k9
      case measure=>have:=HK0.out;omega
      case rel=>exact⟨wrap64 (x6+1),(by first|rfl|(simp;done)|(simp[*];done)),HH,⟨by have:=HK0.out;omega⟩,⟨(Kd.F_mono (ok:=(fun k_=>(P_ k_∨w.heap.size≤k_)∧k_≠g16)) (by(with_reducible repeat(first|apply Kd.F_alloc|apply Kd.F_drewN|apply Kd.F_drew));exact HF0.out) (fun k_ hk_=>hk_.1))⟩,⟨(by repeat(first|(with_reducible first|exact HB.out|apply below_alloc|apply pw_below_drewN|apply below_drew1)|exact HB.out))⟩⟩
     go_wp2
     go_quiet (fail)
     go_wp2
     go_roundg k9
     case measure=>have:=HK0.out;omega
     case rel=>exact⟨wrap64 (x6+1),(by first|rfl|(simp;done)|(simp[*];done)),HH,⟨by have:=HK0.out;omega⟩,⟨(Kd.F_mono (ok:=(fun k_=>(P_ k_∨w.heap.size≤k_)∧k_≠g16)) (by(with_reducible repeat(first|apply Kd.F_alloc|apply Kd.F_drewN|apply Kd.F_drew));exact HF0.out) (fun k_ hk_=>hk_.1))⟩,⟨(by repeat(first|(with_reducible first|exact HB.out|apply below_alloc|apply pw_below_drewN|apply below_drew1)|exact HB.out))⟩⟩
    replace HH:=MW.hneg HH c31
    replace c31:=Bool.eq_false_iff.mpr c31
    subst c31
    obtain rfl:=Option.some.inj HH.out
    clear HH
    go_wp2
    go_ret
    exact zfi HB.out
   obtain rfl:=Option.some.inj HH.out
   clear HH
   go_wp2
   go_ret
   exact zfi HB.out

def span_Find.l0:Nat→Int→Int→Int→(List (S37))→Option (Int)
 |0,_,_,_,_=>none
 |k+1,x7,x8,a1,l0=>if x7<x8 then(if 0≤(wrap64 ((IntKind.u64.wrap (wrap64 (x7+x8))) / 2)) then(if (wrap64 ((IntKind.u64.wrap (wrap64 (x7+x8))) / 2))<(l0.length:Int) then((span_Find_1.f ((rd_T37 l0 (wrap64 ((IntKind.u64.wrap (wrap64 (x7+x8))) / 2))).f0) ((rd_T37 l0 (wrap64 ((IntKind.u64.wrap (wrap64 (x7+x8))) / 2))).f1) ((rd_T37 l0 (wrap64 ((IntKind.u64.wrap (wrap64 (x7+x8))) / 2))).f2) a1).bind fun t20=>(if t20<0 then((span_Find.l0 k (wrap64 ((wrap64 ((IntKind.u64.wrap (wrap64 (x7+x8))) / 2))+1)) x8 a1 l0)) else((span_Find.l0 k x7 (wrap64 ((IntKind.u64.wrap (wrap64 (x7+x8))) / 2)) a1 l0)))) else(none)) else(none)) else(if x7<(l0.length:Int) then(if 0≤x7 then((span_Find_1.f ((rd_T37 l0 x7).f0) ((rd_T37 l0 x7).f1) ((rd_T37 l0 x7).f2) a1).bind fun t39=>(if ((rd_T37 l0 x7).f0)≤a1 then(some ((rd_T37 l0 x7).f2)) else(some 0))) else(none)) else(some 0))
def span_Find.f (k:Nat) (l0:List (S37)) (a1:Int):Option (Int):=(span_Check.f k l0).bind fun t1=>(if t1=0 then((span_Find.l0 k 0 (l0.length:Int) a1 l0)) else(some 0))
theorem span_Find.mono_l:∀ k,(∀ y0 y1 y2 y3,LeO (span_Find.l0 k y0 y1 y2 y3) (span_Find.l0 (k+1) y0 y1 y2 y3))
 |0=>fun _ _ _ _ r h=>by simp[span_Find.l0] at h
 |k+1=>by
  have ih0:=span_Find.mono_l k
  ·intro y0 y1 y2 y3
   unfold span_Find.l0
   with_reducible repeat' first|exact ih0 _ _ _ _|exact span_Check.mono _ _|exact LeO.refl _|exact LeO.none _|refine LeO.ite ?_ ?_|refine LeO.bind ?_ (fun _=>?_)
theorem span_Find.mono:∀ a0_ a1_ k,LeO (span_Find.f k a0_ a1_) (span_Find.f (k+1) a0_ a1_):=by
 intro a0_ a1_ k
 have ih0:=span_Find.mono_l k
 unfold span_Find.f
 with_reducible repeat' first|exact ih0 _ _ _ _|exact span_Check.mono _ _|exact LeO.refl _|exact LeO.none _|refine LeO.ite ?_ ?_|refine LeO.bind ?_ (fun _=>?_)
set_option maxHeartbeats 8000000 in
set_option maxRecDepth 100000 in
theorem span_Find.calls (k:Nat) (P_:Nat→Prop) (A0:Option Addr) (c0:Nat) (l0:List (S37)) (a1:Int) (r:Int) (w:World) (hs0:Kd.F k37 w P_ A0 l0.length l0) (hc0:l0.length≤c0) (h:span_Find.f k l0 a1=some r):
  Calls Try.prog 11 #[.slice A0 l0.length c0,.int .i32 a1] w (fun e w'=>e=.returned (.int .i64 r)∧Below w.heap.size w w'):=by
 unfold span_Find.f at h
 have HH:=za h
 clear h
 have HF0:=zfp hs0
 have HL0:=za hc0
 clear hs0 hc0
 have HB:=za (Below.refl w.heap.size w)
 go_enter Try.func11,Try.ntmps11
 replace HH:=zd HH
 obtain⟨t1,At2,HH⟩:=HH
 go_wp2_with ((with_reducible refine gc 9 rfl ?_);refine zc 9 (some 8) Try.func9 #[.slice A0 l0.length c0] (h:=?_);(with_reducible refine(span_Check.calls k (fun k_=>(P_ k_∨w.heap.size≤k_)) _ _ l0 t1 _ HF0.out HL0.out At2.out).mono ?_);rintro e w3 ⟨rfl,hb⟩;refine⟨_,rfl,?_⟩)
 refine zg ?_
 replace HF0:=zfb HF0.out hb
 replace HB:=zhb HB.out hb
 clear hb
 replace HH:=zqe HH
 rcases HH with⟨HH,hk5,hk6⟩|⟨HH,hk49,hk50⟩
 ·go_wp2_with (((with_reducible refine gate_callee (f:=20) rfl ?_);(try(refine gate_guard (by rfl) ?_;dsimp only));refine goesL_ (some 13) rfl rfl Try.func20 (by kernel_rfl) rfl #[.slice A0 l0.length c0,.int .i32 a1,.func (.func 21) #[] #[]] rfl (by(try simp only[List.map_toArray,List.map_cons,List.map_nil]);first|done|rfl) ?_);refine stop_ ?_)
  refine zg ?_
  go_enter Try.func20,Try.ntmps20
  go_wp2
  go_loopg [9,10] k (fun kq u9 u10 w'=>∃ (x7:Int) (x8:Int),u9=.int .i64 x7∧u10=.int .i64 x8∧Aside0 ((span_Find.l0 kq x7 x8 a1 l0)=some r)∧Aside0 (kq≤k)∧Aside0 (Kd.F k37 w' (fun k_=>(P_ k_∨w.heap.size≤k_)) A0 l0.length l0)∧Aside0 (Below w.heap.size w w'))
  case atStart=>exact⟨0,(l0.length:Int),(by first|rfl|(simp;done)|(simp[*];done)),(by first|rfl|(simp;done)|(simp[*];done)),HH,⟨Nat.le_refl _⟩,⟨HF0.out⟩,⟨HB.out⟩⟩
  case round=>
   clear hk5
   clear hk6
   clear HH
   clear HF0 HB
   obtain⟨x7,x8,rfl,rfl,HA,HK0,HF0,HB⟩:=hrel
   obtain⟨w10,rfl⟩:∃ wo_:World,wo_=wr:=⟨_,rfl⟩
   cases gk with
   |zero=>exact absurd HA.out (by simp[span_Find.l0])
   |succ k9=>
    have H:=HA.out
    clear HA
    simp only[span_Find.l0] at H
    have HH:=za H
    clear H
    replace HH:=zqt HH
    rcases HH with⟨HH,hk12,hk13⟩|⟨HH,hk31,hk32⟩
    ·replace HH:=zqdo HH
     obtain⟨HH,hk15⟩:=HH
     replace HH:=zqto HH
     obtain⟨HH,hk17,hk18⟩:=HH
     have p19:0≤((wrap64 ((IntKind.u64.wrap (wrap64 (x7+x8))) / 2)):Int):=of_decide_eq_true (by first|(with_reducible assumption)|assumption)
     have q19:(wrap64 ((IntKind.u64.wrap (wrap64 (x7+x8))) / 2))<(l0.length:Int):=of_decide_eq_true (by first|(with_reducible assumption)|assumption)
     obtain⟨ad19,e19,hx19_0,hx19_1,hx19_2⟩:=atF_T37 HF0.out (wrap64 ((IntKind.u64.wrap (wrap64 (x7+x8))) / 2)) p19 q19
     cases e19
     replace p19:=eq_true p19
     replace q19:=eq_true q19
     replace HH:=zd HH
     obtain⟨t20,At21,HH⟩:=HH
     go_wp2_with ((with_reducible refine gd 30 rfl ?_);refine zv 30 Try.func21 #[.agg #[.int .i32 ((rd_T37 l0 (wrap64 ((IntKind.u64.wrap (wrap64 (x7+x8))) / 2))).f0),.int .i32 ((rd_T37 l0 (wrap64 ((IntKind.u64.wrap (wrap64 (x7+x8))) / 2))).f1),.int .i64 ((rd_T37 l0 (wrap64 ((IntKind.u64.wrap (wrap64 (x7+x8))) / 2))).f2)],.int .i32 a1] #[] (h:=?_);(with_reducible refine(span_Find_1.calls  ((rd_T37 l0 (wrap64 ((IntKind.u64.wrap (wrap64 (x7+x8))) / 2))).f0) ((rd_T37 l0 (wrap64 ((IntKind.u64.wrap (wrap64 (x7+x8))) / 2))).f1) ((rd_T37 l0 (wrap64 ((IntKind.u64.wrap (wrap64 (x7+x8))) / 2))).f2) a1 t20 _  At21.out).mono ?_);rintro e w22 ⟨rfl,hb⟩;refine⟨_,rfl,?_⟩)
     refine zg ?_
     replace HF0:=zfb HF0.out hb
     replace HB:=zhb HB.out hb
     clear hb
     clear hx19_0 hx19_1 hx19_2 p19 q19
     replace HH:=zqt HH
     rcases HH with⟨HH,hk24,hk25⟩|⟨HH,hk26,hk27⟩
     ·go_wp2
      go_roundg k9
      case measure=>have:=HK0.out;omega
      case rel=>exact⟨wrap64 ((wrap64 ((IntKind.u64.wrap (wrap64 (x7+x8))) / 2))+1),x8,(by first|rfl|(simp;done)|(simp[*];done)),(by first|rfl|(simp;done)|(simp[*];done)),HH,⟨by have:=HK0.out;omega⟩,⟨HF0.out⟩,⟨HB.out⟩⟩
     go_wp2
     go_roundg k9
     case measure=>have:=HK0.out;omega
     case rel=>exact⟨x7,wrap64 ((IntKind.u64.wrap (wrap64 (x7+x8))) / 2),(by first|rfl|(simp;done)|(simp[*];done)),(by first|rfl|(simp;done)|(simp[*];done)),HH,⟨by have:=HK0.out;omega⟩,⟨HF0.out⟩,⟨HB.out⟩⟩
    replace HH:=zqt HH
    rcases HH with⟨HH,hk34,hk35⟩|⟨HH,hk47,hk48⟩
    ·replace HH:=zqdo HH
     obtain⟨HH,hk37⟩:=HH
     have p38:0≤(x7:Int):=of_decide_eq_true (by first|(with_reducible assumption)|assumption)
     have q38:x7<(l0.length:Int):=of_decide_eq_true (by first|(with_reducible assumption)|assumption)
     obtain⟨ad38,e38,hx38_0,hx38_1,hx38_2⟩:=atF_T37 HF0.out x7 p38 q38
     cases e38
     replace p38:=eq_true p38
     replace q38:=eq_true q38
     replace HH:=zd HH
     obtain⟨t39,At40,HH⟩:=HH
     go_wp2_with ((with_reducible refine gd 46 rfl ?_);refine zv 46 Try.func21 #[.agg #[.int .i32 ((rd_T37 l0 x7).f0),.int .i32 ((rd_T37 l0 x7).f1),.int .i64 ((rd_T37 l0 x7).f2)],.int .i32 a1] #[] (h:=?_);(with_reducible refine(span_Find_1.calls  ((rd_T37 l0 x7).f0) ((rd_T37 l0 x7).f1) ((rd_T37 l0 x7).f2) a1 t39 _  At40.out).mono ?_);rintro e w41 ⟨rfl,hb⟩;refine⟨_,rfl,?_⟩)
     refine zg ?_
     replace HF0:=zfb HF0.out hb
     replace HB:=zhb HB.out hb
     clear hb
     clear hx38_0 hx38_1 hx38_2 p38 q38
     go_wp2
     go_ret2
     refine⟨_,rfl,?_⟩
     have p42:0≤(x7:Int):=of_decide_eq_true (by first|(with_reducible assumption)|assumption)
     have q42:x7<(l0.length:Int):=of_decide_eq_true (by first|(with_reducible assumption)|assumption)
     obtain⟨ad42,e42,hx42_0,hx42_1,hx42_2⟩:=atF_T37 HF0.out x7 p42 q42
     cases e42
     replace p42:=eq_true p42
     replace q42:=eq_true q42
     replace HH:=zqd HH
     rcases HH with⟨HH,hk44⟩|⟨HH,hk45⟩
     ·obtain rfl:=Option.some.inj HH.out
      clear HH
      go_wp2
      go_ret
      exact zfi HB.out
     obtain rfl:=Option.some.inj HH.out
     clear HH
     go_wp2
     go_ret
     exact zfi HB.out
    go_wp2
    go_ret2
    refine⟨_,rfl,?_⟩
    obtain rfl:=Option.some.inj HH.out
    clear HH
    go_wp2
    go_ret
    exact zfi HB.out
 obtain rfl:=Option.some.inj HH.out
 clear HH
 go_wp2
 go_ret
 exact zfi HB.out

def toponymref02_Find.l0:Nat→Int→Int→(List (S37))→Option (Int)
 |0,_,_,_=>none
 |k+1,x1,a1,l0=>if x1<(l0.length:Int) then((toponymref02_Check.f k l0).bind fun t7=>(if t7=0 then(if 0≤x1 then(if ((rd_T37 l0 x1).f0)≤a1 then(if a1≤((rd_T37 l0 x1).f1) then(some ((rd_T37 l0 x1).f2)) else((toponymref02_Find.l0 k (wrap64 (x1+1)) a1 l0))) else((toponymref02_Find.l0 k (wrap64 (x1+1)) a1 l0))) else(none)) else(some 0))) else(some 0)
def toponymref02_Find.f (k:Nat) (l0:List (S37)) (a1:Int):Option (Int):=(toponymref02_Find.l0 k 0 a1 l0)
theorem toponymref02_Find.mono_l:∀ k,(∀ y0 y1 y2,LeO (toponymref02_Find.l0 k y0 y1 y2) (toponymref02_Find.l0 (k+1) y0 y1 y2))
 |0=>fun _ _ _ r h=>by simp[toponymref02_Find.l0] at h
 |k+1=>by
  have ih0:=toponymref02_Find.mono_l k
  ·intro y0 y1 y2
   unfold toponymref02_Find.l0
   with_reducible repeat' first|exact ih0 _ _ _|exact toponymref02_Check.mono _ _|exact LeO.refl _|exact LeO.none _|refine LeO.ite ?_ ?_|refine LeO.bind ?_ (fun _=>?_)
theorem toponymref02_Find.mono:∀ a0_ a1_ k,LeO (toponymref02_Find.f k a0_ a1_) (toponymref02_Find.f (k+1) a0_ a1_):=by
 intro a0_ a1_ k
 have ih0:=toponymref02_Find.mono_l k
 unfold toponymref02_Find.f
 with_reducible repeat' first|exact ih0 _ _ _|exact toponymref02_Check.mono _ _|exact LeO.refl _|exact LeO.none _|refine LeO.ite ?_ ?_|refine LeO.bind ?_ (fun _=>?_)
set_option maxHeartbeats 8000000 in
set_option maxRecDepth 100000 in
theorem toponymref02_Find.calls (k:Nat) (P_:Nat→Prop) (A0:Option Addr) (c0:Nat) (l0:List (S37)) (a1:Int) (r:Int) (w:World) (hs0:Kd.F k37 w P_ A0 l0.length l0) (hc0:l0.length≤c0) (h:toponymref02_Find.f k l0 a1=some r):
  Calls Try.prog 12 #[.slice A0 l0.length c0,.int .i32 a1] w (fun e w'=>e=.returned (.int .i64 r)∧Below w.heap.size w w'):=by
 unfold toponymref02_Find.f at h
 have HH:=za h
 clear h
 have HF0:=zfp hs0
 have HL0:=za hc0
 clear hs0 hc0
 have HB:=za (Below.refl w.heap.size w)
 go_enter Try.func12,Try.ntmps12
 go_wp2
 go_loopg [5] k (fun kq u5 w'=>∃ (x1:Int),u5=.int .i64 x1∧Aside0 ((toponymref02_Find.l0 kq x1 a1 l0)=some r)∧Aside0 (kq≤k)∧Aside0 (Kd.F k37 w' (fun k_=>(P_ k_∨w.heap.size≤k_)) A0 l0.length l0)∧Aside0 (Below w.heap.size w w'))
 case atStart=>exact⟨0,(by first|rfl|(simp;done)|(simp[*];done)),HH,⟨Nat.le_refl _⟩,⟨HF0.out⟩,⟨HB.out⟩⟩
 case round=>
  clear HH
  clear HF0 HB
  obtain⟨x1,rfl,HA,HK0,HF0,HB⟩:=hrel
  obtain⟨w3,rfl⟩:∃ wo_:World,wo_=wr:=⟨_,rfl⟩
  cases gk with
  |zero=>exact absurd HA.out (by simp[toponymref02_Find.l0])
  |succ k2=>
   have H:=HA.out
   clear HA
   simp only[toponymref02_Find.l0] at H
   have HH:=za H
   clear H
   replace HH:=zqt HH
   rcases HH with⟨HH,hk5,hk6⟩|⟨HH,hk25,hk26⟩
   ·replace HH:=zd HH
    obtain⟨t7,At8,HH⟩:=HH
    go_wp2_with ((with_reducible refine gc 10 rfl ?_);refine zc 10 (some 12) Try.func10 #[.slice A0 l0.length c0] (h:=?_);(with_reducible refine(toponymref02_Check.calls k2 (fun k_=>(P_ k_∨w.heap.size≤k_)) _ _ l0 t7 _ HF0.out HL0.out At8.out).mono ?_);rintro e w9 ⟨rfl,hb⟩;refine⟨_,rfl,?_⟩)
    refine zg ?_
    replace HF0:=zfb HF0.out hb
    replace HB:=zhb HB.out hb
    clear hb
    replace HH:=zqe HH
    rcases HH with⟨HH,hk11,hk12⟩|⟨HH,hk23,hk24⟩
    ·replace HH:=zqdo HH
     obtain⟨HH,hk14⟩:=HH
     have p15:0≤(x1:Int):=of_decide_eq_true (by first|(with_reducible assumption)|assumption)
     have q15:x1<(l0.length:Int):=of_decide_eq_true (by first|(with_reducible assumption)|assumption)
     obtain⟨ad15,e15,hx15_0,hx15_1,hx15_2⟩:=atF_T37 HF0.out x1 p15 q15
     cases e15
     replace p15:=eq_true p15
     replace q15:=eq_true q15
     replace HH:=zqd HH
     rcases HH with⟨HH,hk17⟩|⟨HH,hk21⟩
     ·replace HH:=zqd HH
      rcases HH with⟨HH,hk19⟩|⟨HH,hk20⟩
      ·obtain rfl:=Option.some.inj HH.out
       clear HH
       go_wp2
       go_ret
       exact zfi HB.out
      go_wp2
      go_roundg k2
      case measure=>have:=HK0.out;omega
      case rel=>exact⟨wrap64 (x1+1),(by first|rfl|(simp;done)|(simp[*];done)),HH,⟨by have:=HK0.out;omega⟩,⟨HF0.out⟩,⟨HB.out⟩⟩
     go_wp2
     go_roundg k2
     case measure=>have:=HK0.out;omega
     case rel=>exact⟨wrap64 (x1+1),(by first|rfl|(simp;done)|(simp[*];done)),HH,⟨by have:=HK0.out;omega⟩,⟨HF0.out⟩,⟨HB.out⟩⟩
    obtain rfl:=Option.some.inj HH.out
    clear HH
    go_wp2
    go_ret
    exact zfi HB.out
   obtain rfl:=Option.some.inj HH.out
   clear HH
   go_wp2
   go_ret
   exact zfi HB.out

def span_Count.l0:Nat→Int→Int→Int→(List (S37))→Option (Int)
 |0,_,_,_,_=>none
 |k+1,x7,x8,a1,l0=>if x8<(l0.length:Int) then(if 0≤x8 then(if ((rd_T37 l0 x8).f2)=a1 then((span_Count.l0 k (wrap64 (x7+(wrap64 ((wrap64 (wrap32 (((rd_T37 l0 x8).f1) - ((rd_T37 l0 x8).f0))))+1)))) (wrap64 (x8+1)) a1 l0)) else((span_Count.l0 k x7 (wrap64 (x8+1)) a1 l0))) else(none)) else(some x7)
def span_Count.f (k:Nat) (l0:List (S37)) (a1:Int):Option (Int):=(span_Check.f k l0).bind fun t1=>(if t1=0 then((span_Count.l0 k 0 0 a1 l0)) else(some 0))
theorem span_Count.mono_l:∀ k,(∀ y0 y1 y2 y3,LeO (span_Count.l0 k y0 y1 y2 y3) (span_Count.l0 (k+1) y0 y1 y2 y3))
 |0=>fun _ _ _ _ r h=>by simp[span_Count.l0] at h
 |k+1=>by
  have ih0:=span_Count.mono_l k
  ·intro y0 y1 y2 y3
   unfold span_Count.l0
   with_reducible repeat' first|exact ih0 _ _ _ _|exact span_Check.mono _ _|exact LeO.refl _|exact LeO.none _|refine LeO.ite ?_ ?_|refine LeO.bind ?_ (fun _=>?_)
theorem span_Count.mono:∀ a0_ a1_ k,LeO (span_Count.f k a0_ a1_) (span_Count.f (k+1) a0_ a1_):=by
 intro a0_ a1_ k
 have ih0:=span_Count.mono_l k
 unfold span_Count.f
 with_reducible repeat' first|exact ih0 _ _ _ _|exact span_Check.mono _ _|exact LeO.refl _|exact LeO.none _|refine LeO.ite ?_ ?_|refine LeO.bind ?_ (fun _=>?_)
set_option maxHeartbeats 8000000 in
set_option maxRecDepth 100000 in
theorem span_Count.calls (k:Nat) (P_:Nat→Prop) (A0:Option Addr) (c0:Nat) (l0:List (S37)) (a1:Int) (r:Int) (w:World) (hs0:Kd.F k37 w P_ A0 l0.length l0) (hc0:l0.length≤c0) (h:span_Count.f k l0 a1=some r):
  Calls Try.prog 13 #[.slice A0 l0.length c0,.int .i64 a1] w (fun e w'=>e=.returned (.int .i64 r)∧Below w.heap.size w w'):=by
 unfold span_Count.f at h
 have HH:=za h
 clear h
 have HF0:=zfp hs0
 have HL0:=za hc0
 clear hs0 hc0
 have HB:=za (Below.refl w.heap.size w)
 have hu37:=Try.underlying37
 go_enter Try.func13,Try.ntmps13
 replace HH:=zd HH
 obtain⟨t1,At2,HH⟩:=HH
 go_wp2_with ((with_reducible refine gc 9 rfl ?_);refine zc 9 (some 9) Try.func9 #[.slice A0 l0.length c0] (h:=?_);(with_reducible refine(span_Check.calls k (fun k_=>(P_ k_∨w.heap.size≤k_)) _ _ l0 t1 _ HF0.out HL0.out At2.out).mono ?_);rintro e w3 ⟨rfl,hb⟩;refine⟨_,rfl,?_⟩)
 refine zg ?_
 replace HF0:=zfb HF0.out hb
 replace HB:=zhb HB.out hb
 clear hb
 replace HH:=zqe HH
 rcases HH with⟨HH,hk5,hk6⟩|⟨HH,hk34,hk35⟩
 ·go_wp2
  go_loopg [5,13] k (fun kq u5 u13 w'=>∃ (x7:Int) (x8:Int),u5=.int .i64 x7∧u13=.int .i64 x8∧Aside0 ((span_Count.l0 kq x7 x8 a1 l0)=some r)∧Aside0 (kq≤k)∧Aside0 (Kd.F k37 w' (fun k_=>(P_ k_∨w.heap.size≤k_)) A0 l0.length l0)∧Aside0 (Below w.heap.size w w'))
  case atStart=>exact⟨0,0,(by first|rfl|(simp;done)|(simp[*];done)),(by first|rfl|(simp;done)|(simp[*];done)),HH,⟨Nat.le_refl _⟩,⟨HF0.out⟩,⟨HB.out⟩⟩
  case round=>
   clear hk5
   clear hk6
   clear HH
   clear HF0 HB
   obtain⟨x7,x8,rfl,rfl,HA,HK0,HF0,HB⟩:=hrel
   obtain⟨w10,rfl⟩:∃ wo_:World,wo_=wr:=⟨_,rfl⟩
   cases gk with
   |zero=>exact absurd HA.out (by simp[span_Count.l0])
   |succ k9=>
    have H:=HA.out
    clear HA
    simp only[span_Count.l0] at H
    have HH:=za H
    clear H
    replace HH:=zqt HH
    rcases HH with⟨HH,hk12,hk13⟩|⟨HH,hk32,hk33⟩
    ·replace HH:=zqdo HH
     obtain⟨HH,hk15⟩:=HH
     have p16:0≤(x8:Int):=of_decide_eq_true (by first|(with_reducible assumption)|assumption)
     have q16:x8<(l0.length:Int):=of_decide_eq_true (by first|(with_reducible assumption)|assumption)
     obtain⟨ad16,e16,hx16_0,hx16_1,hx16_2⟩:=atF_T37 HF0.out x8 p16 q16
     cases e16
     replace p16:=eq_true p16
     replace q16:=eq_true q16
     go_wp2_with ((with_reducible refine gd 7 rfl ?_);refine zb 7 37 #[.int .i32 0,.int .i32 0,.int .i64 0] (h:=?_);intro g17 hg w18 BKg17 hb)
     refine zg ?_
     have GEg17:=zge hg (below_size HB.out)
     replace HF0:=zfe HF0.out hg hb
     replace HB:=zhb HB.out hb
     clear hg hb
     clear hx16_0 hx16_1 hx16_2 p16 q16
     replace cBKg17:=MB.lz3 BKg17.out
     go_wp2_with ((with_reducible refine gs 37 7 rfl ?_);refine zs 37 7 #[.int .i32 ((rd_T37 l0 x8).f0),.int .i32 ((rd_T37 l0 x8).f1),.int .i64 ((rd_T37 l0 x8).f2)] BKg17.out [.int .i32 ((rd_T37 l0 x8).f0),.int .i32 ((rd_T37 l0 x8).f1),.int .i64 ((rd_T37 l0 x8).f2)] (h:=?_);intro w22 hbk hg)
     refine zg ?_
     replace HF0:=zfg HF0.out hg fun k_ hk_=>hk_.2
     replace HB:=zhg HB.out hg (below_size HB.out) GEg17
     replace BKg17:=hbk
     clear hg hbk
     replace cBKg17:=MB.lz3 BKg17.out
     replace HH:=zqe HH
     rcases HH with⟨HH,hk27,hk28⟩|⟨HH,hk29,hk30⟩
     ·go_wp2
      go_roundg k9
      case measure=>have:=HK0.out;omega
      case rel=>exact⟨wrap64 (x7+(wrap64 ((wrap64 (wrap32 (((rd_T37 l0 x8).f1) - ((rd_T37 l0 x8).f0))))+1))),wrap64 (x8+1),(by first|rfl|(simp;done)|(simp[*];done)),(by first|rfl|(simp;done)|(simp[*];done)),HH,⟨by have:=HK0.out;omega⟩,⟨(Kd.F_mono (ok:=(fun k_=>(P_ k_∨w.heap.size≤k_)∧k_≠g17)) HF0.out (fun k_ hk_=>hk_.1))⟩,⟨HB.out⟩⟩
     go_wp2
     go_roundg k9
     case measure=>have:=HK0.out;omega
     case rel=>exact⟨x7,wrap64 (x8+1),(by first|rfl|(simp;done)|(simp[*];done)),(by first|rfl|(simp;done)|(simp[*];done)),HH,⟨by have:=HK0.out;omega⟩,⟨(Kd.F_mono (ok:=(fun k_=>(P_ k_∨w.heap.size≤k_)∧k_≠g17)) HF0.out (fun k_ hk_=>hk_.1))⟩,⟨HB.out⟩⟩
    obtain rfl:=Option.some.inj HH.out
    clear HH
    go_wp2
    go_ret
    exact zfi HB.out
 obtain rfl:=Option.some.inj HH.out
 clear HH
 go_wp2
 go_ret
 exact zfi HB.out

def toponymref02_Count.l0:Nat→Int→Int→Int→(List (S37))→Option (Int)
 |0,_,_,_,_=>none
 |k+1,x1,x2,a1,l0=>if x2<(l0.length:Int) then((toponymref02_Check.f k l0).bind fun t8=>(if t8=0 then(if 0≤x2 then(if ((rd_T37 l0 x2).f2)=a1 then((toponymref02_Count.l0 k (wrap64 ((wrap64 ((wrap64 (x1+(wrap64 ((rd_T37 l0 x2).f1)))) - (wrap64 ((rd_T37 l0 x2).f0))))+1)) (wrap64 (x2+1)) a1 l0)) else((toponymref02_Count.l0 k x1 (wrap64 (x2+1)) a1 l0))) else(none)) else(some x1))) else(some x1)
def toponymref02_Count.f (k:Nat) (l0:List (S37)) (a1:Int):Option (Int):=(toponymref02_Count.l0 k 0 0 a1 l0)
theorem toponymref02_Count.mono_l:∀ k,(∀ y0 y1 y2 y3,LeO (toponymref02_Count.l0 k y0 y1 y2 y3) (toponymref02_Count.l0 (k+1) y0 y1 y2 y3))
 |0=>fun _ _ _ _ r h=>by simp[toponymref02_Count.l0] at h
 |k+1=>by
  have ih0:=toponymref02_Count.mono_l k
  ·intro y0 y1 y2 y3
   unfold toponymref02_Count.l0
   with_reducible repeat' first|exact ih0 _ _ _ _|exact toponymref02_Check.mono _ _|exact LeO.refl _|exact LeO.none _|refine LeO.ite ?_ ?_|refine LeO.bind ?_ (fun _=>?_)
theorem toponymref02_Count.mono:∀ a0_ a1_ k,LeO (toponymref02_Count.f k a0_ a1_) (toponymref02_Count.f (k+1) a0_ a1_):=by
 intro a0_ a1_ k
 have ih0:=toponymref02_Count.mono_l k
 unfold toponymref02_Count.f
 with_reducible repeat' first|exact ih0 _ _ _ _|exact toponymref02_Check.mono _ _|exact LeO.refl _|exact LeO.none _|refine LeO.ite ?_ ?_|refine LeO.bind ?_ (fun _=>?_)
set_option maxHeartbeats 8000000 in
set_option maxRecDepth 100000 in
theorem toponymref02_Count.calls (k:Nat) (P_:Nat→Prop) (A0:Option Addr) (c0:Nat) (l0:List (S37)) (a1:Int) (r:Int) (w:World) (hs0:Kd.F k37 w P_ A0 l0.length l0) (hc0:l0.length≤c0) (h:toponymref02_Count.f k l0 a1=some r):
  Calls Try.prog 14 #[.slice A0 l0.length c0,.int .i64 a1] w (fun e w'=>e=.returned (.int .i64 r)∧Below w.heap.size w w'):=by
 unfold toponymref02_Count.f at h
 have HH:=za h
 clear h
 have HF0:=zfp hs0
 have HL0:=za hc0
 clear hs0 hc0
 have HB:=za (Below.refl w.heap.size w)
 go_enter Try.func14,Try.ntmps14
 go_wp2
 go_loopg [5,6] k (fun kq u5 u6 w'=>∃ (x1:Int) (x2:Int),u5=.int .i64 x1∧u6=.int .i64 x2∧Aside0 ((toponymref02_Count.l0 kq x1 x2 a1 l0)=some r)∧Aside0 (kq≤k)∧Aside0 (Kd.F k37 w' (fun k_=>(P_ k_∨w.heap.size≤k_)) A0 l0.length l0)∧Aside0 (Below w.heap.size w w'))
 case atStart=>exact⟨0,0,(by first|rfl|(simp;done)|(simp[*];done)),(by first|rfl|(simp;done)|(simp[*];done)),HH,⟨Nat.le_refl _⟩,⟨HF0.out⟩,⟨HB.out⟩⟩
 case round=>
  clear HH
  clear HF0 HB
  obtain⟨x1,x2,rfl,rfl,HA,HK0,HF0,HB⟩:=hrel
  obtain⟨w4,rfl⟩:∃ wo_:World,wo_=wr:=⟨_,rfl⟩
  cases gk with
  |zero=>exact absurd HA.out (by simp[toponymref02_Count.l0])
  |succ k3=>
   have H:=HA.out
   clear HA
   simp only[toponymref02_Count.l0] at H
   have HH:=za H
   clear H
   replace HH:=zqt HH
   rcases HH with⟨HH,hk6,hk7⟩|⟨HH,hk25,hk26⟩
   ·replace HH:=zd HH
    obtain⟨t8,At9,HH⟩:=HH
    go_wp2_with ((with_reducible refine gc 10 rfl ?_);refine zc 10 (some 13) Try.func10 #[.slice A0 l0.length c0] (h:=?_);(with_reducible refine(toponymref02_Check.calls k3 (fun k_=>(P_ k_∨w.heap.size≤k_)) _ _ l0 t8 _ HF0.out HL0.out At9.out).mono ?_);rintro e w10 ⟨rfl,hb⟩;refine⟨_,rfl,?_⟩)
    refine zg ?_
    replace HF0:=zfb HF0.out hb
    replace HB:=zhb HB.out hb
    clear hb
    replace HH:=zqe HH
    rcases HH with⟨HH,hk12,hk13⟩|⟨HH,hk23,hk24⟩
    ·replace HH:=zqdo HH
     obtain⟨HH,hk15⟩:=HH
     have p16:0≤(x2:Int):=of_decide_eq_true (by first|(with_reducible assumption)|assumption)
     have q16:x2<(l0.length:Int):=of_decide_eq_true (by first|(with_reducible assumption)|assumption)
     obtain⟨ad16,e16,hx16_0,hx16_1,hx16_2⟩:=atF_T37 HF0.out x2 p16 q16
     cases e16
     replace p16:=eq_true p16
     replace q16:=eq_true q16
     replace HH:=zqe HH
     rcases HH with⟨HH,hk18,hk19⟩|⟨HH,hk20,hk21⟩
     ·go_wp2
      go_quiet (fail)
      go_wp2
      go_roundg k3
      case measure=>have:=HK0.out;omega
      case rel=>exact⟨wrap64 ((wrap64 ((wrap64 (x1+(wrap64 ((rd_T37 l0 x2).f1)))) - (wrap64 ((rd_T37 l0 x2).f0))))+1),wrap64 (x2+1),(by first|rfl|(simp;done)|(simp[*];done)),(by first|rfl|(simp;done)|(simp[*];done)),HH,⟨by have:=HK0.out;omega⟩,⟨(by(with_reducible repeat(first|apply Kd.F_alloc|apply Kd.F_drewN|apply Kd.F_drew));exact HF0.out)⟩,⟨(by repeat(first|(with_reducible first|exact HB.out|apply below_alloc|apply pw_below_drewN|apply below_drew1)|exact HB.out))⟩⟩
     go_wp2
     go_roundg k3
     case measure=>have:=HK0.out;omega
     case rel=>exact⟨x1,wrap64 (x2+1),(by first|rfl|(simp;done)|(simp[*];done)),(by first|rfl|(simp;done)|(simp[*];done)),HH,⟨by have:=HK0.out;omega⟩,⟨HF0.out⟩,⟨HB.out⟩⟩
    obtain rfl:=Option.some.inj HH.out
    clear HH
    go_wp2
    go_ret
    exact zfi HB.out
   obtain rfl:=Option.some.inj HH.out
   clear HH
   go_wp2
   go_ret
   exact zfi HB.out
end Go.Proofs.Ytcokpnajkkjclaa.GA

namespace Go.Proofs.Ytcokpnajkkjclaa.GA
open Go.RowKit Go.Proofs.Ytcokpnajkkjclaa Go.Proofs.Ytcokpnajkkjclaa.MW Go.Proofs.Ytcokpnajkkjclaa.MQ Go.Proofs.YtcokpnajkkjclaaW.PrintWords Go.Proofs.YtcokpnajkkjclaaW.PrintLast Go.Proofs.YtcokpnajkkjclaaW.PrintMore
set_option linter.unusedVariables false
set_option linter.unusedSimpArgs false
/-- The places ahead of n with their elements, the last one first. -/
def back.seq (l:List S37):Nat→List (Int × S37)
  |0=>[]
  |i+1=>((i:Int),rd_T37 l (i:Int))::back.seq l i
abbrev encB (x:Int × S37):Array Value:= #[.int .i64 x.1,.agg #[.int .i32 x.2.f0,.int .i32 x.2.f1,.int .i64 x.2.f2]]
set_option maxHeartbeats 8000000 in
set_option maxRecDepth 100000 in
theorem back.iter (K K':Nat→Prop) (Bl:Nat) (A0:Option Addr) (c0:Nat) (l0:List S37) (w:World) (hl:w.heap[Bl]? =some (.cells #[.slice A0 l0.length c0] 22 (0,0)))
    (hF:Kd.F k37 w K' A0 l0.length l0) (hc0:l0.length≤c0) (hlen:l0.length≤9223372036854775807) (hKl:K Bl) (hK':∀ k,K' k→K k):
    Iter Try.prog 33 #[.pointer (some ⟨Bl,0,none⟩)] encB (fun _=>False) K (back.seq l0 l0.length) w:=by
  intro l J Jx W hkw hJ hY h0
  have hlW:=(hkw.block Bl (blk_lt hl) (blk_lt hl)).trans hl
  have hFW:=Kd.F_step (Kd.F_bound hF) (fun k hk _=>hkw.block k hk.2 hk.2)
  replace hFW:=Kd.F_mono hFW (fun k hk=>hk.1)
  clear hF hkw hl
  have HY:=za hY
  have HJ:=za hJ
  have H0:=za h0
  have HF0:=za hFW
  have BKl:=za hlW
  have HK':=za hK'
  have HKl:=za hKl
  have HL0:=za hc0
  clear hY hJ h0 hFW hlW hK' hKl hc0
  have c1:=MB.lz1 BKl.out
  have hw0:wrap64 ((l0.length:Int) - 1)=(l0.length:Int) - 1:=by simp[wrap64];omega
  show Calls Try.prog 33 #[.func (.yield l) #[] #[],.pointer (some ⟨Bl,0,none⟩)] W _
  go_enter Try.func33,Try.ntmps33
  go_wp2
  go_loopg [3] l0.length (fun kq u3 w'=>∃ (i:Nat) (E:Nat→Prop) (pre:List (Int × S37)),u3=.int .i64 ((i:Int) - 1)∧i≤kq∧i≤l0.length∧Aside0 (back.seq l0 l0.length=pre++back.seq l0 i)∧Aside0 (Kd.F k37 w' K' A0 l0.length l0)∧Aside0 (w'.heap[Bl]? =some (.cells #[.slice A0 l0.length c0] 22 (0,0)))∧Aside0 (J E pre w'))
  case atStart=>exact⟨l0.length,(fun _=>False),[],rfl,Nat.le_refl _,Nat.le_refl _,⟨rfl⟩,HF0,BKl,H0⟩
  case round=>
    clear c1 HF0 BKl H0
    obtain⟨i,E,pre,rfl,hik,hil,HX,HF0,BKl,HJ0⟩:=hrel
    obtain⟨w1,rfl⟩:∃ wo_:World,wo_=wr:=⟨_,rfl⟩
    have c1:=MB.lz1 BKl.out
    rcases i with _|j
    · have p1:(0≤((0:Nat):Int) - 1)=False:=eq_false (by omega)
      have hX:back.seq l0 l0.length=pre:=by rw[HX.out];simp[back.seq]
      have hJ1:=Lib.hid HJ0.out
      rw[← hX] at hJ1
      clear HJ0 HX hX
      go_wp2
      go_end0
      exact⟨⟨_,rfl⟩,.inl ⟨_,hJ1.out⟩⟩
    · have e1:(((j+1:Nat):Int) - 1)=(j:Int):=by omega
      rw[e1]
      clear e1
      have p1:(0≤(j:Int))=True:=eq_true (by omega)
      have p2:((j:Int)<(l0.length:Int))=True:=eq_true (by omega)
      obtain⟨ad,e1,hx0,hx1,hx2⟩:=atF_T37 HF0.out (j:Int) (by omega) (by omega)
      subst e1
      rw[Int.toNat_natCast] at hx0 hx1 hx2
      have hX1:=za (show back.seq l0 l0.length=(pre++[((j:Int),rd_T37 l0 (j:Int))])++back.seq l0 j by rw[HX.out,List.append_assoc];rfl)
      obtain⟨fn,tmps,assign,body,hy,hR⟩:=HY.out E pre _ (back.seq l0 j) w1 HX.out HJ0.out
      dsimp only[encB] at hy hR
      clear HX HY
      have hw1:wrap64 ((j:Int) - 1)=(j:Int) - 1:=by simp[wrap64];omega
      repeat(first|(refine code_stop (id:=3) ?_)|go_values|go_skip|go_guarded|go_step|go_upon)
      refine zg ?_
      refine(wpIn_wide (n:=1)).1 ?_
      gi_wp2
      refine hR.mono ?_
      clear hR hy
      rintro e w8 (⟨rfl,hJ8,hk8⟩|⟨rfl,hJ8⟩)
      · have HF8:=za (Kd.F_step HF0.out (fun k_ hk_ hlt_=>hk8.block k_ (.inl (HK'.out k_ hk_)) hlt_))
        have BKl8:=za ((hk8.block Bl (.inl HKl.out) (blk_lt BKl.out)).trans BKl.out)
        have HJ8:=za hJ8
        clear hJ8 hk8 c1 HF0 BKl HJ0 hx0 hx1 hx2
        have c1:=MB.lz1 BKl8.out
        gi_wp2
        go_wp2
        go_roundg j
        case measure=>omega
        case rel=>exact⟨j,E,_,rfl,Nat.le_refl _,by omega,hX1,HF8,BKl8,HJ8⟩
      · have hJ9:=Lib.hid hJ8
        clear hJ8 c1 HJ0 hx0 hx1 hx2
        gi_wp2
        go_wp2
        refine bodyPost_ret (results_none rfl _ _ _) rfl ?_
        exact⟨⟨_,rfl⟩,.inr ⟨_,_,hJ9.out⟩⟩

/-- The number lies in the span. -/
def back.hit (F:Int) (x:S37):Bool:=decide (x.f0≤F) && decide (F≤x.f1)
/-- What the first of these spans that holds the number has. -/
def back.look (F H:Int):List (Int × S37)→Int
  |[]=>H
  |p::r=>if back.hit F p.2=true then p.2.f2 else back.look F H r
def back.find (l:List S37) (F H:Int):Int:=back.look F H (back.seq l l.length)
theorem back.look_none (F H:Int):∀ xs,(∀ p ∈ xs,back.hit F p.2=false)→back.look F H xs=H
  |[],_=>rfl
  |p::r,h=>by
    rw[back.look,if_neg (by rw[h p (by simp)];simp)]
    exact back.look_none F H r (fun q hq=>h q (by simp[hq]))
theorem back.look_hit (F H:Int) (p:Int × S37) (r:List (Int × S37)) (hp:back.hit F p.2=true):∀ xs,(∀ q ∈ xs,back.hit F q.2=false)→back.look F H (xs++p::r)=p.2.f2
  |[],_=>by rw[List.nil_append,back.look,if_pos hp]
  |q::t,h=>by
    rw[List.cons_append,back.look,if_neg (by rw[h q (by simp)];simp)]
    exact back.look_hit F H p r hp t (fun q' hq=>h q' (by simp[hq]))
set_option maxHeartbeats 2000000 in
/-- The loop from the last span on that stops at the first one that holds a number. -/
theorem back.law {Q:Exit→Act→World→Prop} {tmps:Array Value} {ds:List Nat} {w:World} {b:Nat} {g:Operand} {t0 t1 t9:Tmp} {La L1 L2:List Oper} {ida idb id1 id2 ix:Nat} {tc:Operand}
    (K':Nat→Prop) (Bl:Nat) (A0:Option Addr) (c0:Nat) (l0:List S37) (hl:w.heap[Bl]? =some (.cells #[.slice A0 l0.length c0] 22 (0,0)))
    (hF:Kd.F k37 w K' A0 l0.length l0) (hc0:l0.length≤c0) (hlen:l0.length≤9223372036854775807) (g7:Nat) (F T H:Int) (hg7:w.heap[g7]? =some (.cells #[.int .i32 F,.int .i32 T,.int .i64 H] 37 (0,0)))
    (hK7:∀ k,K' k→k≠g7) (hgl:Aside0 (g7≠Bl)) (hds:Aside0 (Ds b ds w)) (hb:b≤w.heap.size)
    (hg:(⟨tmps,ds.map markD⟩:Act).eval g=.func (.func 33) #[] #[.pointer (some ⟨Bl,0,none⟩)]) (hix:ix≠idb) (hQ:∀ a w,Q .normal a w→Q (.exit ix) a w)
    (hda:∀ o ∈ La,∀ c,o.op≠.defer c) (hd1:∀ o ∈ L1,∀ c,o.op≠.defer c) (hd2:∀ o ∈ L2,∀ c,o.op≠.defer c)
    (hA:∀ (i:Int) (x:S37) (W:World) (Q':Exit→Act→World→Prop),Aside0 (∀ g9 W',W.heap.size≤g9→W'.heap[g9]? =some (.cells #[.int .i32 x.f0,.int .i32 x.f1,.int .i64 x.f2] 37 (0,0))→Below W.heap.size W W'→
        Q' .normal ⟨((tmps.setIfInBounds t0 (.int .i64 i)).setIfInBounds t1 (.agg #[.int .i32 x.f0,.int .i32 x.f1,.int .i64 x.f2])).setIfInBounds t9 (.pointer (some ⟨g9,0,none⟩)),[]⟩ W')→
      wpList Try.prog La.toArray Q' La ⟨(tmps.setIfInBounds t0 (.int .i64 i)).setIfInBounds t1 (.agg #[.int .i32 x.f0,.int .i32 x.f1,.int .i64 x.f2]),[]⟩ W)
    (hB:∀ (i:Int) (x:S37) (g9:Nat) (W:World) (Q':Exit→Act→World→Prop),Aside0 (W.heap[g9]? =some (.cells #[.int .i32 x.f0,.int .i32 x.f1,.int .i64 x.f2] 37 (0,0)))→Aside0 (W.heap[g7]? =some (.cells #[.int .i32 F,.int .i32 T,.int .i64 H] 37 (0,0)))→
        Aside0 (∀ a',a'.eval tc=.bool (back.hit F x)→(∀ Q2:Exit→Act→World→Prop,Aside0 (∀ a2 W2,W2.heap[g7]? =some (.cells #[.int .i32 F,.int .i32 T,.int .i64 x.f2] 37 (0,0))→W.grownBy W2 (some g7)→Q2 .normal a2 W2)→back.hit F x=true→wpList Try.prog L2.toArray Q2 L2 a' W)→Q' .normal a' W)→
      wpList Try.prog L1.toArray Q' L1 ⟨((tmps.setIfInBounds t0 (.int .i64 i)).setIfInBounds t1 (.agg #[.int .i32 x.f0,.int .i32 x.f1,.int .i64 x.f2])).setIfInBounds t9 (.pointer (some ⟨g9,0,none⟩)),[]⟩ W)
    (hK:∀ (w':World) (ds':List Nat),Aside0 (w'.heap[g7]? =some (.cells #[.int .i32 F,.int .i32 T,.int .i64 (back.find l0 F H)] 37 (0,0)))→Kp (fun k=>k≠g7∧k<w.heap.size) w w'→Aside0 (Ds b ds' w')→Stop (Q .normal ⟨tmps,ds'.map markD⟩ w') (.mk _)):
    (Code.rangeFunc g #[t0,t1] (.region ida La.toArray false) (.block idb (.seq (.region id1 L1.toArray false) (.cond tc (.seq (.region id2 L2.toArray false) (.exit ix)) .skip)))).wp Try.prog Q ⟨tmps,ds.map markD⟩ w:=by
  have hg7lt:=blk_lt hg7
  have hfin:∀ (w':World) (D:Nat),D=w.heap.size→Kp (fun k=>k≠g7∧k<w.heap.size) w w'→w'.heap[D]? =some (.deferred (some []))→Ds b (D::ds) w':=by
    intro w' D hD hk hWD
    refine⟨List.nodup_cons.2 ⟨fun hm=>?_,hds.out.1⟩,fun D' hD'=>?_⟩
    · have:=blk_lt (hds.out.2 _ hm).2
      omega
    · rcases List.mem_cons.1 hD' with e|hm
      · rw[e];exact⟨by omega,hWD⟩
      · have hd':=hds.out.2 D' hm
        refine⟨hd'.1,(hk.block D' ⟨fun e=>?_,blk_lt hd'.2⟩ (blk_lt hd'.2)).trans hd'.2⟩
        have h5:=hd'.2
        rw[e,hg7] at h5
        cases h5
  refine range_law (enc:=encB) (E₀:=fun _=>False) (K:=fun k=>(K' k∧k<w.heap.size)∨k=Bl) (xs:=back.seq l0 l0.length) hg (enters_ Try.func33 (by kernel_rfl) rfl)
    (back.iter _ (fun k=>K' k∧k<w.heap.size) Bl A0 c0 l0 w hl (Kd.F_bound hF) hc0 hlen (.inr rfl) (fun k hk=>.inl hk)) (fun _=>rfl) (fun k e=>e.elim) (fun k hk=>hk.elim (fun h=>h.2) (fun e=>by rw[e];exact blk_lt hl))
    (fun E pre W=>W.heap[g7]? =some (.cells #[.int .i32 F,.int .i32 T,.int .i64 H] 37 (0,0))∧(∀ k,E k→w.heap.size≤k)∧Kp (fun k=>k≠g7∧k<w.heap.size) w W∧∀ p ∈ pre,back.hit F p.2=false)
    (fun c E pre W=>c=.exit ix∧W.heap[g7]? =some (.cells #[.int .i32 F,.int .i32 T,.int .i64 (back.find l0 F H)] 37 (0,0))∧(∀ k,E k→w.heap.size≤k)∧Kp (fun k=>k≠g7∧k<w.heap.size) w W) ⟨?_,?_⟩ ?_ ⟨hg7,fun k e=>e.elim,Kp.refl _ _,by simp⟩ ?_ ?_ ?_
  · rintro E s A A' row ⟨h1,h2,h3,h4⟩ hg' hr
    exact⟨(hg'.block g7 (blk_lt h1) (fun e=>by have:=h2 g7 (hr g7 e.symm);omega)).trans h1,h2,h3.trans (Kp.grown hg' (fun r e hk=>by have:=h2 r (hr r e);omega)),h4⟩
  · rintro E s A A' g' ⟨h1,h2,h3,h4⟩ hg' hge hlt
    refine⟨(hg'.block g7 (blk_lt h1) (by simp)).trans h1,fun k hk=>hk.elim (h2 k) (fun e=>?_),h3.trans (Kp.grown hg' (fun r e=>by cases e)),h4⟩
    have:=h3.size
    omega
  · rintro c E s A A' row ⟨h0,h1,h2,h3⟩ hg' hr
    exact⟨h0,(hg'.block g7 (blk_lt h1) (fun e=>by have:=h2 g7 (hr g7 e.symm);omega)).trans h1,h2,h3.trans (Kp.grown hg' (fun r e hk=>by have:=h2 r (hr r e);omega))⟩
  · rintro l E pre ⟨i,x⟩ rest W hxs ⟨h1,h2,h3,h4⟩ hEl hlt
    have hls:=h2 l hEl
    have hset:setAll #[t0,t1] (encB (i,x)) tmps=(tmps.setIfInBounds t0 (.int .i64 i)).setIfInBounds t1 (.agg #[.int .i32 x.f0,.int .i32 x.f1,.int .i64 x.f2]):=by first|rfl|(simp[setAll];done)|(simp[setAll,Array.zip,Array.zipWith];done)
    rw[hset]
    refine round_region (fun ⟨_,_,h⟩=>h) hda (hA i x W _ ⟨?_⟩)
    intro g9 W1 hg9 hx9 hb1
    refine⟨hb1.block l hlt,fun V hV=>?_⟩
    have h71:=(hb1.block g7 (blk_lt h1)).trans h1
    have hW1:W.heap.size≤W1.heap.size:=hb1.size
    have hx9V:=(hV.block g9 (blk_lt hx9) (fun e=>by injection e with e;omega)).trans hx9
    have h7V:=(hV.block g7 (blk_lt h71) (fun e=>by injection e with e;omega)).trans h71
    have hkW:Kp (fun k=>((((K' k∧k<w.heap.size)∨k=Bl)∨E k)∧k≠l)∧k<W.heap.size) W V:=by
      refine⟨hV.os.trans hb1.os,hV.tape.trans hb1.tape,hV.output.trans hb1.output,Nat.le_trans hb1.size hV.size,fun k hk hlt'=>?_⟩
      exact(hV.block k (by omega) (fun e=>hk.1.2 (Option.some.inj e))).trans (hb1.block k hk.2)
    have hkV:Kp (fun k=>k≠g7∧k<w.heap.size) w V:=h3.trans ⟨hkW.os,hkW.tape,hkW.output,hkW.size,fun k hk hlt'=>(hV.block k (by omega) (fun e=>by injection e with e;omega)).trans (hb1.block k hlt')⟩
    have hVl:V.heap[l]? =V.heap[l]? :=rfl
    refine wpIn_block (wpIn_seq (round_region (fun ⟨_,_,h⟩=>by first|exact h|exact inBlock_calm roundEnd_calm ⟨_,_,h⟩) hd1 (hB i x g9 V _ ⟨hx9V⟩ ⟨h7V⟩ ⟨?_⟩)))
    intro a' hc hL2
    show(Code.cond tc (.seq (.region id2 L2.toArray false) (.exit ix)) .skip).wpIn (Fence.wide.inRound l) 0 Try.prog (Exit.inBlock idb (roundEnd l E _ _ _ (pre++[(i,x)]) W V)) a' V
    refine wpIn_cond_split hc (fun ht=>?_) (fun hf=>?_)
    · refine wpIn_seq (round_region (fun ⟨_,_,h⟩=>by first|exact h|exact inBlock_calm roundEnd_calm ⟨_,_,h⟩) hd2 (hL2 _ ⟨?_⟩ ht))
      intro a2 W2 h72 hg2
      refine wpIn_exit ?_
      have hKp2:Kp (fun k=>(((K' k∧k<w.heap.size)∨k=Bl)∨E k)∧k≠l) W W2:=by
        refine⟨hg2.os.trans hkW.os,hg2.tape.trans hkW.tape,hg2.output.trans hkW.output,Nat.le_trans hkW.size hg2.size,fun k hk hlt'=>?_⟩
        refine(hg2.block k (Nat.lt_of_lt_of_le hlt' hkW.size) (fun e=>?_)).trans (hkW.block k ⟨hk,hlt'⟩ hlt')
        injection e with e
        rcases hk.1 with(h|h)|h
        · exact hK7 k h.1 e
        · exact hgl.out (by rw[← e,h])
        · have:=h2 k h;omega
      have hfind:back.find l0 F H=x.f2:=by
        unfold back.find
        rw[hxs]
        exact back.look_hit F H (i,x) rest ht pre h4
      have hend:roundEnd l E (fun k=>(K' k∧k<w.heap.size)∨k=Bl) (fun E pre W=>W.heap[g7]? =some (.cells #[.int .i32 F,.int .i32 T,.int .i64 H] 37 (0,0))∧(∀ k,E k→w.heap.size≤k)∧Kp (fun k=>k≠g7∧k<w.heap.size) w W∧∀ p ∈ pre,back.hit F p.2=false)
          (fun c E pre W=>c=.exit ix∧W.heap[g7]? =some (.cells #[.int .i32 F,.int .i32 T,.int .i64 (back.find l0 F H)] 37 (0,0))∧(∀ k,E k→w.heap.size≤k)∧Kp (fun k=>k≠g7∧k<w.heap.size) w W) (pre++[(i,x)]) W V (.exit ix) a2 W2:=
        ⟨hKp2,hg2.block l (Nat.lt_of_lt_of_le hlt hkW.size) (fun e=>by injection e with e;omega),rfl,by rw[hfind];exact h72,h2,hkV.trans (Kp.grown hg2 (fun r e hk=>hk.1 (Option.some.inj e).symm))⟩
      simpa [Exit.inBlock,hix] using hend
    · refine wpIn_skip ?_
      have hend:roundEnd l E (fun k=>(K' k∧k<w.heap.size)∨k=Bl) (fun E pre W=>W.heap[g7]? =some (.cells #[.int .i32 F,.int .i32 T,.int .i64 H] 37 (0,0))∧(∀ k,E k→w.heap.size≤k)∧Kp (fun k=>k≠g7∧k<w.heap.size) w W∧∀ p ∈ pre,back.hit F p.2=false)
          (fun c E pre W=>c=.exit ix∧W.heap[g7]? =some (.cells #[.int .i32 F,.int .i32 T,.int .i64 (back.find l0 F H)] 37 (0,0))∧(∀ k,E k→w.heap.size≤k)∧Kp (fun k=>k≠g7∧k<w.heap.size) w W) (pre++[(i,x)]) W V .normal a' V:=
        ⟨⟨hkW.os,hkW.tape,hkW.output,hkW.size,fun k hk hlt'=>hkW.block k ⟨hk,hlt'⟩ hlt'⟩,rfl,h7V,h2,hkV,fun p hp=>by
          rcases List.mem_append.1 hp with h|h
          · exact h4 p h
          · have:=List.mem_singleton.1 h
            rw[this];exact hf⟩
      simpa [Exit.inBlock] using hend
  · rintro E W ⟨h1,h2,h3,h4⟩ hED hWD
    exact(hK W (w.heap.size::ds) ⟨by unfold back.find;rw[back.look_none F H _ h4];exact h1⟩ h3 ⟨hfin W _ rfl h3 hWD⟩).out
  · rintro c E pre W ⟨rfl,h1,h2,h3⟩ hED hWD
    exact wp_exit (hQ _ _ (hK W (w.heap.size::ds) ⟨h1⟩ h3 ⟨hfin W _ rfl h3 hWD⟩).out)
/-- A row of spans reaches no other block. -/
theorem back.N_own {W:World} {base e:Nat} {ok:Nat→Prop} {v:Value} {xs:List S37} (h:Kd.N k37 e W base ok v xs):Kd.N k37 e W base (fun k=>some k=v.ownBlock) v xs:=by
  obtain⟨h0,rows,hl,hR,hf⟩:=h
  refine⟨fun k hk=>hk.symm,rows,hl,hR,fun j x c hx hc=>?_⟩
  rw[k37_open (Kd.FK_now (hf j x c hx hc))]
  exact k37_mkF _ _ x
/-- .. the marks' blocks are none of its. -/
theorem back.N_marks {W W9:World} {base e:Nat} {ds:List Nat} {ok:Nat→Prop} {v:Value} {xs:List S37} (h:Kd.N k37 e W base ok v xs) (hk:Kp (fun k=>k ∉ ds) W W9) (hd:∀ D ∈ ds,W.heap[D]? =some (.deferred (some []))):Kd.N k37 e W9 base ok v xs:=by
  refine Kd.N_mono (Kd.N_step (back.N_own h) (fun k hv hlt=>hk.block k (fun hm=>?_) hlt)) (fun k hv=>h.1 k hv.symm)
  obtain⟨cells,hc⟩:=Kd.N_typed h k hv.symm
  have:=hd k hm
  rw[hc] at this
  cases this
theorem back.below {W W1 W2:World} {g:Nat} (h:Below W.heap.size W W1) (hg:g=W.heap.size) (h2:W1.grownBy W2 (some g)):Below W.heap.size W W2:=
  ⟨h2.os.trans h.os,h2.tape.trans h.tape,h2.output.trans h.output,Nat.le_trans h.size h2.size,fun k hk=>(h2.block k (Nat.lt_of_lt_of_le hk h.size) (fun e=>by injection e with e;omega)).trans (h.block k hk)⟩
end Go.Proofs.Ytcokpnajkkjclaa.GA

namespace Go.Proofs.Ytcokpnajkkjclaa.GA
open Go.RowKit Go.Proofs.Ytcokpnajkkjclaa Go.Proofs.Ytcokpnajkkjclaa.MW Go.Proofs.YtcokpnajkkjclaaW.PrintWords Go.Proofs.YtcokpnajkkjclaaW.PrintLast Go.Proofs.YtcokpnajkkjclaaW.PrintMore
attribute [local go_sem] max2_int min2_int max_two min_two
set_option linter.unusedVariables false
set_option linter.unusedSimpArgs false
def span_Build_1.f (a0_0:Int) (a0_1:Int) (a0_2:Int):Option (Bool):=(span_piece_may.f a0_0 a0_1 a0_2).bind fun t6=>(some (!t6))
set_option maxHeartbeats 8000000 in
set_option maxRecDepth 100000 in
theorem span_Build_1.calls (a0_0:Int) (a0_1:Int) (a0_2:Int) (r:Bool) (w:World) (h:span_Build_1.f a0_0 a0_1 a0_2=some r):
  Calls Try.prog 23 #[.agg #[.int .i32 a0_0,.int .i32 a0_1,.int .i64 a0_2]] w (fun e w'=>e=.returned (.bool r)∧Below w.heap.size w w'):=by
 unfold span_Build_1.f at h
 have HH:=za h
 clear h
 have HB:=za (Below.refl w.heap.size w)
 have hu37:=Try.underlying37
 go_enter Try.func23,Try.ntmps23
 go_wp2_with ((with_reducible refine gd 1 rfl ?_);refine zb 1 37 #[.int .i32 a0_0,.int .i32 a0_1,.int .i64 a0_2] (h:=?_);intro g1 hg w2 BKg1 hb)
 refine zg ?_
 replace HB:=zhb HB.out hb
 clear hg hb
 replace cBKg1:=MB.lz3 BKg1.out
 replace HH:=zd HH
 obtain⟨t6,At7,HH⟩:=HH
 go_wp2_with ((with_reducible refine gc 18 rfl ?_);refine zc 18 (some 4) Try.func18 #[.agg #[.int .i32 a0_0,.int .i32 a0_1,.int .i64 a0_2]] (h:=?_);(with_reducible refine(span_piece_may.calls  a0_0 a0_1 a0_2 t6 _  At7.out).mono ?_);rintro e w8 ⟨rfl,hb⟩;refine⟨_,rfl,?_⟩)
 refine zg ?_
 replace BKg1:=zbb BKg1.out hb
 replace HB:=zhb HB.out hb
 clear hb
 replace cBKg1:=MB.lz3 BKg1.out
 obtain rfl:=Option.some.inj HH.out
 clear HH
 go_wp2
 go_ret
 exact zfi HB.out

def span_piece_start.f (a0_0:Int) (a0_1:Int) (a0_2:Int):Option (Int):=some a0_0
set_option maxHeartbeats 8000000 in
set_option maxRecDepth 100000 in
theorem span_piece_start.calls (a0_0:Int) (a0_1:Int) (a0_2:Int) (r:Int) (w:World) (h:span_piece_start.f a0_0 a0_1 a0_2=some r):
  Calls Try.prog 29 #[.agg #[.int .i32 a0_0,.int .i32 a0_1,.int .i64 a0_2]] w (fun e w'=>e=.returned (.int .i32 r)∧Below w.heap.size w w'):=by
 unfold span_piece_start.f at h
 have HH:=za h
 clear h
 have HB:=za (Below.refl w.heap.size w)
 have hu39:=Try.underlying39
 go_enter Try.func29,Try.ntmps29
 go_wp2_with ((with_reducible refine gd 1 rfl ?_);refine zb 1 39 #[.int .i32 a0_0,.int .i32 a0_1,.int .i64 a0_2] (h:=?_);intro g1 hg w2 BKg1 hb)
 refine zg ?_
 replace HB:=zhb HB.out hb
 clear hg hb
 replace cBKg1:=MB.lz3 BKg1.out
 obtain rfl:=Option.some.inj HH.out
 clear HH
 go_wp2
 go_ret
 exact zfi HB.out

def span_piece_behind.f (a0_0:Int) (a0_1:Int) (a0_2:Int):Option (Int):=some (wrap32 (a0_1+1))
set_option maxHeartbeats 8000000 in
set_option maxRecDepth 100000 in
theorem span_piece_behind.calls (a0_0:Int) (a0_1:Int) (a0_2:Int) (r:Int) (w:World) (h:span_piece_behind.f a0_0 a0_1 a0_2=some r):
  Calls Try.prog 30 #[.agg #[.int .i32 a0_0,.int .i32 a0_1,.int .i64 a0_2]] w (fun e w'=>e=.returned (.int .i32 r)∧Below w.heap.size w w'):=by
 unfold span_piece_behind.f at h
 have HH:=za h
 clear h
 have HB:=za (Below.refl w.heap.size w)
 have hu39:=Try.underlying39
 go_enter Try.func30,Try.ntmps30
 go_wp2_with ((with_reducible refine gd 1 rfl ?_);refine zb 1 39 #[.int .i32 a0_0,.int .i32 a0_1,.int .i64 a0_2] (h:=?_);intro g1 hg w2 BKg1 hb)
 refine zg ?_
 replace HB:=zhb HB.out hb
 clear hg hb
 replace cBKg1:=MB.lz3 BKg1.out
 obtain rfl:=Option.some.inj HH.out
 clear HH
 go_wp2
 go_ret
 exact zfi HB.out

def cmp_isNaN_rune.f (a0:Int):Option (Bool):=some (a0 != a0)
set_option maxHeartbeats 8000000 in
set_option maxRecDepth 100000 in
theorem cmp_isNaN_rune.calls (a0:Int) (r:Bool) (w:World) (h:cmp_isNaN_rune.f a0=some r):
  Calls Try.prog 52 #[.int .i32 a0] w (fun e w'=>e=.returned (.bool r)∧Drawn0 w w'):=by
 unfold cmp_isNaN_rune.f at h
 have HH:=za h
 clear h
 go_enter Try.func52,Try.ntmps52
 obtain rfl:=Option.some.inj HH.out
 clear HH
 go_wp2
 go_ret
 exact⟨by first|rfl|(simp;done)|(simp[*];done),by repeat(first|exact Drawn0.refl _|apply Drawn0.step)⟩

def cmp_Less_rune.f (a0:Int) (a1:Int):Option (Bool):=(cmp_isNaN_rune.f a0).bind fun t1=>(if t1=true then((cmp_isNaN_rune.f a1).bind fun t5=>(if t5=true then(some (decide (a0<a1))) else(some true))) else(some (decide (a0<a1))))
set_option maxHeartbeats 8000000 in
set_option maxRecDepth 100000 in
theorem cmp_Less_rune.calls (a0:Int) (a1:Int) (r:Bool) (w:World) (h:cmp_Less_rune.f a0 a1=some r):
  Calls Try.prog 42 #[.int .i32 a0,.int .i32 a1] w (fun e w'=>e=.returned (.bool r)∧Drawn0 w w'):=by
 unfold cmp_Less_rune.f at h
 have HH:=za h
 clear h
 go_enter Try.func42,Try.ntmps42
 replace HH:=zd HH
 obtain⟨t1,At2,HH⟩:=HH
 go_wp2_with ((with_reducible refine gc 52 rfl ?_);refine zc 52 (some 6) Try.func52 #[.int .i32 a0] (h:=?_);(with_reducible refine(cmp_isNaN_rune.calls  a0 t1 _  At2.out).mono ?_);rintro e w' ⟨rfl,⟨nd,rfl⟩⟩;refine⟨_,rfl,?_⟩)
 refine zg ?_
 by_cases c4:t1=true
 ·replace HH:=MW.hpos HH c4
  subst c4
  replace HH:=zd HH
  obtain⟨t5,At6,HH⟩:=HH
  go_wp2_with ((with_reducible refine gc 52 rfl ?_);refine zc 52 (some 9) Try.func52 #[.int .i32 a1] (h:=?_);(with_reducible refine(cmp_isNaN_rune.calls  a1 t5 _  At6.out).mono ?_);rintro e w' ⟨rfl,⟨nd,rfl⟩⟩;refine⟨_,rfl,?_⟩)
  refine zg ?_
  by_cases c8:t5=true
  ·replace HH:=MW.hpos HH c8
   subst c8
   obtain rfl:=Option.some.inj HH.out
   clear HH
   go_wp2
   go_ret
   exact⟨by first|rfl|(simp;done)|(simp[*];done),by repeat(first|exact Drawn0.refl _|apply Drawn0.step)⟩
  replace HH:=MW.hneg HH c8
  replace c8:=Bool.eq_false_iff.mpr c8
  subst c8
  obtain rfl:=Option.some.inj HH.out
  clear HH
  go_wp2
  go_ret
  exact⟨by first|rfl|(simp;done)|(simp[*];done),by repeat(first|exact Drawn0.refl _|apply Drawn0.step)⟩
 replace HH:=MW.hneg HH c4
 replace c4:=Bool.eq_false_iff.mpr c4
 subst c4
 obtain rfl:=Option.some.inj HH.out
 clear HH
 go_wp2
 go_ret
 exact⟨by first|rfl|(simp;done)|(simp[*];done),by repeat(first|exact Drawn0.refl _|apply Drawn0.step)⟩

mutual
def slices_insertionSortOrdered_rune.l0:Nat→Int→(List Int)→Int→Int→(List Int)→Option (List Int)
 |0,_,_,_,_,_=>none
 |k+1,x1,x2,a1,a2,l0=>if x1<a2 then((slices_insertionSortOrdered_rune.l1 k x1 x2 a1 a2 l0 x1)) else(some x2)
def slices_insertionSortOrdered_rune.l1:Nat→Int→(List Int)→Int→Int→(List Int)→Int→Option (List Int)
 |0,_,_,_,_,_,_=>none
 |k+1,x8,x9,a1,a2,l0,x1=>(if x8>a1 then(if 0≤x8 then(if x8<(l0.length:Int) then(if 0≤(wrap64 (x8 - 1)) then(if (wrap64 (x8 - 1))<(l0.length:Int) then((cmp_Less_rune.f (rd x9 x8) (rd x9 (wrap64 (x8 - 1)))).bind fun t29=>(some (t29))) else(none)) else(none)) else(none)) else(none)) else(some (false))).bind fun b12=>(if b12=true then(if 0≤(wrap64 (x8 - 1)) then(if (wrap64 (x8 - 1))<(l0.length:Int) then(if 0≤x8 then(if x8<(l0.length:Int) then((some (List.set x9 x8.toNat (rd x9 (wrap64 (x8 - 1))):List Int)).bind fun y52=>((some (List.set y52 (wrap64 (x8 - 1)).toNat (rd x9 x8):List Int)).bind fun y56=>((slices_insertionSortOrdered_rune.l1 k (wrap64 (x8 - 1)) y56 a1 a2 l0 x1)))) else(none)) else(none)) else(none)) else(none)) else((slices_insertionSortOrdered_rune.l0 k (wrap64 (x1+1)) x9 a1 a2 l0)))
end
def slices_insertionSortOrdered_rune.f (k:Nat) (l0:List Int) (a1:Int) (a2:Int):Option (List Int):=(slices_insertionSortOrdered_rune.l0 k (wrap64 (a1+1)) l0 a1 a2 l0)
theorem slices_insertionSortOrdered_rune.mono_l:∀ k,(∀ y0 y1 y2 y3 y4,LeO (slices_insertionSortOrdered_rune.l0 k y0 y1 y2 y3 y4) (slices_insertionSortOrdered_rune.l0 (k+1) y0 y1 y2 y3 y4))∧(∀ y0 y1 y2 y3 y4 y5,LeO (slices_insertionSortOrdered_rune.l1 k y0 y1 y2 y3 y4 y5) (slices_insertionSortOrdered_rune.l1 (k+1) y0 y1 y2 y3 y4 y5))
 |0=>⟨fun _ _ _ _ _ r h=>by simp[slices_insertionSortOrdered_rune.l0] at h,fun _ _ _ _ _ _ r h=>by simp[slices_insertionSortOrdered_rune.l1] at h⟩
 |k+1=>by
  obtain⟨ih0,ih1⟩:=slices_insertionSortOrdered_rune.mono_l k
  refine⟨?_,?_⟩
  ·intro y0 y1 y2 y3 y4
   unfold slices_insertionSortOrdered_rune.l0
   with_reducible repeat' first|exact ih0 _ _ _ _ _|exact ih1 _ _ _ _ _ _|exact LeO.refl _|exact LeO.none _|refine LeO.ite ?_ ?_|refine LeO.bind ?_ (fun _=>?_)
  intro y0 y1 y2 y3 y4 y5
  unfold slices_insertionSortOrdered_rune.l1
  with_reducible repeat' first|exact ih0 _ _ _ _ _|exact ih1 _ _ _ _ _ _|exact LeO.refl _|exact LeO.none _|refine LeO.ite ?_ ?_|refine LeO.bind ?_ (fun _=>?_)
theorem slices_insertionSortOrdered_rune.mono:∀ a0_ a1_ a2_ k,LeO (slices_insertionSortOrdered_rune.f k a0_ a1_ a2_) (slices_insertionSortOrdered_rune.f (k+1) a0_ a1_ a2_):=by
 intro a0_ a1_ a2_ k
 obtain⟨ih0,ih1⟩:=slices_insertionSortOrdered_rune.mono_l k
 unfold slices_insertionSortOrdered_rune.f
 with_reducible repeat' first|exact ih0 _ _ _ _ _|exact ih1 _ _ _ _ _ _|exact LeO.refl _|exact LeO.none _|refine LeO.ite ?_ ?_|refine LeO.bind ?_ (fun _=>?_)
set_option maxHeartbeats 8000000 in
set_option maxRecDepth 100000 in
theorem slices_insertionSortOrdered_rune.calls (k:Nat) (B_:Nat) (A0:Option Addr) (c0:Nat) (l0:List Int) (a1:Int) (a2:Int) (r:List Int) (w:World) (hB0:B_≤w.heap.size) (hn0:Kd.N (Kd.int .i32) 21 w B_ (fun k_=>some k_=((.slice A0 l0.length c0):Value).ownBlock) (.slice A0 l0.length c0) l0) (h:slices_insertionSortOrdered_rune.f k l0 a1 a2=some r):
  Calls Try.prog 36 #[(.slice A0 l0.length c0),.int .i64 a1,.int .i64 a2] w (fun e w'=>e=.returned (.tuple #[])∧Kd.N (Kd.int .i32) 21 w' B_ (fun k_=>some k_=((.slice A0 l0.length c0):Value).ownBlock∨w.heap.size≤k_) (.slice A0 l0.length c0) r∧(∀ k_:Nat,some k_≠((.slice A0 l0.length c0):Value).ownBlock→k_<w.heap.size→w'.heap[k_]? =w.heap[k_]?)∧Below B_ w w'):=by
 unfold slices_insertionSortOrdered_rune.f at h
 have HH:=za h
 clear h
 obtain⟨P0_,HPO⟩:∃ P0_:Nat→Prop,P0_=(fun k_=>some k_≠((.slice A0 l0.length c0):Value).ownBlock):=⟨_,rfl⟩
 have HFfr:=za (MB.frK_new w (fun k_ hk_=>by rw[HPO] at hk_;exact⟨trivial,hk_⟩):Kd.F (MB.frK w P0_) w (fun k_=>True∧some k_≠((.slice A0 l0.length c0):Value).ownBlock) (some ⟨0,0,none⟩) [()].length [()])
 replace HPO:=za HPO
 have hB_:=za hB0
 have HN0:=za (Kd.N_mono hn0 (fun k_ hk_=>⟨trivial,.inl hk_⟩):Kd.N (Kd.int .i32) 21 w B_ (fun k_=>True∧(some k_=((.slice A0 l0.length c0):Value).ownBlock∨w.heap.size≤k_)) (.slice A0 l0.length c0) l0)
 clear hn0
 have HB:=za (Below.refl B_ w)
 go_enter Try.func36,Try.ntmps36
 go_wp2
 go_loopg [6] k (fun kq u6 w'=>∃ (x1:Int) (x2:List Int),u6=.int .i64 x1∧Aside0 ((slices_insertionSortOrdered_rune.l0 kq x1 x2 a1 a2 l0)=some r)∧Aside0 (kq≤k)∧Aside0 (Kd.F (MB.frK w P0_) w' (fun k_=>True∧some k_≠((.slice A0 l0.length c0):Value).ownBlock) (some ⟨0,0,none⟩) [()].length [()])∧Aside0 (Kd.N (Kd.int .i32) 21 w' B_ (fun k_=>True∧(some k_=((.slice A0 l0.length c0):Value).ownBlock∨w.heap.size≤k_)) (.slice A0 l0.length c0) x2)∧Aside0 (Below B_ w w'))
 case atStart=>exact⟨wrap64 (a1+1),l0,(by first|rfl|(simp;done)|(simp[*];done)),HH,⟨Nat.le_refl _⟩,⟨HFfr.out⟩,⟨(Kd.N_mono (ok:=(fun k_=>True∧(some k_=((.slice A0 l0.length c0):Value).ownBlock∨w.heap.size≤k_))) HN0.out (fun k_ hk_=>hk_))⟩,⟨HB.out⟩⟩
 case round=>
  clear HH
  clear HFfr HN0 HB
  obtain⟨x1,x2,rfl,HA,HK0,HFfr,HN0,HB⟩:=hrel
  obtain⟨w4,rfl⟩:∃ wo_:World,wo_=wr:=⟨_,rfl⟩
  cases gk with
  |zero=>exact absurd HA.out (by simp[slices_insertionSortOrdered_rune.l0])
  |succ k3=>
   have H:=HA.out
   clear HA
   simp only[slices_insertionSortOrdered_rune.l0] at H
   have HH:=za H
   clear H
   replace HH:=zqt HH
   rcases HH with⟨HH,hk6,hk7⟩|⟨HH,hk65,hk66⟩
   ·go_wp2
    go_loopg [7] k3 (fun kq u7 w'=>∃ (x8:Int) (x9:List Int),u7=.int .i64 x8∧Aside0 ((slices_insertionSortOrdered_rune.l1 kq x8 x9 a1 a2 l0 x1)=some r)∧Aside0 (kq≤k3)∧Aside0 (Kd.F (MB.frK w P0_) w' (fun k_=>True∧some k_≠((.slice A0 l0.length c0):Value).ownBlock) (some ⟨0,0,none⟩) [()].length [()])∧Aside0 (Kd.N (Kd.int .i32) 21 w' B_ (fun k_=>True∧(some k_=((.slice A0 l0.length c0):Value).ownBlock∨w.heap.size≤k_)) (.slice A0 l0.length c0) x9)∧Aside0 (Below B_ w w'))
    case atStart=>exact⟨x1,x2,(by first|rfl|(simp;done)|(simp[*];done)),HH,⟨Nat.le_refl _⟩,⟨HFfr.out⟩,⟨(Kd.N_mono (ok:=(fun k_=>True∧(some k_=((.slice A0 l0.length c0):Value).ownBlock∨w.heap.size≤k_))) HN0.out (fun k_ hk_=>hk_))⟩,⟨HB.out⟩⟩
    case round=>
     clear hk6
     clear hk7
     clear HH
     clear HFfr HN0 HB
     obtain⟨x8,x9,rfl,HA,HK1,HFfr,HN0,HB⟩:=hrel
     obtain⟨w11,rfl⟩:∃ wo_:World,wo_=wr:=⟨_,rfl⟩
     cases gk with
     |zero=>exact absurd HA.out (by simp[slices_insertionSortOrdered_rune.l1])
     |succ k10=>
      have H:=HA.out
      clear HA
      simp only[slices_insertionSortOrdered_rune.l1] at H
      have HH:=za H
      clear H
      replace HH:=zd HH
      obtain⟨b12,At13,HH⟩:=HH
      go_wp2
      obtain⟨R_,hR_⟩:∃ R_:Act→World→Prop,R_=(fun a_ w_=>∃ u16 u17 u18 u19 u20 u21 u22 u23 u24 u25 u26 u27 u28 u29:Value,a_=(⟨[(.slice A0 l0.length c0),(.int .i64 a1),(.int .i64 a2),undef,undef,undef,(.int .i64 x1),(.int .i64 x8),(.int .i64 a1),(.int .i64 (wrap64 (a1+1))),(.int .i64 x1),(.int .i64 a2),(.bool true),u13,u14,(.int .i64 x1),u16,u17,u18,u19,u20,u21,u22,u23,u24,u25,u26,u27,u28,u29,.bool b12,u31,u32,u33,u34,u35,u36,u37,u38,u39,u40,u41,u42,u43,u44,u45,u46,u47,u48].toArray,[]⟩:Act)∧Drawn0 w11 w_):=⟨_,rfl⟩
      replace hR_:=za hR_
      refine MS.join R_ ?_ ?_
      ·clear HH
       have HH:=At13
       clear At13
       replace HH:=zqg HH
       rcases HH with⟨HH,hk16⟩|⟨HH,hk37⟩
       ·replace HH:=zqdo HH
        obtain⟨HH,hk18⟩:=HH
        replace HH:=zqto HH
        obtain⟨HH,hk20,hk21⟩:=HH
        have p22:0≤(x8:Int):=of_decide_eq_true (by first|(with_reducible assumption)|assumption)
        have q22:x8<(l0.length:Int):=of_decide_eq_true (by first|(with_reducible assumption)|assumption)
        obtain⟨ad22,e22,hx22_0⟩:=Kd.at_int (Kd.F_now (Kd.N_F HN0.out)) x8 p22 q22
        cases e22
        replace p22:=eq_true p22
        replace q22:=eq_true q22
        replace HH:=zqdo HH
        obtain⟨HH,hk24⟩:=HH
        replace HH:=zqto HH
        obtain⟨HH,hk26,hk27⟩:=HH
        have p28:0≤((wrap64 (x8 - 1)):Int):=of_decide_eq_true (by first|(with_reducible assumption)|assumption)
        have q28:(wrap64 (x8 - 1))<(l0.length:Int):=of_decide_eq_true (by first|(with_reducible assumption)|assumption)
        obtain⟨ad28,e28,hx28_0⟩:=Kd.at_int (Kd.F_now (Kd.N_F HN0.out)) (wrap64 (x8 - 1)) p28 q28
        cases e28
        replace p28:=eq_true p28
        replace q28:=eq_true q28
        replace HH:=zd HH
        obtain⟨t29,At30,HH⟩:=HH
        go_wp2
        go_quiet ((first|(go_at_call 42;first|exact Calls.quiet_of (MW.drawn (cmp_Less_rune.calls  (rd x9 x8) (rd x9 (wrap64 (x8 - 1))) t29 _  At30.out))|exact MW.quiet_far (MW.drawn (cmp_Less_rune.calls  (rd x9 x8) (rd x9 (wrap64 (x8 - 1))) t29 _  At30.out)))))
        obtain rfl:=Option.some.inj HH.out
        go_wp2
        refine MS.Joined.mk ?_
        rw[hR_.out]
        exact⟨_,_,_,_,_,_,_,_,_,_,_,_,_,_,rfl,by repeat(first|exact Drawn0.refl _|apply Drawn0.step)⟩
       go_wp2
       go_quiet ((first|(go_at_call 42;first|exact Calls.quiet_of (MW.drawn (cmp_Less_rune.calls  (rd x9 x8) (rd x9 (wrap64 (x8 - 1))) t29 _  At30.out))|exact MW.quiet_far (MW.drawn (cmp_Less_rune.calls  (rd x9 x8) (rd x9 (wrap64 (x8 - 1))) t29 _  At30.out)))))
       obtain rfl:=Option.some.inj HH.out
       go_wp2
       refine MS.Joined.mk ?_
       rw[hR_.out]
       exact⟨_,_,_,_,_,_,_,_,_,_,_,_,_,_,rfl,by repeat(first|exact Drawn0.refl _|apply Drawn0.step)⟩
      intro a_ w14 hd_
      rw[hR_.out] at hd_
      obtain⟨u16,u17,u18,u19,u20,u21,u22,u23,u24,u25,u26,u27,u28,u29,rfl,hd_⟩:=hd_
      have hb:=MS.drawn_below hd_
      clear At13 hd_ hR_ R_
      replace HFfr:=zfb HFfr.out hb
      replace HN0:=znb HN0.out hb
      replace HB:=za (MB.below_stepB hB_.out HB.out hb)
      clear hb
      by_cases c38:b12=true
      ·replace HH:=MW.hpos HH c38
       subst c38
       go_wp2
       have hwr_:∀ n_:Int,IntKind.i64.wrap n_=wrap64 n_:=fun n_=>IntWalk.i64_left n_
       refine wp_region_any (by kernel_rfl) ?_
       change wpAny _ _ _ _ 18 #[false,false,false,false,false,false,false,false,false,false,false,false,false,false,false,false,false,false] _ w14.drew
       obtain⟨w39,hw_⟩:∃ w_:World,w_=w14.drew:=⟨_,rfl⟩
       rw[← hw_]
       have hb:Below w14.heap.size w14 w39:=by rw[hw_];exact below_drew1 (Below.refl _ _)
       clear hw_
       replace HFfr:=zfb HFfr.out hb
       replace HN0:=znb HN0.out hb
       replace HB:=za (MB.below_stepB hB_.out HB.out hb)
       clear hb
       refine zt 0 ((.slice A0 l0.length c0)) #[_,_,_,_,_,_,_,_,_,_,_,_,_,_,_,_,_,_] ⟨[_,_,_,_,_,_,_,_,_,_,_,_,_,_,_,_,_,_,_,_,_,_,_,_,_,_,_,_,_,_,_,_,_,_,_,_,_,_,_,_,_,_,_,_,_,_,_,_,_].toArray,[]⟩ (h:=?_)
       refine zt 1 (.int .i64 x8) #[_,_,_,_,_,_,_,_,_,_,_,_,_,_,_,_,_,_] ⟨[_,_,_,_,_,_,_,_,_,_,_,_,_,_,_,_,_,_,_,_,_,_,_,_,_,_,_,_,_,_,_,_,_,_,_,_,_,_,_,_,_,_,_,_,_,_,_,_,_].toArray,[]⟩ (h:=?_)
       refine zt 2 ((.slice A0 l0.length c0)) #[_,_,_,_,_,_,_,_,_,_,_,_,_,_,_,_,_,_] ⟨[_,_,_,_,_,_,_,_,_,_,_,_,_,_,_,_,_,_,_,_,_,_,_,_,_,_,_,_,_,_,_,_,_,_,_,_,_,_,_,_,_,_,_,_,_,_,_,_,_].toArray,[]⟩ (h:=?_)
       refine zt 3 (.int .i64 x8) #[_,_,_,_,_,_,_,_,_,_,_,_,_,_,_,_,_,_] ⟨[_,_,_,_,_,_,_,_,_,_,_,_,_,_,_,_,_,_,_,_,_,_,_,_,_,_,_,_,_,_,_,_,_,_,_,_,_,_,_,_,_,_,_,_,_,_,_,_,_].toArray,[]⟩ (h:=?_)
       refine zt 4 (.int .i64 (wrap64 (x8 - 1))) #[_,_,_,_,_,_,_,_,_,_,_,_,_,_,_,_,_,_] ⟨[_,_,_,_,_,_,_,_,_,_,_,_,_,_,_,_,_,_,_,_,_,_,_,_,_,_,_,_,_,_,_,_,_,_,_,_,_,_,_,_,_,_,_,_,_,_,_,_,_].toArray,[]⟩ (h:=?_)
       refine zt 5 ((.slice A0 l0.length c0)) #[_,_,_,_,_,_,_,_,_,_,_,_,_,_,_,_,_,_] ⟨[_,_,_,_,_,_,_,_,_,_,_,_,_,_,_,_,_,_,_,_,_,_,_,_,_,_,_,_,_,_,_,_,_,_,_,_,_,_,_,_,_,_,_,_,_,_,_,_,_].toArray,[]⟩ (h:=?_)
       refine zt 6 (.int .i64 x8) #[_,_,_,_,_,_,_,_,_,_,_,_,_,_,_,_,_,_] ⟨[_,_,_,_,_,_,_,_,_,_,_,_,_,_,_,_,_,_,_,_,_,_,_,_,_,_,_,_,_,_,_,_,_,_,_,_,_,_,_,_,_,_,_,_,_,_,_,_,_].toArray,[]⟩ (h:=?_)
       refine zt 7 (.int .i64 (wrap64 (x8 - 1))) #[_,_,_,_,_,_,_,_,_,_,_,_,_,_,_,_,_,_] ⟨[_,_,_,_,_,_,_,_,_,_,_,_,_,_,_,_,_,_,_,_,_,_,_,_,_,_,_,_,_,_,_,_,_,_,_,_,_,_,_,_,_,_,_,_,_,_,_,_,_].toArray,[]⟩ (h:=?_)
       replace HH:=zqdo HH
       obtain⟨HH,hk41⟩:=HH
       (try simp only[hk41,Bool.not_true,Bool.not_false])
       replace HH:=zqto HH
       obtain⟨HH,hk43,hk44⟩:=HH
       (try simp only[hk43,Bool.not_true,Bool.not_false])
       (try simp only[hk44,Bool.not_true,Bool.not_false])
       have p45:0≤((wrap64 (x8 - 1)):Int):=of_decide_eq_true (by first|(with_reducible assumption)|assumption)
       have q45:(wrap64 (x8 - 1))<(l0.length:Int):=of_decide_eq_true (by first|(with_reducible assumption)|assumption)
       obtain⟨ad45,e45,hx45_0⟩:=Kd.at_int (Kd.F_now (Kd.N_F HN0.out)) (wrap64 (x8 - 1)) p45 q45
       cases e45
       replace p45:=eq_true p45
       replace q45:=eq_true q45
       refine zt 8 (.pointer (some (ad45.add ((wrap64 (x8 - 1)).toNat)))) #[_,_,_,_,_,_,_,_,_,_,_,_,_,_,_,_,_,_] ⟨[_,_,_,_,_,_,_,_,_,_,_,_,_,_,_,_,_,_,_,_,_,_,_,_,_,_,_,_,_,_,_,_,_,_,_,_,_,_,_,_,_,_,_,_,_,_,_,_,_].toArray,[]⟩ (h:=?_)
       refine zt 10 ((.slice (some ad45) l0.length c0)) #[_,_,_,_,_,_,_,_,_,_,_,_,_,_,_,_,_,_] ⟨[_,_,_,_,_,_,_,_,_,_,_,_,_,_,_,_,_,_,_,_,_,_,_,_,_,_,_,_,_,_,_,_,_,_,_,_,_,_,_,_,_,_,_,_,_,_,_,_,_].toArray,[]⟩ (h:=?_)
       refine zt 11 (.int .i64 x8) #[_,_,_,_,_,_,_,_,_,_,_,_,_,_,_,_,_,_] ⟨[_,_,_,_,_,_,_,_,_,_,_,_,_,_,_,_,_,_,_,_,_,_,_,_,_,_,_,_,_,_,_,_,_,_,_,_,_,_,_,_,_,_,_,_,_,_,_,_,_].toArray,[]⟩ (h:=?_)
       replace HH:=zqdo HH
       obtain⟨HH,hk47⟩:=HH
       (try simp only[hk47,Bool.not_true,Bool.not_false])
       replace HH:=zqto HH
       obtain⟨HH,hk49,hk50⟩:=HH
       (try simp only[hk49,Bool.not_true,Bool.not_false])
       (try simp only[hk50,Bool.not_true,Bool.not_false])
       have p51:0≤(x8:Int):=of_decide_eq_true (by first|(with_reducible assumption)|assumption)
       have q51:x8<(l0.length:Int):=of_decide_eq_true (by first|(with_reducible assumption)|assumption)
       obtain⟨ad51,e51,hx51_0⟩:=Kd.at_int (Kd.F_now (Kd.N_F HN0.out)) x8 p51 q51
       cases e51
       replace p51:=eq_true p51
       replace q51:=eq_true q51
       refine zt 12 (.pointer (some (ad45.add (x8.toNat)))) #[_,_,_,_,_,_,_,_,_,_,_,_,_,_,_,_,_,_] ⟨[_,_,_,_,_,_,_,_,_,_,_,_,_,_,_,_,_,_,_,_,_,_,_,_,_,_,_,_,_,_,_,_,_,_,_,_,_,_,_,_,_,_,_,_,_,_,_,_,_].toArray,[]⟩ (h:=?_)
       refine MW.any_two (i:=9) (j:=13) (vi:=.int .i32 (rd x9 (wrap64 (x8 - 1)))) (vj:=.int .i32 (rd x9 x8)) #[true,true,true,true,true,true,true,true,true,true,true,true,true,true,false,false,false,false] ⟨[(.slice (some ad45) l0.length c0),(.int .i64 a1),(.int .i64 a2),undef,undef,undef,(.int .i64 x1),(.int .i64 x8),(.int .i64 a1),(.int .i64 (wrap64 (a1+1))),(.int .i64 x1),(.int .i64 a2),(.bool true),u13,u14,(.int .i64 x1),u16,u17,u18,u19,u20,u21,u22,u23,u24,u25,u26,u27,u28,u29,(.bool true),u31,u32,(.slice (some ad45) l0.length c0),(.int .i64 x8),(.slice (some ad45) l0.length c0),(.int .i64 x8),(.int .i64 (wrap64 (x8 - 1))),(.slice (some ad45) l0.length c0),(.int .i64 x8),(.int .i64 (wrap64 (x8 - 1))),(.pointer (some (ad45.add ((wrap64 (x8 - 1)).toNat)))),(.int .i32 (rd x9 (wrap64 (x8 - 1)))),(.slice (some ad45) l0.length c0),(.int .i64 x8),(.pointer (some (ad45.add (x8.toNat)))),(.int .i32 (rd x9 x8)),u47,u48].toArray,[]⟩ (by decide) rfl rfl (by kernel_rfl) (by kernel_rfl) (by kernel_rfl) (by kernel_rfl) (by kernel_rfl) (by first|rfl|(go_simp;done)|(go_simp;rfl)) (by first|rfl|(go_simp;done)|(go_simp;rfl)) (by first|rfl|(go_simp;done)|(go_simp;rfl)) (by first|rfl|(go_simp;done)|(go_simp;rfl)) (by kernel_rfl) (by kernel_rfl) (by kernel_rfl) (by kernel_rfl) (by kernel_rfl) (by kernel_rfl) ?_
       refine zt 14 (.pointer (some (ad45.add (x8.toNat)))) #[_,_,_,_,_,_,_,_,_,_,_,_,_,_,_,_,_,_] ⟨[_,_,_,_,_,_,_,_,_,_,_,_,_,_,_,_,_,_,_,_,_,_,_,_,_,_,_,_,_,_,_,_,_,_,_,_,_,_,_,_,_,_,_,_,_,_,_,_,_].toArray,[]⟩ (h:=?_)
       refine MW.any_seq 15 3 rfl (by kernel_rfl) ?_
       simp only[List.drop_succ_cons,List.drop_zero]
       clear hwr_
       obtain⟨y52,hy52⟩:∃ y_:List Int,y_=(List.set x9 x8.toNat (rd x9 (wrap64 (x8 - 1)))):=⟨_,rfl⟩
       have H:((some (List.set y52 (wrap64 (x8 - 1)).toNat (rd x9 x8):List Int)).bind fun y56=>((slices_insertionSortOrdered_rune.l1 k10 (wrap64 (x8 - 1)) y56 a1 a2 l0 x1)))=some r:=by rw[hy52];exact HH.out
       replace HH:=za H
       clear H
       have NYy52:=za hy52
       clear hy52
       go_wp2_with (((with_reducible refine gate_store (t:=21) (p:=47) rfl ?_);(try(refine gate_guard (by rfl) ?_;dsimp only));refine MW.ev_set1 (n:=l0.length) B_ rfl rfl _ _ _ rfl 21 x8 x9 (rd x9 (wrap64 (x8 - 1))) (fun k_=>True∧(some k_=((.slice (some ad45) l0.length c0):Value).ownBlock∨w.heap.size≤k_)) (by rfl) (by rfl) (by kernel_rfl) HN0.out (of_decide_eq_true (by first|(with_reducible assumption)|assumption)) (of_decide_eq_true (by first|(with_reducible assumption)|assumption)) HB.out ?_;intro w53 hn1 hb1 hg1);refine stop_ ?_)
       refine zg ?_
       replace HFfr:=za (Kd.F_grown (ok:=(fun k_=>True∧some k_≠((.slice (some ad45) l0.length c0):Value).ownBlock)) HFfr.out hg1 (fun k_ hk_=>hk_.2))
       replace HB:=za hb1
       clear HN0
       have HN54:=za (by rw[NYy52.out];exact hn1:Kd.N (Kd.int .i32) 21 w53 B_ (fun k_=>True∧(some k_=((.slice (some ad45) l0.length c0):Value).ownBlock∨w.heap.size≤k_)) (.slice (some ad45) l0.length c0) y52)
       clear hn1 hb1 hg1
       clear hx45_0 p45 q45 hx51_0 p51 q51
       have p55:0≤((wrap64 (x8 - 1)):Int):=of_decide_eq_true (by first|(with_reducible assumption)|assumption)
       have q55:(wrap64 (x8 - 1))<(l0.length:Int):=of_decide_eq_true (by first|(with_reducible assumption)|assumption)
       obtain⟨ad55,e55,hx55_0⟩:=Kd.at_int (Kd.F_now (Kd.N_F HN54.out)) (wrap64 (x8 - 1)) p55 q55
       cases e55
       replace p55:=eq_true p55
       replace q55:=eq_true q55
       obtain⟨y56,hy56⟩:∃ y_:List Int,y_=(List.set y52 (wrap64 (x8 - 1)).toNat (rd x9 x8)):=⟨_,rfl⟩
       have H:((slices_insertionSortOrdered_rune.l1 k10 (wrap64 (x8 - 1)) y56 a1 a2 l0 x1))=some r:=by rw[hy56];exact HH.out
       replace HH:=za H
       clear H
       have NYy56:=za hy56
       clear hy56
       go_wp2_with (((with_reducible refine gate_store (t:=21) (p:=48) rfl ?_);(try(refine gate_guard (by rfl) ?_;dsimp only));refine MW.ev_set1 (n:=l0.length) B_ rfl rfl _ _ _ rfl 21 (wrap64 (x8 - 1)) y52 (rd x9 x8) (fun k_=>True∧(some k_=((.slice (some ad45) l0.length c0):Value).ownBlock∨w.heap.size≤k_)) (by rfl) (by rfl) (by kernel_rfl) HN54.out (of_decide_eq_true (by first|(with_reducible assumption)|assumption)) (of_decide_eq_true (by first|(with_reducible assumption)|assumption)) HB.out ?_;intro w57 hn1 hb1 hg1);refine stop_ ?_)
       refine zg ?_
       replace HFfr:=za (Kd.F_grown (ok:=(fun k_=>True∧some k_≠((.slice (some ad45) l0.length c0):Value).ownBlock)) HFfr.out hg1 (fun k_ hk_=>hk_.2))
       replace HB:=za hb1
       clear HN54
       have HN58:=za (by rw[NYy56.out];exact hn1:Kd.N (Kd.int .i32) 21 w57 B_ (fun k_=>True∧(some k_=((.slice (some ad45) l0.length c0):Value).ownBlock∨w.heap.size≤k_)) (.slice (some ad45) l0.length c0) y56)
       clear hn1 hb1 hg1
       clear hx55_0 p55 q55
       go_wp2
       go_roundg k10
       case measure=>have:=HK0.out;have:=HK1.out;omega
       case rel=>exact⟨wrap64 (x8 - 1),y56,(by first|rfl|(simp;done)|(simp[*];done)),HH,⟨by have:=HK0.out;have:=HK1.out;omega⟩,⟨HFfr.out⟩,⟨(Kd.N_mono (ok:=(fun k_=>True∧(some k_=((.slice (some ad45) l0.length c0):Value).ownBlock∨w.heap.size≤k_))) HN58.out (fun k_ hk_=>hk_))⟩,⟨HB.out⟩⟩
      replace HH:=MW.hneg HH c38
      replace c38:=Bool.eq_false_iff.mpr c38
      subst c38
      go_wp2
      go_roundg k10
      case measure=>have:=HK0.out;have:=HK1.out;omega
      case rel=>exact⟨wrap64 (x1+1),x9,(by first|rfl|(simp;done)|(simp[*];done)),HH,⟨by have:=HK0.out;have:=HK1.out;omega⟩,⟨HFfr.out⟩,⟨(Kd.N_mono (ok:=(fun k_=>True∧(some k_=((.slice A0 l0.length c0):Value).ownBlock∨w.heap.size≤k_))) HN0.out (fun k_ hk_=>hk_))⟩,⟨HB.out⟩⟩
   obtain rfl:=Option.some.inj HH.out
   clear HH
   go_wp2
   (first|go_end0|((try simp only[Exit.inBlock,Exit.then]);refine bodyPost_ret (results_none rfl _ _ _) rfl ?_))
   exact⟨by first|rfl|(simp;done)|(simp[*];done),(Kd.N_mono (ok:=(fun k_=>True∧(some k_=((.slice A0 l0.length c0):Value).ownBlock∨w.heap.size≤k_))) HN0.out (fun k_ hk_=>hk_.2)),(fun k_ hv_ hlt_=>MB.frK_out HFfr.out k_ (by rw[HPO.out];exact hv_) hlt_),HB.out⟩

def bits_Len32.f (a0:Int):Option (Int):=if a0≥65536 then(if (a0 / 65536)≥256 then(if 0≤(((a0 / 65536) / 256) % 256) then(if (((a0 / 65536) / 256) % 256)<256 then(some (wrap64 (24+(wrap64 (bt (⟨#[0,1,2,2,3,3,3,3,4,4,4,4,4,4,4,4,5,5,5,5,5,5,5,5,5,5,5,5,5,5,5,5,6,6,6,6,6,6,6,6,6,6,6,6,6,6,6,6,6,6,6,6,6,6,6,6,6,6,6,6,6,6,6,6,7,7,7,7,7,7,7,7,7,7,7,7,7,7,7,7,7,7,7,7,7,7,7,7,7,7,7,7,7,7,7,7,7,7,7,7,7,7,7,7,7,7,7,7,7,7,7,7,7,7,7,7,7,7,7,7,7,7,7,7,7,7,7,7,8,8,8,8,8,8,8,8,8,8,8,8,8,8,8,8,8,8,8,8,8,8,8,8,8,8,8,8,8,8,8,8,8,8,8,8,8,8,8,8,8,8,8,8,8,8,8,8,8,8,8,8,8,8,8,8,8,8,8,8,8,8,8,8,8,8,8,8,8,8,8,8,8,8,8,8,8,8,8,8,8,8,8,8,8,8,8,8,8,8,8,8,8,8,8,8,8,8,8,8,8,8,8,8,8,8,8,8,8,8,8,8,8,8,8,8,8,8,8,8,8,8,8,8,8,8,8,8]⟩:ByteArray) (((a0 / 65536) / 256) % 256)))))) else(none)) else(none)) else(if 0≤((a0 / 65536) % 256) then(if ((a0 / 65536) % 256)<256 then(some (wrap64 (16+(wrap64 (bt (⟨#[0,1,2,2,3,3,3,3,4,4,4,4,4,4,4,4,5,5,5,5,5,5,5,5,5,5,5,5,5,5,5,5,6,6,6,6,6,6,6,6,6,6,6,6,6,6,6,6,6,6,6,6,6,6,6,6,6,6,6,6,6,6,6,6,7,7,7,7,7,7,7,7,7,7,7,7,7,7,7,7,7,7,7,7,7,7,7,7,7,7,7,7,7,7,7,7,7,7,7,7,7,7,7,7,7,7,7,7,7,7,7,7,7,7,7,7,7,7,7,7,7,7,7,7,7,7,7,7,8,8,8,8,8,8,8,8,8,8,8,8,8,8,8,8,8,8,8,8,8,8,8,8,8,8,8,8,8,8,8,8,8,8,8,8,8,8,8,8,8,8,8,8,8,8,8,8,8,8,8,8,8,8,8,8,8,8,8,8,8,8,8,8,8,8,8,8,8,8,8,8,8,8,8,8,8,8,8,8,8,8,8,8,8,8,8,8,8,8,8,8,8,8,8,8,8,8,8,8,8,8,8,8,8,8,8,8,8,8,8,8,8,8,8,8,8,8,8,8,8,8,8,8,8,8,8,8]⟩:ByteArray) ((a0 / 65536) % 256)))))) else(none)) else(none))) else(if a0≥256 then(if 0≤((a0 / 256) % 256) then(if ((a0 / 256) % 256)<256 then(some (wrap64 (8+(wrap64 (bt (⟨#[0,1,2,2,3,3,3,3,4,4,4,4,4,4,4,4,5,5,5,5,5,5,5,5,5,5,5,5,5,5,5,5,6,6,6,6,6,6,6,6,6,6,6,6,6,6,6,6,6,6,6,6,6,6,6,6,6,6,6,6,6,6,6,6,7,7,7,7,7,7,7,7,7,7,7,7,7,7,7,7,7,7,7,7,7,7,7,7,7,7,7,7,7,7,7,7,7,7,7,7,7,7,7,7,7,7,7,7,7,7,7,7,7,7,7,7,7,7,7,7,7,7,7,7,7,7,7,7,8,8,8,8,8,8,8,8,8,8,8,8,8,8,8,8,8,8,8,8,8,8,8,8,8,8,8,8,8,8,8,8,8,8,8,8,8,8,8,8,8,8,8,8,8,8,8,8,8,8,8,8,8,8,8,8,8,8,8,8,8,8,8,8,8,8,8,8,8,8,8,8,8,8,8,8,8,8,8,8,8,8,8,8,8,8,8,8,8,8,8,8,8,8,8,8,8,8,8,8,8,8,8,8,8,8,8,8,8,8,8,8,8,8,8,8,8,8,8,8,8,8,8,8,8,8,8,8]⟩:ByteArray) ((a0 / 256) % 256)))))) else(none)) else(none)) else(if 0≤((a0) % 256) then(if ((a0) % 256)<256 then(some (wrap64 (0+(wrap64 (bt (⟨#[0,1,2,2,3,3,3,3,4,4,4,4,4,4,4,4,5,5,5,5,5,5,5,5,5,5,5,5,5,5,5,5,6,6,6,6,6,6,6,6,6,6,6,6,6,6,6,6,6,6,6,6,6,6,6,6,6,6,6,6,6,6,6,6,7,7,7,7,7,7,7,7,7,7,7,7,7,7,7,7,7,7,7,7,7,7,7,7,7,7,7,7,7,7,7,7,7,7,7,7,7,7,7,7,7,7,7,7,7,7,7,7,7,7,7,7,7,7,7,7,7,7,7,7,7,7,7,7,8,8,8,8,8,8,8,8,8,8,8,8,8,8,8,8,8,8,8,8,8,8,8,8,8,8,8,8,8,8,8,8,8,8,8,8,8,8,8,8,8,8,8,8,8,8,8,8,8,8,8,8,8,8,8,8,8,8,8,8,8,8,8,8,8,8,8,8,8,8,8,8,8,8,8,8,8,8,8,8,8,8,8,8,8,8,8,8,8,8,8,8,8,8,8,8,8,8,8,8,8,8,8,8,8,8,8,8,8,8,8,8,8,8,8,8,8,8,8,8,8,8,8,8,8,8,8,8]⟩:ByteArray) ((a0) % 256)))))) else(none)) else(none)))
set_option maxHeartbeats 8000000 in
set_option maxRecDepth 100000 in
theorem bits_Len32.calls (a0:Int) (r:Int) (w:World) (h:bits_Len32.f a0=some r):
  Calls Try.prog 45 #[.int .u32 a0] w (fun e w'=>e=.returned (.int .i64 r)∧Drawn0 w w'):=by
 unfold bits_Len32.f at h
 have HH:=za h
 clear h
 go_enter Try.func45,Try.ntmps45
 replace HH:=zqG HH
 rcases HH with⟨HH,hk2⟩|⟨HH,hk24⟩
 ·replace HH:=zqG HH
  rcases HH with⟨HH,hk4⟩|⟨HH,hk14⟩
  ·replace HH:=zqdo HH
   obtain⟨HH,hk6⟩:=HH
   replace HH:=zqto HH
   obtain⟨HH,hk8,hk9⟩:=HH
   have p10:0≤((((a0 / 65536) / 256) % 256):Int):=of_decide_eq_true (by first|(with_reducible assumption)|assumption)
   have q10:(((a0 / 65536) / 256) % 256)<(256:Int):=of_decide_eq_true (by first|(with_reducible assumption)|assumption)
   have hx10:=MW.bt_at' (⟨#[0,1,2,2,3,3,3,3,4,4,4,4,4,4,4,4,5,5,5,5,5,5,5,5,5,5,5,5,5,5,5,5,6,6,6,6,6,6,6,6,6,6,6,6,6,6,6,6,6,6,6,6,6,6,6,6,6,6,6,6,6,6,6,6,7,7,7,7,7,7,7,7,7,7,7,7,7,7,7,7,7,7,7,7,7,7,7,7,7,7,7,7,7,7,7,7,7,7,7,7,7,7,7,7,7,7,7,7,7,7,7,7,7,7,7,7,7,7,7,7,7,7,7,7,7,7,7,7,8,8,8,8,8,8,8,8,8,8,8,8,8,8,8,8,8,8,8,8,8,8,8,8,8,8,8,8,8,8,8,8,8,8,8,8,8,8,8,8,8,8,8,8,8,8,8,8,8,8,8,8,8,8,8,8,8,8,8,8,8,8,8,8,8,8,8,8,8,8,8,8,8,8,8,8,8,8,8,8,8,8,8,8,8,8,8,8,8,8,8,8,8,8,8,8,8,8,8,8,8,8,8,8,8,8,8,8,8,8,8,8,8,8,8,8,8,8,8,8,8,8,8,8,8,8,8,8]⟩:ByteArray) (((a0 / 65536) / 256) % 256)
   replace p10:=eq_true p10
   replace q10:=eq_true q10
   obtain rfl:=Option.some.inj HH.out
   clear HH
   go_wp2
   go_ret
   exact⟨by first|rfl|(simp;done)|(simp[*];done),by repeat(first|exact Drawn0.refl _|apply Drawn0.step)⟩
  replace HH:=zqdo HH
  obtain⟨HH,hk16⟩:=HH
  replace HH:=zqto HH
  obtain⟨HH,hk18,hk19⟩:=HH
  have p20:0≤(((a0 / 65536) % 256):Int):=of_decide_eq_true (by first|(with_reducible assumption)|assumption)
  have q20:((a0 / 65536) % 256)<(256:Int):=of_decide_eq_true (by first|(with_reducible assumption)|assumption)
  have hx20:=MW.bt_at' (⟨#[0,1,2,2,3,3,3,3,4,4,4,4,4,4,4,4,5,5,5,5,5,5,5,5,5,5,5,5,5,5,5,5,6,6,6,6,6,6,6,6,6,6,6,6,6,6,6,6,6,6,6,6,6,6,6,6,6,6,6,6,6,6,6,6,7,7,7,7,7,7,7,7,7,7,7,7,7,7,7,7,7,7,7,7,7,7,7,7,7,7,7,7,7,7,7,7,7,7,7,7,7,7,7,7,7,7,7,7,7,7,7,7,7,7,7,7,7,7,7,7,7,7,7,7,7,7,7,7,8,8,8,8,8,8,8,8,8,8,8,8,8,8,8,8,8,8,8,8,8,8,8,8,8,8,8,8,8,8,8,8,8,8,8,8,8,8,8,8,8,8,8,8,8,8,8,8,8,8,8,8,8,8,8,8,8,8,8,8,8,8,8,8,8,8,8,8,8,8,8,8,8,8,8,8,8,8,8,8,8,8,8,8,8,8,8,8,8,8,8,8,8,8,8,8,8,8,8,8,8,8,8,8,8,8,8,8,8,8,8,8,8,8,8,8,8,8,8,8,8,8,8,8,8,8,8,8]⟩:ByteArray) ((a0 / 65536) % 256)
  replace p20:=eq_true p20
  replace q20:=eq_true q20
  obtain rfl:=Option.some.inj HH.out
  clear HH
  go_wp2
  go_ret
  exact⟨by first|rfl|(simp;done)|(simp[*];done),by repeat(first|exact Drawn0.refl _|apply Drawn0.step)⟩
 replace HH:=zqG HH
 rcases HH with⟨HH,hk26⟩|⟨HH,hk36⟩
 ·replace HH:=zqdo HH
  obtain⟨HH,hk28⟩:=HH
  replace HH:=zqto HH
  obtain⟨HH,hk30,hk31⟩:=HH
  have p32:0≤(((a0 / 256) % 256):Int):=of_decide_eq_true (by first|(with_reducible assumption)|assumption)
  have q32:((a0 / 256) % 256)<(256:Int):=of_decide_eq_true (by first|(with_reducible assumption)|assumption)
  have hx32:=MW.bt_at' (⟨#[0,1,2,2,3,3,3,3,4,4,4,4,4,4,4,4,5,5,5,5,5,5,5,5,5,5,5,5,5,5,5,5,6,6,6,6,6,6,6,6,6,6,6,6,6,6,6,6,6,6,6,6,6,6,6,6,6,6,6,6,6,6,6,6,7,7,7,7,7,7,7,7,7,7,7,7,7,7,7,7,7,7,7,7,7,7,7,7,7,7,7,7,7,7,7,7,7,7,7,7,7,7,7,7,7,7,7,7,7,7,7,7,7,7,7,7,7,7,7,7,7,7,7,7,7,7,7,7,8,8,8,8,8,8,8,8,8,8,8,8,8,8,8,8,8,8,8,8,8,8,8,8,8,8,8,8,8,8,8,8,8,8,8,8,8,8,8,8,8,8,8,8,8,8,8,8,8,8,8,8,8,8,8,8,8,8,8,8,8,8,8,8,8,8,8,8,8,8,8,8,8,8,8,8,8,8,8,8,8,8,8,8,8,8,8,8,8,8,8,8,8,8,8,8,8,8,8,8,8,8,8,8,8,8,8,8,8,8,8,8,8,8,8,8,8,8,8,8,8,8,8,8,8,8,8,8]⟩:ByteArray) ((a0 / 256) % 256)
  replace p32:=eq_true p32
  replace q32:=eq_true q32
  obtain rfl:=Option.some.inj HH.out
  clear HH
  go_wp2
  go_ret
  exact⟨by first|rfl|(simp;done)|(simp[*];done),by repeat(first|exact Drawn0.refl _|apply Drawn0.step)⟩
 replace HH:=zqdo HH
 obtain⟨HH,hk38⟩:=HH
 replace HH:=zqto HH
 obtain⟨HH,hk40,hk41⟩:=HH
 have p42:0≤(((a0) % 256):Int):=of_decide_eq_true (by first|(with_reducible assumption)|assumption)
 have q42:((a0) % 256)<(256:Int):=of_decide_eq_true (by first|(with_reducible assumption)|assumption)
 have hx42:=MW.bt_at' (⟨#[0,1,2,2,3,3,3,3,4,4,4,4,4,4,4,4,5,5,5,5,5,5,5,5,5,5,5,5,5,5,5,5,6,6,6,6,6,6,6,6,6,6,6,6,6,6,6,6,6,6,6,6,6,6,6,6,6,6,6,6,6,6,6,6,7,7,7,7,7,7,7,7,7,7,7,7,7,7,7,7,7,7,7,7,7,7,7,7,7,7,7,7,7,7,7,7,7,7,7,7,7,7,7,7,7,7,7,7,7,7,7,7,7,7,7,7,7,7,7,7,7,7,7,7,7,7,7,7,8,8,8,8,8,8,8,8,8,8,8,8,8,8,8,8,8,8,8,8,8,8,8,8,8,8,8,8,8,8,8,8,8,8,8,8,8,8,8,8,8,8,8,8,8,8,8,8,8,8,8,8,8,8,8,8,8,8,8,8,8,8,8,8,8,8,8,8,8,8,8,8,8,8,8,8,8,8,8,8,8,8,8,8,8,8,8,8,8,8,8,8,8,8,8,8,8,8,8,8,8,8,8,8,8,8,8,8,8,8,8,8,8,8,8,8,8,8,8,8,8,8,8,8,8,8,8,8]⟩:ByteArray) ((a0) % 256)
 replace p42:=eq_true p42
 replace q42:=eq_true q42
 obtain rfl:=Option.some.inj HH.out
 clear HH
 go_wp2
 go_ret
 exact⟨by first|rfl|(simp;done)|(simp[*];done),by repeat(first|exact Drawn0.refl _|apply Drawn0.step)⟩

def bits_Len64.f (a0:Int):Option (Int):=if a0≥4294967296 then(if (a0 / 4294967296)≥65536 then(if ((a0 / 4294967296) / 65536)≥256 then(if 0≤((((a0 / 4294967296) / 65536) / 256) % 256) then(if ((((a0 / 4294967296) / 65536) / 256) % 256)<256 then(some (wrap64 (56+(wrap64 (bt (⟨#[0,1,2,2,3,3,3,3,4,4,4,4,4,4,4,4,5,5,5,5,5,5,5,5,5,5,5,5,5,5,5,5,6,6,6,6,6,6,6,6,6,6,6,6,6,6,6,6,6,6,6,6,6,6,6,6,6,6,6,6,6,6,6,6,7,7,7,7,7,7,7,7,7,7,7,7,7,7,7,7,7,7,7,7,7,7,7,7,7,7,7,7,7,7,7,7,7,7,7,7,7,7,7,7,7,7,7,7,7,7,7,7,7,7,7,7,7,7,7,7,7,7,7,7,7,7,7,7,8,8,8,8,8,8,8,8,8,8,8,8,8,8,8,8,8,8,8,8,8,8,8,8,8,8,8,8,8,8,8,8,8,8,8,8,8,8,8,8,8,8,8,8,8,8,8,8,8,8,8,8,8,8,8,8,8,8,8,8,8,8,8,8,8,8,8,8,8,8,8,8,8,8,8,8,8,8,8,8,8,8,8,8,8,8,8,8,8,8,8,8,8,8,8,8,8,8,8,8,8,8,8,8,8,8,8,8,8,8,8,8,8,8,8,8,8,8,8,8,8,8,8,8,8,8,8,8]⟩:ByteArray) ((((a0 / 4294967296) / 65536) / 256) % 256)))))) else(none)) else(none)) else(if 0≤(((a0 / 4294967296) / 65536) % 256) then(if (((a0 / 4294967296) / 65536) % 256)<256 then(some (wrap64 (48+(wrap64 (bt (⟨#[0,1,2,2,3,3,3,3,4,4,4,4,4,4,4,4,5,5,5,5,5,5,5,5,5,5,5,5,5,5,5,5,6,6,6,6,6,6,6,6,6,6,6,6,6,6,6,6,6,6,6,6,6,6,6,6,6,6,6,6,6,6,6,6,7,7,7,7,7,7,7,7,7,7,7,7,7,7,7,7,7,7,7,7,7,7,7,7,7,7,7,7,7,7,7,7,7,7,7,7,7,7,7,7,7,7,7,7,7,7,7,7,7,7,7,7,7,7,7,7,7,7,7,7,7,7,7,7,8,8,8,8,8,8,8,8,8,8,8,8,8,8,8,8,8,8,8,8,8,8,8,8,8,8,8,8,8,8,8,8,8,8,8,8,8,8,8,8,8,8,8,8,8,8,8,8,8,8,8,8,8,8,8,8,8,8,8,8,8,8,8,8,8,8,8,8,8,8,8,8,8,8,8,8,8,8,8,8,8,8,8,8,8,8,8,8,8,8,8,8,8,8,8,8,8,8,8,8,8,8,8,8,8,8,8,8,8,8,8,8,8,8,8,8,8,8,8,8,8,8,8,8,8,8,8,8]⟩:ByteArray) (((a0 / 4294967296) / 65536) % 256)))))) else(none)) else(none))) else(if (a0 / 4294967296)≥256 then(if 0≤(((a0 / 4294967296) / 256) % 256) then(if (((a0 / 4294967296) / 256) % 256)<256 then(some (wrap64 (40+(wrap64 (bt (⟨#[0,1,2,2,3,3,3,3,4,4,4,4,4,4,4,4,5,5,5,5,5,5,5,5,5,5,5,5,5,5,5,5,6,6,6,6,6,6,6,6,6,6,6,6,6,6,6,6,6,6,6,6,6,6,6,6,6,6,6,6,6,6,6,6,7,7,7,7,7,7,7,7,7,7,7,7,7,7,7,7,7,7,7,7,7,7,7,7,7,7,7,7,7,7,7,7,7,7,7,7,7,7,7,7,7,7,7,7,7,7,7,7,7,7,7,7,7,7,7,7,7,7,7,7,7,7,7,7,8,8,8,8,8,8,8,8,8,8,8,8,8,8,8,8,8,8,8,8,8,8,8,8,8,8,8,8,8,8,8,8,8,8,8,8,8,8,8,8,8,8,8,8,8,8,8,8,8,8,8,8,8,8,8,8,8,8,8,8,8,8,8,8,8,8,8,8,8,8,8,8,8,8,8,8,8,8,8,8,8,8,8,8,8,8,8,8,8,8,8,8,8,8,8,8,8,8,8,8,8,8,8,8,8,8,8,8,8,8,8,8,8,8,8,8,8,8,8,8,8,8,8,8,8,8,8,8]⟩:ByteArray) (((a0 / 4294967296) / 256) % 256)))))) else(none)) else(none)) else(if 0≤((a0 / 4294967296) % 256) then(if ((a0 / 4294967296) % 256)<256 then(some (wrap64 (32+(wrap64 (bt (⟨#[0,1,2,2,3,3,3,3,4,4,4,4,4,4,4,4,5,5,5,5,5,5,5,5,5,5,5,5,5,5,5,5,6,6,6,6,6,6,6,6,6,6,6,6,6,6,6,6,6,6,6,6,6,6,6,6,6,6,6,6,6,6,6,6,7,7,7,7,7,7,7,7,7,7,7,7,7,7,7,7,7,7,7,7,7,7,7,7,7,7,7,7,7,7,7,7,7,7,7,7,7,7,7,7,7,7,7,7,7,7,7,7,7,7,7,7,7,7,7,7,7,7,7,7,7,7,7,7,8,8,8,8,8,8,8,8,8,8,8,8,8,8,8,8,8,8,8,8,8,8,8,8,8,8,8,8,8,8,8,8,8,8,8,8,8,8,8,8,8,8,8,8,8,8,8,8,8,8,8,8,8,8,8,8,8,8,8,8,8,8,8,8,8,8,8,8,8,8,8,8,8,8,8,8,8,8,8,8,8,8,8,8,8,8,8,8,8,8,8,8,8,8,8,8,8,8,8,8,8,8,8,8,8,8,8,8,8,8,8,8,8,8,8,8,8,8,8,8,8,8,8,8,8,8,8,8]⟩:ByteArray) ((a0 / 4294967296) % 256)))))) else(none)) else(none)))) else(if a0≥65536 then(if (a0 / 65536)≥256 then(if 0≤(((a0 / 65536) / 256) % 256) then(if (((a0 / 65536) / 256) % 256)<256 then(some (wrap64 (24+(wrap64 (bt (⟨#[0,1,2,2,3,3,3,3,4,4,4,4,4,4,4,4,5,5,5,5,5,5,5,5,5,5,5,5,5,5,5,5,6,6,6,6,6,6,6,6,6,6,6,6,6,6,6,6,6,6,6,6,6,6,6,6,6,6,6,6,6,6,6,6,7,7,7,7,7,7,7,7,7,7,7,7,7,7,7,7,7,7,7,7,7,7,7,7,7,7,7,7,7,7,7,7,7,7,7,7,7,7,7,7,7,7,7,7,7,7,7,7,7,7,7,7,7,7,7,7,7,7,7,7,7,7,7,7,8,8,8,8,8,8,8,8,8,8,8,8,8,8,8,8,8,8,8,8,8,8,8,8,8,8,8,8,8,8,8,8,8,8,8,8,8,8,8,8,8,8,8,8,8,8,8,8,8,8,8,8,8,8,8,8,8,8,8,8,8,8,8,8,8,8,8,8,8,8,8,8,8,8,8,8,8,8,8,8,8,8,8,8,8,8,8,8,8,8,8,8,8,8,8,8,8,8,8,8,8,8,8,8,8,8,8,8,8,8,8,8,8,8,8,8,8,8,8,8,8,8,8,8,8,8,8,8]⟩:ByteArray) (((a0 / 65536) / 256) % 256)))))) else(none)) else(none)) else(if 0≤((a0 / 65536) % 256) then(if ((a0 / 65536) % 256)<256 then(some (wrap64 (16+(wrap64 (bt (⟨#[0,1,2,2,3,3,3,3,4,4,4,4,4,4,4,4,5,5,5,5,5,5,5,5,5,5,5,5,5,5,5,5,6,6,6,6,6,6,6,6,6,6,6,6,6,6,6,6,6,6,6,6,6,6,6,6,6,6,6,6,6,6,6,6,7,7,7,7,7,7,7,7,7,7,7,7,7,7,7,7,7,7,7,7,7,7,7,7,7,7,7,7,7,7,7,7,7,7,7,7,7,7,7,7,7,7,7,7,7,7,7,7,7,7,7,7,7,7,7,7,7,7,7,7,7,7,7,7,8,8,8,8,8,8,8,8,8,8,8,8,8,8,8,8,8,8,8,8,8,8,8,8,8,8,8,8,8,8,8,8,8,8,8,8,8,8,8,8,8,8,8,8,8,8,8,8,8,8,8,8,8,8,8,8,8,8,8,8,8,8,8,8,8,8,8,8,8,8,8,8,8,8,8,8,8,8,8,8,8,8,8,8,8,8,8,8,8,8,8,8,8,8,8,8,8,8,8,8,8,8,8,8,8,8,8,8,8,8,8,8,8,8,8,8,8,8,8,8,8,8,8,8,8,8,8,8]⟩:ByteArray) ((a0 / 65536) % 256)))))) else(none)) else(none))) else(if a0≥256 then(if 0≤((a0 / 256) % 256) then(if ((a0 / 256) % 256)<256 then(some (wrap64 (8+(wrap64 (bt (⟨#[0,1,2,2,3,3,3,3,4,4,4,4,4,4,4,4,5,5,5,5,5,5,5,5,5,5,5,5,5,5,5,5,6,6,6,6,6,6,6,6,6,6,6,6,6,6,6,6,6,6,6,6,6,6,6,6,6,6,6,6,6,6,6,6,7,7,7,7,7,7,7,7,7,7,7,7,7,7,7,7,7,7,7,7,7,7,7,7,7,7,7,7,7,7,7,7,7,7,7,7,7,7,7,7,7,7,7,7,7,7,7,7,7,7,7,7,7,7,7,7,7,7,7,7,7,7,7,7,8,8,8,8,8,8,8,8,8,8,8,8,8,8,8,8,8,8,8,8,8,8,8,8,8,8,8,8,8,8,8,8,8,8,8,8,8,8,8,8,8,8,8,8,8,8,8,8,8,8,8,8,8,8,8,8,8,8,8,8,8,8,8,8,8,8,8,8,8,8,8,8,8,8,8,8,8,8,8,8,8,8,8,8,8,8,8,8,8,8,8,8,8,8,8,8,8,8,8,8,8,8,8,8,8,8,8,8,8,8,8,8,8,8,8,8,8,8,8,8,8,8,8,8,8,8,8,8]⟩:ByteArray) ((a0 / 256) % 256)))))) else(none)) else(none)) else(if 0≤((a0) % 256) then(if ((a0) % 256)<256 then(some (wrap64 (0+(wrap64 (bt (⟨#[0,1,2,2,3,3,3,3,4,4,4,4,4,4,4,4,5,5,5,5,5,5,5,5,5,5,5,5,5,5,5,5,6,6,6,6,6,6,6,6,6,6,6,6,6,6,6,6,6,6,6,6,6,6,6,6,6,6,6,6,6,6,6,6,7,7,7,7,7,7,7,7,7,7,7,7,7,7,7,7,7,7,7,7,7,7,7,7,7,7,7,7,7,7,7,7,7,7,7,7,7,7,7,7,7,7,7,7,7,7,7,7,7,7,7,7,7,7,7,7,7,7,7,7,7,7,7,7,8,8,8,8,8,8,8,8,8,8,8,8,8,8,8,8,8,8,8,8,8,8,8,8,8,8,8,8,8,8,8,8,8,8,8,8,8,8,8,8,8,8,8,8,8,8,8,8,8,8,8,8,8,8,8,8,8,8,8,8,8,8,8,8,8,8,8,8,8,8,8,8,8,8,8,8,8,8,8,8,8,8,8,8,8,8,8,8,8,8,8,8,8,8,8,8,8,8,8,8,8,8,8,8,8,8,8,8,8,8,8,8,8,8,8,8,8,8,8,8,8,8,8,8,8,8,8,8]⟩:ByteArray) ((a0) % 256)))))) else(none)) else(none))))
set_option maxHeartbeats 8000000 in
set_option maxRecDepth 100000 in
theorem bits_Len64.calls (a0:Int) (r:Int) (w:World) (h:bits_Len64.f a0=some r):
  Calls Try.prog 46 #[.int .u64 a0] w (fun e w'=>e=.returned (.int .i64 r)∧Drawn0 w w'):=by
 unfold bits_Len64.f at h
 have HH:=za h
 clear h
 go_enter Try.func46,Try.ntmps46
 replace HH:=zqG HH
 rcases HH with⟨HH,hk2⟩|⟨HH,hk48⟩
 ·replace HH:=zqG HH
  rcases HH with⟨HH,hk4⟩|⟨HH,hk26⟩
  ·replace HH:=zqG HH
   rcases HH with⟨HH,hk6⟩|⟨HH,hk16⟩
   ·replace HH:=zqdo HH
    obtain⟨HH,hk8⟩:=HH
    replace HH:=zqto HH
    obtain⟨HH,hk10,hk11⟩:=HH
    have p12:0≤(((((a0 / 4294967296) / 65536) / 256) % 256):Int):=of_decide_eq_true (by first|(with_reducible assumption)|assumption)
    have q12:((((a0 / 4294967296) / 65536) / 256) % 256)<(256:Int):=of_decide_eq_true (by first|(with_reducible assumption)|assumption)
    have hx12:=MW.bt_at' (⟨#[0,1,2,2,3,3,3,3,4,4,4,4,4,4,4,4,5,5,5,5,5,5,5,5,5,5,5,5,5,5,5,5,6,6,6,6,6,6,6,6,6,6,6,6,6,6,6,6,6,6,6,6,6,6,6,6,6,6,6,6,6,6,6,6,7,7,7,7,7,7,7,7,7,7,7,7,7,7,7,7,7,7,7,7,7,7,7,7,7,7,7,7,7,7,7,7,7,7,7,7,7,7,7,7,7,7,7,7,7,7,7,7,7,7,7,7,7,7,7,7,7,7,7,7,7,7,7,7,8,8,8,8,8,8,8,8,8,8,8,8,8,8,8,8,8,8,8,8,8,8,8,8,8,8,8,8,8,8,8,8,8,8,8,8,8,8,8,8,8,8,8,8,8,8,8,8,8,8,8,8,8,8,8,8,8,8,8,8,8,8,8,8,8,8,8,8,8,8,8,8,8,8,8,8,8,8,8,8,8,8,8,8,8,8,8,8,8,8,8,8,8,8,8,8,8,8,8,8,8,8,8,8,8,8,8,8,8,8,8,8,8,8,8,8,8,8,8,8,8,8,8,8,8,8,8,8]⟩:ByteArray) ((((a0 / 4294967296) / 65536) / 256) % 256)
    replace p12:=eq_true p12
    replace q12:=eq_true q12
    obtain rfl:=Option.some.inj HH.out
    clear HH
    go_wp2
    go_ret
    exact⟨by first|rfl|(simp;done)|(simp[*];done),by repeat(first|exact Drawn0.refl _|apply Drawn0.step)⟩
   replace HH:=zqdo HH
   obtain⟨HH,hk18⟩:=HH
   replace HH:=zqto HH
   obtain⟨HH,hk20,hk21⟩:=HH
   have p22:0≤((((a0 / 4294967296) / 65536) % 256):Int):=of_decide_eq_true (by first|(with_reducible assumption)|assumption)
   have q22:(((a0 / 4294967296) / 65536) % 256)<(256:Int):=of_decide_eq_true (by first|(with_reducible assumption)|assumption)
   have hx22:=MW.bt_at' (⟨#[0,1,2,2,3,3,3,3,4,4,4,4,4,4,4,4,5,5,5,5,5,5,5,5,5,5,5,5,5,5,5,5,6,6,6,6,6,6,6,6,6,6,6,6,6,6,6,6,6,6,6,6,6,6,6,6,6,6,6,6,6,6,6,6,7,7,7,7,7,7,7,7,7,7,7,7,7,7,7,7,7,7,7,7,7,7,7,7,7,7,7,7,7,7,7,7,7,7,7,7,7,7,7,7,7,7,7,7,7,7,7,7,7,7,7,7,7,7,7,7,7,7,7,7,7,7,7,7,8,8,8,8,8,8,8,8,8,8,8,8,8,8,8,8,8,8,8,8,8,8,8,8,8,8,8,8,8,8,8,8,8,8,8,8,8,8,8,8,8,8,8,8,8,8,8,8,8,8,8,8,8,8,8,8,8,8,8,8,8,8,8,8,8,8,8,8,8,8,8,8,8,8,8,8,8,8,8,8,8,8,8,8,8,8,8,8,8,8,8,8,8,8,8,8,8,8,8,8,8,8,8,8,8,8,8,8,8,8,8,8,8,8,8,8,8,8,8,8,8,8,8,8,8,8,8,8]⟩:ByteArray) (((a0 / 4294967296) / 65536) % 256)
   replace p22:=eq_true p22
   replace q22:=eq_true q22
   obtain rfl:=Option.some.inj HH.out
   clear HH
   go_wp2
   go_ret
   exact⟨by first|rfl|(simp;done)|(simp[*];done),by repeat(first|exact Drawn0.refl _|apply Drawn0.step)⟩
  replace HH:=zqG HH
  rcases HH with⟨HH,hk28⟩|⟨HH,hk38⟩
  ·replace HH:=zqdo HH
   obtain⟨HH,hk30⟩:=HH
   replace HH:=zqto HH
   obtain⟨HH,hk32,hk33⟩:=HH
   have p34:0≤((((a0 / 4294967296) / 256) % 256):Int):=of_decide_eq_true (by first|(with_reducible assumption)|assumption)
   have q34:(((a0 / 4294967296) / 256) % 256)<(256:Int):=of_decide_eq_true (by first|(with_reducible assumption)|assumption)
   have hx34:=MW.bt_at' (⟨#[0,1,2,2,3,3,3,3,4,4,4,4,4,4,4,4,5,5,5,5,5,5,5,5,5,5,5,5,5,5,5,5,6,6,6,6,6,6,6,6,6,6,6,6,6,6,6,6,6,6,6,6,6,6,6,6,6,6,6,6,6,6,6,6,7,7,7,7,7,7,7,7,7,7,7,7,7,7,7,7,7,7,7,7,7,7,7,7,7,7,7,7,7,7,7,7,7,7,7,7,7,7,7,7,7,7,7,7,7,7,7,7,7,7,7,7,7,7,7,7,7,7,7,7,7,7,7,7,8,8,8,8,8,8,8,8,8,8,8,8,8,8,8,8,8,8,8,8,8,8,8,8,8,8,8,8,8,8,8,8,8,8,8,8,8,8,8,8,8,8,8,8,8,8,8,8,8,8,8,8,8,8,8,8,8,8,8,8,8,8,8,8,8,8,8,8,8,8,8,8,8,8,8,8,8,8,8,8,8,8,8,8,8,8,8,8,8,8,8,8,8,8,8,8,8,8,8,8,8,8,8,8,8,8,8,8,8,8,8,8,8,8,8,8,8,8,8,8,8,8,8,8,8,8,8,8]⟩:ByteArray) (((a0 / 4294967296) / 256) % 256)
   replace p34:=eq_true p34
   replace q34:=eq_true q34
   obtain rfl:=Option.some.inj HH.out
   clear HH
   go_wp2
   go_ret
   exact⟨by first|rfl|(simp;done)|(simp[*];done),by repeat(first|exact Drawn0.refl _|apply Drawn0.step)⟩
  replace HH:=zqdo HH
  obtain⟨HH,hk40⟩:=HH
  replace HH:=zqto HH
  obtain⟨HH,hk42,hk43⟩:=HH
  have p44:0≤(((a0 / 4294967296) % 256):Int):=of_decide_eq_true (by first|(with_reducible assumption)|assumption)
  have q44:((a0 / 4294967296) % 256)<(256:Int):=of_decide_eq_true (by first|(with_reducible assumption)|assumption)
  have hx44:=MW.bt_at' (⟨#[0,1,2,2,3,3,3,3,4,4,4,4,4,4,4,4,5,5,5,5,5,5,5,5,5,5,5,5,5,5,5,5,6,6,6,6,6,6,6,6,6,6,6,6,6,6,6,6,6,6,6,6,6,6,6,6,6,6,6,6,6,6,6,6,7,7,7,7,7,7,7,7,7,7,7,7,7,7,7,7,7,7,7,7,7,7,7,7,7,7,7,7,7,7,7,7,7,7,7,7,7,7,7,7,7,7,7,7,7,7,7,7,7,7,7,7,7,7,7,7,7,7,7,7,7,7,7,7,8,8,8,8,8,8,8,8,8,8,8,8,8,8,8,8,8,8,8,8,8,8,8,8,8,8,8,8,8,8,8,8,8,8,8,8,8,8,8,8,8,8,8,8,8,8,8,8,8,8,8,8,8,8,8,8,8,8,8,8,8,8,8,8,8,8,8,8,8,8,8,8,8,8,8,8,8,8,8,8,8,8,8,8,8,8,8,8,8,8,8,8,8,8,8,8,8,8,8,8,8,8,8,8,8,8,8,8,8,8,8,8,8,8,8,8,8,8,8,8,8,8,8,8,8,8,8,8]⟩:ByteArray) ((a0 / 4294967296) % 256)
  replace p44:=eq_true p44
  replace q44:=eq_true q44
  obtain rfl:=Option.some.inj HH.out
  clear HH
  go_wp2
  go_ret
  exact⟨by first|rfl|(simp;done)|(simp[*];done),by repeat(first|exact Drawn0.refl _|apply Drawn0.step)⟩
 replace HH:=zqG HH
 rcases HH with⟨HH,hk50⟩|⟨HH,hk72⟩
 ·replace HH:=zqG HH
  rcases HH with⟨HH,hk52⟩|⟨HH,hk62⟩
  ·replace HH:=zqdo HH
   obtain⟨HH,hk54⟩:=HH
   replace HH:=zqto HH
   obtain⟨HH,hk56,hk57⟩:=HH
   have p58:0≤((((a0 / 65536) / 256) % 256):Int):=of_decide_eq_true (by first|(with_reducible assumption)|assumption)
   have q58:(((a0 / 65536) / 256) % 256)<(256:Int):=of_decide_eq_true (by first|(with_reducible assumption)|assumption)
   have hx58:=MW.bt_at' (⟨#[0,1,2,2,3,3,3,3,4,4,4,4,4,4,4,4,5,5,5,5,5,5,5,5,5,5,5,5,5,5,5,5,6,6,6,6,6,6,6,6,6,6,6,6,6,6,6,6,6,6,6,6,6,6,6,6,6,6,6,6,6,6,6,6,7,7,7,7,7,7,7,7,7,7,7,7,7,7,7,7,7,7,7,7,7,7,7,7,7,7,7,7,7,7,7,7,7,7,7,7,7,7,7,7,7,7,7,7,7,7,7,7,7,7,7,7,7,7,7,7,7,7,7,7,7,7,7,7,8,8,8,8,8,8,8,8,8,8,8,8,8,8,8,8,8,8,8,8,8,8,8,8,8,8,8,8,8,8,8,8,8,8,8,8,8,8,8,8,8,8,8,8,8,8,8,8,8,8,8,8,8,8,8,8,8,8,8,8,8,8,8,8,8,8,8,8,8,8,8,8,8,8,8,8,8,8,8,8,8,8,8,8,8,8,8,8,8,8,8,8,8,8,8,8,8,8,8,8,8,8,8,8,8,8,8,8,8,8,8,8,8,8,8,8,8,8,8,8,8,8,8,8,8,8,8,8]⟩:ByteArray) (((a0 / 65536) / 256) % 256)
   replace p58:=eq_true p58
   replace q58:=eq_true q58
   obtain rfl:=Option.some.inj HH.out
   clear HH
   go_wp2
   go_ret
   exact⟨by first|rfl|(simp;done)|(simp[*];done),by repeat(first|exact Drawn0.refl _|apply Drawn0.step)⟩
  replace HH:=zqdo HH
  obtain⟨HH,hk64⟩:=HH
  replace HH:=zqto HH
  obtain⟨HH,hk66,hk67⟩:=HH
  have p68:0≤(((a0 / 65536) % 256):Int):=of_decide_eq_true (by first|(with_reducible assumption)|assumption)
  have q68:((a0 / 65536) % 256)<(256:Int):=of_decide_eq_true (by first|(with_reducible assumption)|assumption)
  have hx68:=MW.bt_at' (⟨#[0,1,2,2,3,3,3,3,4,4,4,4,4,4,4,4,5,5,5,5,5,5,5,5,5,5,5,5,5,5,5,5,6,6,6,6,6,6,6,6,6,6,6,6,6,6,6,6,6,6,6,6,6,6,6,6,6,6,6,6,6,6,6,6,7,7,7,7,7,7,7,7,7,7,7,7,7,7,7,7,7,7,7,7,7,7,7,7,7,7,7,7,7,7,7,7,7,7,7,7,7,7,7,7,7,7,7,7,7,7,7,7,7,7,7,7,7,7,7,7,7,7,7,7,7,7,7,7,8,8,8,8,8,8,8,8,8,8,8,8,8,8,8,8,8,8,8,8,8,8,8,8,8,8,8,8,8,8,8,8,8,8,8,8,8,8,8,8,8,8,8,8,8,8,8,8,8,8,8,8,8,8,8,8,8,8,8,8,8,8,8,8,8,8,8,8,8,8,8,8,8,8,8,8,8,8,8,8,8,8,8,8,8,8,8,8,8,8,8,8,8,8,8,8,8,8,8,8,8,8,8,8,8,8,8,8,8,8,8,8,8,8,8,8,8,8,8,8,8,8,8,8,8,8,8,8]⟩:ByteArray) ((a0 / 65536) % 256)
  replace p68:=eq_true p68
  replace q68:=eq_true q68
  obtain rfl:=Option.some.inj HH.out
  clear HH
  go_wp2
  go_ret
  exact⟨by first|rfl|(simp;done)|(simp[*];done),by repeat(first|exact Drawn0.refl _|apply Drawn0.step)⟩
 replace HH:=zqG HH
 rcases HH with⟨HH,hk74⟩|⟨HH,hk84⟩
 ·replace HH:=zqdo HH
  obtain⟨HH,hk76⟩:=HH
  replace HH:=zqto HH
  obtain⟨HH,hk78,hk79⟩:=HH
  have p80:0≤(((a0 / 256) % 256):Int):=of_decide_eq_true (by first|(with_reducible assumption)|assumption)
  have q80:((a0 / 256) % 256)<(256:Int):=of_decide_eq_true (by first|(with_reducible assumption)|assumption)
  have hx80:=MW.bt_at' (⟨#[0,1,2,2,3,3,3,3,4,4,4,4,4,4,4,4,5,5,5,5,5,5,5,5,5,5,5,5,5,5,5,5,6,6,6,6,6,6,6,6,6,6,6,6,6,6,6,6,6,6,6,6,6,6,6,6,6,6,6,6,6,6,6,6,7,7,7,7,7,7,7,7,7,7,7,7,7,7,7,7,7,7,7,7,7,7,7,7,7,7,7,7,7,7,7,7,7,7,7,7,7,7,7,7,7,7,7,7,7,7,7,7,7,7,7,7,7,7,7,7,7,7,7,7,7,7,7,7,8,8,8,8,8,8,8,8,8,8,8,8,8,8,8,8,8,8,8,8,8,8,8,8,8,8,8,8,8,8,8,8,8,8,8,8,8,8,8,8,8,8,8,8,8,8,8,8,8,8,8,8,8,8,8,8,8,8,8,8,8,8,8,8,8,8,8,8,8,8,8,8,8,8,8,8,8,8,8,8,8,8,8,8,8,8,8,8,8,8,8,8,8,8,8,8,8,8,8,8,8,8,8,8,8,8,8,8,8,8,8,8,8,8,8,8,8,8,8,8,8,8,8,8,8,8,8,8]⟩:ByteArray) ((a0 / 256) % 256)
  replace p80:=eq_true p80
  replace q80:=eq_true q80
  obtain rfl:=Option.some.inj HH.out
  clear HH
  go_wp2
  go_ret
  exact⟨by first|rfl|(simp;done)|(simp[*];done),by repeat(first|exact Drawn0.refl _|apply Drawn0.step)⟩
 replace HH:=zqdo HH
 obtain⟨HH,hk86⟩:=HH
 replace HH:=zqto HH
 obtain⟨HH,hk88,hk89⟩:=HH
 have p90:0≤(((a0) % 256):Int):=of_decide_eq_true (by first|(with_reducible assumption)|assumption)
 have q90:((a0) % 256)<(256:Int):=of_decide_eq_true (by first|(with_reducible assumption)|assumption)
 have hx90:=MW.bt_at' (⟨#[0,1,2,2,3,3,3,3,4,4,4,4,4,4,4,4,5,5,5,5,5,5,5,5,5,5,5,5,5,5,5,5,6,6,6,6,6,6,6,6,6,6,6,6,6,6,6,6,6,6,6,6,6,6,6,6,6,6,6,6,6,6,6,6,7,7,7,7,7,7,7,7,7,7,7,7,7,7,7,7,7,7,7,7,7,7,7,7,7,7,7,7,7,7,7,7,7,7,7,7,7,7,7,7,7,7,7,7,7,7,7,7,7,7,7,7,7,7,7,7,7,7,7,7,7,7,7,7,8,8,8,8,8,8,8,8,8,8,8,8,8,8,8,8,8,8,8,8,8,8,8,8,8,8,8,8,8,8,8,8,8,8,8,8,8,8,8,8,8,8,8,8,8,8,8,8,8,8,8,8,8,8,8,8,8,8,8,8,8,8,8,8,8,8,8,8,8,8,8,8,8,8,8,8,8,8,8,8,8,8,8,8,8,8,8,8,8,8,8,8,8,8,8,8,8,8,8,8,8,8,8,8,8,8,8,8,8,8,8,8,8,8,8,8,8,8,8,8,8,8,8,8,8,8,8,8]⟩:ByteArray) ((a0) % 256)
 replace p90:=eq_true p90
 replace q90:=eq_true q90
 obtain rfl:=Option.some.inj HH.out
 clear HH
 go_wp2
 go_ret
 exact⟨by first|rfl|(simp;done)|(simp[*];done),by repeat(first|exact Drawn0.refl _|apply Drawn0.step)⟩

def bits_Len.f (a0:Int):Option (Int):=(bits_Len64.f a0).bind fun t1=>(some t1)
set_option maxHeartbeats 8000000 in
set_option maxRecDepth 100000 in
theorem bits_Len.calls (a0:Int) (r:Int) (w:World) (h:bits_Len.f a0=some r):
  Calls Try.prog 35 #[.int .u64 a0] w (fun e w'=>e=.returned (.int .i64 r)∧Drawn0 w w'):=by
 unfold bits_Len.f at h
 have HH:=za h
 clear h
 go_enter Try.func35,Try.ntmps35
 replace HH:=zd HH
 obtain⟨t1,At2,HH⟩:=HH
 go_wp2_with ((with_reducible refine gc 46 rfl ?_);refine zc 46 (some 7) Try.func46 #[.int .u64 a0] (h:=?_);(with_reducible refine(bits_Len64.calls  a0 t1 _  At2.out).mono ?_);rintro e w' ⟨rfl,⟨nd,rfl⟩⟩;refine⟨_,rfl,?_⟩)
 refine zg ?_
 obtain rfl:=Option.some.inj HH.out
 clear HH
 go_wp2
 go_ret
 exact⟨by first|rfl|(simp;done)|(simp[*];done),by repeat(first|exact Drawn0.refl _|apply Drawn0.step)⟩

def slices_nextPowerOfTwo.f (a0:Int):Option (Int):=(bits_Len.f (IntKind.u64.wrap a0)).bind fun t1=>if 0≤t1 then some (IntKind.u64.wrap (2 ^ min t1.toNat 64)) else none
set_option maxHeartbeats 8000000 in
set_option maxRecDepth 100000 in
theorem slices_nextPowerOfTwo.calls (a0:Int) (r:Int) (w:World) (h:slices_nextPowerOfTwo.f a0=some r):
    Calls Try.prog 48 #[.int .i64 a0] w (fun e w'=>e=.returned (.int .u64 r)∧Drawn0 w w'):=by
  unfold slices_nextPowerOfTwo.f at h
  have HH:=za h
  clear h
  go_enter Try.func48,Try.ntmps48
  replace HH:=zd HH
  obtain⟨t1,At2,HH⟩:=HH
  go_wp2_with ((with_reducible refine gc 35 rfl ?_);refine zc 35 (some 5) Try.func35 #[.int .u64 (IntKind.u64.wrap a0)] (h:=?_);(with_reducible refine(bits_Len.calls (IntKind.u64.wrap a0) t1 _  At2.out).mono ?_);rintro e w' ⟨rfl,⟨nd,rfl⟩⟩;refine⟨_,rfl,?_⟩)
  refine zg ?_
  have H:=HH.out
  by_cases hn:0≤t1
  · rw[if_pos hn] at H
    obtain rfl:=Option.some.inj H
    clear HH
    go_wp2
    go_ret
    exact⟨by first|rfl|(simp;done)|(simp[*];done),by repeat(first|exact Drawn0.refl _|apply Drawn0.step)⟩
  · rw[if_neg hn] at H;cases H

def slices_xorshift_Next.f (a0_0:Int):Option (Int × Int):=some (Go.bits .xor .u64 (Go.bits .xor .u64 (Go.bits .xor .u64 a0_0 (IntKind.u64.wrap (a0_0*8192))) ((Go.bits .xor .u64 a0_0 (IntKind.u64.wrap (a0_0*8192))) / 128)) (IntKind.u64.wrap ((Go.bits .xor .u64 (Go.bits .xor .u64 a0_0 (IntKind.u64.wrap (a0_0*8192))) ((Go.bits .xor .u64 a0_0 (IntKind.u64.wrap (a0_0*8192))) / 128))*131072)),Go.bits .xor .u64 (Go.bits .xor .u64 (Go.bits .xor .u64 a0_0 (IntKind.u64.wrap (a0_0*8192))) ((Go.bits .xor .u64 a0_0 (IntKind.u64.wrap (a0_0*8192))) / 128)) (IntKind.u64.wrap ((Go.bits .xor .u64 (Go.bits .xor .u64 a0_0 (IntKind.u64.wrap (a0_0*8192))) ((Go.bits .xor .u64 a0_0 (IntKind.u64.wrap (a0_0*8192))) / 128))*131072)))
def slices_xorshift_Next.Post (B_:Nat) (g0:Nat) (a0_0:Int) (w:World) (r1:Int) (r2:Int) (e:Ending) (w':World):Prop:=e=.returned (.int .u64 r1)∧w'.heap[g0]? =some (.cells #[.int .u64 r2] 73 (0,0))∧(∀ k_:Nat,k_≠g0→k_<w.heap.size→w'.heap[k_]? =w.heap[k_]?)∧Below B_ w w'
set_option maxHeartbeats 8000000 in
set_option maxRecDepth 100000 in
theorem slices_xorshift_Next.calls (B_:Nat) (g0:Nat) (a0_0:Int) (r1:Int) (r2:Int) (w:World) (hB0:B_≤w.heap.size) (hb0:w.heap[g0]? =some (.cells #[.int .u64 a0_0] 73 (0,0))) (hge0:B_≤g0) (h:slices_xorshift_Next.f a0_0=some (r1,r2)):
  Calls Try.prog 49 #[.pointer (some ⟨g0,0,none⟩)] w (fun e w'=>slices_xorshift_Next.Post B_ g0 a0_0 w r1 r2 e w'):=by
 unfold slices_xorshift_Next.f at h
 have HH:=za h
 clear h
 obtain⟨P0_,HPO⟩:∃ P0_:Nat→Prop,P0_=(fun k_=>k_≠g0):=⟨_,rfl⟩
 have HFfr:=za (MB.frK_new w (fun k_ hk_=>by rw[HPO] at hk_;exact⟨trivial,hk_⟩):Kd.F (MB.frK w P0_) w (fun k_=>True∧k_≠g0) (some ⟨0,0,none⟩) [()].length [()])
 replace HPO:=za HPO
 have hB_:=za hB0
 have BKg0:=za hb0
 have GEg0:=za hge0
 clear hb0 hge0
 have j1:=MB.lz1 BKg0.out
 have HB:=za (Below.refl B_ w)
 go_enter Try.func49,Try.ntmps49
 go_wp2
 have hwr_:∀ n_:Int,IntKind.i64.wrap n_=wrap64 n_:=fun n_=>IntWalk.i64_left n_
 go_still_tail 9,(by kernel_rfl)
 clear hwr_
 change wpList _ _ _ _ _ w.drew
 obtain⟨w2,hw_⟩:∃ w_:World,w_=w.drew:=⟨_,rfl⟩
 rw[← hw_]
 have hb:Below w.heap.size w w2:=by rw[hw_];exact below_drew1 (Below.refl _ _)
 clear hw_
 replace HFfr:=zfb HFfr.out hb
 replace BKg0:=zbb BKg0.out hb
 replace HB:=za (MB.below_stepB hB_.out HB.out hb)
 clear hb
 clear j1
 have j3:=MB.lz1 BKg0.out
 go_wp2_with ((with_reducible refine gs 73 11 rfl ?_);refine zs 73 11 #[.int .u64 (Go.bits .xor .u64 a0_0 (IntKind.u64.wrap (a0_0*8192)))] BKg0.out [.int .u64 (Go.bits .xor .u64 a0_0 (IntKind.u64.wrap (a0_0*8192)))] (h:=?_);intro w4 hbk hg)
 refine zg ?_
 replace HFfr:=zfg HFfr.out hg fun k_ hk_=>hk_.2
 replace HB:=zhg HB.out hg (Nat.le_trans hB_.out (MB.bsize (a:=B_) HB.out)) GEg0
 replace BKg0:=hbk
 clear hg hbk
 clear j3
 have j5:=MB.lz1 BKg0.out
 go_wp2
 have hwr_:∀ n_:Int,IntKind.i64.wrap n_=wrap64 n_:=fun n_=>IntWalk.i64_left n_
 go_still_tail 9,(by kernel_rfl)
 clear hwr_
 change wpList _ _ _ _ _ w4.drew
 obtain⟨w6,hw_⟩:∃ w_:World,w_=w4.drew:=⟨_,rfl⟩
 rw[← hw_]
 have hb:Below w4.heap.size w4 w6:=by rw[hw_];exact below_drew1 (Below.refl _ _)
 clear hw_
 replace HFfr:=zfb HFfr.out hb
 replace BKg0:=zbb BKg0.out hb
 replace HB:=za (MB.below_stepB hB_.out HB.out hb)
 clear hb
 clear j5
 have j7:=MB.lz1 BKg0.out
 go_wp2_with ((with_reducible refine gs 73 20 rfl ?_);refine zs 73 20 #[.int .u64 (Go.bits .xor .u64 (Go.bits .xor .u64 a0_0 (IntKind.u64.wrap (a0_0*8192))) ((Go.bits .xor .u64 a0_0 (IntKind.u64.wrap (a0_0*8192))) / 128))] BKg0.out [.int .u64 (Go.bits .xor .u64 (Go.bits .xor .u64 a0_0 (IntKind.u64.wrap (a0_0*8192))) ((Go.bits .xor .u64 a0_0 (IntKind.u64.wrap (a0_0*8192))) / 128))] (h:=?_);intro w8 hbk hg)
 refine zg ?_
 replace HFfr:=zfg HFfr.out hg fun k_ hk_=>hk_.2
 replace HB:=zhg HB.out hg (Nat.le_trans hB_.out (MB.bsize (a:=B_) HB.out)) GEg0
 replace BKg0:=hbk
 clear hg hbk
 clear j7
 have j9:=MB.lz1 BKg0.out
 go_wp2
 have hwr_:∀ n_:Int,IntKind.i64.wrap n_=wrap64 n_:=fun n_=>IntWalk.i64_left n_
 go_still_tail 9,(by kernel_rfl)
 clear hwr_
 change wpList _ _ _ _ _ w8.drew
 obtain⟨w10,hw_⟩:∃ w_:World,w_=w8.drew:=⟨_,rfl⟩
 rw[← hw_]
 have hb:Below w8.heap.size w8 w10:=by rw[hw_];exact below_drew1 (Below.refl _ _)
 clear hw_
 replace HFfr:=zfb HFfr.out hb
 replace BKg0:=zbb BKg0.out hb
 replace HB:=za (MB.below_stepB hB_.out HB.out hb)
 clear hb
 clear j9
 have jb:=MB.lz1 BKg0.out
 go_wp2_with ((with_reducible refine gs 73 29 rfl ?_);refine zs 73 29 #[.int .u64 (Go.bits .xor .u64 (Go.bits .xor .u64 (Go.bits .xor .u64 a0_0 (IntKind.u64.wrap (a0_0*8192))) ((Go.bits .xor .u64 a0_0 (IntKind.u64.wrap (a0_0*8192))) / 128)) (IntKind.u64.wrap ((Go.bits .xor .u64 (Go.bits .xor .u64 a0_0 (IntKind.u64.wrap (a0_0*8192))) ((Go.bits .xor .u64 a0_0 (IntKind.u64.wrap (a0_0*8192))) / 128))*131072)))] BKg0.out [.int .u64 (Go.bits .xor .u64 (Go.bits .xor .u64 (Go.bits .xor .u64 a0_0 (IntKind.u64.wrap (a0_0*8192))) ((Go.bits .xor .u64 a0_0 (IntKind.u64.wrap (a0_0*8192))) / 128)) (IntKind.u64.wrap ((Go.bits .xor .u64 (Go.bits .xor .u64 a0_0 (IntKind.u64.wrap (a0_0*8192))) ((Go.bits .xor .u64 a0_0 (IntKind.u64.wrap (a0_0*8192))) / 128))*131072)))] (h:=?_);intro w12 hbk hg)
 refine zg ?_
 replace HFfr:=zfg HFfr.out hg fun k_ hk_=>hk_.2
 replace HB:=zhg HB.out hg (Nat.le_trans hB_.out (MB.bsize (a:=B_) HB.out)) GEg0
 replace BKg0:=hbk
 clear hg hbk
 clear jb
 have jd:=MB.lz1 BKg0.out
 have H:=HH.out
 simp only[Option.some.injEq,Prod.mk.injEq] at H
 obtain⟨rfl,rfl⟩:=H
 clear HH
 go_wp2
 go_ret
 unfold slices_xorshift_Next.Post
 exact⟨by first|rfl|(simp;done)|(simp[*];done),(by first|exact BKg0.out|(have h_:=BKg0.out;simp only[*] at h_;exact h_)|(have h_:=BKg0.out;simp[*] at h_ ⊢;exact h_)),(fun k_ hg_ hlt_=>MB.frK_out HFfr.out k_ (by rw[HPO.out];exact hg_) hlt_),HB.out⟩

def slices_order2Ordered_rune.f (l0:List Int) (a1:Int) (a2:Int) (a3_0:Int):Option (Int × Int × Int):=if 0≤a2 then(if a2<(l0.length:Int) then(if 0≤a1 then(if a1<(l0.length:Int) then((cmp_Less_rune.f (rd l0 a2) (rd l0 a1)).bind fun t14=>(if t14=true then(some (a2,a1,wrap64 (a3_0+1))) else(some (a1,a2,a3_0)))) else(none)) else(none)) else(none)) else(none)
def slices_order2Ordered_rune.Post (P_:Nat→Prop) (B_:Nat) (A0:Option Addr) (c0:Nat) (l0:List Int) (a1:Int) (a2:Int) (g3:Nat) (a3_0:Int) (w:World) (r1:Int) (r2:Int) (r3:Int) (e:Ending) (w':World):Prop:=e=.returned (.tuple #[.int .i64 r1,.int .i64 r2])∧w'.heap[g3]? =some (.cells #[.int .i64 r3] 3 (0,0))∧(∀ k_:Nat,k_≠g3→k_<w.heap.size→w'.heap[k_]? =w.heap[k_]?)∧Below B_ w w'
set_option maxHeartbeats 8000000 in
set_option maxRecDepth 100000 in
theorem slices_order2Ordered_rune.calls (P_:Nat→Prop) (B_:Nat) (A0:Option Addr) (c0:Nat) (l0:List Int) (a1:Int) (a2:Int) (g3:Nat) (a3_0:Int) (r1:Int) (r2:Int) (r3:Int) (w:World) (hB0:B_≤w.heap.size) (hPg:∀ k_,P_ k_→k_≠g3) (hs0:Kd.F (Kd.int .i32) w P_ A0 l0.length l0) (hc0:l0.length≤c0) (hb3:w.heap[g3]? =some (.cells #[.int .i64 a3_0] 3 (0,0))) (hge3:B_≤g3) (h:slices_order2Ordered_rune.f l0 a1 a2 a3_0=some (r1,r2,r3)):
  Calls Try.prog 53 #[.slice A0 l0.length c0,.int .i64 a1,.int .i64 a2,.pointer (some ⟨g3,0,none⟩)] w (fun e w'=>slices_order2Ordered_rune.Post P_ B_ A0 c0 l0 a1 a2 g3 a3_0 w r1 r2 r3 e w'):=by
 unfold slices_order2Ordered_rune.f at h
 have HH:=za h
 clear h
 obtain⟨P0_,HPO⟩:∃ P0_:Nat→Prop,P0_=(fun k_=>k_≠g3):=⟨_,rfl⟩
 have HFfr:=za (MB.frK_new w (fun k_ hk_=>by rw[HPO] at hk_;exact⟨trivial,hk_⟩):Kd.F (MB.frK w P0_) w (fun k_=>True∧k_≠g3) (some ⟨0,0,none⟩) [()].length [()])
 replace HPO:=za HPO
 have hB_:=za hB0
 have HF0:=za (Kd.F_mono hs0 (ok':=(fun k_=>(True∧(P_ k_∨w.heap.size≤k_))∧k_≠g3)) (fun k_ hk_=>⟨⟨trivial,.inl hk_⟩,hPg k_ hk_⟩))
 clear hs0 hc0
 have BKg3:=za hb3
 have GEg3:=za hge3
 clear hb3 hge3
 have j1:=MB.lz1 BKg3.out
 have HB:=za (Below.refl B_ w)
 go_enter Try.func53,Try.ntmps53
 replace HH:=zqdo HH
 obtain⟨HH,hk3⟩:=HH
 replace HH:=zqto HH
 obtain⟨HH,hk5,hk6⟩:=HH
 have p7:0≤(a2:Int):=of_decide_eq_true (by first|(with_reducible assumption)|assumption)
 have q7:a2<(l0.length:Int):=of_decide_eq_true (by first|(with_reducible assumption)|assumption)
 obtain⟨ad7,e7,hx7_0⟩:=Kd.at_int (Kd.F_now HF0.out) a2 p7 q7
 cases e7
 replace p7:=eq_true p7
 replace q7:=eq_true q7
 replace HH:=zqdo HH
 obtain⟨HH,hk9⟩:=HH
 replace HH:=zqto HH
 obtain⟨HH,hk11,hk12⟩:=HH
 have p13:0≤(a1:Int):=of_decide_eq_true (by first|(with_reducible assumption)|assumption)
 have q13:a1<(l0.length:Int):=of_decide_eq_true (by first|(with_reducible assumption)|assumption)
 obtain⟨ad13,e13,hx13_0⟩:=Kd.at_int (Kd.F_now HF0.out) a1 p13 q13
 cases e13
 replace p13:=eq_true p13
 replace q13:=eq_true q13
 replace HH:=zd HH
 obtain⟨t14,At15,HH⟩:=HH
 by_cases c16:t14=true
 ·replace HH:=MW.hpos HH c16
  subst c16
  go_wp2
  go_quiet ((first|(go_at_call 42;first|exact Calls.quiet_of (MW.drawn (cmp_Less_rune.calls  (rd l0 a2) (rd l0 a1) true _  At15.out))|exact MW.quiet_far (MW.drawn (cmp_Less_rune.calls  (rd l0 a2) (rd l0 a1) true _  At15.out)))))
  go_wp2_with ((with_reducible refine gs 3 23 rfl ?_);refine zs 3 23 #[.int .i64 (wrap64 (a3_0+1))] (cs:= #[.int .i64 a3_0]) (ty:=3) (by(with_reducible repeat(first|refine blk_drewN ?_ _|refine blk_drew ?_|refine blk_alloc ?_ _));exact BKg3.out) [.int .i64 (wrap64 (a3_0+1))] (h:=?_);intro w17 hbk hg)
  refine zg ?_
  replace HFfr:=zfg (ok:=(fun k_=>True∧k_≠g3)) (by(with_reducible repeat(first|apply Kd.F_alloc|apply Kd.F_drewN|apply Kd.F_drew));exact HFfr.out) hg fun k_ hk_=>hk_.2
  replace HB:=zhg (by repeat(first|(with_reducible first|exact HB.out|apply MB.below_allocB hB_.out|apply pw_below_drewN|apply below_drew1)|exact HB.out)) hg (Nat.le_trans hB_.out (MB.bsize (a:=B_) (by repeat(first|(with_reducible first|exact HB.out|apply MB.below_allocB hB_.out|apply pw_below_drewN|apply below_drew1)|exact HB.out)))) GEg3
  replace BKg3:=hbk
  clear hg hbk
  clear j1 hx7_0 p7 q7 hx13_0 p13 q13
  have ji:=MB.lz1 BKg3.out
  have H:=HH.out
  simp only[Option.some.injEq,Prod.mk.injEq] at H
  obtain⟨rfl,rfl,rfl⟩:=H
  clear HH
  go_wp2
  go_ret2
  unfold slices_order2Ordered_rune.Post
  exact⟨by first|rfl|(simp;done)|(simp[*];done),(by first|exact BKg3.out|(have h_:=BKg3.out;simp only[*] at h_;exact h_)|(have h_:=BKg3.out;simp[*] at h_ ⊢;exact h_)),(fun k_ hg_ hlt_=>MB.frK_out HFfr.out k_ (by rw[HPO.out];exact hg_) hlt_),HB.out⟩
 replace HH:=MW.hneg HH c16
 replace c16:=Bool.eq_false_iff.mpr c16
 subst c16
 have H:=HH.out
 simp only[Option.some.injEq,Prod.mk.injEq] at H
 obtain⟨rfl,rfl,rfl⟩:=H
 clear HH
 go_wp2
 go_quiet ((first|(go_at_call 42;first|exact Calls.quiet_of (MW.drawn (cmp_Less_rune.calls  (rd l0 a2) (rd l0 a1) false _  At15.out))|exact MW.quiet_far (MW.drawn (cmp_Less_rune.calls  (rd l0 a2) (rd l0 a1) false _  At15.out)))))
 go_wp2
 go_ret2
 unfold slices_order2Ordered_rune.Post
 exact⟨by first|rfl|(simp;done)|(simp[*];done),(by first|exact(by(with_reducible repeat(first|refine blk_drewN ?_ _|refine blk_drew ?_|refine blk_alloc ?_ _));exact BKg3.out)|(have h_:=(by(with_reducible repeat(first|refine blk_drewN ?_ _|refine blk_drew ?_|refine blk_alloc ?_ _));exact BKg3.out);simp only[*] at h_;exact h_)|(have h_:=(by(with_reducible repeat(first|refine blk_drewN ?_ _|refine blk_drew ?_|refine blk_alloc ?_ _));exact BKg3.out);simp[*] at h_ ⊢;exact h_)),(fun k_ hg_ hlt_=>MB.frK_out (by(with_reducible repeat(first|apply Kd.F_alloc|apply Kd.F_drewN|apply Kd.F_drew));exact HFfr.out) k_ (by rw[HPO.out];exact hg_) hlt_),(by repeat(first|(with_reducible first|exact HB.out|apply MB.below_allocB hB_.out|apply pw_below_drewN|apply below_drew1)|exact HB.out))⟩

def slices_medianOrdered_rune.f (l0:List Int) (a1:Int) (a2:Int) (a3:Int) (a4_0:Int):Option (Int × Int):=(slices_order2Ordered_rune.f l0 a1 a2 a4_0).bind fun bt2=>((slices_order2Ordered_rune.f l0 bt2.2.1 a3 bt2.2.2).bind fun bt8=>((slices_order2Ordered_rune.f l0 bt2.1 bt8.1 bt8.2.2).bind fun bt14=>(some (bt14.2.1,bt14.2.2))))
def slices_medianOrdered_rune.Post (P_:Nat→Prop) (B_:Nat) (A0:Option Addr) (c0:Nat) (l0:List Int) (a1:Int) (a2:Int) (a3:Int) (g4:Nat) (a4_0:Int) (w:World) (r1:Int) (r2:Int) (e:Ending) (w':World):Prop:=e=.returned (.int .i64 r1)∧w'.heap[g4]? =some (.cells #[.int .i64 r2] 3 (0,0))∧(∀ k_:Nat,k_≠g4→k_<w.heap.size→w'.heap[k_]? =w.heap[k_]?)∧Below B_ w w'
set_option maxHeartbeats 8000000 in
set_option maxRecDepth 100000 in
theorem slices_medianOrdered_rune.calls (P_:Nat→Prop) (B_:Nat) (A0:Option Addr) (c0:Nat) (l0:List Int) (a1:Int) (a2:Int) (a3:Int) (g4:Nat) (a4_0:Int) (r1:Int) (r2:Int) (w:World) (hB0:B_≤w.heap.size) (hPg:∀ k_,P_ k_→k_≠g4) (hs0:Kd.F (Kd.int .i32) w P_ A0 l0.length l0) (hc0:l0.length≤c0) (hb4:w.heap[g4]? =some (.cells #[.int .i64 a4_0] 3 (0,0))) (hge4:B_≤g4) (h:slices_medianOrdered_rune.f l0 a1 a2 a3 a4_0=some (r1,r2)):
  Calls Try.prog 51 #[.slice A0 l0.length c0,.int .i64 a1,.int .i64 a2,.int .i64 a3,.pointer (some ⟨g4,0,none⟩)] w (fun e w'=>slices_medianOrdered_rune.Post P_ B_ A0 c0 l0 a1 a2 a3 g4 a4_0 w r1 r2 e w'):=by
 unfold slices_medianOrdered_rune.f at h
 have HH:=za h
 clear h
 obtain⟨P0_,HPO⟩:∃ P0_:Nat→Prop,P0_=(fun k_=>k_≠g4):=⟨_,rfl⟩
 have HFfr:=za (MB.frK_new w (fun k_ hk_=>by rw[HPO] at hk_;exact⟨trivial,hk_⟩):Kd.F (MB.frK w P0_) w (fun k_=>True∧k_≠g4) (some ⟨0,0,none⟩) [()].length [()])
 replace HPO:=za HPO
 have hB_:=za hB0
 have HF0:=za (Kd.F_mono hs0 (ok':=(fun k_=>(True∧(P_ k_∨w.heap.size≤k_))∧k_≠g4)) (fun k_ hk_=>⟨⟨trivial,.inl hk_⟩,hPg k_ hk_⟩))
 have HL0:=za hc0
 clear hs0 hc0
 have BKg4:=za hb4
 have GEg4:=za hge4
 clear hb4 hge4
 have j1:=MB.lz1 BKg4.out
 have HB:=za (Below.refl B_ w)
 go_enter Try.func51,Try.ntmps51
 replace HH:=zd HH
 obtain⟨⟨t2,t3,t4⟩,At5,HH⟩:=HH
 dsimp only at HH
 go_wp2_with (((with_reducible refine gc 53 rfl ?_);refine zc 53 (some 16) Try.func53 #[.slice A0 l0.length c0,.int .i64 a1,.int .i64 a2,.pointer (some ⟨g4,0,none⟩)] (h:=?_);refine(slices_order2Ordered_rune.calls (fun k_=>(True∧(P_ k_∨w.heap.size≤k_))∧k_≠g4) B_ _ _ l0 a1 a2 g4 a4_0 t2 t3 t4 _ (Nat.le_trans hB_.out (MB.bsize (a:=B_) HB.out)) (fun k_ hk_=>hk_.2) HF0.out HL0.out BKg4.out GEg4.out At5.out).mono ?_;rintro e w6 ⟨rfl,hbk,hfr,hb⟩;refine⟨_,rfl,?_⟩);replace hbk:=za hbk;replace hfr:=za hfr)
 refine zg ?_
 replace hbk:=hbk.out
 replace hfr:=hfr.out
 replace HFfr:=za (Kd.F_step (ok:=(fun k_=>True∧k_≠g4)) HFfr.out (fun k_ hk_ hlt_=>hfr k_ (hk_.2) hlt_))
 replace HF0:=za (Kd.F_step (ok:=(fun k_=>(True∧(P_ k_∨w.heap.size≤k_))∧k_≠g4)) HF0.out (fun k_ hk_ hlt_=>hfr k_ (hk_.2) hlt_))
 replace HB:=za (Below.trans HB.out hb)
 replace BKg4:=za hbk
 clear hbk hfr hb
 clear j1
 have j7:=MB.lz1 BKg4.out
 replace HH:=zd HH
 obtain⟨⟨t8,t9,t10⟩,At11,HH⟩:=HH
 dsimp only at HH
 go_wp2_with (((with_reducible refine gc 53 rfl ?_);refine zc 53 (some 24) Try.func53 #[.slice A0 l0.length c0,.int .i64 t3,.int .i64 a3,.pointer (some ⟨g4,0,none⟩)] (h:=?_);refine(slices_order2Ordered_rune.calls (fun k_=>(True∧(P_ k_∨w.heap.size≤k_))∧k_≠g4) B_ _ _ l0 t3 a3 g4 t4 t8 t9 t10 _ (Nat.le_trans hB_.out (MB.bsize (a:=B_) HB.out)) (fun k_ hk_=>hk_.2) HF0.out HL0.out BKg4.out GEg4.out At11.out).mono ?_;rintro e w12 ⟨rfl,hbk,hfr,hb⟩;refine⟨_,rfl,?_⟩);replace hbk:=za hbk;replace hfr:=za hfr)
 refine zg ?_
 replace hbk:=hbk.out
 replace hfr:=hfr.out
 replace HFfr:=za (Kd.F_step (ok:=(fun k_=>True∧k_≠g4)) HFfr.out (fun k_ hk_ hlt_=>hfr k_ (hk_.2) hlt_))
 replace HF0:=za (Kd.F_step (ok:=(fun k_=>(True∧(P_ k_∨w.heap.size≤k_))∧k_≠g4)) HF0.out (fun k_ hk_ hlt_=>hfr k_ (hk_.2) hlt_))
 replace HB:=za (Below.trans HB.out hb)
 replace BKg4:=za hbk
 clear hbk hfr hb
 clear j7
 have jd:=MB.lz1 BKg4.out
 replace HH:=zd HH
 obtain⟨⟨t14,t15,t16⟩,At17,HH⟩:=HH
 dsimp only at HH
 go_wp2_with (((with_reducible refine gc 53 rfl ?_);refine zc 53 (some 32) Try.func53 #[.slice A0 l0.length c0,.int .i64 t2,.int .i64 t8,.pointer (some ⟨g4,0,none⟩)] (h:=?_);refine(slices_order2Ordered_rune.calls (fun k_=>(True∧(P_ k_∨w.heap.size≤k_))∧k_≠g4) B_ _ _ l0 t2 t8 g4 t10 t14 t15 t16 _ (Nat.le_trans hB_.out (MB.bsize (a:=B_) HB.out)) (fun k_ hk_=>hk_.2) HF0.out HL0.out BKg4.out GEg4.out At17.out).mono ?_;rintro e w18 ⟨rfl,hbk,hfr,hb⟩;refine⟨_,rfl,?_⟩);replace hbk:=za hbk;replace hfr:=za hfr)
 refine zg ?_
 replace hbk:=hbk.out
 replace hfr:=hfr.out
 replace HFfr:=za (Kd.F_step (ok:=(fun k_=>True∧k_≠g4)) HFfr.out (fun k_ hk_ hlt_=>hfr k_ (hk_.2) hlt_))
 replace HB:=za (Below.trans HB.out hb)
 replace BKg4:=za hbk
 clear hbk hfr hb
 clear jd
 have jj:=MB.lz1 BKg4.out
 have H:=HH.out
 simp only[Option.some.injEq,Prod.mk.injEq] at H
 obtain⟨rfl,rfl⟩:=H
 clear HH
 go_wp2
 go_ret
 unfold slices_medianOrdered_rune.Post
 exact⟨by first|rfl|(simp;done)|(simp[*];done),(by first|exact BKg4.out|(have h_:=BKg4.out;simp only[*] at h_;exact h_)|(have h_:=BKg4.out;simp[*] at h_ ⊢;exact h_)),(fun k_ hg_ hlt_=>MB.frK_out HFfr.out k_ (by rw[HPO.out];exact hg_) hlt_),HB.out⟩

def slices_medianAdjacentOrdered_rune.f (l0:List Int) (a1:Int) (a2_0:Int):Option (Int × Int):=(slices_medianOrdered_rune.f l0 (wrap64 (a1 - 1)) a1 (wrap64 (a1+1)) a2_0).bind fun bt2=>(some (bt2.1,bt2.2))
def slices_medianAdjacentOrdered_rune.Post (P_:Nat→Prop) (B_:Nat) (A0:Option Addr) (c0:Nat) (l0:List Int) (a1:Int) (g2:Nat) (a2_0:Int) (w:World) (r1:Int) (r2:Int) (e:Ending) (w':World):Prop:=e=.returned (.int .i64 r1)∧w'.heap[g2]? =some (.cells #[.int .i64 r2] 3 (0,0))∧(∀ k_:Nat,k_≠g2→k_<w.heap.size→w'.heap[k_]? =w.heap[k_]?)∧Below B_ w w'
set_option maxHeartbeats 8000000 in
set_option maxRecDepth 100000 in
theorem slices_medianAdjacentOrdered_rune.calls (P_:Nat→Prop) (B_:Nat) (A0:Option Addr) (c0:Nat) (l0:List Int) (a1:Int) (g2:Nat) (a2_0:Int) (r1:Int) (r2:Int) (w:World) (hB0:B_≤w.heap.size) (hPg:∀ k_,P_ k_→k_≠g2) (hs0:Kd.F (Kd.int .i32) w P_ A0 l0.length l0) (hc0:l0.length≤c0) (hb2:w.heap[g2]? =some (.cells #[.int .i64 a2_0] 3 (0,0))) (hge2:B_≤g2) (h:slices_medianAdjacentOrdered_rune.f l0 a1 a2_0=some (r1,r2)):
  Calls Try.prog 50 #[.slice A0 l0.length c0,.int .i64 a1,.pointer (some ⟨g2,0,none⟩)] w (fun e w'=>slices_medianAdjacentOrdered_rune.Post P_ B_ A0 c0 l0 a1 g2 a2_0 w r1 r2 e w'):=by
 unfold slices_medianAdjacentOrdered_rune.f at h
 have HH:=za h
 clear h
 obtain⟨P0_,HPO⟩:∃ P0_:Nat→Prop,P0_=(fun k_=>k_≠g2):=⟨_,rfl⟩
 have HFfr:=za (MB.frK_new w (fun k_ hk_=>by rw[HPO] at hk_;exact⟨trivial,hk_⟩):Kd.F (MB.frK w P0_) w (fun k_=>True∧k_≠g2) (some ⟨0,0,none⟩) [()].length [()])
 replace HPO:=za HPO
 have hB_:=za hB0
 have HF0:=za (Kd.F_mono hs0 (ok':=(fun k_=>(True∧(P_ k_∨w.heap.size≤k_))∧k_≠g2)) (fun k_ hk_=>⟨⟨trivial,.inl hk_⟩,hPg k_ hk_⟩))
 have HL0:=za hc0
 clear hs0 hc0
 have BKg2:=za hb2
 have GEg2:=za hge2
 clear hb2 hge2
 have j1:=MB.lz1 BKg2.out
 have HB:=za (Below.refl B_ w)
 go_enter Try.func50,Try.ntmps50
 replace HH:=zd HH
 obtain⟨⟨t2,t3⟩,At4,HH⟩:=HH
 dsimp only at HH
 go_wp2_with (((with_reducible refine gc 51 rfl ?_);refine zc 51 (some 14) Try.func51 #[.slice A0 l0.length c0,.int .i64 (wrap64 (a1 - 1)),.int .i64 a1,.int .i64 (wrap64 (a1+1)),.pointer (some ⟨g2,0,none⟩)] (h:=?_);refine(slices_medianOrdered_rune.calls (fun k_=>(True∧(P_ k_∨w.heap.size≤k_))∧k_≠g2) B_ _ _ l0 (wrap64 (a1 - 1)) a1 (wrap64 (a1+1)) g2 a2_0 t2 t3 _ (Nat.le_trans hB_.out (MB.bsize (a:=B_) HB.out)) (fun k_ hk_=>hk_.2) HF0.out HL0.out BKg2.out GEg2.out At4.out).mono ?_;rintro e w5 ⟨rfl,hbk,hfr,hb⟩;refine⟨_,rfl,?_⟩);replace hbk:=za hbk;replace hfr:=za hfr)
 refine zg ?_
 replace hbk:=hbk.out
 replace hfr:=hfr.out
 replace HFfr:=za (Kd.F_step (ok:=(fun k_=>True∧k_≠g2)) HFfr.out (fun k_ hk_ hlt_=>hfr k_ (hk_.2) hlt_))
 replace HB:=za (Below.trans HB.out hb)
 replace BKg2:=za hbk
 clear hbk hfr hb
 clear j1
 have j6:=MB.lz1 BKg2.out
 have H:=HH.out
 simp only[Option.some.injEq,Prod.mk.injEq] at H
 obtain⟨rfl,rfl⟩:=H
 clear HH
 go_wp2
 go_ret
 unfold slices_medianAdjacentOrdered_rune.Post
 exact⟨by first|rfl|(simp;done)|(simp[*];done),(by first|exact BKg2.out|(have h_:=BKg2.out;simp only[*] at h_;exact h_)|(have h_:=BKg2.out;simp[*] at h_ ⊢;exact h_)),(fun k_ hg_ hlt_=>MB.frK_out HFfr.out k_ (by rw[HPO.out];exact hg_) hlt_),HB.out⟩

def slices_choosePivotOrdered_rune.f (l0:List Int) (a1:Int) (a2:Int):Option (Int × Int):=if (wrap64 (a2 - a1))≥8 then(if (wrap64 (a2 - a1))≥50 then((slices_medianAdjacentOrdered_rune.f l0 (wrap64 (a1+(wrap64 ((wrap64 (Int.tdiv (wrap64 (a2 - a1)) 4)))))) 0).bind fun bt8=>((slices_medianAdjacentOrdered_rune.f l0 (wrap64 (a1+(wrap64 ((wrap64 (Int.tdiv (wrap64 (a2 - a1)) 4))*2)))) bt8.2).bind fun bt13=>((slices_medianAdjacentOrdered_rune.f l0 (wrap64 (a1+(wrap64 ((wrap64 (Int.tdiv (wrap64 (a2 - a1)) 4))*3)))) bt13.2).bind fun bt18=>((slices_medianOrdered_rune.f l0 bt8.1 bt13.1 bt18.1 bt18.2).bind fun bt23=>(if bt23.2=0 then(some (bt23.1,1)) else(if bt23.2=12 then(some (bt23.1,2)) else(some (bt23.1,0)))))))) else((slices_medianOrdered_rune.f l0 (wrap64 (a1+(wrap64 ((wrap64 (Int.tdiv (wrap64 (a2 - a1)) 4)))))) (wrap64 (a1+(wrap64 ((wrap64 (Int.tdiv (wrap64 (a2 - a1)) 4))*2)))) (wrap64 (a1+(wrap64 ((wrap64 (Int.tdiv (wrap64 (a2 - a1)) 4))*3)))) 0).bind fun bt39=>(if bt39.2=0 then(some (bt39.1,1)) else(if bt39.2=12 then(some (bt39.1,2)) else(some (bt39.1,0)))))) else(some (wrap64 (a1+(wrap64 ((wrap64 (Int.tdiv (wrap64 (a2 - a1)) 4))*2))),1))
set_option maxHeartbeats 8000000 in
set_option maxRecDepth 100000 in
theorem slices_choosePivotOrdered_rune.calls (P_:Nat→Prop) (A0:Option Addr) (c0:Nat) (l0:List Int) (a1:Int) (a2:Int) (r1:Int) (r2:Int) (w:World) (hs0:Kd.F (Kd.int .i32) w P_ A0 l0.length l0) (hc0:l0.length≤c0) (h:slices_choosePivotOrdered_rune.f l0 a1 a2=some (r1,r2)):
  Calls Try.prog 39 #[.slice A0 l0.length c0,.int .i64 a1,.int .i64 a2] w (fun e w'=>e=.returned (.tuple #[.int .i64 r1,.int .i64 r2])∧Below w.heap.size w w'):=by
 unfold slices_choosePivotOrdered_rune.f at h
 have HH:=za h
 clear h
 have HF0:=zfp hs0
 have HL0:=za hc0
 clear hs0 hc0
 have HB:=za (Below.refl w.heap.size w)
 go_enter Try.func39,Try.ntmps39
 go_wp2_with ((with_reducible refine gd 9 rfl ?_);refine zb 9 3 #[.int .i64 0] (h:=?_);intro g1 hg w2 BKg1 hb)
 refine zg ?_
 have GEg1:=zge hg (below_size HB.out)
 replace HF0:=zfe HF0.out hg hb
 replace HB:=zhb HB.out hb
 clear hg hb
 have j3:=MB.lz1 BKg1.out
 replace HH:=zqG HH
 rcases HH with⟨HH,hk5⟩|⟨HH,hk54⟩
 ·replace HH:=zqG HH
  rcases HH with⟨HH,hk7⟩|⟨HH,hk38⟩
  ·replace HH:=zd HH
   obtain⟨⟨t8,t9⟩,At10,HH⟩:=HH
   dsimp only at HH
   go_wp2_with (((with_reducible refine gc 50 rfl ?_);refine zc 50 (some 37) Try.func50 #[.slice A0 l0.length c0,.int .i64 (wrap64 (a1+(wrap64 ((wrap64 (Int.tdiv (wrap64 (a2 - a1)) 4)))))),.pointer (some ⟨g1,0,none⟩)] (h:=?_);refine(slices_medianAdjacentOrdered_rune.calls (fun k_=>(P_ k_∨w.heap.size≤k_)∧k_≠g1) w.heap.size _ _ l0 (wrap64 (a1+(wrap64 ((wrap64 (Int.tdiv (wrap64 (a2 - a1)) 4)))))) g1 0 t8 t9 _ (below_size HB.out) (fun k_ hk_=>hk_.2) HF0.out HL0.out BKg1.out GEg1.out At10.out).mono ?_;rintro e w11 ⟨rfl,hbk,hfr,hb⟩;refine⟨_,rfl,?_⟩);replace hbk:=za hbk;replace hfr:=za hfr)
   refine zg ?_
   replace hbk:=hbk.out
   replace hfr:=hfr.out
   replace HF0:=za (Kd.F_step (ok:=(fun k_=>(P_ k_∨w.heap.size≤k_)∧k_≠g1)) HF0.out (fun k_ hk_ hlt_=>hfr k_ (hk_.2) hlt_))
   replace HB:=za (Below.trans HB.out hb)
   replace BKg1:=za hbk
   clear hbk hfr hb
   clear j3
   have jc:=MB.lz1 BKg1.out
   replace HH:=zd HH
   obtain⟨⟨t13,t14⟩,At15,HH⟩:=HH
   dsimp only at HH
   go_wp2_with (((with_reducible refine gc 50 rfl ?_);refine zc 50 (some 40) Try.func50 #[.slice A0 l0.length c0,.int .i64 (wrap64 (a1+(wrap64 ((wrap64 (Int.tdiv (wrap64 (a2 - a1)) 4))*2)))),.pointer (some ⟨g1,0,none⟩)] (h:=?_);refine(slices_medianAdjacentOrdered_rune.calls (fun k_=>(P_ k_∨w.heap.size≤k_)∧k_≠g1) w.heap.size _ _ l0 (wrap64 (a1+(wrap64 ((wrap64 (Int.tdiv (wrap64 (a2 - a1)) 4))*2)))) g1 t9 t13 t14 _ (below_size HB.out) (fun k_ hk_=>hk_.2) HF0.out HL0.out BKg1.out GEg1.out At15.out).mono ?_;rintro e w16 ⟨rfl,hbk,hfr,hb⟩;refine⟨_,rfl,?_⟩);replace hbk:=za hbk;replace hfr:=za hfr)
   refine zg ?_
   replace hbk:=hbk.out
   replace hfr:=hfr.out
   replace HF0:=za (Kd.F_step (ok:=(fun k_=>(P_ k_∨w.heap.size≤k_)∧k_≠g1)) HF0.out (fun k_ hk_ hlt_=>hfr k_ (hk_.2) hlt_))
   replace HB:=za (Below.trans HB.out hb)
   replace BKg1:=za hbk
   clear hbk hfr hb
   clear jc
   have jh:=MB.lz1 BKg1.out
   replace HH:=zd HH
   obtain⟨⟨t18,t19⟩,At20,HH⟩:=HH
   dsimp only at HH
   go_wp2_with (((with_reducible refine gc 50 rfl ?_);refine zc 50 (some 43) Try.func50 #[.slice A0 l0.length c0,.int .i64 (wrap64 (a1+(wrap64 ((wrap64 (Int.tdiv (wrap64 (a2 - a1)) 4))*3)))),.pointer (some ⟨g1,0,none⟩)] (h:=?_);refine(slices_medianAdjacentOrdered_rune.calls (fun k_=>(P_ k_∨w.heap.size≤k_)∧k_≠g1) w.heap.size _ _ l0 (wrap64 (a1+(wrap64 ((wrap64 (Int.tdiv (wrap64 (a2 - a1)) 4))*3)))) g1 t14 t18 t19 _ (below_size HB.out) (fun k_ hk_=>hk_.2) HF0.out HL0.out BKg1.out GEg1.out At20.out).mono ?_;rintro e w21 ⟨rfl,hbk,hfr,hb⟩;refine⟨_,rfl,?_⟩);replace hbk:=za hbk;replace hfr:=za hfr)
   refine zg ?_
   replace hbk:=hbk.out
   replace hfr:=hfr.out
   replace HF0:=za (Kd.F_step (ok:=(fun k_=>(P_ k_∨w.heap.size≤k_)∧k_≠g1)) HF0.out (fun k_ hk_ hlt_=>hfr k_ (hk_.2) hlt_))
   replace HB:=za (Below.trans HB.out hb)
   replace BKg1:=za hbk
   clear hbk hfr hb
   clear jh
   have jm:=MB.lz1 BKg1.out
   replace HH:=zd HH
   obtain⟨⟨t23,t24⟩,At25,HH⟩:=HH
   dsimp only at HH
   go_wp2_with (((with_reducible refine gc 51 rfl ?_);refine zc 51 (some 48) Try.func51 #[.slice A0 l0.length c0,.int .i64 t8,.int .i64 t13,.int .i64 t18,.pointer (some ⟨g1,0,none⟩)] (h:=?_);refine(slices_medianOrdered_rune.calls (fun k_=>(P_ k_∨w.heap.size≤k_)∧k_≠g1) w.heap.size _ _ l0 t8 t13 t18 g1 t19 t23 t24 _ (below_size HB.out) (fun k_ hk_=>hk_.2) HF0.out HL0.out BKg1.out GEg1.out At25.out).mono ?_;rintro e w26 ⟨rfl,hbk,hfr,hb⟩;refine⟨_,rfl,?_⟩);replace hbk:=za hbk;replace hfr:=za hfr)
   refine zg ?_
   replace hbk:=hbk.out
   replace hfr:=hfr.out
   replace HB:=za (Below.trans HB.out hb)
   replace BKg1:=za hbk
   clear hbk hfr hb
   clear jm
   have jr:=MB.lz1 BKg1.out
   replace HH:=zqe HH
   rcases HH with⟨HH,hk29,hk30⟩|⟨HH,hk31,hk32⟩
   ·have H:=HH.out
    simp only[Option.some.injEq,Prod.mk.injEq] at H
    obtain⟨rfl,rfl⟩:=H
    clear HH
    go_wp2
    go_ret2
    exact zfi HB.out
   replace HH:=zqe HH
   rcases HH with⟨HH,hk34,hk35⟩|⟨HH,hk36,hk37⟩
   ·have H:=HH.out
    simp only[Option.some.injEq,Prod.mk.injEq] at H
    obtain⟨rfl,rfl⟩:=H
    clear HH
    go_wp2
    go_ret2
    exact zfi HB.out
   have H:=HH.out
   simp only[Option.some.injEq,Prod.mk.injEq] at H
   obtain⟨rfl,rfl⟩:=H
   clear HH
   go_wp2
   go_ret2
   exact zfi HB.out
  replace HH:=zd HH
  obtain⟨⟨t39,t40⟩,At41,HH⟩:=HH
  dsimp only at HH
  go_wp2_with (((with_reducible refine gc 51 rfl ?_);refine zc 51 (some 48) Try.func51 #[.slice A0 l0.length c0,.int .i64 (wrap64 (a1+(wrap64 ((wrap64 (Int.tdiv (wrap64 (a2 - a1)) 4)))))),.int .i64 (wrap64 (a1+(wrap64 ((wrap64 (Int.tdiv (wrap64 (a2 - a1)) 4))*2)))),.int .i64 (wrap64 (a1+(wrap64 ((wrap64 (Int.tdiv (wrap64 (a2 - a1)) 4))*3)))),.pointer (some ⟨g1,0,none⟩)] (h:=?_);refine(slices_medianOrdered_rune.calls (fun k_=>(P_ k_∨w.heap.size≤k_)∧k_≠g1) w.heap.size _ _ l0 (wrap64 (a1+(wrap64 ((wrap64 (Int.tdiv (wrap64 (a2 - a1)) 4)))))) (wrap64 (a1+(wrap64 ((wrap64 (Int.tdiv (wrap64 (a2 - a1)) 4))*2)))) (wrap64 (a1+(wrap64 ((wrap64 (Int.tdiv (wrap64 (a2 - a1)) 4))*3)))) g1 0 t39 t40 _ (below_size HB.out) (fun k_ hk_=>hk_.2) HF0.out HL0.out BKg1.out GEg1.out At41.out).mono ?_;rintro e w42 ⟨rfl,hbk,hfr,hb⟩;refine⟨_,rfl,?_⟩);replace hbk:=za hbk;replace hfr:=za hfr)
  refine zg ?_
  replace hbk:=hbk.out
  replace hfr:=hfr.out
  replace HB:=za (Below.trans HB.out hb)
  replace BKg1:=za hbk
  clear hbk hfr hb
  clear j3
  have jH:=MB.lz1 BKg1.out
  replace HH:=zqe HH
  rcases HH with⟨HH,hk45,hk46⟩|⟨HH,hk47,hk48⟩
  ·have H:=HH.out
   simp only[Option.some.injEq,Prod.mk.injEq] at H
   obtain⟨rfl,rfl⟩:=H
   clear HH
   go_wp2
   go_ret2
   exact zfi HB.out
  replace HH:=zqe HH
  rcases HH with⟨HH,hk50,hk51⟩|⟨HH,hk52,hk53⟩
  ·have H:=HH.out
   simp only[Option.some.injEq,Prod.mk.injEq] at H
   obtain⟨rfl,rfl⟩:=H
   clear HH
   go_wp2
   go_ret2
   exact zfi HB.out
  have H:=HH.out
  simp only[Option.some.injEq,Prod.mk.injEq] at H
  obtain⟨rfl,rfl⟩:=H
  clear HH
  go_wp2
  go_ret2
  exact zfi HB.out
 have H:=HH.out
 simp only[Option.some.injEq,Prod.mk.injEq] at H
 obtain⟨rfl,rfl⟩:=H
 clear HH
 go_wp2
 go_ret2
 exact zfi HB.out

def slices_reverseRangeOrdered_rune.l0:Nat→Int→Int→(List Int)→(List Int)→Option (List Int)
 |0,_,_,_,_=>none
 |k+1,x1,x2,x3,l0=>if x1<x2 then(if 0≤x2 then(if x2<(l0.length:Int) then(if 0≤x1 then(if x1<(l0.length:Int) then((some (List.set x3 x1.toNat (rd x3 x2):List Int)).bind fun y22=>((some (List.set y22 x2.toNat (rd x3 x1):List Int)).bind fun y26=>((slices_reverseRangeOrdered_rune.l0 k (wrap64 (x1+1)) (wrap64 (x2 - 1)) y26 l0)))) else(none)) else(none)) else(none)) else(none)) else(some x3)
def slices_reverseRangeOrdered_rune.f (k:Nat) (l0:List Int) (a1:Int) (a2:Int):Option (List Int):=(slices_reverseRangeOrdered_rune.l0 k a1 (wrap64 (a2 - 1)) l0 l0)
theorem slices_reverseRangeOrdered_rune.mono_l:∀ k,(∀ y0 y1 y2 y3,LeO (slices_reverseRangeOrdered_rune.l0 k y0 y1 y2 y3) (slices_reverseRangeOrdered_rune.l0 (k+1) y0 y1 y2 y3))
 |0=>fun _ _ _ _ r h=>by simp[slices_reverseRangeOrdered_rune.l0] at h
 |k+1=>by
  have ih0:=slices_reverseRangeOrdered_rune.mono_l k
  ·intro y0 y1 y2 y3
   unfold slices_reverseRangeOrdered_rune.l0
   with_reducible repeat' first|exact ih0 _ _ _ _|exact LeO.refl _|exact LeO.none _|refine LeO.ite ?_ ?_|refine LeO.bind ?_ (fun _=>?_)
theorem slices_reverseRangeOrdered_rune.mono:∀ a0_ a1_ a2_ k,LeO (slices_reverseRangeOrdered_rune.f k a0_ a1_ a2_) (slices_reverseRangeOrdered_rune.f (k+1) a0_ a1_ a2_):=by
 intro a0_ a1_ a2_ k
 have ih0:=slices_reverseRangeOrdered_rune.mono_l k
 unfold slices_reverseRangeOrdered_rune.f
 with_reducible repeat' first|exact ih0 _ _ _ _|exact LeO.refl _|exact LeO.none _|refine LeO.ite ?_ ?_|refine LeO.bind ?_ (fun _=>?_)
set_option maxHeartbeats 8000000 in
set_option maxRecDepth 100000 in
theorem slices_reverseRangeOrdered_rune.calls (k:Nat) (B_:Nat) (A0:Option Addr) (c0:Nat) (l0:List Int) (a1:Int) (a2:Int) (r:List Int) (w:World) (hB0:B_≤w.heap.size) (hn0:Kd.N (Kd.int .i32) 21 w B_ (fun k_=>some k_=((.slice A0 l0.length c0):Value).ownBlock) (.slice A0 l0.length c0) l0) (h:slices_reverseRangeOrdered_rune.f k l0 a1 a2=some r):
  Calls Try.prog 40 #[(.slice A0 l0.length c0),.int .i64 a1,.int .i64 a2] w (fun e w'=>e=.returned (.tuple #[])∧Kd.N (Kd.int .i32) 21 w' B_ (fun k_=>some k_=((.slice A0 l0.length c0):Value).ownBlock∨w.heap.size≤k_) (.slice A0 l0.length c0) r∧(∀ k_:Nat,some k_≠((.slice A0 l0.length c0):Value).ownBlock→k_<w.heap.size→w'.heap[k_]? =w.heap[k_]?)∧Below B_ w w'):=by
 unfold slices_reverseRangeOrdered_rune.f at h
 have HH:=za h
 clear h
 obtain⟨P0_,HPO⟩:∃ P0_:Nat→Prop,P0_=(fun k_=>some k_≠((.slice A0 l0.length c0):Value).ownBlock):=⟨_,rfl⟩
 have HFfr:=za (MB.frK_new w (fun k_ hk_=>by rw[HPO] at hk_;exact⟨trivial,hk_⟩):Kd.F (MB.frK w P0_) w (fun k_=>True∧some k_≠((.slice A0 l0.length c0):Value).ownBlock) (some ⟨0,0,none⟩) [()].length [()])
 replace HPO:=za HPO
 have hB_:=za hB0
 have HN0:=za (Kd.N_mono hn0 (fun k_ hk_=>⟨trivial,.inl hk_⟩):Kd.N (Kd.int .i32) 21 w B_ (fun k_=>True∧(some k_=((.slice A0 l0.length c0):Value).ownBlock∨w.heap.size≤k_)) (.slice A0 l0.length c0) l0)
 clear hn0
 have HB:=za (Below.refl B_ w)
 go_enter Try.func40,Try.ntmps40
 go_wp2
 go_loopg [6,7] k (fun kq u6 u7 w'=>∃ (x1:Int) (x2:Int) (x3:List Int),u6=.int .i64 x1∧u7=.int .i64 x2∧Aside0 ((slices_reverseRangeOrdered_rune.l0 kq x1 x2 x3 l0)=some r)∧Aside0 (kq≤k)∧Aside0 (Kd.F (MB.frK w P0_) w' (fun k_=>True∧some k_≠((.slice A0 l0.length c0):Value).ownBlock) (some ⟨0,0,none⟩) [()].length [()])∧Aside0 (Kd.N (Kd.int .i32) 21 w' B_ (fun k_=>True∧(some k_=((.slice A0 l0.length c0):Value).ownBlock∨w.heap.size≤k_)) (.slice A0 l0.length c0) x3)∧Aside0 (Below B_ w w'))
 case atStart=>exact⟨a1,wrap64 (a2 - 1),l0,(by first|rfl|(simp;done)|(simp[*];done)),(by first|rfl|(simp;done)|(simp[*];done)),HH,⟨Nat.le_refl _⟩,⟨HFfr.out⟩,⟨(Kd.N_mono (ok:=(fun k_=>True∧(some k_=((.slice A0 l0.length c0):Value).ownBlock∨w.heap.size≤k_))) HN0.out (fun k_ hk_=>hk_))⟩,⟨HB.out⟩⟩
 case round=>
  clear HH
  clear HFfr HN0 HB
  obtain⟨x1,x2,x3,rfl,rfl,HA,HK0,HFfr,HN0,HB⟩:=hrel
  obtain⟨w5,rfl⟩:∃ wo_:World,wo_=wr:=⟨_,rfl⟩
  cases gk with
  |zero=>exact absurd HA.out (by simp[slices_reverseRangeOrdered_rune.l0])
  |succ k4=>
   have H:=HA.out
   clear HA
   simp only[slices_reverseRangeOrdered_rune.l0] at H
   have HH:=za H
   clear H
   replace HH:=zqt HH
   rcases HH with⟨HH,hk7,hk8⟩|⟨HH,hk35,hk36⟩
   ·go_wp2
    have hwr_:∀ n_:Int,IntKind.i64.wrap n_=wrap64 n_:=fun n_=>IntWalk.i64_left n_
    refine wp_region_any (by kernel_rfl) ?_
    change wpAny _ _ _ _ 16 #[false,false,false,false,false,false,false,false,false,false,false,false,false,false,false,false] _ w5.drew
    obtain⟨w9,hw_⟩:∃ w_:World,w_=w5.drew:=⟨_,rfl⟩
    rw[← hw_]
    have hb:Below w5.heap.size w5 w9:=by rw[hw_];exact below_drew1 (Below.refl _ _)
    clear hw_
    replace HFfr:=zfb HFfr.out hb
    replace HN0:=znb HN0.out hb
    replace HB:=za (MB.below_stepB hB_.out HB.out hb)
    clear hb
    refine zt 0 ((.slice A0 l0.length c0)) #[_,_,_,_,_,_,_,_,_,_,_,_,_,_,_,_] ⟨[_,_,_,_,_,_,_,_,_,_,_,_,_,_,_,_,_,_,_,_,_,_,_,_,_,_,_,_,_,_,_,_].toArray,[]⟩ (h:=?_)
    refine zt 1 (.int .i64 x1) #[_,_,_,_,_,_,_,_,_,_,_,_,_,_,_,_] ⟨[_,_,_,_,_,_,_,_,_,_,_,_,_,_,_,_,_,_,_,_,_,_,_,_,_,_,_,_,_,_,_,_].toArray,[]⟩ (h:=?_)
    refine zt 2 ((.slice A0 l0.length c0)) #[_,_,_,_,_,_,_,_,_,_,_,_,_,_,_,_] ⟨[_,_,_,_,_,_,_,_,_,_,_,_,_,_,_,_,_,_,_,_,_,_,_,_,_,_,_,_,_,_,_,_].toArray,[]⟩ (h:=?_)
    refine zt 3 (.int .i64 x2) #[_,_,_,_,_,_,_,_,_,_,_,_,_,_,_,_] ⟨[_,_,_,_,_,_,_,_,_,_,_,_,_,_,_,_,_,_,_,_,_,_,_,_,_,_,_,_,_,_,_,_].toArray,[]⟩ (h:=?_)
    refine zt 4 ((.slice A0 l0.length c0)) #[_,_,_,_,_,_,_,_,_,_,_,_,_,_,_,_] ⟨[_,_,_,_,_,_,_,_,_,_,_,_,_,_,_,_,_,_,_,_,_,_,_,_,_,_,_,_,_,_,_,_].toArray,[]⟩ (h:=?_)
    refine zt 5 (.int .i64 x2) #[_,_,_,_,_,_,_,_,_,_,_,_,_,_,_,_] ⟨[_,_,_,_,_,_,_,_,_,_,_,_,_,_,_,_,_,_,_,_,_,_,_,_,_,_,_,_,_,_,_,_].toArray,[]⟩ (h:=?_)
    replace HH:=zqdo HH
    obtain⟨HH,hk11⟩:=HH
    (try simp only[hk11,Bool.not_true,Bool.not_false])
    replace HH:=zqto HH
    obtain⟨HH,hk13,hk14⟩:=HH
    (try simp only[hk13,Bool.not_true,Bool.not_false])
    (try simp only[hk14,Bool.not_true,Bool.not_false])
    have p15:0≤(x2:Int):=of_decide_eq_true (by first|(with_reducible assumption)|assumption)
    have q15:x2<(l0.length:Int):=of_decide_eq_true (by first|(with_reducible assumption)|assumption)
    obtain⟨ad15,e15,hx15_0⟩:=Kd.at_int (Kd.F_now (Kd.N_F HN0.out)) x2 p15 q15
    cases e15
    replace p15:=eq_true p15
    replace q15:=eq_true q15
    refine zt 6 (.pointer (some (ad15.add (x2.toNat)))) #[_,_,_,_,_,_,_,_,_,_,_,_,_,_,_,_] ⟨[_,_,_,_,_,_,_,_,_,_,_,_,_,_,_,_,_,_,_,_,_,_,_,_,_,_,_,_,_,_,_,_].toArray,[]⟩ (h:=?_)
    refine zt 8 ((.slice (some ad15) l0.length c0)) #[_,_,_,_,_,_,_,_,_,_,_,_,_,_,_,_] ⟨[_,_,_,_,_,_,_,_,_,_,_,_,_,_,_,_,_,_,_,_,_,_,_,_,_,_,_,_,_,_,_,_].toArray,[]⟩ (h:=?_)
    refine zt 9 (.int .i64 x1) #[_,_,_,_,_,_,_,_,_,_,_,_,_,_,_,_] ⟨[_,_,_,_,_,_,_,_,_,_,_,_,_,_,_,_,_,_,_,_,_,_,_,_,_,_,_,_,_,_,_,_].toArray,[]⟩ (h:=?_)
    replace HH:=zqdo HH
    obtain⟨HH,hk17⟩:=HH
    (try simp only[hk17,Bool.not_true,Bool.not_false])
    replace HH:=zqto HH
    obtain⟨HH,hk19,hk20⟩:=HH
    (try simp only[hk19,Bool.not_true,Bool.not_false])
    (try simp only[hk20,Bool.not_true,Bool.not_false])
    have p21:0≤(x1:Int):=of_decide_eq_true (by first|(with_reducible assumption)|assumption)
    have q21:x1<(l0.length:Int):=of_decide_eq_true (by first|(with_reducible assumption)|assumption)
    obtain⟨ad21,e21,hx21_0⟩:=Kd.at_int (Kd.F_now (Kd.N_F HN0.out)) x1 p21 q21
    cases e21
    replace p21:=eq_true p21
    replace q21:=eq_true q21
    refine zt 10 (.pointer (some (ad15.add (x1.toNat)))) #[_,_,_,_,_,_,_,_,_,_,_,_,_,_,_,_] ⟨[_,_,_,_,_,_,_,_,_,_,_,_,_,_,_,_,_,_,_,_,_,_,_,_,_,_,_,_,_,_,_,_].toArray,[]⟩ (h:=?_)
    refine MW.any_two (i:=7) (j:=11) (vi:=.int .i32 (rd x3 x2)) (vj:=.int .i32 (rd x3 x1)) #[true,true,true,true,true,true,true,true,true,true,true,true,false,false,false,false] ⟨[(.slice (some ad15) l0.length c0),(.int .i64 a1),(.int .i64 a2),undef,undef,undef,(.int .i64 x1),(.int .i64 x2),(.int .i64 a1),(.int .i64 a2),(.int .i64 (wrap64 (a2 - 1))),(.int .i64 x1),(.int .i64 x2),(.bool true),(.slice (some ad15) l0.length c0),(.int .i64 x1),(.slice (some ad15) l0.length c0),(.int .i64 x2),(.slice (some ad15) l0.length c0),(.int .i64 x2),(.pointer (some (ad15.add (x2.toNat)))),(.int .i32 (rd x3 x2)),(.slice (some ad15) l0.length c0),(.int .i64 x1),(.pointer (some (ad15.add (x1.toNat)))),(.int .i32 (rd x3 x1)),u26,u27,u28,u29,u30,u31].toArray,[]⟩ (by decide) rfl rfl (by kernel_rfl) (by kernel_rfl) (by kernel_rfl) (by kernel_rfl) (by kernel_rfl) (by first|rfl|(go_simp;done)|(go_simp;rfl)) (by first|rfl|(go_simp;done)|(go_simp;rfl)) (by first|rfl|(go_simp;done)|(go_simp;rfl)) (by first|rfl|(go_simp;done)|(go_simp;rfl)) (by kernel_rfl) (by kernel_rfl) (by kernel_rfl) (by kernel_rfl) (by kernel_rfl) (by kernel_rfl) ?_
    refine zt 12 (.pointer (some (ad15.add (x1.toNat)))) #[_,_,_,_,_,_,_,_,_,_,_,_,_,_,_,_] ⟨[_,_,_,_,_,_,_,_,_,_,_,_,_,_,_,_,_,_,_,_,_,_,_,_,_,_,_,_,_,_,_,_].toArray,[]⟩ (h:=?_)
    refine MW.any_seq 13 3 rfl (by kernel_rfl) ?_
    simp only[List.drop_succ_cons,List.drop_zero]
    clear hwr_
    obtain⟨y22,hy22⟩:∃ y_:List Int,y_=(List.set x3 x1.toNat (rd x3 x2)):=⟨_,rfl⟩
    have H:((some (List.set y22 x2.toNat (rd x3 x1):List Int)).bind fun y26=>((slices_reverseRangeOrdered_rune.l0 k4 (wrap64 (x1+1)) (wrap64 (x2 - 1)) y26 l0)))=some r:=by rw[hy22];exact HH.out
    replace HH:=za H
    clear H
    have NYy22:=za hy22
    clear hy22
    go_wp2_with (((with_reducible refine gate_store (t:=21) (p:=26) rfl ?_);(try(refine gate_guard (by rfl) ?_;dsimp only));refine MW.ev_set1 (n:=l0.length) B_ rfl rfl _ _ _ rfl 21 x1 x3 (rd x3 x2) (fun k_=>True∧(some k_=((.slice (some ad15) l0.length c0):Value).ownBlock∨w.heap.size≤k_)) (by rfl) (by rfl) (by kernel_rfl) HN0.out (of_decide_eq_true (by first|(with_reducible assumption)|assumption)) (of_decide_eq_true (by first|(with_reducible assumption)|assumption)) HB.out ?_;intro w23 hn1 hb1 hg1);refine stop_ ?_)
    refine zg ?_
    replace HFfr:=za (Kd.F_grown (ok:=(fun k_=>True∧some k_≠((.slice (some ad15) l0.length c0):Value).ownBlock)) HFfr.out hg1 (fun k_ hk_=>hk_.2))
    replace HB:=za hb1
    clear HN0
    have HN24:=za (by rw[NYy22.out];exact hn1:Kd.N (Kd.int .i32) 21 w23 B_ (fun k_=>True∧(some k_=((.slice (some ad15) l0.length c0):Value).ownBlock∨w.heap.size≤k_)) (.slice (some ad15) l0.length c0) y22)
    clear hn1 hb1 hg1
    clear hx15_0 p15 q15 hx21_0 p21 q21
    have p25:0≤(x2:Int):=of_decide_eq_true (by first|(with_reducible assumption)|assumption)
    have q25:x2<(l0.length:Int):=of_decide_eq_true (by first|(with_reducible assumption)|assumption)
    obtain⟨ad25,e25,hx25_0⟩:=Kd.at_int (Kd.F_now (Kd.N_F HN24.out)) x2 p25 q25
    cases e25
    replace p25:=eq_true p25
    replace q25:=eq_true q25
    obtain⟨y26,hy26⟩:∃ y_:List Int,y_=(List.set y22 x2.toNat (rd x3 x1)):=⟨_,rfl⟩
    have H:((slices_reverseRangeOrdered_rune.l0 k4 (wrap64 (x1+1)) (wrap64 (x2 - 1)) y26 l0))=some r:=by rw[hy26];exact HH.out
    replace HH:=za H
    clear H
    have NYy26:=za hy26
    clear hy26
    go_wp2_with (((with_reducible refine gate_store (t:=21) (p:=27) rfl ?_);(try(refine gate_guard (by rfl) ?_;dsimp only));refine MW.ev_set1 (n:=l0.length) B_ rfl rfl _ _ _ rfl 21 x2 y22 (rd x3 x1) (fun k_=>True∧(some k_=((.slice (some ad15) l0.length c0):Value).ownBlock∨w.heap.size≤k_)) (by rfl) (by rfl) (by kernel_rfl) HN24.out (of_decide_eq_true (by first|(with_reducible assumption)|assumption)) (of_decide_eq_true (by first|(with_reducible assumption)|assumption)) HB.out ?_;intro w27 hn1 hb1 hg1);refine stop_ ?_)
    refine zg ?_
    replace HFfr:=za (Kd.F_grown (ok:=(fun k_=>True∧some k_≠((.slice (some ad15) l0.length c0):Value).ownBlock)) HFfr.out hg1 (fun k_ hk_=>hk_.2))
    replace HB:=za hb1
    clear HN24
    have HN28:=za (by rw[NYy26.out];exact hn1:Kd.N (Kd.int .i32) 21 w27 B_ (fun k_=>True∧(some k_=((.slice (some ad15) l0.length c0):Value).ownBlock∨w.heap.size≤k_)) (.slice (some ad15) l0.length c0) y26)
    clear hn1 hb1 hg1
    clear hx25_0 p25 q25
    go_wp2
    go_roundg k4
    case measure=>have:=HK0.out;omega
    case rel=>exact⟨wrap64 (x1+1),wrap64 (x2 - 1),y26,(by first|rfl|(simp;done)|(simp[*];done)),(by first|rfl|(simp;done)|(simp[*];done)),HH,⟨by have:=HK0.out;omega⟩,⟨HFfr.out⟩,⟨(Kd.N_mono (ok:=(fun k_=>True∧(some k_=((.slice (some ad15) l0.length c0):Value).ownBlock∨w.heap.size≤k_))) HN28.out (fun k_ hk_=>hk_))⟩,⟨HB.out⟩⟩
   obtain rfl:=Option.some.inj HH.out
   clear HH
   go_wp2
   (first|go_end0|((try simp only[Exit.inBlock,Exit.then]);refine bodyPost_ret (results_none rfl _ _ _) rfl ?_))
   exact⟨by first|rfl|(simp;done)|(simp[*];done),(Kd.N_mono (ok:=(fun k_=>True∧(some k_=((.slice A0 l0.length c0):Value).ownBlock∨w.heap.size≤k_))) HN0.out (fun k_ hk_=>hk_.2)),(fun k_ hv_ hlt_=>MB.frK_out HFfr.out k_ (by rw[HPO.out];exact hv_) hlt_),HB.out⟩

def slices_Compact_rune_rune.f (l0:List Int):Option (List Int):=some (Go.Lib.compact l0)
theorem N_max {α :Type} {d:Kd α} {e base n c:Nat} {A:Option Addr} {W:World} {ok:Nat→Prop} {xs:List α} (h:Kd.N d e W base ok (.slice A n c) xs):n≤maxLen:=by
  obtain⟨_,rows,hl,⟨_,inner,⟨_,ho⟩,_⟩,_⟩:=h
  rcases ho with⟨h1,h2⟩|⟨g,cap,cur,hv,_,_,h3,h4,_⟩
  · injection h1 with _ h3
    omega
  · injection hv with _ h5
    omega
theorem at_arr (xs:List Int) (j:Nat) (h:j<xs.length):rd xs (j:Int)=xs.toArray[j]! :=by
  simp[rd,rdOf,List.getD,h]
theorem grown_drewN (w:World) (q n:Nat) {g:Nat}:w.grownBy (w.drewN (q+n)) (some g):=⟨rfl,rfl,rfl,Nat.le_refl _,fun _ _ _=>rfl⟩
theorem grown_drew2 {w W:World} {n g:Nat} (h:w.grownBy W (some g)):w.grownBy (W.drewN n) (some g):=⟨h.os,h.tape,h.output,h.size,h.block⟩
theorem zero21 (w:World):(zeroValue 21).run Try.prog w=.ok (.int .i32 0) w:=by
  obtain⟨i,h1,h2,_⟩:=info_parts info21
  simp[zeroValue,typeInfo,h1,h2]
theorem comp_keep {d xs:List Int} {m k:Nat} {u:Int} (h:Go.Lib.CompInv d.toArray m k xs.toArray) (hm:m<d.length) (hu:d.toArray[m]! =u) (hk:Go.Lib.keeps d.toArray m=true):Go.Lib.CompInv d.toArray (m+1) (k+1) (xs.set k u).toArray:=by
  have h1:=h.keep (by simpa using hm) hk
  rw[hu] at h1
  simpa using h1
theorem grown_any {w W:World} {g:Nat} (h:Below w.heap.size w W):w.grownBy W (some g):=⟨h.os,h.tape,h.output,h.size,fun k hk _=>h.block k hk⟩
theorem below_grown {B g:Nat} {w W:World} (hb:B≤g) (hw:B≤w.heap.size) (h:w.grownBy W (some g)):Below B w W:=⟨h.os,h.tape,h.output,h.size,fun k hk=>h.block k (Nat.lt_of_lt_of_le hk hw) (fun e=>by injection e with e;omega)⟩
set_option maxHeartbeats 8000000 in
set_option maxRecDepth 100000 in
theorem slices_Compact_rune_rune.calls0 (B_:Nat) (A0:Option Addr) (c0:Nat) (l0:List Int) (r:List Int) (w:World) (hB0:B_≤w.heap.size) (hn0:Kd.N (Kd.int .i32) 21 w B_ (fun k_=>some k_=((.slice A0 l0.length c0):Value).ownBlock) (.slice A0 l0.length c0) l0) (h:slices_Compact_rune_rune.f l0=some r):
    Calls Try.prog 32 #[(.slice A0 l0.length c0)] w (fun e w'=>e=.returned (.slice A0 r.length c0)∧Kd.N (Kd.int .i32) 21 w' B_ (fun k_=>some k_=((.slice A0 r.length c0):Value).ownBlock) (.slice A0 r.length c0) r∧(∀ k_:Nat,some k_≠((.slice A0 l0.length c0):Value).ownBlock→k_<w.heap.size→w'.heap[k_]? =w.heap[k_]?)∧Below B_ w w'):=by
  obtain rfl:Go.Lib.compact l0=r:=Option.some.inj h
  clear h
  by_cases h2:l0.length<2
  · have e:Go.Lib.compact l0=l0:=Go.Lib.compact_all _ (fun j hj=>Go.Lib.keeps_lt_one _ j (by omega))
    rw[e]
    have q2:((l0.length:Int)<2)=True:=eq_true (by omega)
    have HN:=za hn0
    clear hn0
    go_enter Try.func32,Try.ntmps32
    go_wp2
    go_ret
    exact⟨rfl,HN.out,fun _ _ _=>rfl,Below.refl _ _⟩
  · obtain⟨g,cap,hv,hbg,hgl,_⟩:=Kd.N_form hn0 (by omega)
    injection hv with hA _ hc
    subst hA
    subst hc
    have hmx:l0.length≤9223372036854775807:=N_max hn0
    have q2:((l0.length:Int)<2)=False:=eq_false (by omega)
    have hl0:l0.length≤c0:=(Kd.N_reads' hn0).2.1
    have HN:=za hn0
    clear hn0
    go_enter Try.func32,Try.ntmps32
    go_wp2
    go_loopg [3] l0.length (fun gk s3 wr=>∃ (k q:Nat),1≤k∧k≤l0.length∧l0.length - k≤gk∧s3=.int .i64 k∧wr=w.drewN q∧Aside0 (∀ j,j<k→Go.Lib.keeps l0.toArray j=true))
    case atStart=>exact⟨1,0,by omega,by omega,by omega,rfl,rfl,⟨Go.Lib.keeps_lt_one _⟩⟩
    case round=>
      obtain⟨k,q,hk1,hk,hg,rfl,rfl,hall⟩:=hrel
      by_cases hlt:k<l0.length
      · obtain⟨ad,e1,hx⟩:=Kd.at_int (Kd.F_now (Kd.N_F HN.out)) k (by omega) (by omega)
        cases e1
        obtain⟨ad,e2,hy⟩:=Kd.at_int (Kd.F_now (Kd.N_F HN.out)) (k - 1) (by omega) (by omega)
        cases e2
        obtain⟨x,hxe⟩:∃ x,rd l0 k=x:=⟨_,rfl⟩
        obtain⟨y,hye⟩:∃ y,rd l0 (k - 1)=y:=⟨_,rfl⟩
        rw[hxe] at hx
        rw[hye] at hy
        have B:=za (And.intro hxe hye)
        clear hxe hye
        have hw1:wrap64 ((k:Int) - 1)=(k:Int) - 1:=by simp[wrap64];omega
        have p1:(0≤(k:Int))=True:=eq_true (by omega)
        have p2:((k:Int)<(l0.length:Int))=True:=eq_true (by omega)
        have p3:(0≤(k:Int) - 1)=True:=eq_true (by omega)
        have p4:((k:Int) - 1<(l0.length:Int))=True:=eq_true (by omega)
        have ek:((k:Int) - 1).toNat=k - 1:=by omega
        have hx1:w.cell? ⟨g,k,none⟩=some (.int .i32 x):=by rw[← hx,add_at,Nat.zero_add,Int.toNat_natCast]
        have hy1:w.cell? ⟨g,k - 1,none⟩=some (.int .i32 y):=by rw[← hy,add_at,Nat.zero_add,ek]
        clear hx hy
        by_cases hdup:x=y
        · subst hdup
          go_wp2
          go_quiet (fail)
          go_wp2
          clear p1 p2 p3 p4 hx1 hy1
          have hneg:Go.Lib.keeps l0.toArray k=false:=Go.Lib.keeps_neg (by omega) (by rw[← at_arr l0 k (by omega),← at_arr l0 (k - 1) (by omega),B.out.1,show((k - 1:Nat):Int)=(k:Int) - 1 by omega,B.out.2])
          have hst:=za (Go.Lib.CompInv.start hall.out hneg)
          have hle0:(k:Int)≤(l0.length:Int):=by omega
          clear hneg hall
          go_loopg [3,5] l0.length (fun gk s3 s5 wr=>∃ (kk k2:Nat) (xs:List Int),s3=.int .i64 kk∧s5=.int .i64 k2∧1≤k2∧k+k2≤l0.length∧l0.length - (k+k2)≤gk∧Aside0 (w.grownBy wr (some g))∧Aside0 (Kd.N (Kd.int .i32) 21 wr B_ (fun k_=>some k_=((.slice (some ⟨g,0,none⟩) l0.length c0):Value).ownBlock) (.slice (some ⟨g,0,none⟩) l0.length c0) xs)∧Aside0 (Go.Lib.CompInv l0.toArray (k+k2) kk xs.toArray))
          case atStart=>exact⟨k,1,l0,rfl,rfl,by omega,by omega,by omega,⟨grown_drewN w q nq⟩,⟨Kd.N_drewN (Kd.N_drewN HN.out q) nq⟩,hst⟩
          case round=>
            obtain⟨kk,k2,xs,rfl,rfl,h1,hle,hg2,HG,HX,HI⟩:=hrel
            have hkk:=HI.out.lt
            have hxl:xs.length=l0.length:=by have:=HI.out.size;simpa using this
            obtain⟨w1,rfl⟩:∃ wo_:World,wo_=wr:=⟨_,rfl⟩
            have HB:=za (below_grown hbg hB0 HG.out)
            by_cases hlt2:k+k2<l0.length
            · obtain⟨ad,e1,hx⟩:=Kd.at_int (Kd.F_now (Kd.N_F HX.out)) ((k+k2:Nat):Int) (by omega) (by omega)
              cases e1
              obtain⟨ad,e2,hy⟩:=Kd.at_int (Kd.F_now (Kd.N_F HX.out)) ((k+k2 - 1:Nat):Int) (by omega) (by omega)
              cases e2
              obtain⟨u,hue⟩:∃ u,rd xs ((k+k2:Nat):Int)=u:=⟨_,rfl⟩
              obtain⟨v,hve⟩:∃ v,rd xs ((k+k2 - 1:Nat):Int)=v:=⟨_,rfl⟩
              rw[hue] at hx
              rw[hve] at hy
              have eu:l0.toArray[k+k2]! =u:=by rw[← HI.out.high _ (by omega),← at_arr xs _ (by omega),hue]
              have ev:l0.toArray[k+k2 - 1]! =v:=by rw[← HI.out.high _ (by omega),← at_arr xs _ (by omega),hve]
              have B2:=za (And.intro eu ev)
              clear hue hve eu ev
              have hw2:wrap64 ((k2:Int) - 1)=(k2:Int) - 1:=by simp[wrap64];omega
              have ek2:((k2:Int) - 1).toNat=k2 - 1:=by omega
              have hx1:w1.cell? ⟨g,k+k2,none⟩=some (.int .i32 u):=by rw[← hx,add_at,Nat.zero_add,Int.toNat_natCast]
              have hy1:w1.cell? ⟨g,k+(k2 - 1),none⟩=some (.int .i32 v):=by rw[← hy,add_at,Nat.zero_add,Int.toNat_natCast,show k+(k2 - 1)=k+k2 - 1 by omega]
              clear hx hy
              have p1:(0≤(k2:Int))=True:=eq_true (by omega)
              have p2:((k2:Int)<((l0.length - k:Nat):Int))=True:=eq_true (by omega)
              have p3:(0≤(k2:Int) - 1)=True:=eq_true (by omega)
              have p4:((k2:Int) - 1<((l0.length - k:Nat):Int))=True:=eq_true (by omega)
              by_cases huv:u=v
              · subst huv
                go_wp2
                go_quiet (fail)
                go_wp2
                go_roundg (l0.length - (k+(k2+1)))
                case measure=>omega
                case rel=>exact⟨kk,k2+1,xs,rfl,by go_num,by omega,by omega,Nat.le_refl _,⟨grown_drew2 HG.out⟩,⟨Kd.N_drewN HX.out _⟩,⟨HI.out.skip (Go.Lib.keeps_neg (by omega) (by rw[B2.out.1,B2.out.2]))⟩⟩
              · have hd:(u==v)=false:=by simpa using huv
                have p5:(0≤(kk:Int))=True:=eq_true (by omega)
                have p6:((kk:Int)<(l0.length:Int))=True:=eq_true (by omega)
                go_wp2
                go_quiet (fail)
                repeat(first|(refine MQ.code_stop (id:=12) ?_)|go_values|go_skip|go_guarded|go_step|go_upon)
                refine zg ?_
                clear hx1 hy1
                refine MW.name_world (W0:=w1) (by repeat(first|exact Drawn0.refl _|apply Drawn0.step)) ?_
                intro w2 hb
                replace HX:=znb HX.out hb
                have HG2:=za (World.grownBy.trans HG.out (grown_any hb))
                have HB2:=za (below_grown hbg hB0 HG2.out)
                clear hb HG HB
                obtain⟨ad,e1,hx⟩:=Kd.at_int (Kd.F_now (Kd.N_F HX.out)) ((k+k2:Nat):Int) (by omega) (by omega)
                cases e1
                rw[show rd xs ((k+k2:Nat):Int)=u by rw[at_arr xs _ (by omega),HI.out.high _ (by omega),B2.out.1]] at hx
                have hx1:w2.cell? ⟨g,k+k2,none⟩=some (.int .i32 u):=by rw[← hx,add_at,Nat.zero_add,Int.toNat_natCast]
                clear hx
                go_wp2_with (((with_reducible refine gate_store (t:=21) (p:=51) rfl ?_);(try(refine gate_guard (by rfl) ?_;dsimp only));refine MW.ev_set1 (n:=l0.length) B_ rfl rfl _ _ _ rfl 21 (kk:Int) xs u (fun k_=>some k_=((.slice (some ⟨g,0,none⟩) l0.length c0):Value).ownBlock) (by rw[add_at,Nat.zero_add,Int.toNat_natCast];rfl) (by rfl) (by kernel_rfl) HX.out (by omega) (by omega) HB2.out ?_;intro w3 hn1 hb1 hg1);refine stop_ ?_)
                refine zg ?_
                have HG3:=za (World.grownBy.trans HG2.out hg1)
                have HX3:=za hn1
                clear hn1 hb1 hg1 hx1
                go_wp2
                go_roundg (l0.length - (k+(k2+1)))
                case measure=>omega
                case rel=>exact⟨kk+1,k2+1,xs.set kk u,by go_num,by go_num,by omega,by omega,Nat.le_refl _,HG3,HX3,⟨comp_keep (m:=k+k2) HI.out hlt2 B2.out.1 (Go.Lib.keeps_pos (by rw[B2.out.1,B2.out.2];exact huv))⟩⟩
            · have hend:k+k2=l0.length:=by omega
              have hz:∀ w,(zeroValue 21).run Try.prog w=.ok (.int .i32 0) w:=zero21
              have hcl:∀ ty,(Builtin.clear_ #[45] ty #[.slice (some ⟨g,kk,none⟩) (l0.length - kk) (c0 - kk)]).run Try.prog w1=.ok (.tuple #[]) (w1.setCells g kk (List.replicate (l0.length - kk) (.int .i32 0))):=
                fun ty=>Lib.run_clear_slice w1 45 21 ty _ Try.underlying45 hz rfl rfl g kk _ _ (by omega)
                  (fun j hj=>by
                    obtain⟨ad,e1,hx⟩:=Kd.at_int (Kd.F_now (Kd.N_F HX.out)) ((kk+j:Nat):Int) (by omega) (by omega)
                    cases e1
                    rw[add_at,Nat.zero_add,Int.toNat_natCast] at hx
                    rw[hx];rfl) (fun j hj=>by
                    obtain⟨c,_,_,_,hf⟩:=Kd.N_elem HX.out 0 ((kk+j:Nat):Int) (by omega) (by omega)
                    have e:((kk+j:Nat):Int).toNat*(Kd.int .i32).sz+0=kk+j:=by rw[Int.toNat_natCast];exact Nat.mul_one _
                    rw[← e];exact hf 0)
              have hlek:(kk:Int)≤(l0.length:Int):=by omega
              have p5:(0≤(kk:Int))=True:=eq_true (by omega)
              go_wp2
              go_ret
              have hI:=HI.out
              rw[hend] at hI
              have hcomp:Go.Lib.compact l0=xs.take kk:=by
                apply List.ext_getElem?
                intro j
                rw[List.getElem?_take]
                split
                · rename_i hj
                  rw[show Go.Lib.compact l0=Go.Lib.compactUpTo l0.toArray l0.length from rfl,hI.low j hj]
                  have:j<xs.length:=by omega
                  simp[this]
                · exact List.getElem?_eq_none (by rw[show Go.Lib.compact l0=Go.Lib.compactUpTo l0.toArray l0.length from rfl,hI.len];omega)
              have hlen:(Go.Lib.compact l0).length=kk:=hI.len
              have hgr:=World.grownBy.trans HG.out (MS.setCells_grown w1 g kk (List.replicate (l0.length - kk) (.int .i32 0)))
              rw[hlen,hcomp]
              refine⟨rfl,MS.N_head HX.out (by omega) (fun k_ hk_ hlt_=>(MS.setCells_grown w1 g kk _).block k_ hlt_ (fun e=>hk_ (Option.some.inj e))) (fun cur hcur=>?_),fun k_ hk_ hlt_=>hgr.block k_ hlt_ hk_,below_grown hbg hB0 hgr⟩
              obtain⟨cur',h1,h2,h3⟩:=MS.setCells_head (List.replicate (l0.length - kk) (.int .i32 0)) kk w1 cur hcur
              exact⟨cur',h1,h2,fun j hj=>h3 j (by rw[show(Kd.int .i32).sz=1 from rfl] at hj;omega)⟩
        · have hd:(x==y)=false:=by simpa using hdup
          go_wp2
          go_quiet (fail)
          go_wp2
          go_roundg (l0.length - (k+1))
          case measure=>omega
          case rel=> 
            refine⟨k+1,q+nq,by omega,by omega,by omega,by go_num,rfl,⟨fun j hj=>?_⟩⟩
            by_cases e:j=k
            · subst e
              exact Go.Lib.keeps_pos (by rw[← at_arr l0 j (by omega),← at_arr l0 (j - 1) (by omega),B.out.1,show((j - 1:Nat):Int)=(j:Int) - 1 by omega,B.out.2];exact hdup)
            · exact hall.out j (by omega)
      · have e:k=l0.length:=by omega
        subst e
        go_wp2
        go_ret
        have e:Go.Lib.compact l0=l0:=Go.Lib.compact_all _ (fun j hj=>hall.out j hj)
        rw[e]
        exact⟨rfl,Kd.N_drewN HN.out q,fun k_ _ hlt_=>(pw_below_drewN (Below.refl _ _) _).block k_ hlt_,pw_below_drewN (Below.refl _ _) _⟩
theorem slices_Compact_rune_rune.calls (B_:Nat) (A0:Option Addr) (c0:Nat) (l0:List Int) (r:List Int) (w:World) (hB0:B_≤w.heap.size) (hn0:Kd.N (Kd.int .i32) 21 w B_ (fun k_=>some k_=((.slice A0 l0.length c0):Value).ownBlock) (.slice A0 l0.length c0) l0) (h:slices_Compact_rune_rune.f l0=some r):
    Calls Try.prog 32 #[(.slice A0 l0.length c0)] w (fun e w'=>∃ v0_:Value,e=.returned v0_∧v0_.ownBlock=((.slice A0 l0.length c0):Value).ownBlock∧Kd.N (Kd.int .i32) 21 w' B_ (fun k_=>some k_=v0_.ownBlock) v0_ r∧(∀ k_:Nat,some k_≠((.slice A0 l0.length c0):Value).ownBlock→k_<w.heap.size→w'.heap[k_]? =w.heap[k_]?)∧Below B_ w w'):=by
  refine(slices_Compact_rune_rune.calls0 B_ A0 c0 l0 r w hB0 hn0 h).mono ?_
  rintro e w' ⟨rfl,hn,hf,hb⟩
  exact⟨_,rfl,by cases A0 <;>rfl,hn,hf,hb⟩

def toponymref02_next.l0:Nat→Int→Int→Int→(List (S37))→Option (Int)
 |0,_,_,_,_=>none
 |k+1,x1,x2,a1,l0=>if x2<(l0.length:Int) then(if 0≤x2 then(if ((rd_T37 l0 x2).f0)>a1 then(if ((rd_T37 l0 x2).f0)<x1 then(if ((rd_T37 l0 x2).f1)≥a1 then(if (wrap32 (((rd_T37 l0 x2).f1)+1))<((rd_T37 l0 x2).f0) then((toponymref02_next.l0 k (wrap32 (((rd_T37 l0 x2).f1)+1)) (wrap64 (x2+1)) a1 l0)) else((toponymref02_next.l0 k ((rd_T37 l0 x2).f0) (wrap64 (x2+1)) a1 l0))) else((toponymref02_next.l0 k ((rd_T37 l0 x2).f0) (wrap64 (x2+1)) a1 l0))) else(if ((rd_T37 l0 x2).f1)≥a1 then(if (wrap32 (((rd_T37 l0 x2).f1)+1))<x1 then((toponymref02_next.l0 k (wrap32 (((rd_T37 l0 x2).f1)+1)) (wrap64 (x2+1)) a1 l0)) else((toponymref02_next.l0 k x1 (wrap64 (x2+1)) a1 l0))) else((toponymref02_next.l0 k x1 (wrap64 (x2+1)) a1 l0)))) else(if ((rd_T37 l0 x2).f1)≥a1 then(if (wrap32 (((rd_T37 l0 x2).f1)+1))<x1 then((toponymref02_next.l0 k (wrap32 (((rd_T37 l0 x2).f1)+1)) (wrap64 (x2+1)) a1 l0)) else((toponymref02_next.l0 k x1 (wrap64 (x2+1)) a1 l0))) else((toponymref02_next.l0 k x1 (wrap64 (x2+1)) a1 l0)))) else(none)) else(some x1)
def toponymref02_next.f (k:Nat) (l0:List (S37)) (a1:Int):Option (Int):=(toponymref02_next.l0 k 1114112 0 a1 l0)
theorem toponymref02_next.mono_l:∀ k,(∀ y0 y1 y2 y3,LeO (toponymref02_next.l0 k y0 y1 y2 y3) (toponymref02_next.l0 (k+1) y0 y1 y2 y3))
 |0=>fun _ _ _ _ r h=>by simp[toponymref02_next.l0] at h
 |k+1=>by
  have ih0:=toponymref02_next.mono_l k
  ·intro y0 y1 y2 y3
   unfold toponymref02_next.l0
   with_reducible repeat' first|exact ih0 _ _ _ _|exact LeO.refl _|exact LeO.none _|refine LeO.ite ?_ ?_|refine LeO.bind ?_ (fun _=>?_)
theorem toponymref02_next.mono:∀ a0_ a1_ k,LeO (toponymref02_next.f k a0_ a1_) (toponymref02_next.f (k+1) a0_ a1_):=by
 intro a0_ a1_ k
 have ih0:=toponymref02_next.mono_l k
 unfold toponymref02_next.f
 with_reducible repeat' first|exact ih0 _ _ _ _|exact LeO.refl _|exact LeO.none _|refine LeO.ite ?_ ?_|refine LeO.bind ?_ (fun _=>?_)
set_option maxHeartbeats 8000000 in
set_option maxRecDepth 100000 in
theorem toponymref02_next.calls (k:Nat) (P_:Nat→Prop) (A0:Option Addr) (c0:Nat) (l0:List (S37)) (a1:Int) (r:Int) (w:World) (hs0:Kd.F k37 w P_ A0 l0.length l0) (hc0:l0.length≤c0) (h:toponymref02_next.f k l0 a1=some r):
  Calls Try.prog 26 #[.slice A0 l0.length c0,.int .i32 a1] w (fun e w'=>e=.returned (.int .i32 r)∧Drawn0 w w'):=by
 unfold toponymref02_next.f at h
 have HH:=za h
 clear h
 have HF0:=zfp hs0
 clear hs0 hc0
 go_enter Try.func26,Try.ntmps26
 go_wp2
 go_loopg [5,6] k (fun kq u5 u6 w'=>∃ (x1:Int) (x2:Int),u5=.int .i32 x1∧u6=.int .i64 x2∧Aside0 ((toponymref02_next.l0 kq x1 x2 a1 l0)=some r)∧Aside0 (kq≤k)∧Drawn0 w w')
 case atStart=>exact⟨1114112,0,(by first|rfl|(simp;done)|(simp[*];done)),(by first|rfl|(simp;done)|(simp[*];done)),HH,⟨Nat.le_refl _⟩,by repeat(first|exact Drawn0.refl _|apply Drawn0.step)⟩
 case round=>
  clear HH
  obtain⟨x1,x2,rfl,rfl,HA,HK0,⟨m0_,rfl⟩⟩:=hrel
  cases gk with
  |zero=>exact absurd HA.out (by simp[toponymref02_next.l0])
  |succ k3=>
   have H:=HA.out
   clear HA
   simp only[toponymref02_next.l0] at H
   have HH:=za H
   clear H
   replace HH:=zqt HH
   rcases HH with⟨HH,hk6,hk7⟩|⟨HH,hk44,hk45⟩
   ·replace HH:=zqdo HH
    obtain⟨HH,hk9⟩:=HH
    have p10:0≤(x2:Int):=of_decide_eq_true (by first|(with_reducible assumption)|assumption)
    have q10:x2<(l0.length:Int):=of_decide_eq_true (by first|(with_reducible assumption)|assumption)
    obtain⟨ad10,e10,hx10_0,hx10_1,hx10_2⟩:=atF_T37 HF0.out x2 p10 q10
    cases e10
    replace p10:=eq_true p10
    replace q10:=eq_true q10
    replace HH:=zqg HH
    rcases HH with⟨HH,hk12⟩|⟨HH,hk34⟩
    ·replace HH:=zqt HH
     rcases HH with⟨HH,hk14,hk15⟩|⟨HH,hk24,hk25⟩
     ·replace HH:=zqG HH
      rcases HH with⟨HH,hk17⟩|⟨HH,hk23⟩
      ·replace HH:=zqt HH
       rcases HH with⟨HH,hk19,hk20⟩|⟨HH,hk21,hk22⟩
       ·go_wp2
        go_roundg k3
        case measure=>have:=HK0.out;omega
        case rel=>exact⟨wrap32 (((rd_T37 l0 x2).f1)+1),wrap64 (x2+1),(by first|rfl|(simp;done)|(simp[*];done)),(by first|rfl|(simp;done)|(simp[*];done)),HH,⟨by have:=HK0.out;omega⟩,by repeat(first|exact Drawn0.refl _|apply Drawn0.step)⟩
       go_wp2
       go_roundg k3
       case measure=>have:=HK0.out;omega
       case rel=>exact⟨(rd_T37 l0 x2).f0,wrap64 (x2+1),(by first|rfl|(simp;done)|(simp[*];done)),(by first|rfl|(simp;done)|(simp[*];done)),HH,⟨by have:=HK0.out;omega⟩,by repeat(first|exact Drawn0.refl _|apply Drawn0.step)⟩
      go_wp2
      go_roundg k3
      case measure=>have:=HK0.out;omega
      case rel=>exact⟨(rd_T37 l0 x2).f0,wrap64 (x2+1),(by first|rfl|(simp;done)|(simp[*];done)),(by first|rfl|(simp;done)|(simp[*];done)),HH,⟨by have:=HK0.out;omega⟩,by repeat(first|exact Drawn0.refl _|apply Drawn0.step)⟩
     replace HH:=zqG HH
     rcases HH with⟨HH,hk27⟩|⟨HH,hk33⟩
     ·replace HH:=zqt HH
      rcases HH with⟨HH,hk29,hk30⟩|⟨HH,hk31,hk32⟩
      ·go_wp2
       go_roundg k3
       case measure=>have:=HK0.out;omega
       case rel=>exact⟨wrap32 (((rd_T37 l0 x2).f1)+1),wrap64 (x2+1),(by first|rfl|(simp;done)|(simp[*];done)),(by first|rfl|(simp;done)|(simp[*];done)),HH,⟨by have:=HK0.out;omega⟩,by repeat(first|exact Drawn0.refl _|apply Drawn0.step)⟩
      go_wp2
      go_roundg k3
      case measure=>have:=HK0.out;omega
      case rel=>exact⟨x1,wrap64 (x2+1),(by first|rfl|(simp;done)|(simp[*];done)),(by first|rfl|(simp;done)|(simp[*];done)),HH,⟨by have:=HK0.out;omega⟩,by repeat(first|exact Drawn0.refl _|apply Drawn0.step)⟩
     go_wp2
     go_roundg k3
     case measure=>have:=HK0.out;omega
     case rel=>exact⟨x1,wrap64 (x2+1),(by first|rfl|(simp;done)|(simp[*];done)),(by first|rfl|(simp;done)|(simp[*];done)),HH,⟨by have:=HK0.out;omega⟩,by repeat(first|exact Drawn0.refl _|apply Drawn0.step)⟩
    replace HH:=zqG HH
    rcases HH with⟨HH,hk36⟩|⟨HH,hk42⟩
    ·replace HH:=zqt HH
     rcases HH with⟨HH,hk38,hk39⟩|⟨HH,hk40,hk41⟩
     ·go_wp2
      go_roundg k3
      case measure=>have:=HK0.out;omega
      case rel=>exact⟨wrap32 (((rd_T37 l0 x2).f1)+1),wrap64 (x2+1),(by first|rfl|(simp;done)|(simp[*];done)),(by first|rfl|(simp;done)|(simp[*];done)),HH,⟨by have:=HK0.out;omega⟩,by repeat(first|exact Drawn0.refl _|apply Drawn0.step)⟩
     go_wp2
     go_roundg k3
     case measure=>have:=HK0.out;omega
     case rel=>exact⟨x1,wrap64 (x2+1),(by first|rfl|(simp;done)|(simp[*];done)),(by first|rfl|(simp;done)|(simp[*];done)),HH,⟨by have:=HK0.out;omega⟩,by repeat(first|exact Drawn0.refl _|apply Drawn0.step)⟩
    go_wp2
    go_roundg k3
    case measure=>have:=HK0.out;omega
    case rel=>exact⟨x1,wrap64 (x2+1),(by first|rfl|(simp;done)|(simp[*];done)),(by first|rfl|(simp;done)|(simp[*];done)),HH,⟨by have:=HK0.out;omega⟩,by repeat(first|exact Drawn0.refl _|apply Drawn0.step)⟩
   obtain rfl:=Option.some.inj HH.out
   clear HH
   go_wp2
   go_ret
   exact⟨by first|rfl|(simp;done)|(simp[*];done),by repeat(first|exact Drawn0.refl _|apply Drawn0.step)⟩

def toponymref02_Last.l0:Nat→Int→Int→(List (S37))→Option (Int)
 |0,_,_,_=>none
 |k+1,x1,a1,l0=>if x1≥0 then(if 0≤x1 then(if x1<(l0.length:Int) then(if ((rd_T37 l0 x1).f0)≤a1 then(if a1≤((rd_T37 l0 x1).f1) then(some ((rd_T37 l0 x1).f2)) else((toponymref02_Last.l0 k (wrap64 (x1 - 1)) a1 l0))) else((toponymref02_Last.l0 k (wrap64 (x1 - 1)) a1 l0))) else(none)) else(none)) else(some 0)
def toponymref02_Last.f (k:Nat) (l0:List (S37)) (a1:Int):Option (Int):=(toponymref02_Last.l0 k (wrap64 ((l0.length:Int) - 1)) a1 l0)
theorem toponymref02_Last.mono_l:∀ k,(∀ y0 y1 y2,LeO (toponymref02_Last.l0 k y0 y1 y2) (toponymref02_Last.l0 (k+1) y0 y1 y2))
 |0=>fun _ _ _ r h=>by simp[toponymref02_Last.l0] at h
 |k+1=>by
  have ih0:=toponymref02_Last.mono_l k
  ·intro y0 y1 y2
   unfold toponymref02_Last.l0
   with_reducible repeat' first|exact ih0 _ _ _|exact LeO.refl _|exact LeO.none _|refine LeO.ite ?_ ?_|refine LeO.bind ?_ (fun _=>?_)
theorem toponymref02_Last.mono:∀ a0_ a1_ k,LeO (toponymref02_Last.f k a0_ a1_) (toponymref02_Last.f (k+1) a0_ a1_):=by
 intro a0_ a1_ k
 have ih0:=toponymref02_Last.mono_l k
 unfold toponymref02_Last.f
 with_reducible repeat' first|exact ih0 _ _ _|exact LeO.refl _|exact LeO.none _|refine LeO.ite ?_ ?_|refine LeO.bind ?_ (fun _=>?_)
set_option maxHeartbeats 8000000 in
set_option maxRecDepth 100000 in
theorem toponymref02_Last.calls (k:Nat) (P_:Nat→Prop) (A0:Option Addr) (c0:Nat) (l0:List (S37)) (a1:Int) (r:Int) (w:World) (hs0:Kd.F k37 w P_ A0 l0.length l0) (hc0:l0.length≤c0) (h:toponymref02_Last.f k l0 a1=some r):
  Calls Try.prog 27 #[.slice A0 l0.length c0,.int .i32 a1] w (fun e w'=>e=.returned (.int .i64 r)∧Drawn0 w w'):=by
 unfold toponymref02_Last.f at h
 have HH:=za h
 clear h
 have HF0:=zfp hs0
 clear hs0 hc0
 go_enter Try.func27,Try.ntmps27
 go_wp2
 go_loopg [5] k (fun kq u5 w'=>∃ (x1:Int),u5=.int .i64 x1∧Aside0 ((toponymref02_Last.l0 kq x1 a1 l0)=some r)∧Aside0 (kq≤k)∧Drawn0 w w')
 case atStart=>exact⟨wrap64 ((l0.length:Int) - 1),(by first|rfl|(simp;done)|(simp[*];done)),HH,⟨Nat.le_refl _⟩,by repeat(first|exact Drawn0.refl _|apply Drawn0.step)⟩
 case round=>
  clear HH
  obtain⟨x1,rfl,HA,HK0,⟨m0_,rfl⟩⟩:=hrel
  cases gk with
  |zero=>exact absurd HA.out (by simp[toponymref02_Last.l0])
  |succ k2=>
   have H:=HA.out
   clear HA
   simp only[toponymref02_Last.l0] at H
   have HH:=za H
   clear H
   replace HH:=zqG HH
   rcases HH with⟨HH,hk5⟩|⟨HH,hk21⟩
   ·replace HH:=zqdo HH
    obtain⟨HH,hk7⟩:=HH
    replace HH:=zqto HH
    obtain⟨HH,hk9,hk10⟩:=HH
    have p11:0≤(x1:Int):=of_decide_eq_true (by first|(with_reducible assumption)|assumption)
    have q11:x1<(l0.length:Int):=of_decide_eq_true (by first|(with_reducible assumption)|assumption)
    obtain⟨ad11,e11,hx11_0,hx11_1,hx11_2⟩:=atF_T37 HF0.out x1 p11 q11
    cases e11
    replace p11:=eq_true p11
    replace q11:=eq_true q11
    replace HH:=zqd HH
    rcases HH with⟨HH,hk13⟩|⟨HH,hk17⟩
    ·replace HH:=zqd HH
     rcases HH with⟨HH,hk15⟩|⟨HH,hk16⟩
     ·obtain rfl:=Option.some.inj HH.out
      clear HH
      go_wp2
      go_ret
      exact⟨by first|rfl|(simp;done)|(simp[*];done),by repeat(first|exact Drawn0.refl _|apply Drawn0.step)⟩
     go_wp2
     go_roundg k2
     case measure=>have:=HK0.out;omega
     case rel=>exact⟨wrap64 (x1 - 1),(by first|rfl|(simp;done)|(simp[*];done)),HH,⟨by have:=HK0.out;omega⟩,by repeat(first|exact Drawn0.refl _|apply Drawn0.step)⟩
    go_wp2
    go_roundg k2
    case measure=>have:=HK0.out;omega
    case rel=>exact⟨wrap64 (x1 - 1),(by first|rfl|(simp;done)|(simp[*];done)),HH,⟨by have:=HK0.out;omega⟩,by repeat(first|exact Drawn0.refl _|apply Drawn0.step)⟩
   obtain rfl:=Option.some.inj HH.out
   clear HH
   go_wp2
   go_ret
   exact⟨by first|rfl|(simp;done)|(simp[*];done),by repeat(first|exact Drawn0.refl _|apply Drawn0.step)⟩
end Go.Proofs.Ytcokpnajkkjclaa.GA

namespace Go.Proofs.Ytcokpnajkkjclaa.GA
open Go.RowKit Go.Proofs.Ytcokpnajkkjclaa Go.Proofs.Ytcokpnajkkjclaa.MW Go.Proofs.YtcokpnajkkjclaaW.PrintWords Go.Proofs.YtcokpnajkkjclaaW.PrintLast Go.Proofs.YtcokpnajkkjclaaW.PrintMore
attribute [local go_sem] max2_int min2_int max_two min_two
set_option linter.unusedVariables false
set_option linter.unusedSimpArgs false
attribute [local go_sem high] eqA37
def toponymref02_Same.l0:Nat→Int→(List (S37))→(List (S37))→Option (Bool)
 |0,_,_,_=>none
 |k+1,x5,l0,l1=>if x5<(l0.length:Int) then(if 0≤x5 then(if x5<(l1.length:Int) then(if (!(((rd_T37 l0 x5).f0)==((rd_T37 l1 x5).f0)) || (!(((rd_T37 l0 x5).f1)==((rd_T37 l1 x5).f1)) || (!(((rd_T37 l0 x5).f2)==((rd_T37 l1 x5).f2)))))=true then(some false) else((toponymref02_Same.l0 k (wrap64 (x5+1)) l0 l1))) else(none)) else(none)) else(some true)
def toponymref02_Same.f (k:Nat) (l0:List (S37)) (l1:List (S37)):Option (Bool):=if (l0.length:Int)=(l1.length:Int) then((toponymref02_Same.l0 k 0 l0 l1)) else(some false)
theorem toponymref02_Same.mono_l:∀ k,(∀ y0 y1 y2,LeO (toponymref02_Same.l0 k y0 y1 y2) (toponymref02_Same.l0 (k+1) y0 y1 y2))
 |0=>fun _ _ _ r h=>by simp[toponymref02_Same.l0] at h
 |k+1=>by
  have ih0:=toponymref02_Same.mono_l k
  ·intro y0 y1 y2
   unfold toponymref02_Same.l0
   with_reducible repeat' first|exact ih0 _ _ _|exact LeO.refl _|exact LeO.none _|refine LeO.ite ?_ ?_|refine LeO.bind ?_ (fun _=>?_)
theorem toponymref02_Same.mono:∀ a0_ a1_ k,LeO (toponymref02_Same.f k a0_ a1_) (toponymref02_Same.f (k+1) a0_ a1_):=by
 intro a0_ a1_ k
 have ih0:=toponymref02_Same.mono_l k
 unfold toponymref02_Same.f
 with_reducible repeat' first|exact ih0 _ _ _|exact LeO.refl _|exact LeO.none _|refine LeO.ite ?_ ?_|refine LeO.bind ?_ (fun _=>?_)
set_option maxHeartbeats 8000000 in
set_option maxRecDepth 100000 in
theorem toponymref02_Same.calls (k:Nat) (P_:Nat→Prop) (A0:Option Addr) (c0:Nat) (l0:List (S37)) (A1:Option Addr) (c1:Nat) (l1:List (S37)) (r:Bool) (w:World) (hs0:Kd.F k37 w P_ A0 l0.length l0) (hc0:l0.length≤c0) (hs1:Kd.F k37 w P_ A1 l1.length l1) (hc1:l1.length≤c1) (h:toponymref02_Same.f k l0 l1=some r):
  Calls Try.prog 17 #[.slice A0 l0.length c0,.slice A1 l1.length c1] w (fun e w'=>e=.returned (.bool r)∧Drawn0 w w'):=by
 unfold toponymref02_Same.f at h
 have HH:=za h
 clear h
 have HF0:=zfp hs0
 clear hs0 hc0
 have HF1:=zfp hs1
 clear hs1 hc1
 have hu37:=Try.underlying37
 go_enter Try.func17,Try.ntmps17
 by_cases c1:(l0.length:Int)=(l1.length:Int)
 ·replace HH:=MW.hpos HH c1
  have hk2:((l0.length:Int)==(l1.length:Int))=true:=beq_iff_eq.mpr c1
  have hk3:((l0.length:Int) != (l1.length:Int))=false:=bne_eq_false_iff_eq.mpr c1
  have hk4:(l0.length==l1.length)=true:=by first|simpa using c1|(simp at c1 ⊢;omega)
  clear c1
  go_wp2
  go_loopg [5] k (fun kq u5 w'=>∃ (x5:Int),u5=.int .i64 x5∧Aside0 ((toponymref02_Same.l0 kq x5 l0 l1)=some r)∧Aside0 (kq≤k)∧Drawn0 w w')
  case atStart=>exact⟨0,(by first|rfl|(simp;done)|(simp[*];done)),HH,⟨Nat.le_refl _⟩,by repeat(first|exact Drawn0.refl _|apply Drawn0.step)⟩
  case round=>
   clear hk2
   clear hk3
   clear hk4
   clear HH
   obtain⟨x5,rfl,HA,HK0,⟨m0_,rfl⟩⟩:=hrel
   cases gk with
   |zero=>exact absurd HA.out (by simp[toponymref02_Same.l0])
   |succ k6=>
    have H:=HA.out
    clear HA
    simp only[toponymref02_Same.l0] at H
    have HH:=za H
    clear H
    replace HH:=zqt HH
    rcases HH with⟨HH,hk9,hk10⟩|⟨HH,hk24,hk25⟩
    ·replace HH:=zqdo HH
     obtain⟨HH,hk12⟩:=HH
     have p13:0≤(x5:Int):=of_decide_eq_true (by first|(with_reducible assumption)|assumption)
     have q13:x5<(l0.length:Int):=of_decide_eq_true (by first|(with_reducible assumption)|assumption)
     obtain⟨ad13,e13,hx13_0,hx13_1,hx13_2⟩:=atF_T37 HF0.out x5 p13 q13
     cases e13
     replace p13:=eq_true p13
     replace q13:=eq_true q13
     replace HH:=zqto HH
     obtain⟨HH,hk15,hk16⟩:=HH
     have p17:0≤(x5:Int):=of_decide_eq_true (by first|(with_reducible assumption)|assumption)
     have q17:x5<(l1.length:Int):=of_decide_eq_true (by first|(with_reducible assumption)|assumption)
     obtain⟨ad17,e17,hx17_0,hx17_1,hx17_2⟩:=atF_T37 HF1.out x5 p17 q17
     cases e17
     replace p17:=eq_true p17
     replace q17:=eq_true q17
     by_cases c18:(!(((rd_T37 l0 x5).f0)==((rd_T37 l1 x5).f0)) || (!(((rd_T37 l0 x5).f1)==((rd_T37 l1 x5).f1)) || (!(((rd_T37 l0 x5).f2)==((rd_T37 l1 x5).f2)))))=true
     ·replace HH:=MW.hpos HH c18
      have hk19:(!(((rd_T37 l0 x5).f0)==((rd_T37 l1 x5).f0)) || (!(((rd_T37 l0 x5).f1)==((rd_T37 l1 x5).f1)) || (!(((rd_T37 l0 x5).f2)==((rd_T37 l1 x5).f2)))))=true:=c18
      clear c18
      obtain rfl:=Option.some.inj HH.out
      clear HH
      go_wp2
      go_quiet (fail)
      go_wp2
      go_ret
      exact⟨by first|rfl|(simp;done)|(simp[*];done),by repeat(first|exact Drawn0.refl _|apply Drawn0.step)⟩
     replace HH:=MW.hneg HH c18
     have hk20:(!(((rd_T37 l0 x5).f0)==((rd_T37 l1 x5).f0)) || (!(((rd_T37 l0 x5).f1)==((rd_T37 l1 x5).f1)) || (!(((rd_T37 l0 x5).f2)==((rd_T37 l1 x5).f2)))))=false:=by simpa using c18
     clear c18
     go_wp2
     go_quiet (fail)
     go_wp2
     go_roundg k6
     case measure=>have:=HK0.out;omega
     case rel=>exact⟨wrap64 (x5+1),(by first|rfl|(simp;done)|(simp[*];done)),HH,⟨by have:=HK0.out;omega⟩,by repeat(first|exact Drawn0.refl _|apply Drawn0.step)⟩
    obtain rfl:=Option.some.inj HH.out
    clear HH
    go_wp2
    go_ret
    exact⟨by first|rfl|(simp;done)|(simp[*];done),by repeat(first|exact Drawn0.refl _|apply Drawn0.step)⟩
 replace HH:=MW.hneg HH c1
 have hk26:((l0.length:Int)==(l1.length:Int))=false:=beq_eq_false_iff_ne.mpr c1
 have hk27:((l0.length:Int) != (l1.length:Int))=true:=bne_iff_ne.mpr c1
 have hk28:(l0.length==l1.length)=false:=by first|simpa using c1|(simp at c1 ⊢;omega)
 clear c1
 obtain rfl:=Option.some.inj HH.out
 clear HH
 go_wp2
 go_ret
 exact⟨by first|rfl|(simp;done)|(simp[*];done),by repeat(first|exact Drawn0.refl _|apply Drawn0.step)⟩
end Go.Proofs.Ytcokpnajkkjclaa.GA
