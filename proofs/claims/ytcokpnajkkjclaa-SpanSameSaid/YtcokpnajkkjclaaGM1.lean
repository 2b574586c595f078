import Derived.Lib.Hide
import Derived.Lib.SlicesCompact
import Derived.Outline
import Derived.OwnWalkIn
import Derived.Shelf.RegionOpen
import Derived.TacticsInMore
import Derived.Test.YtcokpnajkkjclaaGA0
import Derived.Test.YtcokpnajkkjclaaMQ
import Derived.Test.YtcokpnajkkjclaaMS
import Derived.Test.YtcokpnajkkjclaaMX
namespace Go.Proofs.Ytcokpnajkkjclaa.GA
open Go.RowKit Go.Proofs.Ytcokpnajkkjclaa Go.Proofs.Ytcokpnajkkjclaa.MW Go.Proofs.YtcokpnajkkjclaaW.PrintWords Go.Proofs.YtcokpnajkkjclaaW.PrintLast Go.Proofs.YtcokpnajkkjclaaW.PrintMore
attribute [local go_sem] max2_int min2_int max_two min_two
set_option linter.unusedVariables false
set_option linter.unusedSimpArgs false
/-! ### toponymref02_may: function 19 -/
def toponymref02_may.f (a0_0 : Int) (a0_1 : Int) (a0_2 : Int) : Option (Bool) := if a0_0 ≥ 0 then (if a0_1 ≥ a0_0 then (some (decide (a0_1 ≤ 1114111))) else (some false)) else (some false)
set_option maxHeartbeats 8000000 in
set_option maxRecDepth 100000 in
theorem toponymref02_may.calls (a0_0 : Int) (a0_1 : Int) (a0_2 : Int) (r : Bool) (w : World) (h : toponymref02_may.f a0_0 a0_1 a0_2 = some r) :
    Calls Try.prog 19 #[.agg #[.int .i32 a0_0, .int .i32 a0_1, .int .i64 a0_2]] w (fun e w' => e = .returned (.bool r) ∧ Below w.heap.size w w') := by
  unfold toponymref02_may.f at h
  have HH := Aside0.mk h
  clear h
  have HB := Aside0.mk (Below.refl w.heap.size w)
  have hu37 := Try.underlying37
  go_enter Try.func19, Try.ntmps19
  go_wp2_with ((with_reducible refine gd 1 rfl ?_); refine zb 1 37 #[.int .i32 a0_0, .int .i32 a0_1, .int .i64 a0_2] (h := ?_); intro g1 hg w2 BKg1 hb)
  refine Stop.go ?_
  have GEg1 := zge hg (below_size HB.out)
  replace HB := zhb HB.out hb
  clear hg hb
  obtain ⟨hz3, hz4, hz5⟩ := MB.lz3 BKg1.out
  replace HH := zqG HH
  rcases HH with ⟨HH, hk7⟩ | ⟨HH, hk11⟩
  · replace HH := zqG HH
    rcases HH with ⟨HH, hk9⟩ | ⟨HH, hk10⟩
    · have H := HH.out
      obtain rfl := Option.some.inj H
      clear HH
      go_wp2
      go_ret
      exact zfi HB.out
    · have H := HH.out
      obtain rfl := Option.some.inj H
      clear HH
      go_wp2
      go_ret
      exact zfi HB.out
  · have H := HH.out
    obtain rfl := Option.some.inj H
    clear HH
    go_wp2
    go_ret
    exact zfi HB.out

/-! ### toponymref02_Check: function 10 -/
def toponymref02_Check.l0 : Nat → Int → (List (S37)) → Option (Int)
  | 0, _, _ => none
  | k + 1, x6, l0 => if x6 < (l0.length : Int) then (if 0 ≤ x6 then ((toponymref02_may.f ((rd_T37 l0 x6).f0) ((rd_T37 l0 x6).f1) ((rd_T37 l0 x6).f2)).bind fun t16 => (if t16 = true then (if ((rd_T37 l0 x6).f2) = 0 then (some 20) else (if x6 = 0 then ((toponymref02_Check.l0 k (wrap64 (x6 + 1)) l0)) else (if 0 ≤ (wrap64 (x6 - 1)) then (if (wrap64 (x6 - 1)) < (l0.length : Int) then (if (wrap32 (((rd_T37 l0 x6).f0) - ((rd_T37 l0 (wrap64 (x6 - 1))).f1))) < 1 then (some 20) else (if (wrap32 (((rd_T37 l0 x6).f0) - ((rd_T37 l0 (wrap64 (x6 - 1))).f1))) = 1 then (if ((rd_T37 l0 x6).f2) = ((rd_T37 l0 (wrap64 (x6 - 1))).f2) then (some 20) else ((toponymref02_Check.l0 k (wrap64 (x6 + 1)) l0))) else ((toponymref02_Check.l0 k (wrap64 (x6 + 1)) l0)))) else (none)) else (none)))) else (some 20))) else (none)) else (some 0)
def toponymref02_Check.f (k : Nat) (l0 : List (S37)) : Option (Int) := if (l0.length : Int) > 500 then (some 20) else ((toponymref02_Check.l0 k 0 l0))
theorem toponymref02_Check.mono_l : ∀ k, (∀ y0 y1, LeO (toponymref02_Check.l0 k y0 y1) (toponymref02_Check.l0 (k + 1) y0 y1))
  | 0 => fun _ _ r h => by simp [toponymref02_Check.l0] at h
  | k + 1 => by
    have ih0 := toponymref02_Check.mono_l k
    · intro y0 y1
      unfold toponymref02_Check.l0
      repeat' first
      | (with_reducible exact ih0 _ _)
      | (with_reducible exact LeO.refl _)
      | (with_reducible exact LeO.none _)
      | (with_reducible refine LeO.ite ?_ ?_)
      | (with_reducible refine LeO.bind ?_ (fun _ => ?_))
      | exact ih0 _ _
      | exact LeO.none _
      | refine LeO.ite ?_ ?_
      | refine LeO.bind ?_ (fun _ => ?_)
theorem toponymref02_Check.mono : ∀ a0_ k, LeO (toponymref02_Check.f k a0_) (toponymref02_Check.f (k + 1) a0_) := by
  intro a0_ k
  have ih0 := toponymref02_Check.mono_l k
  unfold toponymref02_Check.f
  repeat' first
      | (with_reducible exact ih0 _ _)
      | (with_reducible exact LeO.refl _)
      | (with_reducible exact LeO.none _)
      | (with_reducible refine LeO.ite ?_ ?_)
      | (with_reducible refine LeO.bind ?_ (fun _ => ?_))
      | exact ih0 _ _
      | exact LeO.none _
      | refine LeO.ite ?_ ?_
      | refine LeO.bind ?_ (fun _ => ?_)
set_option maxHeartbeats 8000000 in
set_option maxRecDepth 100000 in
theorem toponymref02_Check.calls (k : Nat) (P_ : Nat → Prop) (A0 : Option Addr) (c0 : Nat) (l0 : List (S37)) (r : Int) (w : World) (hs0 : Kd.F k37 w P_ A0 l0.length l0) (hc0 : l0.length ≤ c0) (h : toponymref02_Check.f k l0 = some r) :
    Calls Try.prog 10 #[.slice A0 l0.length c0] w (fun e w' => e = .returned (.int .i64 r) ∧ Below w.heap.size w w') := by
  unfold toponymref02_Check.f at h
  have HH := Aside0.mk h
  clear h
  have HF0 := zfp hs0
  have HL0 := Aside0.mk hc0
  clear hs0 hc0
  have HB := Aside0.mk (Below.refl w.heap.size w)
  have hu37 := Try.underlying37
  go_enter Try.func10, Try.ntmps10
  replace HH := zqK 500 HH
  rcases HH with ⟨HH, hk2, hk3⟩ | ⟨HH, hk4, hk5⟩
  · have H := HH.out
    obtain rfl := Option.some.inj H
    clear HH
    go_wp2
    go_ret
    exact zfi HB.out
  · go_wp2
    go_loopg [3] k (fun kq u3 w' => ∃ (x6 : Int), u3 = .int .i64 x6 ∧ Aside0 ((toponymref02_Check.l0 kq x6 l0) = some r) ∧ Aside0 (kq ≤ k) ∧ Aside0 (Kd.F k37 w' (fun k_ => (P_ k_ ∨ w.heap.size ≤ k_)) A0 l0.length l0) ∧ Aside0 (Below w.heap.size w w'))
    case atStart => exact ⟨0, (by first | rfl | (simp; done) | (simp [*]; done)), HH, ⟨Nat.le_refl _⟩, ⟨(Kd.F_mono (ok := (fun k_ => (P_ k_ ∨ w.heap.size ≤ k_))) HF0.out (fun k_ hk_ => hk_))⟩, ⟨HB.out⟩⟩
    case round =>
      clear hk4
      clear hk5
      clear HH
      clear HF0 HB
      obtain ⟨x6, rfl, HA, HK0, HF0, HB⟩ := hrel
      obtain ⟨w8, rfl⟩ : ∃ wo_ : World, wo_ = wr := ⟨_, rfl⟩
      cases gk with
      | zero => exact absurd HA.out (by simp [toponymref02_Check.l0])
      | succ k9 =>
        have H := HA.out
        clear HA
        simp only [toponymref02_Check.l0] at H
        have HH := Aside0.mk H
        clear H
        replace HH := zqt HH
        rcases HH with ⟨HH, hk11, hk12⟩ | ⟨HH, hk56, hk57⟩
        · replace HH := zqdo HH
          obtain ⟨HH, hk14⟩ := HH
          have p15 : 0 ≤ (x6 : Int) := of_decide_eq_true (by first | (with_reducible assumption) | assumption)
          have q15 : x6 < (l0.length : Int) := of_decide_eq_true (by first | (with_reducible assumption) | assumption)
          obtain ⟨ad15, e15, hx15_0, hx15_1, hx15_2⟩ := atF_T37 HF0.out x6 p15 q15
          cases e15
          replace p15 := eq_true p15
          replace q15 := eq_true q15
          replace HH := zd HH
          obtain ⟨t16, At17, HH⟩ := HH
          go_wp2_with ((with_reducible refine gc 19 rfl ?_); refine zc 19 (some 18) Try.func19 #[.agg #[.int .i32 ((rd_T37 l0 x6).f0), .int .i32 ((rd_T37 l0 x6).f1), .int .i64 ((rd_T37 l0 x6).f2)]] (h := ?_); (with_reducible refine (toponymref02_may.calls  ((rd_T37 l0 x6).f0) ((rd_T37 l0 x6).f1) ((rd_T37 l0 x6).f2) t16 _  At17.out).mono ?_); rintro e w18 ⟨rfl, hb⟩; refine ⟨_, rfl, ?_⟩)
          refine Stop.go ?_
          replace HF0 := zfb HF0.out hb
          replace HB := zhb HB.out hb
          clear hb
          clear hx15_0 hx15_1 hx15_2 p15 q15
          by_cases c19 : t16 = true
          · replace HH := MW.hpos HH c19
            subst c19
            have p20 : 0 ≤ (x6 : Int) := of_decide_eq_true (by first | (with_reducible assumption) | assumption)
            have q20 : x6 < (l0.length : Int) := of_decide_eq_true (by first | (with_reducible assumption) | assumption)
            obtain ⟨ad20, e20, hx20_0, hx20_1, hx20_2⟩ := atF_T37 HF0.out x6 p20 q20
            cases e20
            replace p20 := eq_true p20
            replace q20 := eq_true q20
            replace HH := zqe HH
            rcases HH with ⟨HH, hk22, hk23⟩ | ⟨HH, hk24, hk25⟩
            · have H := HH.out
              obtain rfl := Option.some.inj H
              clear HH
              go_wp2
              go_ret
              exact zfi HB.out
            · replace HH := zqe HH
              rcases HH with ⟨HH, hk27, hk28⟩ | ⟨HH, hk29, hk30⟩
              · go_wp2
                go_roundg k9
                case measure => have := HK0.out; omega
                case rel => exact ⟨wrap64 (x6 + 1), (by first | rfl | (simp; done) | (simp [*]; done)), HH, ⟨by have := HK0.out; omega⟩, ⟨(Kd.F_mono (ok := (fun k_ => (P_ k_ ∨ w.heap.size ≤ k_))) HF0.out (fun k_ hk_ => hk_))⟩, ⟨HB.out⟩⟩
              · replace HH := zqdo HH
                obtain ⟨HH, hk32⟩ := HH
                replace HH := zqto HH
                obtain ⟨HH, hk34, hk35⟩ := HH
                have p36 : 0 ≤ ((wrap64 (x6 - 1)) : Int) := of_decide_eq_true (by first | (with_reducible assumption) | assumption)
                have q36 : (wrap64 (x6 - 1)) < (l0.length : Int) := of_decide_eq_true (by first | (with_reducible assumption) | assumption)
                obtain ⟨ad36, e36, hx36_0, hx36_1, hx36_2⟩ := atF_T37 HF0.out (wrap64 (x6 - 1)) p36 q36
                cases e36
                replace p36 := eq_true p36
                replace q36 := eq_true q36
                replace HH := zqt HH
                rcases HH with ⟨HH, hk38, hk39⟩ | ⟨HH, hk40, hk41⟩
                · have H := HH.out
                  obtain rfl := Option.some.inj H
                  clear HH
                  go_wp2
                  go_quiet (fail)
                  go_wp2
                  go_quiet (fail)
                  go_wp2
                  go_ret
                  exact zfi (by repeat (first | (with_reducible first | exact HB.out | apply below_alloc | apply pw_below_drewN | apply below_drew1) | exact HB.out))
                · replace HH := zqe HH
                  rcases HH with ⟨HH, hk43, hk44⟩ | ⟨HH, hk50, hk51⟩
                  · replace HH := zqe HH
                    rcases HH with ⟨HH, hk46, hk47⟩ | ⟨HH, hk48, hk49⟩
                    · have H := HH.out
                      obtain rfl := Option.some.inj H
                      clear HH
                      go_wp2
                      go_quiet (fail)
                      go_wp2
                      go_quiet (fail)
                      go_wp2
                      go_ret
                      exact zfi (by repeat (first | (with_reducible first | exact HB.out | apply below_alloc | apply pw_below_drewN | apply below_drew1) | exact HB.out))
                    · go_wp2
                      go_quiet (fail)
                      go_wp2
                      go_quiet (fail)
                      go_wp2
                      go_roundg k9
                      case measure => have := HK0.out; omega
                      case rel => exact ⟨wrap64 (x6 + 1), (by first | rfl | (simp; done) | (simp [*]; done)), HH, ⟨by have := HK0.out; omega⟩, ⟨(Kd.F_mono (ok := (fun k_ => (P_ k_ ∨ w.heap.size ≤ k_))) (by (with_reducible repeat (first | apply Kd.F_alloc | apply Kd.F_drewN | apply Kd.F_drew)); exact HF0.out) (fun k_ hk_ => hk_))⟩, ⟨(by repeat (first | (with_reducible first | exact HB.out | apply below_alloc | apply pw_below_drewN | apply below_drew1) | exact HB.out))⟩⟩
                  · go_wp2
                    go_quiet (fail)
                    go_wp2
                    go_quiet (fail)
                    go_wp2
                    go_roundg k9
                    case measure => have := HK0.out; omega
                    case rel => exact ⟨wrap64 (x6 + 1), (by first | rfl | (simp; done) | (simp [*]; done)), HH, ⟨by have := HK0.out; omega⟩, ⟨(Kd.F_mono (ok := (fun k_ => (P_ k_ ∨ w.heap.size ≤ k_))) (by (with_reducible repeat (first | apply Kd.F_alloc | apply Kd.F_drewN | apply Kd.F_drew)); exact HF0.out) (fun k_ hk_ => hk_))⟩, ⟨(by repeat (first | (with_reducible first | exact HB.out | apply below_alloc | apply pw_below_drewN | apply below_drew1) | exact HB.out))⟩⟩
          · replace HH := MW.hneg HH c19
            replace c19 := Bool.eq_false_iff.mpr c19
            subst c19
            have H := HH.out
            obtain rfl := Option.some.inj H
            clear HH
            go_wp2
            go_ret
            exact zfi HB.out
        · have H := HH.out
          obtain rfl := Option.some.inj H
          clear HH
          go_wp2
          go_ret
          exact zfi HB.out

/-! ### span_Find_1: function 21 -/
def span_Find_1.f (a0_0 : Int) (a0_1 : Int) (a0_2 : Int) (a1 : Int) : Option (Int) := some (wrap64 ((wrap64 (a0_1)) - (wrap64 (a1))))
set_option maxHeartbeats 8000000 in
set_option maxRecDepth 100000 in
theorem span_Find_1.calls (a0_0 : Int) (a0_1 : Int) (a0_2 : Int) (a1 : Int) (r : Int) (w : World) (h : span_Find_1.f a0_0 a0_1 a0_2 a1 = some r) :
    Calls Try.prog 21 #[.agg #[.int .i32 a0_0, .int .i32 a0_1, .int .i64 a0_2], .int .i32 a1] w (fun e w' => e = .returned (.int .i64 r) ∧ Below w.heap.size w w') := by
  unfold span_Find_1.f at h
  have HH := Aside0.mk h
  clear h
  have HB := Aside0.mk (Below.refl w.heap.size w)
  have hu37 := Try.underlying37
  go_enter Try.func21, Try.ntmps21
  go_wp2_with ((with_reducible refine gd 2 rfl ?_); refine zb 2 37 #[.int .i32 a0_0, .int .i32 a0_1, .int .i64 a0_2] (h := ?_); intro g1 hg w2 BKg1 hb)
  refine Stop.go ?_
  have GEg1 := zge hg (below_size HB.out)
  replace HB := zhb HB.out hb
  clear hg hb
  obtain ⟨hz3, hz4, hz5⟩ := MB.lz3 BKg1.out
  have H := HH.out
  obtain rfl := Option.some.inj H
  clear HH
  go_wp2
  go_ret
  exact zfi HB.out

/-! ### span_piece_may: function 18 -/
def span_piece_may.f (a0_0 : Int) (a0_1 : Int) (a0_2 : Int) : Option (Bool) := if a0_0 ≥ 0 then (if a0_0 ≤ a0_1 then (some (decide (a0_1 ≤ 1114111))) else (some false)) else (some false)
set_option maxHeartbeats 8000000 in
set_option maxRecDepth 100000 in
theorem span_piece_may.calls (a0_0 : Int) (a0_1 : Int) (a0_2 : Int) (r : Bool) (w : World) (h : span_piece_may.f a0_0 a0_1 a0_2 = some r) :
    Calls Try.prog 18 #[.agg #[.int .i32 a0_0, .int .i32 a0_1, .int .i64 a0_2]] w (fun e w' => e = .returned (.bool r) ∧ Below w.heap.size w w') := by
  unfold span_piece_may.f at h
  have HH := Aside0.mk h
  clear h
  have HB := Aside0.mk (Below.refl w.heap.size w)
  have hu39 := Try.underlying39
  go_enter Try.func18, Try.ntmps18
  go_wp2_with ((with_reducible refine gd 1 rfl ?_); refine zb 1 39 #[.int .i32 a0_0, .int .i32 a0_1, .int .i64 a0_2] (h := ?_); intro g1 hg w2 BKg1 hb)
  refine Stop.go ?_
  have GEg1 := zge hg (below_size HB.out)
  replace HB := zhb HB.out hb
  clear hg hb
  obtain ⟨hz3, hz4, hz5⟩ := MB.lz3 BKg1.out
  replace HH := zqG HH
  rcases HH with ⟨HH, hk7⟩ | ⟨HH, hk11⟩
  · replace HH := zqd HH
    rcases HH with ⟨HH, hk9⟩ | ⟨HH, hk10⟩
    · have H := HH.out
      obtain rfl := Option.some.inj H
      clear HH
      go_wp2
      go_ret
      exact zfi HB.out
    · have H := HH.out
      obtain rfl := Option.some.inj H
      clear HH
      go_wp2
      go_ret
      exact zfi HB.out
  · have H := HH.out
    obtain rfl := Option.some.inj H
    clear HH
    go_wp2
    go_ret
    exact zfi HB.out

/-! ### span_Check: function 9 -/
def span_Check.l0 : Nat → Int → (List (S37)) → Option (Int)
  | 0, _, _ => none
  | k + 1, x6, l0 => if x6 < (l0.length : Int) then (if 0 ≤ x6 then ((span_piece_may.f ((rd_T37 l0 x6).f0) ((rd_T37 l0 x6).f1) ((rd_T37 l0 x6).f2)).bind fun t25 => (if t25 = true then (if ((rd_T37 l0 x6).f2) = 0 then (some 20) else (if x6 > 0 then (if 0 ≤ (wrap64 (x6 - 1)) then (if (wrap64 (x6 - 1)) < (l0.length : Int) then (if ((rd_T37 l0 (wrap64 (x6 - 1))).f1) ≥ ((rd_T37 l0 x6).f0) then (some 20) else (if (wrap32 (((rd_T37 l0 (wrap64 (x6 - 1))).f1) + 1)) = ((rd_T37 l0 x6).f0) then (if ((rd_T37 l0 (wrap64 (x6 - 1))).f2) = ((rd_T37 l0 x6).f2) then (some 20) else ((span_Check.l0 k (wrap64 (x6 + 1)) l0))) else ((span_Check.l0 k (wrap64 (x6 + 1)) l0)))) else (none)) else (none)) else ((span_Check.l0 k (wrap64 (x6 + 1)) l0)))) else (some 20))) else (none)) else (some 0)
def span_Check.f (k : Nat) (l0 : List (S37)) : Option (Int) := if (l0.length : Int) > 500 then (some 20) else ((span_Check.l0 k 0 l0))
theorem span_Check.mono_l : ∀ k, (∀ y0 y1, LeO (span_Check.l0 k y0 y1) (span_Check.l0 (k + 1) y0 y1))
  | 0 => fun _ _ r h => by simp [span_Check.l0] at h
  | k + 1 => by
    have ih0 := span_Check.mono_l k
    · intro y0 y1
      unfold span_Check.l0
      repeat' first
      | (with_reducible exact ih0 _ _)
      | (with_reducible exact LeO.refl _)
      | (with_reducible exact LeO.none _)
      | (with_reducible refine LeO.ite ?_ ?_)
      | (with_reducible refine LeO.bind ?_ (fun _ => ?_))
      | exact ih0 _ _
      | exact LeO.none _
      | refine LeO.ite ?_ ?_
      | refine LeO.bind ?_ (fun _ => ?_)
theorem span_Check.mono : ∀ a0_ k, LeO (span_Check.f k a0_) (span_Check.f (k + 1) a0_) := by
  intro a0_ k
  have ih0 := span_Check.mono_l k
  unfold span_Check.f
  repeat' first
      | (with_reducible exact ih0 _ _)
      | (with_reducible exact LeO.refl _)
      | (with_reducible exact LeO.none _)
      | (with_reducible refine LeO.ite ?_ ?_)
      | (with_reducible refine LeO.bind ?_ (fun _ => ?_))
      | exact ih0 _ _
      | exact LeO.none _
      | refine LeO.ite ?_ ?_
      | refine LeO.bind ?_ (fun _ => ?_)
set_option maxHeartbeats 8000000 in
set_option maxRecDepth 100000 in
theorem span_Check.calls (k : Nat) (P_ : Nat → Prop) (A0 : Option Addr) (c0 : Nat) (l0 : List (S37)) (r : Int) (w : World) (hs0 : Kd.F k37 w P_ A0 l0.length l0) (hc0 : l0.length ≤ c0) (h : span_Check.f k l0 = some r) :
    Calls Try.prog 9 #[.slice A0 l0.length c0] w (fun e w' => e = .returned (.int .i64 r) ∧ Below w.heap.size w w') := by
  unfold span_Check.f at h
  have HH := Aside0.mk h
  clear h
  have HF0 := zfp hs0
  have HL0 := Aside0.mk hc0
  clear hs0 hc0
  have HB := Aside0.mk (Below.refl w.heap.size w)
  have hu37 := Try.underlying37
  go_enter Try.func9, Try.ntmps9
  replace HH := zqK 500 HH
  rcases HH with ⟨HH, hk2, hk3⟩ | ⟨HH, hk4, hk5⟩
  · have H := HH.out
    obtain rfl := Option.some.inj H
    clear HH
    go_wp2
    go_ret
    exact zfi HB.out
  · go_wp2
    go_loopg [10] k (fun kq u10 w' => ∃ (x6 : Int), u10 = .int .i64 x6 ∧ Aside0 ((span_Check.l0 kq x6 l0) = some r) ∧ Aside0 (kq ≤ k) ∧ Aside0 (Kd.F k37 w' (fun k_ => (P_ k_ ∨ w.heap.size ≤ k_)) A0 l0.length l0) ∧ Aside0 (Below w.heap.size w w'))
    case atStart => exact ⟨0, (by first | rfl | (simp; done) | (simp [*]; done)), HH, ⟨Nat.le_refl _⟩, ⟨(Kd.F_mono (ok := (fun k_ => (P_ k_ ∨ w.heap.size ≤ k_))) HF0.out (fun k_ hk_ => hk_))⟩, ⟨HB.out⟩⟩
    case round =>
      clear hk4
      clear hk5
      clear HH
      clear HF0 HB
      obtain ⟨x6, rfl, HA, HK0, HF0, HB⟩ := hrel
      obtain ⟨w8, rfl⟩ : ∃ wo_ : World, wo_ = wr := ⟨_, rfl⟩
      cases gk with
      | zero => exact absurd HA.out (by simp [span_Check.l0])
      | succ k9 =>
        have H := HA.out
        clear HA
        simp only [span_Check.l0] at H
        have HH := Aside0.mk H
        clear H
        replace HH := zqt HH
        rcases HH with ⟨HH, hk11, hk12⟩ | ⟨HH, hk63, hk64⟩
        · replace HH := zqdo HH
          obtain ⟨HH, hk14⟩ := HH
          have p15 : 0 ≤ (x6 : Int) := of_decide_eq_true (by first | (with_reducible assumption) | assumption)
          have q15 : x6 < (l0.length : Int) := of_decide_eq_true (by first | (with_reducible assumption) | assumption)
          obtain ⟨ad15, e15, hx15_0, hx15_1, hx15_2⟩ := atF_T37 HF0.out x6 p15 q15
          cases e15
          replace p15 := eq_true p15
          replace q15 := eq_true q15
          go_wp2_with ((with_reducible refine gd 4 rfl ?_); refine zb 4 37 #[.int .i32 0, .int .i32 0, .int .i64 0] (h := ?_); intro g16 hg w17 BKg16 hb)
          refine Stop.go ?_
          have GEg16 := zge hg (below_size HB.out)
          replace HF0 := zfe HF0.out hg hb
          replace HB := zhb HB.out hb
          clear hg hb
          clear hx15_0 hx15_1 hx15_2 p15 q15
          obtain ⟨hz18, hz19, hz20⟩ := MB.lz3 BKg16.out
          go_wp2_with ((with_reducible refine gs 37 4 rfl ?_); refine zs 37 4 #[.int .i32 ((rd_T37 l0 x6).f0), .int .i32 ((rd_T37 l0 x6).f1), .int .i64 ((rd_T37 l0 x6).f2)] BKg16.out [.int .i32 ((rd_T37 l0 x6).f0), .int .i32 ((rd_T37 l0 x6).f1), .int .i64 ((rd_T37 l0 x6).f2)] (h := ?_); intro w21 hbk hg)
          refine Stop.go ?_
          replace HF0 := zfg HF0.out hg fun k_ hk_ => hk_.2
          replace HB := zhg HB.out hg (below_size HB.out) GEg16
          replace BKg16 := hbk
          clear hg hbk
          clear hz18 hz19 hz20
          obtain ⟨hz22, hz23, hz24⟩ := MB.lz3 BKg16.out
          replace HH := zd HH
          obtain ⟨t25, At26, HH⟩ := HH
          go_wp2_with ((with_reducible refine gc 18 rfl ?_); refine zc 18 (some 16) Try.func18 #[.agg #[.int .i32 ((rd_T37 l0 x6).f0), .int .i32 ((rd_T37 l0 x6).f1), .int .i64 ((rd_T37 l0 x6).f2)]] (h := ?_); (with_reducible refine (span_piece_may.calls  ((rd_T37 l0 x6).f0) ((rd_T37 l0 x6).f1) ((rd_T37 l0 x6).f2) t25 _  At26.out).mono ?_); rintro e w27 ⟨rfl, hb⟩; refine ⟨_, rfl, ?_⟩)
          refine Stop.go ?_
          replace HF0 := zfb HF0.out hb
          replace BKg16 := zbb BKg16.out hb
          replace HB := zhb HB.out hb
          clear hb
          clear hz22 hz23 hz24
          obtain ⟨hz28, hz29, hz30⟩ := MB.lz3 BKg16.out
          by_cases c31 : t25 = true
          · replace HH := MW.hpos HH c31
            subst c31
            replace HH := zqe HH
            rcases HH with ⟨HH, hk33, hk34⟩ | ⟨HH, hk35, hk36⟩
            · have H := HH.out
              obtain rfl := Option.some.inj H
              clear HH
              go_wp2
              go_ret
              exact zfi HB.out
            · replace HH := zqg HH
              rcases HH with ⟨HH, hk38⟩ | ⟨HH, hk61⟩
              · replace HH := zqdo HH
                obtain ⟨HH, hk40⟩ := HH
                replace HH := zqto HH
                obtain ⟨HH, hk42, hk43⟩ := HH
                have p44 : 0 ≤ ((wrap64 (x6 - 1)) : Int) := of_decide_eq_true (by first | (with_reducible assumption) | assumption)
                have q44 : (wrap64 (x6 - 1)) < (l0.length : Int) := of_decide_eq_true (by first | (with_reducible assumption) | assumption)
                obtain ⟨ad44, e44, hx44_0, hx44_1, hx44_2⟩ := atF_T37 HF0.out (wrap64 (x6 - 1)) p44 q44
                cases e44
                replace p44 := eq_true p44
                replace q44 := eq_true q44
                replace HH := zqG HH
                rcases HH with ⟨HH, hk46⟩ | ⟨HH, hk47⟩
                · have H := HH.out
                  obtain rfl := Option.some.inj H
                  clear HH
                  go_wp2
                  go_quiet (fail)
                  go_wp2
                  go_ret
                  exact zfi (by repeat (first | (with_reducible first | exact HB.out | apply below_alloc | apply pw_below_drewN | apply below_drew1) | exact HB.out))
                · replace HH := zqe HH
                  rcases HH with ⟨HH, hk49, hk50⟩ | ⟨HH, hk56, hk57⟩
                  · replace HH := zqe HH
                    rcases HH with ⟨HH, hk52, hk53⟩ | ⟨HH, hk54, hk55⟩
                    · have H := HH.out
                      obtain rfl := Option.some.inj H
                      clear HH
                      go_wp2
                      go_quiet (fail)
                      go_wp2
                      go_ret
                      exact zfi (by repeat (first | (with_reducible first | exact HB.out | apply below_alloc | apply pw_below_drewN | apply below_drew1) | exact HB.out))
                    · go_wp2
                      go_quiet (fail)
                      go_wp2
                      go_roundg k9
                      case measure => have := HK0.out; omega
                      case rel => exact ⟨wrap64 (x6 + 1), (by first | rfl | (simp; done) | (simp [*]; done)), HH, ⟨by have := HK0.out; omega⟩, ⟨(Kd.F_mono (ok := (fun k_ => (P_ k_ ∨ w.heap.size ≤ k_) ∧ k_ ≠ g16)) (by (with_reducible repeat (first | apply Kd.F_alloc | apply Kd.F_drewN | apply Kd.F_drew)); exact HF0.out) (fun k_ hk_ => hk_.1))⟩, ⟨(by repeat (first | (with_reducible first | exact HB.out | apply below_alloc | apply pw_below_drewN | apply below_drew1) | exact HB.out))⟩⟩
                  · go_wp2
                    go_quiet (fail)
                    go_wp2
                    go_roundg k9
                    case measure => have := HK0.out; omega
                    case rel => exact ⟨wrap64 (x6 + 1), (by first | rfl | (simp; done) | (simp [*]; done)), HH, ⟨by have := HK0.out; omega⟩, ⟨(Kd.F_mono (ok := (fun k_ => (P_ k_ ∨ w.heap.size ≤ k_) ∧ k_ ≠ g16)) (by (with_reducible repeat (first | apply Kd.F_alloc | apply Kd.F_drewN | apply Kd.F_drew)); exact HF0.out) (fun k_ hk_ => hk_.1))⟩, ⟨(by repeat (first | (with_reducible first | exact HB.out | apply below_alloc | apply pw_below_drewN | apply below_drew1) | exact HB.out))⟩⟩
              · go_wp2
                go_quiet (fail)
                go_wp2
                go_roundg k9
                case measure => have := HK0.out; omega
                case rel => exact ⟨wrap64 (x6 + 1), (by first | rfl | (simp; done) | (simp [*]; done)), HH, ⟨by have := HK0.out; omega⟩, ⟨(Kd.F_mono (ok := (fun k_ => (P_ k_ ∨ w.heap.size ≤ k_) ∧ k_ ≠ g16)) (by (with_reducible repeat (first | apply Kd.F_alloc | apply Kd.F_drewN | apply Kd.F_drew)); exact HF0.out) (fun k_ hk_ => hk_.1))⟩, ⟨(by repeat (first | (with_reducible first | exact HB.out | apply below_alloc | apply pw_below_drewN | apply below_drew1) | exact HB.out))⟩⟩
          · replace HH := MW.hneg HH c31
            replace c31 := Bool.eq_false_iff.mpr c31
            subst c31
            have H := HH.out
            obtain rfl := Option.some.inj H
            clear HH
            go_wp2
            go_ret
            exact zfi HB.out
        · have H := HH.out
          obtain rfl := Option.some.inj H
          clear HH
          go_wp2
          go_ret
          exact zfi HB.out

/-! ### span_Find: function 11 -/
def span_Find.l0 : Nat → Int → Int → Int → (List (S37)) → Option (Int)
  | 0, _, _, _, _ => none
  | k + 1, x7, x8, a1, l0 => if x7 < x8 then (if 0 ≤ (wrap64 ((IntKind.u64.wrap (wrap64 (x7 + x8))) / 2)) then (if (wrap64 ((IntKind.u64.wrap (wrap64 (x7 + x8))) / 2)) < (l0.length : Int) then ((span_Find_1.f ((rd_T37 l0 (wrap64 ((IntKind.u64.wrap (wrap64 (x7 + x8))) / 2))).f0) ((rd_T37 l0 (wrap64 ((IntKind.u64.wrap (wrap64 (x7 + x8))) / 2))).f1) ((rd_T37 l0 (wrap64 ((IntKind.u64.wrap (wrap64 (x7 + x8))) / 2))).f2) a1).bind fun t20 => (if t20 < 0 then ((span_Find.l0 k (wrap64 ((wrap64 ((IntKind.u64.wrap (wrap64 (x7 + x8))) / 2)) + 1)) x8 a1 l0)) else ((span_Find.l0 k x7 (wrap64 ((IntKind.u64.wrap (wrap64 (x7 + x8))) / 2)) a1 l0)))) else (none)) else (none)) else (if x7 < (l0.length : Int) then (if 0 ≤ x7 then ((span_Find_1.f ((rd_T37 l0 x7).f0) ((rd_T37 l0 x7).f1) ((rd_T37 l0 x7).f2) a1).bind fun t39 => (if ((rd_T37 l0 x7).f0) ≤ a1 then (some ((rd_T37 l0 x7).f2)) else (some 0))) else (none)) else (some 0))
def span_Find.f (k : Nat) (l0 : List (S37)) (a1 : Int) : Option (Int) := (span_Check.f k l0).bind fun t1 => (if t1 = 0 then ((span_Find.l0 k 0 (l0.length : Int) a1 l0)) else (some 0))
theorem span_Find.mono_l : ∀ k, (∀ y0 y1 y2 y3, LeO (span_Find.l0 k y0 y1 y2 y3) (span_Find.l0 (k + 1) y0 y1 y2 y3))
  | 0 => fun _ _ _ _ r h => by simp [span_Find.l0] at h
  | k + 1 => by
    have ih0 := span_Find.mono_l k
    · intro y0 y1 y2 y3
      unfold span_Find.l0
      repeat' first
      | (with_reducible exact ih0 _ _ _ _)
      | (with_reducible exact span_Check.mono _ _)
      | (with_reducible exact LeO.refl _)
      | (with_reducible exact LeO.none _)
      | (with_reducible refine LeO.ite ?_ ?_)
      | (with_reducible refine LeO.bind ?_ (fun _ => ?_))
      | exact ih0 _ _ _ _
      | exact span_Check.mono _ _
      | exact LeO.none _
      | refine LeO.ite ?_ ?_
      | refine LeO.bind ?_ (fun _ => ?_)
theorem span_Find.mono : ∀ a0_ a1_ k, LeO (span_Find.f k a0_ a1_) (span_Find.f (k + 1) a0_ a1_) := by
  intro a0_ a1_ k
  have ih0 := span_Find.mono_l k
  unfold span_Find.f
  repeat' first
      | (with_reducible exact ih0 _ _ _ _)
      | (with_reducible exact span_Check.mono _ _)
      | (with_reducible exact LeO.refl _)
      | (with_reducible exact LeO.none _)
      | (with_reducible refine LeO.ite ?_ ?_)
      | (with_reducible refine LeO.bind ?_ (fun _ => ?_))
      | exact ih0 _ _ _ _
      | exact span_Check.mono _ _
      | exact LeO.none _
      | refine LeO.ite ?_ ?_
      | refine LeO.bind ?_ (fun _ => ?_)
set_option maxHeartbeats 8000000 in
set_option maxRecDepth 100000 in
theorem span_Find.calls (k : Nat) (P_ : Nat → Prop) (A0 : Option Addr) (c0 : Nat) (l0 : List (S37)) (a1 : Int) (r : Int) (w : World) (hs0 : Kd.F k37 w P_ A0 l0.length l0) (hc0 : l0.length ≤ c0) (h : span_Find.f k l0 a1 = some r) :
    Calls Try.prog 11 #[.slice A0 l0.length c0, .int .i32 a1] w (fun e w' => e = .returned (.int .i64 r) ∧ Below w.heap.size w w') := by
  unfold span_Find.f at h
  have HH := Aside0.mk h
  clear h
  have HF0 := zfp hs0
  have HL0 := Aside0.mk hc0
  clear hs0 hc0
  have HB := Aside0.mk (Below.refl w.heap.size w)
  go_enter Try.func11, Try.ntmps11
  replace HH := zd HH
  obtain ⟨t1, At2, HH⟩ := HH
  go_wp2_with ((with_reducible refine gc 9 rfl ?_); refine zc 9 (some 8) Try.func9 #[.slice A0 l0.length c0] (h := ?_); (with_reducible refine (span_Check.calls k (fun k_ => (P_ k_ ∨ w.heap.size ≤ k_)) _ _ l0 t1 _ (Kd.F_mono (ok := (fun k_ => (P_ k_ ∨ w.heap.size ≤ k_))) HF0.out (fun k_ hk_ => hk_)) HL0.out At2.out).mono ?_); rintro e w3 ⟨rfl, hb⟩; refine ⟨_, rfl, ?_⟩)
  refine Stop.go ?_
  replace HF0 := zfb HF0.out hb
  replace HB := zhb HB.out hb
  clear hb
  replace HH := zqe HH
  rcases HH with ⟨HH, hk5, hk6⟩ | ⟨HH, hk49, hk50⟩
  · go_wp2_with (((with_reducible refine gate_callee (f := 20) rfl ?_); (try (refine gate_guard (by rfl) ?_; dsimp only)); refine goesL_ (some 13) rfl rfl Try.func20 (by kernel_rfl) rfl #[.slice A0 l0.length c0, .int .i32 a1, .func (.func 21) #[] #[]] rfl (by (try simp only [List.map_toArray, List.map_cons, List.map_nil]); first | done | rfl) ?_); refine stop_ ?_)
    refine Stop.go ?_
    go_enter Try.func20, Try.ntmps20
    go_wp2
    go_loopg [9, 10] k (fun kq u9 u10 w' => ∃ (x7 : Int) (x8 : Int), u9 = .int .i64 x7 ∧ u10 = .int .i64 x8 ∧ Aside0 ((span_Find.l0 kq x7 x8 a1 l0) = some r) ∧ Aside0 (kq ≤ k) ∧ Aside0 (Kd.F k37 w' (fun k_ => (P_ k_ ∨ w.heap.size ≤ k_)) A0 l0.length l0) ∧ Aside0 (Below w.heap.size w w'))
    case atStart => exact ⟨0, (l0.length : Int), (by first | rfl | (simp; done) | (simp [*]; done)), (by first | rfl | (simp; done) | (simp [*]; done)), HH, ⟨Nat.le_refl _⟩, ⟨(Kd.F_mono (ok := (fun k_ => (P_ k_ ∨ w.heap.size ≤ k_))) HF0.out (fun k_ hk_ => hk_))⟩, ⟨HB.out⟩⟩
    case round =>
      clear hk5
      clear hk6
      clear HH
      clear HF0 HB
      obtain ⟨x7, x8, rfl, rfl, HA, HK0, HF0, HB⟩ := hrel
      obtain ⟨w10, rfl⟩ : ∃ wo_ : World, wo_ = wr := ⟨_, rfl⟩
      cases gk with
      | zero => exact absurd HA.out (by simp [span_Find.l0])
      | succ k9 =>
        have H := HA.out
        clear HA
        simp only [span_Find.l0] at H
        have HH := Aside0.mk H
        clear H
        replace HH := zqt HH
        rcases HH with ⟨HH, hk12, hk13⟩ | ⟨HH, hk31, hk32⟩
        · replace HH := zqdo HH
          obtain ⟨HH, hk15⟩ := HH
          replace HH := zqto HH
          obtain ⟨HH, hk17, hk18⟩ := HH
          have p19 : 0 ≤ ((wrap64 ((IntKind.u64.wrap (wrap64 (x7 + x8))) / 2)) : Int) := of_decide_eq_true (by first | (with_reducible assumption) | assumption)
          have q19 : (wrap64 ((IntKind.u64.wrap (wrap64 (x7 + x8))) / 2)) < (l0.length : Int) := of_decide_eq_true (by first | (with_reducible assumption) | assumption)
          obtain ⟨ad19, e19, hx19_0, hx19_1, hx19_2⟩ := atF_T37 HF0.out (wrap64 ((IntKind.u64.wrap (wrap64 (x7 + x8))) / 2)) p19 q19
          cases e19
          replace p19 := eq_true p19
          replace q19 := eq_true q19
          replace HH := zd HH
          obtain ⟨t20, At21, HH⟩ := HH
          go_wp2_with ((with_reducible refine gd 30 rfl ?_); refine zv 30 Try.func21 #[.agg #[.int .i32 ((rd_T37 l0 (wrap64 ((IntKind.u64.wrap (wrap64 (x7 + x8))) / 2))).f0), .int .i32 ((rd_T37 l0 (wrap64 ((IntKind.u64.wrap (wrap64 (x7 + x8))) / 2))).f1), .int .i64 ((rd_T37 l0 (wrap64 ((IntKind.u64.wrap (wrap64 (x7 + x8))) / 2))).f2)], .int .i32 a1] #[] (h := ?_); (with_reducible refine (span_Find_1.calls  ((rd_T37 l0 (wrap64 ((IntKind.u64.wrap (wrap64 (x7 + x8))) / 2))).f0) ((rd_T37 l0 (wrap64 ((IntKind.u64.wrap (wrap64 (x7 + x8))) / 2))).f1) ((rd_T37 l0 (wrap64 ((IntKind.u64.wrap (wrap64 (x7 + x8))) / 2))).f2) a1 t20 _  At21.out).mono ?_); rintro e w22 ⟨rfl, hb⟩; refine ⟨_, rfl, ?_⟩)
          refine Stop.go ?_
          replace HF0 := zfb HF0.out hb
          replace HB := zhb HB.out hb
          clear hb
          clear hx19_0 hx19_1 hx19_2 p19 q19
          replace HH := zqt HH
          rcases HH with ⟨HH, hk24, hk25⟩ | ⟨HH, hk26, hk27⟩
          · go_wp2
            go_roundg k9
            case measure => have := HK0.out; omega
            case rel => exact ⟨wrap64 ((wrap64 ((IntKind.u64.wrap (wrap64 (x7 + x8))) / 2)) + 1), x8, (by first | rfl | (simp; done) | (simp [*]; done)), (by first | rfl | (simp; done) | (simp [*]; done)), HH, ⟨by have := HK0.out; omega⟩, ⟨(Kd.F_mono (ok := (fun k_ => (P_ k_ ∨ w.heap.size ≤ k_))) HF0.out (fun k_ hk_ => hk_))⟩, ⟨HB.out⟩⟩
          · go_wp2
            go_roundg k9
            case measure => have := HK0.out; omega
            case rel => exact ⟨x7, wrap64 ((IntKind.u64.wrap (wrap64 (x7 + x8))) / 2), (by first | rfl | (simp; done) | (simp [*]; done)), (by first | rfl | (simp; done) | (simp [*]; done)), HH, ⟨by have := HK0.out; omega⟩, ⟨(Kd.F_mono (ok := (fun k_ => (P_ k_ ∨ w.heap.size ≤ k_))) HF0.out (fun k_ hk_ => hk_))⟩, ⟨HB.out⟩⟩
        · replace HH := zqt HH
          rcases HH with ⟨HH, hk34, hk35⟩ | ⟨HH, hk47, hk48⟩
          · replace HH := zqdo HH
            obtain ⟨HH, hk37⟩ := HH
            have p38 : 0 ≤ (x7 : Int) := of_decide_eq_true (by first | (with_reducible assumption) | assumption)
            have q38 : x7 < (l0.length : Int) := of_decide_eq_true (by first | (with_reducible assumption) | assumption)
            obtain ⟨ad38, e38, hx38_0, hx38_1, hx38_2⟩ := atF_T37 HF0.out x7 p38 q38
            cases e38
            replace p38 := eq_true p38
            replace q38 := eq_true q38
            replace HH := zd HH
            obtain ⟨t39, At40, HH⟩ := HH
            go_wp2_with ((with_reducible refine gd 46 rfl ?_); refine zv 46 Try.func21 #[.agg #[.int .i32 ((rd_T37 l0 x7).f0), .int .i32 ((rd_T37 l0 x7).f1), .int .i64 ((rd_T37 l0 x7).f2)], .int .i32 a1] #[] (h := ?_); (with_reducible refine (span_Find_1.calls  ((rd_T37 l0 x7).f0) ((rd_T37 l0 x7).f1) ((rd_T37 l0 x7).f2) a1 t39 _  At40.out).mono ?_); rintro e w41 ⟨rfl, hb⟩; refine ⟨_, rfl, ?_⟩)
            refine Stop.go ?_
            replace HF0 := zfb HF0.out hb
            replace HB := zhb HB.out hb
            clear hb
            clear hx38_0 hx38_1 hx38_2 p38 q38
            go_wp2
            go_ret2
            refine ⟨_, rfl, ?_⟩
            have p42 : 0 ≤ (x7 : Int) := of_decide_eq_true (by first | (with_reducible assumption) | assumption)
            have q42 : x7 < (l0.length : Int) := of_decide_eq_true (by first | (with_reducible assumption) | assumption)
            obtain ⟨ad42, e42, hx42_0, hx42_1, hx42_2⟩ := atF_T37 HF0.out x7 p42 q42
            cases e42
            replace p42 := eq_true p42
            replace q42 := eq_true q42
            replace HH := zqd HH
            rcases HH with ⟨HH, hk44⟩ | ⟨HH, hk45⟩
            · have H := HH.out
              obtain rfl := Option.some.inj H
              clear HH
              go_wp2
              go_ret
              exact zfi HB.out
            · have H := HH.out
              obtain rfl := Option.some.inj H
              clear HH
              go_wp2
              go_ret
              exact zfi HB.out
          · go_wp2
            go_ret2
            refine ⟨_, rfl, ?_⟩
            have H := HH.out
            obtain rfl := Option.some.inj H
            clear HH
            go_wp2
            go_ret
            exact zfi HB.out
  · have H := HH.out
    obtain rfl := Option.some.inj H
    clear HH
    go_wp2
    go_ret
    exact zfi HB.out

/-! ### toponymref02_Find: function 12 -/
def toponymref02_Find.l0 : Nat → Int → Int → (List (S37)) → Option (Int)
  | 0, _, _, _ => none
  | k + 1, x1, a1, l0 => if x1 < (l0.length : Int) then ((toponymref02_Check.f k l0).bind fun t7 => (if t7 = 0 then (if 0 ≤ x1 then (if ((rd_T37 l0 x1).f0) ≤ a1 then (if a1 ≤ ((rd_T37 l0 x1).f1) then (some ((rd_T37 l0 x1).f2)) else ((toponymref02_Find.l0 k (wrap64 (x1 + 1)) a1 l0))) else ((toponymref02_Find.l0 k (wrap64 (x1 + 1)) a1 l0))) else (none)) else (some 0))) else (some 0)
def toponymref02_Find.f (k : Nat) (l0 : List (S37)) (a1 : Int) : Option (Int) := (toponymref02_Find.l0 k 0 a1 l0)
theorem toponymref02_Find.mono_l : ∀ k, (∀ y0 y1 y2, LeO (toponymref02_Find.l0 k y0 y1 y2) (toponymref02_Find.l0 (k + 1) y0 y1 y2))
  | 0 => fun _ _ _ r h => by simp [toponymref02_Find.l0] at h
  | k + 1 => by
    have ih0 := toponymref02_Find.mono_l k
    · intro y0 y1 y2
      unfold toponymref02_Find.l0
      repeat' first
      | (with_reducible exact ih0 _ _ _)
      | (with_reducible exact toponymref02_Check.mono _ _)
      | (with_reducible exact LeO.refl _)
      | (with_reducible exact LeO.none _)
      | (with_reducible refine LeO.ite ?_ ?_)
      | (with_reducible refine LeO.bind ?_ (fun _ => ?_))
      | exact ih0 _ _ _
      | exact toponymref02_Check.mono _ _
      | exact LeO.none _
      | refine LeO.ite ?_ ?_
      | refine LeO.bind ?_ (fun _ => ?_)
theorem toponymref02_Find.mono : ∀ a0_ a1_ k, LeO (toponymref02_Find.f k a0_ a1_) (toponymref02_Find.f (k + 1) a0_ a1_) := by
  intro a0_ a1_ k
  have ih0 := toponymref02_Find.mono_l k
  unfold toponymref02_Find.f
  repeat' first
      | (with_reducible exact ih0 _ _ _)
      | (with_reducible exact toponymref02_Check.mono _ _)
      | (with_reducible exact LeO.refl _)
      | (with_reducible exact LeO.none _)
      | (with_reducible refine LeO.ite ?_ ?_)
      | (with_reducible refine LeO.bind ?_ (fun _ => ?_))
      | exact ih0 _ _ _
      | exact toponymref02_Check.mono _ _
      | exact LeO.none _
      | refine LeO.ite ?_ ?_
      | refine LeO.bind ?_ (fun _ => ?_)
set_option maxHeartbeats 8000000 in
set_option maxRecDepth 100000 in
theorem toponymref02_Find.calls (k : Nat) (P_ : Nat → Prop) (A0 : Option Addr) (c0 : Nat) (l0 : List (S37)) (a1 : Int) (r : Int) (w : World) (hs0 : Kd.F k37 w P_ A0 l0.length l0) (hc0 : l0.length ≤ c0) (h : toponymref02_Find.f k l0 a1 = some r) :
    Calls Try.prog 12 #[.slice A0 l0.length c0, .int .i32 a1] w (fun e w' => e = .returned (.int .i64 r) ∧ Below w.heap.size w w') := by
  unfold toponymref02_Find.f at h
  have HH := Aside0.mk h
  clear h
  have HF0 := zfp hs0
  have HL0 := Aside0.mk hc0
  clear hs0 hc0
  have HB := Aside0.mk (Below.refl w.heap.size w)
  go_enter Try.func12, Try.ntmps12
  go_wp2
  go_loopg [5] k (fun kq u5 w' => ∃ (x1 : Int), u5 = .int .i64 x1 ∧ Aside0 ((toponymref02_Find.l0 kq x1 a1 l0) = some r) ∧ Aside0 (kq ≤ k) ∧ Aside0 (Kd.F k37 w' (fun k_ => (P_ k_ ∨ w.heap.size ≤ k_)) A0 l0.length l0) ∧ Aside0 (Below w.heap.size w w'))
  case atStart => exact ⟨0, (by first | rfl | (simp; done) | (simp [*]; done)), HH, ⟨Nat.le_refl _⟩, ⟨(Kd.F_mono (ok := (fun k_ => (P_ k_ ∨ w.heap.size ≤ k_))) HF0.out (fun k_ hk_ => hk_))⟩, ⟨HB.out⟩⟩
  case round =>
    clear HH
    clear HF0 HB
    obtain ⟨x1, rfl, HA, HK0, HF0, HB⟩ := hrel
    obtain ⟨w3, rfl⟩ : ∃ wo_ : World, wo_ = wr := ⟨_, rfl⟩
    cases gk with
    | zero => exact absurd HA.out (by simp [toponymref02_Find.l0])
    | succ k2 =>
      have H := HA.out
      clear HA
      simp only [toponymref02_Find.l0] at H
      have HH := Aside0.mk H
      clear H
      replace HH := zqt HH
      rcases HH with ⟨HH, hk5, hk6⟩ | ⟨HH, hk25, hk26⟩
      · replace HH := zd HH
        obtain ⟨t7, At8, HH⟩ := HH
        go_wp2_with ((with_reducible refine gc 10 rfl ?_); refine zc 10 (some 12) Try.func10 #[.slice A0 l0.length c0] (h := ?_); (with_reducible refine (toponymref02_Check.calls k2 (fun k_ => (P_ k_ ∨ w.heap.size ≤ k_)) _ _ l0 t7 _ (Kd.F_mono (ok := (fun k_ => (P_ k_ ∨ w.heap.size ≤ k_))) HF0.out (fun k_ hk_ => hk_)) HL0.out At8.out).mono ?_); rintro e w9 ⟨rfl, hb⟩; refine ⟨_, rfl, ?_⟩)
        refine Stop.go ?_
        replace HF0 := zfb HF0.out hb
        replace HB := zhb HB.out hb
        clear hb
        replace HH := zqe HH
        rcases HH with ⟨HH, hk11, hk12⟩ | ⟨HH, hk23, hk24⟩
        · replace HH := zqdo HH
          obtain ⟨HH, hk14⟩ := HH
          have p15 : 0 ≤ (x1 : Int) := of_decide_eq_true (by first | (with_reducible assumption) | assumption)
          have q15 : x1 < (l0.length : Int) := of_decide_eq_true (by first | (with_reducible assumption) | assumption)
          obtain ⟨ad15, e15, hx15_0, hx15_1, hx15_2⟩ := atF_T37 HF0.out x1 p15 q15
          cases e15
          replace p15 := eq_true p15
          replace q15 := eq_true q15
          replace HH := zqd HH
          rcases HH with ⟨HH, hk17⟩ | ⟨HH, hk21⟩
          · replace HH := zqd HH
            rcases HH with ⟨HH, hk19⟩ | ⟨HH, hk20⟩
            · have H := HH.out
              obtain rfl := Option.some.inj H
              clear HH
              go_wp2
              go_ret
              exact zfi HB.out
            · go_wp2
              go_roundg k2
              case measure => have := HK0.out; omega
              case rel => exact ⟨wrap64 (x1 + 1), (by first | rfl | (simp; done) | (simp [*]; done)), HH, ⟨by have := HK0.out; omega⟩, ⟨(Kd.F_mono (ok := (fun k_ => (P_ k_ ∨ w.heap.size ≤ k_))) HF0.out (fun k_ hk_ => hk_))⟩, ⟨HB.out⟩⟩
          · go_wp2
            go_roundg k2
            case measure => have := HK0.out; omega
            case rel => exact ⟨wrap64 (x1 + 1), (by first | rfl | (simp; done) | (simp [*]; done)), HH, ⟨by have := HK0.out; omega⟩, ⟨(Kd.F_mono (ok := (fun k_ => (P_ k_ ∨ w.heap.size ≤ k_))) HF0.out (fun k_ hk_ => hk_))⟩, ⟨HB.out⟩⟩
        · have H := HH.out
          obtain rfl := Option.some.inj H
          clear HH
          go_wp2
          go_ret
          exact zfi HB.out
      · have H := HH.out
        obtain rfl := Option.some.inj H
        clear HH
        go_wp2
        go_ret
        exact zfi HB.out

/-! ### span_Count: function 13 -/
def span_Count.l0 : Nat → Int → Int → Int → (List (S37)) → Option (Int)
  | 0, _, _, _, _ => none
  | k + 1, x7, x8, a1, l0 => if x8 < (l0.length : Int) then (if 0 ≤ x8 then (if ((rd_T37 l0 x8).f2) = a1 then ((span_Count.l0 k (wrap64 (x7 + (wrap64 ((wrap64 (wrap32 (((rd_T37 l0 x8).f1) - ((rd_T37 l0 x8).f0)))) + 1)))) (wrap64 (x8 + 1)) a1 l0)) else ((span_Count.l0 k x7 (wrap64 (x8 + 1)) a1 l0))) else (none)) else (some x7)
def span_Count.f (k : Nat) (l0 : List (S37)) (a1 : Int) : Option (Int) := (span_Check.f k l0).bind fun t1 => (if t1 = 0 then ((span_Count.l0 k 0 0 a1 l0)) else (some 0))
theorem span_Count.mono_l : ∀ k, (∀ y0 y1 y2 y3, LeO (span_Count.l0 k y0 y1 y2 y3) (span_Count.l0 (k + 1) y0 y1 y2 y3))
  | 0 => fun _ _ _ _ r h => by simp [span_Count.l0] at h
  | k + 1 => by
    have ih0 := span_Count.mono_l k
    · intro y0 y1 y2 y3
      unfold span_Count.l0
      repeat' first
      | (with_reducible exact ih0 _ _ _ _)
      | (with_reducible exact span_Check.mono _ _)
      | (with_reducible exact LeO.refl _)
      | (with_reducible exact LeO.none _)
      | (with_reducible refine LeO.ite ?_ ?_)
      | (with_reducible refine LeO.bind ?_ (fun _ => ?_))
      | exact ih0 _ _ _ _
      | exact span_Check.mono _ _
      | exact LeO.none _
      | refine LeO.ite ?_ ?_
      | refine LeO.bind ?_ (fun _ => ?_)
theorem span_Count.mono : ∀ a0_ a1_ k, LeO (span_Count.f k a0_ a1_) (span_Count.f (k + 1) a0_ a1_) := by
  intro a0_ a1_ k
  have ih0 := span_Count.mono_l k
  unfold span_Count.f
  repeat' first
      | (with_reducible exact ih0 _ _ _ _)
      | (with_reducible exact span_Check.mono _ _)
      | (with_reducible exact LeO.refl _)
      | (with_reducible exact LeO.none _)
      | (with_reducible refine LeO.ite ?_ ?_)
      | (with_reducible refine LeO.bind ?_ (fun _ => ?_))
      | exact ih0 _ _ _ _
      | exact span_Check.mono _ _
      | exact LeO.none _
      | refine LeO.ite ?_ ?_
      | refine LeO.bind ?_ (fun _ => ?_)
set_option maxHeartbeats 8000000 in
set_option maxRecDepth 100000 in
theorem span_Count.calls (k : Nat) (P_ : Nat → Prop) (A0 : Option Addr) (c0 : Nat) (l0 : List (S37)) (a1 : Int) (r : Int) (w : World) (hs0 : Kd.F k37 w P_ A0 l0.length l0) (hc0 : l0.length ≤ c0) (h : span_Count.f k l0 a1 = some r) :
    Calls Try.prog 13 #[.slice A0 l0.length c0, .int .i64 a1] w (fun e w' => e = .returned (.int .i64 r) ∧ Below w.heap.size w w') := by
  unfold span_Count.f at h
  have HH := Aside0.mk h
  clear h
  have HF0 := zfp hs0
  have HL0 := Aside0.mk hc0
  clear hs0 hc0
  have HB := Aside0.mk (Below.refl w.heap.size w)
  have hu37 := Try.underlying37
  go_enter Try.func13, Try.ntmps13
  replace HH := zd HH
  obtain ⟨t1, At2, HH⟩ := HH
  go_wp2_with ((with_reducible refine gc 9 rfl ?_); refine zc 9 (some 9) Try.func9 #[.slice A0 l0.length c0] (h := ?_); (with_reducible refine (span_Check.calls k (fun k_ => (P_ k_ ∨ w.heap.size ≤ k_)) _ _ l0 t1 _ (Kd.F_mono (ok := (fun k_ => (P_ k_ ∨ w.heap.size ≤ k_))) HF0.out (fun k_ hk_ => hk_)) HL0.out At2.out).mono ?_); rintro e w3 ⟨rfl, hb⟩; refine ⟨_, rfl, ?_⟩)
  refine Stop.go ?_
  replace HF0 := zfb HF0.out hb
  replace HB := zhb HB.out hb
  clear hb
  replace HH := zqe HH
  rcases HH with ⟨HH, hk5, hk6⟩ | ⟨HH, hk34, hk35⟩
  · go_wp2
    go_loopg [5, 13] k (fun kq u5 u13 w' => ∃ (x7 : Int) (x8 : Int), u5 = .int .i64 x7 ∧ u13 = .int .i64 x8 ∧ Aside0 ((span_Count.l0 kq x7 x8 a1 l0) = some r) ∧ Aside0 (kq ≤ k) ∧ Aside0 (Kd.F k37 w' (fun k_ => (P_ k_ ∨ w.heap.size ≤ k_)) A0 l0.length l0) ∧ Aside0 (Below w.heap.size w w'))
    case atStart => exact ⟨0, 0, (by first | rfl | (simp; done) | (simp [*]; done)), (by first | rfl | (simp; done) | (simp [*]; done)), HH, ⟨Nat.le_refl _⟩, ⟨(Kd.F_mono (ok := (fun k_ => (P_ k_ ∨ w.heap.size ≤ k_))) HF0.out (fun k_ hk_ => hk_))⟩, ⟨HB.out⟩⟩
    case round =>
      clear hk5
      clear hk6
      clear HH
      clear HF0 HB
      obtain ⟨x7, x8, rfl, rfl, HA, HK0, HF0, HB⟩ := hrel
      obtain ⟨w10, rfl⟩ : ∃ wo_ : World, wo_ = wr := ⟨_, rfl⟩
      cases gk with
      | zero => exact absurd HA.out (by simp [span_Count.l0])
      | succ k9 =>
        have H := HA.out
        clear HA
        simp only [span_Count.l0] at H
        have HH := Aside0.mk H
        clear H
        replace HH := zqt HH
        rcases HH with ⟨HH, hk12, hk13⟩ | ⟨HH, hk32, hk33⟩
        · replace HH := zqdo HH
          obtain ⟨HH, hk15⟩ := HH
          have p16 : 0 ≤ (x8 : Int) := of_decide_eq_true (by first | (with_reducible assumption) | assumption)
          have q16 : x8 < (l0.length : Int) := of_decide_eq_true (by first | (with_reducible assumption) | assumption)
          obtain ⟨ad16, e16, hx16_0, hx16_1, hx16_2⟩ := atF_T37 HF0.out x8 p16 q16
          cases e16
          replace p16 := eq_true p16
          replace q16 := eq_true q16
          go_wp2_with ((with_reducible refine gd 7 rfl ?_); refine zb 7 37 #[.int .i32 0, .int .i32 0, .int .i64 0] (h := ?_); intro g17 hg w18 BKg17 hb)
          refine Stop.go ?_
          have GEg17 := zge hg (below_size HB.out)
          replace HF0 := zfe HF0.out hg hb
          replace HB := zhb HB.out hb
          clear hg hb
          clear hx16_0 hx16_1 hx16_2 p16 q16
          obtain ⟨hz19, hz20, hz21⟩ := MB.lz3 BKg17.out
          go_wp2_with ((with_reducible refine gs 37 7 rfl ?_); refine zs 37 7 #[.int .i32 ((rd_T37 l0 x8).f0), .int .i32 ((rd_T37 l0 x8).f1), .int .i64 ((rd_T37 l0 x8).f2)] BKg17.out [.int .i32 ((rd_T37 l0 x8).f0), .int .i32 ((rd_T37 l0 x8).f1), .int .i64 ((rd_T37 l0 x8).f2)] (h := ?_); intro w22 hbk hg)
          refine Stop.go ?_
          replace HF0 := zfg HF0.out hg fun k_ hk_ => hk_.2
          replace HB := zhg HB.out hg (below_size HB.out) GEg17
          replace BKg17 := hbk
          clear hg hbk
          clear hz19 hz20 hz21
          obtain ⟨hz23, hz24, hz25⟩ := MB.lz3 BKg17.out
          replace HH := zqe HH
          rcases HH with ⟨HH, hk27, hk28⟩ | ⟨HH, hk29, hk30⟩
          · go_wp2
            go_roundg k9
            case measure => have := HK0.out; omega
            case rel => exact ⟨wrap64 (x7 + (wrap64 ((wrap64 (wrap32 (((rd_T37 l0 x8).f1) - ((rd_T37 l0 x8).f0)))) + 1))), wrap64 (x8 + 1), (by first | rfl | (simp; done) | (simp [*]; done)), (by first | rfl | (simp; done) | (simp [*]; done)), HH, ⟨by have := HK0.out; omega⟩, ⟨(Kd.F_mono (ok := (fun k_ => (P_ k_ ∨ w.heap.size ≤ k_) ∧ k_ ≠ g17)) HF0.out (fun k_ hk_ => hk_.1))⟩, ⟨HB.out⟩⟩
          · go_wp2
            go_roundg k9
            case measure => have := HK0.out; omega
            case rel => exact ⟨x7, wrap64 (x8 + 1), (by first | rfl | (simp; done) | (simp [*]; done)), (by first | rfl | (simp; done) | (simp [*]; done)), HH, ⟨by have := HK0.out; omega⟩, ⟨(Kd.F_mono (ok := (fun k_ => (P_ k_ ∨ w.heap.size ≤ k_) ∧ k_ ≠ g17)) HF0.out (fun k_ hk_ => hk_.1))⟩, ⟨HB.out⟩⟩
        · have H := HH.out
          obtain rfl := Option.some.inj H
          clear HH
          go_wp2
          go_ret
          exact zfi HB.out
  · have H := HH.out
    obtain rfl := Option.some.inj H
    clear HH
    go_wp2
    go_ret
    exact zfi HB.out

/-! ### toponymref02_Count: function 14 -/
def toponymref02_Count.l0 : Nat → Int → Int → Int → (List (S37)) → Option (Int)
  | 0, _, _, _, _ => none
  | k + 1, x1, x2, a1, l0 => if x2 < (l0.length : Int) then ((toponymref02_Check.f k l0).bind fun t8 => (if t8 = 0 then (if 0 ≤ x2 then (if ((rd_T37 l0 x2).f2) = a1 then ((toponymref02_Count.l0 k (wrap64 ((wrap64 ((wrap64 (x1 + (wrap64 ((rd_T37 l0 x2).f1)))) - (wrap64 ((rd_T37 l0 x2).f0)))) + 1)) (wrap64 (x2 + 1)) a1 l0)) else ((toponymref02_Count.l0 k x1 (wrap64 (x2 + 1)) a1 l0))) else (none)) else (some x1))) else (some x1)
def toponymref02_Count.f (k : Nat) (l0 : List (S37)) (a1 : Int) : Option (Int) := (toponymref02_Count.l0 k 0 0 a1 l0)
theorem toponymref02_Count.mono_l : ∀ k, (∀ y0 y1 y2 y3, LeO (toponymref02_Count.l0 k y0 y1 y2 y3) (toponymref02_Count.l0 (k + 1) y0 y1 y2 y3))
  | 0 => fun _ _ _ _ r h => by simp [toponymref02_Count.l0] at h
  | k + 1 => by
    have ih0 := toponymref02_Count.mono_l k
    · intro y0 y1 y2 y3
      unfold toponymref02_Count.l0
      repeat' first
      | (with_reducible exact ih0 _ _ _ _)
      | (with_reducible exact toponymref02_Check.mono _ _)
      | (with_reducible exact LeO.refl _)
      | (with_reducible exact LeO.none _)
      | (with_reducible refine LeO.ite ?_ ?_)
      | (with_reducible refine LeO.bind ?_ (fun _ => ?_))
      | exact ih0 _ _ _ _
      | exact toponymref02_Check.mono _ _
      | exact LeO.none _
      | refine LeO.ite ?_ ?_
      | refine LeO.bind ?_ (fun _ => ?_)
theorem toponymref02_Count.mono : ∀ a0_ a1_ k, LeO (toponymref02_Count.f k a0_ a1_) (toponymref02_Count.f (k + 1) a0_ a1_) := by
  intro a0_ a1_ k
  have ih0 := toponymref02_Count.mono_l k
  unfold toponymref02_Count.f
  repeat' first
      | (with_reducible exact ih0 _ _ _ _)
      | (with_reducible exact toponymref02_Check.mono _ _)
      | (with_reducible exact LeO.refl _)
      | (with_reducible exact LeO.none _)
      | (with_reducible refine LeO.ite ?_ ?_)
      | (with_reducible refine LeO.bind ?_ (fun _ => ?_))
      | exact ih0 _ _ _ _
      | exact toponymref02_Check.mono _ _
      | exact LeO.none _
      | refine LeO.ite ?_ ?_
      | refine LeO.bind ?_ (fun _ => ?_)
set_option maxHeartbeats 8000000 in
set_option maxRecDepth 100000 in
theorem toponymref02_Count.calls (k : Nat) (P_ : Nat → Prop) (A0 : Option Addr) (c0 : Nat) (l0 : List (S37)) (a1 : Int) (r : Int) (w : World) (hs0 : Kd.F k37 w P_ A0 l0.length l0) (hc0 : l0.length ≤ c0) (h : toponymref02_Count.f k l0 a1 = some r) :
    Calls Try.prog 14 #[.slice A0 l0.length c0, .int .i64 a1] w (fun e w' => e = .returned (.int .i64 r) ∧ Below w.heap.size w w') := by
  unfold toponymref02_Count.f at h
  have HH := Aside0.mk h
  clear h
  have HF0 := zfp hs0
  have HL0 := Aside0.mk hc0
  clear hs0 hc0
  have HB := Aside0.mk (Below.refl w.heap.size w)
  go_enter Try.func14, Try.ntmps14
  go_wp2
  go_loopg [5, 6] k (fun kq u5 u6 w' => ∃ (x1 : Int) (x2 : Int), u5 = .int .i64 x1 ∧ u6 = .int .i64 x2 ∧ Aside0 ((toponymref02_Count.l0 kq x1 x2 a1 l0) = some r) ∧ Aside0 (kq ≤ k) ∧ Aside0 (Kd.F k37 w' (fun k_ => (P_ k_ ∨ w.heap.size ≤ k_)) A0 l0.length l0) ∧ Aside0 (Below w.heap.size w w'))
  case atStart => exact ⟨0, 0, (by first | rfl | (simp; done) | (simp [*]; done)), (by first | rfl | (simp; done) | (simp [*]; done)), HH, ⟨Nat.le_refl _⟩, ⟨(Kd.F_mono (ok := (fun k_ => (P_ k_ ∨ w.heap.size ≤ k_))) HF0.out (fun k_ hk_ => hk_))⟩, ⟨HB.out⟩⟩
  case round =>
    clear HH
    clear HF0 HB
    obtain ⟨x1, x2, rfl, rfl, HA, HK0, HF0, HB⟩ := hrel
    obtain ⟨w4, rfl⟩ : ∃ wo_ : World, wo_ = wr := ⟨_, rfl⟩
    cases gk with
    | zero => exact absurd HA.out (by simp [toponymref02_Count.l0])
    | succ k3 =>
      have H := HA.out
      clear HA
      simp only [toponymref02_Count.l0] at H
      have HH := Aside0.mk H
      clear H
      replace HH := zqt HH
      rcases HH with ⟨HH, hk6, hk7⟩ | ⟨HH, hk25, hk26⟩
      · replace HH := zd HH
        obtain ⟨t8, At9, HH⟩ := HH
        go_wp2_with ((with_reducible refine gc 10 rfl ?_); refine zc 10 (some 13) Try.func10 #[.slice A0 l0.length c0] (h := ?_); (with_reducible refine (toponymref02_Check.calls k3 (fun k_ => (P_ k_ ∨ w.heap.size ≤ k_)) _ _ l0 t8 _ (Kd.F_mono (ok := (fun k_ => (P_ k_ ∨ w.heap.size ≤ k_))) HF0.out (fun k_ hk_ => hk_)) HL0.out At9.out).mono ?_); rintro e w10 ⟨rfl, hb⟩; refine ⟨_, rfl, ?_⟩)
        refine Stop.go ?_
        replace HF0 := zfb HF0.out hb
        replace HB := zhb HB.out hb
        clear hb
        replace HH := zqe HH
        rcases HH with ⟨HH, hk12, hk13⟩ | ⟨HH, hk23, hk24⟩
        · replace HH := zqdo HH
          obtain ⟨HH, hk15⟩ := HH
          have p16 : 0 ≤ (x2 : Int) := of_decide_eq_true (by first | (with_reducible assumption) | assumption)
          have q16 : x2 < (l0.length : Int) := of_decide_eq_true (by first | (with_reducible assumption) | assumption)
          obtain ⟨ad16, e16, hx16_0, hx16_1, hx16_2⟩ := atF_T37 HF0.out x2 p16 q16
          cases e16
          replace p16 := eq_true p16
          replace q16 := eq_true q16
          replace HH := zqe HH
          rcases HH with ⟨HH, hk18, hk19⟩ | ⟨HH, hk20, hk21⟩
          · go_wp2
            go_quiet (fail)
            go_wp2
            go_roundg k3
            case measure => have := HK0.out; omega
            case rel => exact ⟨wrap64 ((wrap64 ((wrap64 (x1 + (wrap64 ((rd_T37 l0 x2).f1)))) - (wrap64 ((rd_T37 l0 x2).f0)))) + 1), wrap64 (x2 + 1), (by first | rfl | (simp; done) | (simp [*]; done)), (by first | rfl | (simp; done) | (simp [*]; done)), HH, ⟨by have := HK0.out; omega⟩, ⟨(Kd.F_mono (ok := (fun k_ => (P_ k_ ∨ w.heap.size ≤ k_))) (by (with_reducible repeat (first | apply Kd.F_alloc | apply Kd.F_drewN | apply Kd.F_drew)); exact HF0.out) (fun k_ hk_ => hk_))⟩, ⟨(by repeat (first | (with_reducible first | exact HB.out | apply below_alloc | apply pw_below_drewN | apply below_drew1) | exact HB.out))⟩⟩
          · go_wp2
            go_roundg k3
            case measure => have := HK0.out; omega
            case rel => exact ⟨x1, wrap64 (x2 + 1), (by first | rfl | (simp; done) | (simp [*]; done)), (by first | rfl | (simp; done) | (simp [*]; done)), HH, ⟨by have := HK0.out; omega⟩, ⟨(Kd.F_mono (ok := (fun k_ => (P_ k_ ∨ w.heap.size ≤ k_))) HF0.out (fun k_ hk_ => hk_))⟩, ⟨HB.out⟩⟩
        · have H := HH.out
          obtain rfl := Option.some.inj H
          clear HH
          go_wp2
          go_ret
          exact zfi HB.out
      · have H := HH.out
        obtain rfl := Option.some.inj H
        clear HH
        go_wp2
        go_ret
        exact zfi HB.out
end Go.Proofs.Ytcokpnajkkjclaa.GA

namespace Go.Proofs.Ytcokpnajkkjclaa.GA
open Go.RowKit Go.Proofs.Ytcokpnajkkjclaa Go.Proofs.Ytcokpnajkkjclaa.MW Go.Proofs.Ytcokpnajkkjclaa.MQ Go.Proofs.YtcokpnajkkjclaaW.PrintWords Go.Proofs.YtcokpnajkkjclaaW.PrintLast Go.Proofs.YtcokpnajkkjclaaW.PrintMore
set_option linter.unusedVariables false
set_option linter.unusedSimpArgs false
/-! ### by hand -/
/-- The places ahead of n with their elements, the last one first. -/
def back.seq (l : List S37) : Nat → List (Int × S37)
  | 0 => []
  | i + 1 => ((i : Int), rd_T37 l (i : Int)) :: back.seq l i
abbrev encB (x : Int × S37) : Array Value := #[.int .i64 x.1, .agg #[.int .i32 x.2.f0, .int .i32 x.2.f1, .int .i64 x.2.f2]]
set_option maxHeartbeats 8000000 in
set_option maxRecDepth 100000 in
theorem back.iter (K K' : Nat → Prop) (Bl : Nat) (A0 : Option Addr) (c0 : Nat) (l0 : List S37) (w : World) (hl : w.heap[Bl]? = some (.cells #[.slice A0 l0.length c0] 22 (0, 0)))
    (hF : Kd.F k37 w K' A0 l0.length l0) (hc0 : l0.length ≤ c0) (hlen : l0.length ≤ 9223372036854775807) (hKl : K Bl) (hK' : ∀ k, K' k → K k) :
    Iter Try.prog 33 #[.pointer (some ⟨Bl, 0, none⟩)] encB (fun _ => False) K (back.seq l0 l0.length) w := by
  intro l J Jx W hkw hJ hY h0
  have hlW := (hkw.block Bl (blk_lt hl) (blk_lt hl)).trans hl
  have hFW := Kd.F_step (Kd.F_bound hF) (fun k hk _ => hkw.block k hk.2 hk.2)
  replace hFW := Kd.F_mono hFW (fun k hk => hk.1)
  clear hF hkw hl
  have HY := Aside0.mk hY
  have HJ := Aside0.mk hJ
  have H0 := Aside0.mk h0
  have HF0 := Aside0.mk hFW
  have BKl := Aside0.mk hlW
  have HK' := Aside0.mk hK'
  have HKl := Aside0.mk hKl
  have HL0 := Aside0.mk hc0
  clear hY hJ h0 hFW hlW hK' hKl hc0
  have c1 := MB.lz1 BKl.out
  have hw0 : wrap64 ((l0.length : Int) - 1) = (l0.length : Int) - 1 := by simp [wrap64]; omega
  show Calls Try.prog 33 #[.func (.yield l) #[] #[], .pointer (some ⟨Bl, 0, none⟩)] W _
  go_enter Try.func33, Try.ntmps33
  go_wp2
  go_loopg [3] l0.length (fun kq u3 w' => ∃ (i : Nat) (E : Nat → Prop) (pre : List (Int × S37)), u3 = .int .i64 ((i : Int) - 1) ∧ i ≤ kq ∧ i ≤ l0.length ∧ Aside0 (back.seq l0 l0.length = pre ++ back.seq l0 i) ∧ Aside0 (Kd.F k37 w' K' A0 l0.length l0) ∧ Aside0 (w'.heap[Bl]? = some (.cells #[.slice A0 l0.length c0] 22 (0, 0))) ∧ Aside0 (J E pre w'))
  case atStart => exact ⟨l0.length, (fun _ => False), [], rfl, Nat.le_refl _, Nat.le_refl _, ⟨rfl⟩, HF0, BKl, H0⟩
  case round =>
    clear c1 HF0 BKl H0
    obtain ⟨i, E, pre, rfl, hik, hil, HX, HF0, BKl, HJ0⟩ := hrel
    obtain ⟨w1, rfl⟩ : ∃ wo_ : World, wo_ = wr := ⟨_, rfl⟩
    have c1 := MB.lz1 BKl.out
    rcases i with _ | j
    · have p1 : (0 ≤ ((0 : Nat) : Int) - 1) = False := eq_false (by omega)
      have hX : back.seq l0 l0.length = pre := by rw [HX.out]; simp [back.seq]
      have hJ1 := Lib.hid HJ0.out
      rw [← hX] at hJ1
      clear HJ0 HX hX
      go_wp2
      go_end0
      exact ⟨⟨_, rfl⟩, .inl ⟨_, hJ1.out⟩⟩
    · have e1 : (((j + 1 : Nat) : Int) - 1) = (j : Int) := by omega
      rw [e1]
      clear e1
      have p1 : (0 ≤ (j : Int)) = True := eq_true (by omega)
      have p2 : ((j : Int) < (l0.length : Int)) = True := eq_true (by omega)
      obtain ⟨ad, e1, hx0, hx1, hx2⟩ := atF_T37 HF0.out (j : Int) (by omega) (by omega)
      subst e1
      rw [Int.toNat_natCast] at hx0 hx1 hx2
      have hX1 := Aside0.mk (show back.seq l0 l0.length = (pre ++ [((j : Int), rd_T37 l0 (j : Int))]) ++ back.seq l0 j by rw [HX.out, List.append_assoc]; rfl)
      obtain ⟨fn, tmps, assign, body, hy, hR⟩ := HY.out E pre _ (back.seq l0 j) w1 HX.out HJ0.out
      dsimp only [encB] at hy hR
      clear HX HY
      have hw1 : wrap64 ((j : Int) - 1) = (j : Int) - 1 := by simp [wrap64]; omega
      repeat (first | (refine code_stop (id := 3) ?_) | go_values | go_skip | go_guarded | go_step | go_upon)
      refine Stop.go ?_
      refine (wpIn_wide (n := 1)).1 ?_
      gi_wp2
      refine hR.mono ?_
      clear hR hy
      rintro e w8 (⟨rfl, hJ8, hk8⟩ | ⟨rfl, hJ8⟩)
      · have HF8 := Aside0.mk (Kd.F_step HF0.out (fun k_ hk_ hlt_ => hk8.block k_ (.inl (HK'.out k_ hk_)) hlt_))
        have BKl8 := Aside0.mk ((hk8.block Bl (.inl HKl.out) (blk_lt BKl.out)).trans BKl.out)
        have HJ8 := Aside0.mk hJ8
        clear hJ8 hk8 c1 HF0 BKl HJ0 hx0 hx1 hx2
        have c1 := MB.lz1 BKl8.out
        gi_wp2
        go_wp2
        go_roundg j
        case measure => omega
        case rel => exact ⟨j, E, _, rfl, Nat.le_refl _, by omega, hX1, HF8, BKl8, HJ8⟩
      · have hJ9 := Lib.hid hJ8
        clear hJ8 c1 HJ0 hx0 hx1 hx2
        gi_wp2
        go_wp2
        refine bodyPost_ret (results_none rfl _ _ _) rfl ?_
        exact ⟨⟨_, rfl⟩, .inr ⟨_, _, hJ9.out⟩⟩

/-! ### by hand -/
/-- The number lies in the span. -/
def back.hit (F : Int) (x : S37) : Bool := decide (x.f0 ≤ F) && decide (F ≤ x.f1)
/-- What the first of these spans that holds the number has. -/
def back.look (F H : Int) : List (Int × S37) → Int
  | [] => H
  | p :: r => if back.hit F p.2 = true then p.2.f2 else back.look F H r
def back.find (l : List S37) (F H : Int) : Int := back.look F H (back.seq l l.length)
theorem back.look_none (F H : Int) : ∀ xs, (∀ p ∈ xs, back.hit F p.2 = false) → back.look F H xs = H
  | [], _ => rfl
  | p :: r, h => by
    rw [back.look, if_neg (by rw [h p (by simp)]; simp)]
    exact back.look_none F H r (fun q hq => h q (by simp [hq]))
theorem back.look_hit (F H : Int) (p : Int × S37) (r : List (Int × S37)) (hp : back.hit F p.2 = true) : ∀ xs, (∀ q ∈ xs, back.hit F q.2 = false) → back.look F H (xs ++ p :: r) = p.2.f2
  | [], _ => by rw [List.nil_append, back.look, if_pos hp]
  | q :: t, h => by
    rw [List.cons_append, back.look, if_neg (by rw [h q (by simp)]; simp)]
    exact back.look_hit F H p r hp t (fun q' hq => h q' (by simp [hq]))
set_option maxHeartbeats 2000000 in
/-- The loop from the last span on that stops at the first one that holds a number. -/
theorem back.law {Q : Exit → Act → World → Prop} {tmps : Array Value} {ds : List Nat} {w : World} {b : Nat} {g : Operand} {t0 t1 t9 : Tmp} {La L1 L2 : List Oper} {ida idb id1 id2 ix : Nat} {tc : Operand}
    (K' : Nat → Prop) (Bl : Nat) (A0 : Option Addr) (c0 : Nat) (l0 : List S37) (hl : w.heap[Bl]? = some (.cells #[.slice A0 l0.length c0] 22 (0, 0)))
    (hF : Kd.F k37 w K' A0 l0.length l0) (hc0 : l0.length ≤ c0) (hlen : l0.length ≤ 9223372036854775807) (g7 : Nat) (F T H : Int) (hg7 : w.heap[g7]? = some (.cells #[.int .i32 F, .int .i32 T, .int .i64 H] 37 (0, 0)))
    (hK7 : ∀ k, K' k → k ≠ g7) (hgl : Aside0 (g7 ≠ Bl)) (hds : Aside0 (Ds b ds w)) (hb : b ≤ w.heap.size)
    (hg : (⟨tmps, ds.map markD⟩ : Act).eval g = .func (.func 33) #[] #[.pointer (some ⟨Bl, 0, none⟩)]) (hix : ix ≠ idb) (hQ : ∀ a w, Q .normal a w → Q (.exit ix) a w)
    (hda : ∀ o ∈ La, ∀ c, o.op ≠ .defer c) (hd1 : ∀ o ∈ L1, ∀ c, o.op ≠ .defer c) (hd2 : ∀ o ∈ L2, ∀ c, o.op ≠ .defer c)
    (hA : ∀ (i : Int) (x : S37) (W : World) (Q' : Exit → Act → World → Prop), Aside0 (∀ g9 W', W.heap.size ≤ g9 → W'.heap[g9]? = some (.cells #[.int .i32 x.f0, .int .i32 x.f1, .int .i64 x.f2] 37 (0, 0)) → Below W.heap.size W W' →
        Q' .normal ⟨((tmps.setIfInBounds t0 (.int .i64 i)).setIfInBounds t1 (.agg #[.int .i32 x.f0, .int .i32 x.f1, .int .i64 x.f2])).setIfInBounds t9 (.pointer (some ⟨g9, 0, none⟩)), []⟩ W') →
      wpList Try.prog La.toArray Q' La ⟨(tmps.setIfInBounds t0 (.int .i64 i)).setIfInBounds t1 (.agg #[.int .i32 x.f0, .int .i32 x.f1, .int .i64 x.f2]), []⟩ W)
    (hB : ∀ (i : Int) (x : S37) (g9 : Nat) (W : World) (Q' : Exit → Act → World → Prop), Aside0 (W.heap[g9]? = some (.cells #[.int .i32 x.f0, .int .i32 x.f1, .int .i64 x.f2] 37 (0, 0))) → Aside0 (W.heap[g7]? = some (.cells #[.int .i32 F, .int .i32 T, .int .i64 H] 37 (0, 0))) →
        Aside0 (∀ a', a'.eval tc = .bool (back.hit F x) → (∀ Q2 : Exit → Act → World → Prop, Aside0 (∀ a2 W2, W2.heap[g7]? = some (.cells #[.int .i32 F, .int .i32 T, .int .i64 x.f2] 37 (0, 0)) → W.grownBy W2 (some g7) → Q2 .normal a2 W2) → back.hit F x = true → wpList Try.prog L2.toArray Q2 L2 a' W) → Q' .normal a' W) →
      wpList Try.prog L1.toArray Q' L1 ⟨((tmps.setIfInBounds t0 (.int .i64 i)).setIfInBounds t1 (.agg #[.int .i32 x.f0, .int .i32 x.f1, .int .i64 x.f2])).setIfInBounds t9 (.pointer (some ⟨g9, 0, none⟩)), []⟩ W)
    (hK : ∀ (w' : World) (ds' : List Nat), Aside0 (w'.heap[g7]? = some (.cells #[.int .i32 F, .int .i32 T, .int .i64 (back.find l0 F H)] 37 (0, 0))) → Kp (fun k => k ≠ g7 ∧ k < w.heap.size) w w' → Aside0 (Ds b ds' w') → Stop (Q .normal ⟨tmps, ds'.map markD⟩ w') (.mk _)) :
    (Code.rangeFunc g #[t0, t1] (.region ida La.toArray false) (.block idb (.seq (.region id1 L1.toArray false) (.cond tc (.seq (.region id2 L2.toArray false) (.exit ix)) .skip)))).wp Try.prog Q ⟨tmps, ds.map markD⟩ w := by
  have hg7lt := blk_lt hg7
  have hfin : ∀ (w' : World) (D : Nat), D = w.heap.size → Kp (fun k => k ≠ g7 ∧ k < w.heap.size) w w' → w'.heap[D]? = some (.deferred (some [])) → Ds b (D :: ds) w' := by
    intro w' D hD hk hWD
    refine ⟨List.nodup_cons.2 ⟨fun hm => ?_, hds.out.1⟩, fun D' hD' => ?_⟩
    · have := blk_lt (hds.out.2 _ hm).2
      omega
    · rcases List.mem_cons.1 hD' with e | hm
      · rw [e]; exact ⟨by omega, hWD⟩
      · have hd' := hds.out.2 D' hm
        refine ⟨hd'.1, (hk.block D' ⟨fun e => ?_, blk_lt hd'.2⟩ (blk_lt hd'.2)).trans hd'.2⟩
        have h5 := hd'.2
        rw [e, hg7] at h5
        cases h5
  refine range_law (enc := encB) (E₀ := fun _ => False) (K := fun k => (K' k ∧ k < w.heap.size) ∨ k = Bl) (xs := back.seq l0 l0.length) hg (enters_ Try.func33 (by kernel_rfl) rfl)
    (back.iter _ (fun k => K' k ∧ k < w.heap.size) Bl A0 c0 l0 w hl (Kd.F_bound hF) hc0 hlen (.inr rfl) (fun k hk => .inl hk)) (fun _ => rfl) (fun k e => e.elim) (fun k hk => hk.elim (fun h => h.2) (fun e => by rw [e]; exact blk_lt hl))
    (fun E pre W => W.heap[g7]? = some (.cells #[.int .i32 F, .int .i32 T, .int .i64 H] 37 (0, 0)) ∧ (∀ k, E k → w.heap.size ≤ k) ∧ Kp (fun k => k ≠ g7 ∧ k < w.heap.size) w W ∧ ∀ p ∈ pre, back.hit F p.2 = false)
    (fun c E pre W => c = .exit ix ∧ W.heap[g7]? = some (.cells #[.int .i32 F, .int .i32 T, .int .i64 (back.find l0 F H)] 37 (0, 0)) ∧ (∀ k, E k → w.heap.size ≤ k) ∧ Kp (fun k => k ≠ g7 ∧ k < w.heap.size) w W) ⟨?_, ?_⟩ ?_ ⟨hg7, fun k e => e.elim, Kp.refl _ _, by simp⟩ ?_ ?_ ?_
  · rintro E s A A' row ⟨h1, h2, h3, h4⟩ hg' hr
    exact ⟨(hg'.block g7 (blk_lt h1) (fun e => by have := h2 g7 (hr g7 e.symm); omega)).trans h1, h2, h3.trans (Kp.grown hg' (fun r e hk => by have := h2 r (hr r e); omega)), h4⟩
  · rintro E s A A' g' ⟨h1, h2, h3, h4⟩ hg' hge hlt
    refine ⟨(hg'.block g7 (blk_lt h1) (by simp)).trans h1, fun k hk => hk.elim (h2 k) (fun e => ?_), h3.trans (Kp.grown hg' (fun r e => by cases e)), h4⟩
    have := h3.size
    omega
  · rintro c E s A A' row ⟨h0, h1, h2, h3⟩ hg' hr
    exact ⟨h0, (hg'.block g7 (blk_lt h1) (fun e => by have := h2 g7 (hr g7 e.symm); omega)).trans h1, h2, h3.trans (Kp.grown hg' (fun r e hk => by have := h2 r (hr r e); omega))⟩
  · rintro l E pre ⟨i, x⟩ rest W hxs ⟨h1, h2, h3, h4⟩ hEl hlt
    have hls := h2 l hEl
    have hset : setAll #[t0, t1] (encB (i, x)) tmps = (tmps.setIfInBounds t0 (.int .i64 i)).setIfInBounds t1 (.agg #[.int .i32 x.f0, .int .i32 x.f1, .int .i64 x.f2]) := by first | rfl | (simp [setAll]; done) | (simp [setAll, Array.zip, Array.zipWith]; done)
    rw [hset]
    refine round_region (fun ⟨_, _, h⟩ => h) hda (hA i x W _ ⟨?_⟩)
    intro g9 W1 hg9 hx9 hb1
    refine ⟨hb1.block l hlt, fun V hV => ?_⟩
    have h71 := (hb1.block g7 (blk_lt h1)).trans h1
    have hW1 : W.heap.size ≤ W1.heap.size := hb1.size
    have hx9V := (hV.block g9 (blk_lt hx9) (fun e => by injection e with e; omega)).trans hx9
    have h7V := (hV.block g7 (blk_lt h71) (fun e => by injection e with e; omega)).trans h71
    have hkW : Kp (fun k => ((((K' k ∧ k < w.heap.size) ∨ k = Bl) ∨ E k) ∧ k ≠ l) ∧ k < W.heap.size) W V := by
      refine ⟨hV.os.trans hb1.os, hV.tape.trans hb1.tape, hV.output.trans hb1.output, Nat.le_trans hb1.size hV.size, fun k hk hlt' => ?_⟩
      exact (hV.block k (by omega) (fun e => hk.1.2 (Option.some.inj e))).trans (hb1.block k hk.2)
    have hkV : Kp (fun k => k ≠ g7 ∧ k < w.heap.size) w V := h3.trans ⟨hkW.os, hkW.tape, hkW.output, hkW.size, fun k hk hlt' => (hV.block k (by omega) (fun e => by injection e with e; omega)).trans (hb1.block k hlt')⟩
    have hVl : V.heap[l]? = V.heap[l]? := rfl
    refine wpIn_block (wpIn_seq (round_region (fun ⟨_, _, h⟩ => by first | exact h | exact inBlock_calm roundEnd_calm ⟨_, _, h⟩) hd1 (hB i x g9 V _ ⟨hx9V⟩ ⟨h7V⟩ ⟨?_⟩)))
    intro a' hc hL2
    show (Code.cond tc (.seq (.region id2 L2.toArray false) (.exit ix)) .skip).wpIn (Fence.wide.inRound l) 0 Try.prog (Exit.inBlock idb (roundEnd l E _ _ _ (pre ++ [(i, x)]) W V)) a' V
    refine wpIn_cond_split hc (fun ht => ?_) (fun hf => ?_)
    · refine wpIn_seq (round_region (fun ⟨_, _, h⟩ => by first | exact h | exact inBlock_calm roundEnd_calm ⟨_, _, h⟩) hd2 (hL2 _ ⟨?_⟩ ht))
      intro a2 W2 h72 hg2
      refine wpIn_exit ?_
      have hKp2 : Kp (fun k => (((K' k ∧ k < w.heap.size) ∨ k = Bl) ∨ E k) ∧ k ≠ l) W W2 := by
        refine ⟨hg2.os.trans hkW.os, hg2.tape.trans hkW.tape, hg2.output.trans hkW.output, Nat.le_trans hkW.size hg2.size, fun k hk hlt' => ?_⟩
        refine (hg2.block k (Nat.lt_of_lt_of_le hlt' hkW.size) (fun e => ?_)).trans (hkW.block k ⟨hk, hlt'⟩ hlt')
        injection e with e
        rcases hk.1 with (h | h) | h
        · exact hK7 k h.1 e
        · exact hgl.out (by rw [← e, h])
        · have := h2 k h; omega
      have hfind : back.find l0 F H = x.f2 := by
        unfold back.find
        rw [hxs]
        exact back.look_hit F H (i, x) rest ht pre h4
      have hend : roundEnd l E (fun k => (K' k ∧ k < w.heap.size) ∨ k = Bl) (fun E pre W => W.heap[g7]? = some (.cells #[.int .i32 F, .int .i32 T, .int .i64 H] 37 (0, 0)) ∧ (∀ k, E k → w.heap.size ≤ k) ∧ Kp (fun k => k ≠ g7 ∧ k < w.heap.size) w W ∧ ∀ p ∈ pre, back.hit F p.2 = false)
          (fun c E pre W => c = .exit ix ∧ W.heap[g7]? = some (.cells #[.int .i32 F, .int .i32 T, .int .i64 (back.find l0 F H)] 37 (0, 0)) ∧ (∀ k, E k → w.heap.size ≤ k) ∧ Kp (fun k => k ≠ g7 ∧ k < w.heap.size) w W) (pre ++ [(i, x)]) W V (.exit ix) a2 W2 :=
        ⟨hKp2, hg2.block l (Nat.lt_of_lt_of_le hlt hkW.size) (fun e => by injection e with e; omega), rfl, by rw [hfind]; exact h72, h2, hkV.trans (Kp.grown hg2 (fun r e hk => hk.1 (Option.some.inj e).symm))⟩
      simpa [Exit.inBlock, hix] using hend
    · refine wpIn_skip ?_
      have hend : roundEnd l E (fun k => (K' k ∧ k < w.heap.size) ∨ k = Bl) (fun E pre W => W.heap[g7]? = some (.cells #[.int .i32 F, .int .i32 T, .int .i64 H] 37 (0, 0)) ∧ (∀ k, E k → w.heap.size ≤ k) ∧ Kp (fun k => k ≠ g7 ∧ k < w.heap.size) w W ∧ ∀ p ∈ pre, back.hit F p.2 = false)
          (fun c E pre W => c = .exit ix ∧ W.heap[g7]? = some (.cells #[.int .i32 F, .int .i32 T, .int .i64 (back.find l0 F H)] 37 (0, 0)) ∧ (∀ k, E k → w.heap.size ≤ k) ∧ Kp (fun k => k ≠ g7 ∧ k < w.heap.size) w W) (pre ++ [(i, x)]) W V .normal a' V :=
        ⟨⟨hkW.os, hkW.tape, hkW.output, hkW.size, fun k hk hlt' => hkW.block k ⟨hk, hlt'⟩ hlt'⟩, rfl, h7V, h2, hkV, fun p hp => by
          rcases List.mem_append.1 hp with h | h
          · exact h4 p h
          · have := List.mem_singleton.1 h
            rw [this]; exact hf⟩
      simpa [Exit.inBlock] using hend
  · rintro E W ⟨h1, h2, h3, h4⟩ hED hWD
    exact (hK W (w.heap.size :: ds) ⟨by unfold back.find; rw [back.look_none F H _ h4]; exact h1⟩ h3 ⟨hfin W _ rfl h3 hWD⟩).out
  · rintro c E pre W ⟨rfl, h1, h2, h3⟩ hED hWD
    exact wp_exit (hQ _ _ (hK W (w.heap.size :: ds) ⟨h1⟩ h3 ⟨hfin W _ rfl h3 hWD⟩).out)
/-- A row of spans reaches no other block. -/
theorem back.N_own {W : World} {base e : Nat} {ok : Nat → Prop} {v : Value} {xs : List S37} (h : Kd.N k37 e W base ok v xs) : Kd.N k37 e W base (fun k => some k = v.ownBlock) v xs := by
  obtain ⟨h0, rows, hl, hR, hf⟩ := h
  refine ⟨fun k hk => hk.symm, rows, hl, hR, fun j x c hx hc => ?_⟩
  rw [k37_open (Kd.FK_now (hf j x c hx hc))]
  exact k37_mkF _ _ x
/-- .. the marks' blocks are none of its. -/
theorem back.N_marks {W W9 : World} {base e : Nat} {ds : List Nat} {ok : Nat → Prop} {v : Value} {xs : List S37} (h : Kd.N k37 e W base ok v xs) (hk : Kp (fun k => k ∉ ds) W W9) (hd : ∀ D ∈ ds, W.heap[D]? = some (.deferred (some []))) : Kd.N k37 e W9 base ok v xs := by
  refine Kd.N_mono (Kd.N_step (back.N_own h) (fun k hv hlt => hk.block k (fun hm => ?_) hlt)) (fun k hv => h.1 k hv.symm)
  obtain ⟨cells, hc⟩ := Kd.N_typed h k hv.symm
  have := hd k hm
  rw [hc] at this
  cases this
theorem back.below {W W1 W2 : World} {g : Nat} (h : Below W.heap.size W W1) (hg : g = W.heap.size) (h2 : W1.grownBy W2 (some g)) : Below W.heap.size W W2 :=
  ⟨h2.os.trans h.os, h2.tape.trans h.tape, h2.output.trans h.output, Nat.le_trans h.size h2.size, fun k hk => (h2.block k (Nat.lt_of_lt_of_le hk h.size) (fun e => by injection e with e; omega)).trans (h.block k hk)⟩
end Go.Proofs.Ytcokpnajkkjclaa.GA

namespace Go.Proofs.Ytcokpnajkkjclaa.GA
open Go.RowKit Go.Proofs.Ytcokpnajkkjclaa Go.Proofs.Ytcokpnajkkjclaa.MW Go.Proofs.YtcokpnajkkjclaaW.PrintWords Go.Proofs.YtcokpnajkkjclaaW.PrintLast Go.Proofs.YtcokpnajkkjclaaW.PrintMore
attribute [local go_sem] max2_int min2_int max_two min_two
set_option linter.unusedVariables false
set_option linter.unusedSimpArgs false
/-! ### span_Build_1: function 23 -/
def span_Build_1.f (a0_0 : Int) (a0_1 : Int) (a0_2 : Int) : Option (Bool) := (span_piece_may.f a0_0 a0_1 a0_2).bind fun t6 => (some (!t6))
set_option maxHeartbeats 8000000 in
set_option maxRecDepth 100000 in
theorem span_Build_1.calls (a0_0 : Int) (a0_1 : Int) (a0_2 : Int) (r : Bool) (w : World) (h : span_Build_1.f a0_0 a0_1 a0_2 = some r) :
    Calls Try.prog 23 #[.agg #[.int .i32 a0_0, .int .i32 a0_1, .int .i64 a0_2]] w (fun e w' => e = .returned (.bool r) ∧ Below w.heap.size w w') := by
  unfold span_Build_1.f at h
  have HH := Aside0.mk h
  clear h
  have HB := Aside0.mk (Below.refl w.heap.size w)
  have hu37 := Try.underlying37
  go_enter Try.func23, Try.ntmps23
  go_wp2_with ((with_reducible refine gd 1 rfl ?_); refine zb 1 37 #[.int .i32 a0_0, .int .i32 a0_1, .int .i64 a0_2] (h := ?_); intro g1 hg w2 BKg1 hb)
  refine Stop.go ?_
  have GEg1 := zge hg (below_size HB.out)
  replace HB := zhb HB.out hb
  clear hg hb
  obtain ⟨hz3, hz4, hz5⟩ := MB.lz3 BKg1.out
  replace HH := zd HH
  obtain ⟨t6, At7, HH⟩ := HH
  go_wp2_with ((with_reducible refine gc 18 rfl ?_); refine zc 18 (some 4) Try.func18 #[.agg #[.int .i32 a0_0, .int .i32 a0_1, .int .i64 a0_2]] (h := ?_); (with_reducible refine (span_piece_may.calls  a0_0 a0_1 a0_2 t6 _  At7.out).mono ?_); rintro e w8 ⟨rfl, hb⟩; refine ⟨_, rfl, ?_⟩)
  refine Stop.go ?_
  replace BKg1 := zbb BKg1.out hb
  replace HB := zhb HB.out hb
  clear hb
  clear hz3 hz4 hz5
  obtain ⟨hz9, hz10, hz11⟩ := MB.lz3 BKg1.out
  have H := HH.out
  obtain rfl := Option.some.inj H
  clear HH
  go_wp2
  go_ret
  exact zfi HB.out

/-! ### span_piece_start: function 29 -/
def span_piece_start.f (a0_0 : Int) (a0_1 : Int) (a0_2 : Int) : Option (Int) := some a0_0
set_option maxHeartbeats 8000000 in
set_option maxRecDepth 100000 in
theorem span_piece_start.calls (a0_0 : Int) (a0_1 : Int) (a0_2 : Int) (r : Int) (w : World) (h : span_piece_start.f a0_0 a0_1 a0_2 = some r) :
    Calls Try.prog 29 #[.agg #[.int .i32 a0_0, .int .i32 a0_1, .int .i64 a0_2]] w (fun e w' => e = .returned (.int .i32 r) ∧ Below w.heap.size w w') := by
  unfold span_piece_start.f at h
  have HH := Aside0.mk h
  clear h
  have HB := Aside0.mk (Below.refl w.heap.size w)
  have hu39 := Try.underlying39
  go_enter Try.func29, Try.ntmps29
  go_wp2_with ((with_reducible refine gd 1 rfl ?_); refine zb 1 39 #[.int .i32 a0_0, .int .i32 a0_1, .int .i64 a0_2] (h := ?_); intro g1 hg w2 BKg1 hb)
  refine Stop.go ?_
  have GEg1 := zge hg (below_size HB.out)
  replace HB := zhb HB.out hb
  clear hg hb
  obtain ⟨hz3, hz4, hz5⟩ := MB.lz3 BKg1.out
  have H := HH.out
  obtain rfl := Option.some.inj H
  clear HH
  go_wp2
  go_ret
  exact zfi HB.out

/-! ### span_piece_behind: function 30 -/
def span_piece_behind.f (a0_0 : Int) (a0_1 : Int) (a0_2 : Int) : Option (Int) := some (wrap32 (a0_1 + 1))
set_option maxHeartbeats 8000000 in
set_option maxRecDepth 100000 in
theorem span_piece_behind.calls (a0_0 : Int) (a0_1 : Int) (a0_2 : Int) (r : Int) (w : World) (h : span_piece_behind.f a0_0 a0_1 a0_2 = some r) :
    Calls Try.prog 30 #[.agg #[.int .i32 a0_0, .int .i32 a0_1, .int .i64 a0_2]] w (fun e w' => e = .returned (.int .i32 r) ∧ Below w.heap.size w w') := by
  unfold span_piece_behind.f at h
  have HH := Aside0.mk h
  clear h
  have HB := Aside0.mk (Below.refl w.heap.size w)
  have hu39 := Try.underlying39
  go_enter Try.func30, Try.ntmps30
  go_wp2_with ((with_reducible refine gd 1 rfl ?_); refine zb 1 39 #[.int .i32 a0_0, .int .i32 a0_1, .int .i64 a0_2] (h := ?_); intro g1 hg w2 BKg1 hb)
  refine Stop.go ?_
  have GEg1 := zge hg (below_size HB.out)
  replace HB := zhb HB.out hb
  clear hg hb
  obtain ⟨hz3, hz4, hz5⟩ := MB.lz3 BKg1.out
  have H := HH.out
  obtain rfl := Option.some.inj H
  clear HH
  go_wp2
  go_ret
  exact zfi HB.out

/-! ### cmp_isNaN_rune: function 52 -/
def cmp_isNaN_rune.f (a0 : Int) : Option (Bool) := some (a0 != a0)
set_option maxHeartbeats 8000000 in
set_option maxRecDepth 100000 in
theorem cmp_isNaN_rune.calls (a0 : Int) (r : Bool) (w : World) (h : cmp_isNaN_rune.f a0 = some r) :
    Calls Try.prog 52 #[.int .i32 a0] w (fun e w' => e = .returned (.bool r) ∧ Drawn0 w w') := by
  unfold cmp_isNaN_rune.f at h
  have HH := Aside0.mk h
  clear h
  go_enter Try.func52, Try.ntmps52
  have H := HH.out
  obtain rfl := Option.some.inj H
  clear HH
  go_wp2
  go_ret
  exact ⟨by first | rfl | (simp; done) | (simp [*]; done), by repeat (first | exact Drawn0.refl _ | apply Drawn0.step)⟩

/-! ### cmp_Less_rune: function 42 -/
def cmp_Less_rune.f (a0 : Int) (a1 : Int) : Option (Bool) := (cmp_isNaN_rune.f a0).bind fun t1 => (if t1 = true then ((cmp_isNaN_rune.f a1).bind fun t5 => (if t5 = true then (some (decide (a0 < a1))) else (some true))) else (some (decide (a0 < a1))))
set_option maxHeartbeats 8000000 in
set_option maxRecDepth 100000 in
theorem cmp_Less_rune.calls (a0 : Int) (a1 : Int) (r : Bool) (w : World) (h : cmp_Less_rune.f a0 a1 = some r) :
    Calls Try.prog 42 #[.int .i32 a0, .int .i32 a1] w (fun e w' => e = .returned (.bool r) ∧ Drawn0 w w') := by
  unfold cmp_Less_rune.f at h
  have HH := Aside0.mk h
  clear h
  go_enter Try.func42, Try.ntmps42
  replace HH := zd HH
  obtain ⟨t1, At2, HH⟩ := HH
  go_wp2_with ((with_reducible refine gc 52 rfl ?_); refine zc 52 (some 6) Try.func52 #[.int .i32 a0] (h := ?_); (with_reducible refine (cmp_isNaN_rune.calls  a0 t1 _  At2.out).mono ?_); rintro e w' ⟨rfl, ⟨nd, rfl⟩⟩; refine ⟨_, rfl, ?_⟩)
  refine Stop.go ?_
  by_cases c4 : t1 = true
  · replace HH := MW.hpos HH c4
    subst c4
    replace HH := zd HH
    obtain ⟨t5, At6, HH⟩ := HH
    go_wp2_with ((with_reducible refine gc 52 rfl ?_); refine zc 52 (some 9) Try.func52 #[.int .i32 a1] (h := ?_); (with_reducible refine (cmp_isNaN_rune.calls  a1 t5 _  At6.out).mono ?_); rintro e w' ⟨rfl, ⟨nd, rfl⟩⟩; refine ⟨_, rfl, ?_⟩)
    refine Stop.go ?_
    by_cases c8 : t5 = true
    · replace HH := MW.hpos HH c8
      subst c8
      have H := HH.out
      obtain rfl := Option.some.inj H
      clear HH
      go_wp2
      go_ret
      exact ⟨by first | rfl | (simp; done) | (simp [*]; done), by repeat (first | exact Drawn0.refl _ | apply Drawn0.step)⟩
    · replace HH := MW.hneg HH c8
      replace c8 := Bool.eq_false_iff.mpr c8
      subst c8
      have H := HH.out
      obtain rfl := Option.some.inj H
      clear HH
      go_wp2
      go_ret
      exact ⟨by first | rfl | (simp; done) | (simp [*]; done), by repeat (first | exact Drawn0.refl _ | apply Drawn0.step)⟩
  · replace HH := MW.hneg HH c4
    replace c4 := Bool.eq_false_iff.mpr c4
    subst c4
    have H := HH.out
    obtain rfl := Option.some.inj H
    clear HH
    go_wp2
    go_ret
    exact ⟨by first | rfl | (simp; done) | (simp [*]; done), by repeat (first | exact Drawn0.refl _ | apply Drawn0.step)⟩

/-! ### bits_Len32: function 45 -/
def bits_Len32.f (a0 : Int) : Option (Int) := if a0 ≥ 65536 then (if (a0 / 65536) ≥ 256 then (if 0 ≤ (((a0 / 65536) / 256) % 256) then (if (((a0 / 65536) / 256) % 256) < 256 then (some (wrap64 (24 + (wrap64 (bt (⟨#[0, 1, 2, 2, 3, 3, 3, 3, 4, 4, 4, 4, 4, 4, 4, 4, 5, 5, 5, 5, 5, 5, 5, 5, 5, 5, 5, 5, 5, 5, 5, 5, 6, 6, 6, 6, 6, 6, 6, 6, 6, 6, 6, 6, 6, 6, 6, 6, 6, 6, 6, 6, 6, 6, 6, 6, 6, 6, 6, 6, 6, 6, 6, 6, 7, 7, 7, 7, 7, 7, 7, 7, 7, 7, 7, 7, 7, 7, 7, 7, 7, 7, 7, 7, 7, 7, 7, 7, 7, 7, 7, 7, 7, 7, 7, 7, 7, 7, 7, 7, 7, 7, 7, 7, 7, 7, 7, 7, 7, 7, 7, 7, 7, 7, 7, 7, 7, 7, 7, 7, 7, 7, 7, 7, 7, 7, 7, 7, 8, 8, 8, 8, 8, 8, 8, 8, 8, 8, 8, 8, 8, 8, 8, 8, 8, 8, 8, 8, 8, 8, 8, 8, 8, 8, 8, 8, 8, 8, 8, 8, 8, 8, 8, 8, 8, 8, 8, 8, 8, 8, 8, 8, 8, 8, 8, 8, 8, 8, 8, 8, 8, 8, 8, 8, 8, 8, 8, 8, 8, 8, 8, 8, 8, 8, 8, 8, 8, 8, 8, 8, 8, 8, 8, 8, 8, 8, 8, 8, 8, 8, 8, 8, 8, 8, 8, 8, 8, 8, 8, 8, 8, 8, 8, 8, 8, 8, 8, 8, 8, 8, 8, 8, 8, 8, 8, 8, 8, 8, 8, 8, 8, 8, 8, 8, 8, 8, 8, 8, 8, 8, 8, 8, 8, 8, 8, 8]⟩ : ByteArray) (((a0 / 65536) / 256) % 256)))))) else (none)) else (none)) else (if 0 ≤ ((a0 / 65536) % 256) then (if ((a0 / 65536) % 256) < 256 then (some (wrap64 (16 + (wrap64 (bt (⟨#[0, 1, 2, 2, 3, 3, 3, 3, 4, 4, 4, 4, 4, 4, 4, 4, 5, 5, 5, 5, 5, 5, 5, 5, 5, 5, 5, 5, 5, 5, 5, 5, 6, 6, 6, 6, 6, 6, 6, 6, 6, 6, 6, 6, 6, 6, 6, 6, 6, 6, 6, 6, 6, 6, 6, 6, 6, 6, 6, 6, 6, 6, 6, 6, 7, 7, 7, 7, 7, 7, 7, 7, 7, 7, 7, 7, 7, 7, 7, 7, 7, 7, 7, 7, 7, 7, 7, 7, 7, 7, 7, 7, 7, 7, 7, 7, 7, 7, 7, 7, 7, 7, 7, 7, 7, 7, 7, 7, 7, 7, 7, 7, 7, 7, 7, 7, 7, 7, 7, 7, 7, 7, 7, 7, 7, 7, 7, 7, 8, 8, 8, 8, 8, 8, 8, 8, 8, 8, 8, 8, 8, 8, 8, 8, 8, 8, 8, 8, 8, 8, 8, 8, 8, 8, 8, 8, 8, 8, 8, 8, 8, 8, 8, 8, 8, 8, 8, 8, 8, 8, 8, 8, 8, 8, 8, 8, 8, 8, 8, 8, 8, 8, 8, 8, 8, 8, 8, 8, 8, 8, 8, 8, 8, 8, 8, 8, 8, 8, 8, 8, 8, 8, 8, 8, 8, 8, 8, 8, 8, 8, 8, 8, 8, 8, 8, 8, 8, 8, 8, 8, 8, 8, 8, 8, 8, 8, 8, 8, 8, 8, 8, 8, 8, 8, 8, 8, 8, 8, 8, 8, 8, 8, 8, 8, 8, 8, 8, 8, 8, 8, 8, 8, 8, 8, 8, 8]⟩ : ByteArray) ((a0 / 65536) % 256)))))) else (none)) else (none))) else (if a0 ≥ 256 then (if 0 ≤ ((a0 / 256) % 256) then (if ((a0 / 256) % 256) < 256 then (some (wrap64 (8 + (wrap64 (bt (⟨#[0, 1, 2, 2, 3, 3, 3, 3, 4, 4, 4, 4, 4, 4, 4, 4, 5, 5, 5, 5, 5, 5, 5, 5, 5, 5, 5, 5, 5, 5, 5, 5, 6, 6, 6, 6, 6, 6, 6, 6, 6, 6, 6, 6, 6, 6, 6, 6, 6, 6, 6, 6, 6, 6, 6, 6, 6, 6, 6, 6, 6, 6, 6, 6, 7, 7, 7, 7, 7, 7, 7, 7, 7, 7, 7, 7, 7, 7, 7, 7, 7, 7, 7, 7, 7, 7, 7, 7, 7, 7, 7, 7, 7, 7, 7, 7, 7, 7, 7, 7, 7, 7, 7, 7, 7, 7, 7, 7, 7, 7, 7, 7, 7, 7, 7, 7, 7, 7, 7, 7, 7, 7, 7, 7, 7, 7, 7, 7, 8, 8, 8, 8, 8, 8, 8, 8, 8, 8, 8, 8, 8, 8, 8, 8, 8, 8, 8, 8, 8, 8, 8, 8, 8, 8, 8, 8, 8, 8, 8, 8, 8, 8, 8, 8, 8, 8, 8, 8, 8, 8, 8, 8, 8, 8, 8, 8, 8, 8, 8, 8, 8, 8, 8, 8, 8, 8, 8, 8, 8, 8, 8, 8, 8, 8, 8, 8, 8, 8, 8, 8, 8, 8, 8, 8, 8, 8, 8, 8, 8, 8, 8, 8, 8, 8, 8, 8, 8, 8, 8, 8, 8, 8, 8, 8, 8, 8, 8, 8, 8, 8, 8, 8, 8, 8, 8, 8, 8, 8, 8, 8, 8, 8, 8, 8, 8, 8, 8, 8, 8, 8, 8, 8, 8, 8, 8, 8]⟩ : ByteArray) ((a0 / 256) % 256)))))) else (none)) else (none)) else (if 0 ≤ ((a0) % 256) then (if ((a0) % 256) < 256 then (some (wrap64 (0 + (wrap64 (bt (⟨#[0, 1, 2, 2, 3, 3, 3, 3, 4, 4, 4, 4, 4, 4, 4, 4, 5, 5, 5, 5, 5, 5, 5, 5, 5, 5, 5, 5, 5, 5, 5, 5, 6, 6, 6, 6, 6, 6, 6, 6, 6, 6, 6, 6, 6, 6, 6, 6, 6, 6, 6, 6, 6, 6, 6, 6, 6, 6, 6, 6, 6, 6, 6, 6, 7, 7, 7, 7, 7, 7, 7, 7, 7, 7, 7, 7, 7, 7, 7, 7, 7, 7, 7, 7, 7, 7, 7, 7, 7, 7, 7, 7, 7, 7, 7, 7, 7, 7, 7, 7, 7, 7, 7, 7, 7, 7, 7, 7, 7, 7, 7, 7, 7, 7, 7, 7, 7, 7, 7, 7, 7, 7, 7, 7, 7, 7, 7, 7, 8, 8, 8, 8, 8, 8, 8, 8, 8, 8, 8, 8, 8, 8, 8, 8, 8, 8, 8, 8, 8, 8, 8, 8, 8, 8, 8, 8, 8, 8, 8, 8, 8, 8, 8, 8, 8, 8, 8, 8, 8, 8, 8, 8, 8, 8, 8, 8, 8, 8, 8, 8, 8, 8, 8, 8, 8, 8, 8, 8, 8, 8, 8, 8, 8, 8, 8, 8, 8, 8, 8, 8, 8, 8, 8, 8, 8, 8, 8, 8, 8, 8, 8, 8, 8, 8, 8, 8, 8, 8, 8, 8, 8, 8, 8, 8, 8, 8, 8, 8, 8, 8, 8, 8, 8, 8, 8, 8, 8, 8, 8, 8, 8, 8, 8, 8, 8, 8, 8, 8, 8, 8, 8, 8, 8, 8, 8, 8]⟩ : ByteArray) ((a0) % 256)))))) else (none)) else (none)))
set_option maxHeartbeats 8000000 in
set_option maxRecDepth 100000 in
theorem bits_Len32.calls (a0 : Int) (r : Int) (w : World) (h : bits_Len32.f a0 = some r) :
    Calls Try.prog 45 #[.int .u32 a0] w (fun e w' => e = .returned (.int .i64 r) ∧ Drawn0 w w') := by
  unfold bits_Len32.f at h
  have HH := Aside0.mk h
  clear h
  go_enter Try.func45, Try.ntmps45
  replace HH := zqG HH
  rcases HH with ⟨HH, hk2⟩ | ⟨HH, hk24⟩
  · replace HH := zqG HH
    rcases HH with ⟨HH, hk4⟩ | ⟨HH, hk14⟩
    · replace HH := zqdo HH
      obtain ⟨HH, hk6⟩ := HH
      replace HH := zqto HH
      obtain ⟨HH, hk8, hk9⟩ := HH
      have p10 : 0 ≤ ((((a0 / 65536) / 256) % 256) : Int) := of_decide_eq_true (by first | (with_reducible assumption) | assumption)
      have q10 : (((a0 / 65536) / 256) % 256) < (256 : Int) := of_decide_eq_true (by first | (with_reducible assumption) | assumption)
      have hx10 := MW.bt_at' (⟨#[0, 1, 2, 2, 3, 3, 3, 3, 4, 4, 4, 4, 4, 4, 4, 4, 5, 5, 5, 5, 5, 5, 5, 5, 5, 5, 5, 5, 5, 5, 5, 5, 6, 6, 6, 6, 6, 6, 6, 6, 6, 6, 6, 6, 6, 6, 6, 6, 6, 6, 6, 6, 6, 6, 6, 6, 6, 6, 6, 6, 6, 6, 6, 6, 7, 7, 7, 7, 7, 7, 7, 7, 7, 7, 7, 7, 7, 7, 7, 7, 7, 7, 7, 7, 7, 7, 7, 7, 7, 7, 7, 7, 7, 7, 7, 7, 7, 7, 7, 7, 7, 7, 7, 7, 7, 7, 7, 7, 7, 7, 7, 7, 7, 7, 7, 7, 7, 7, 7, 7, 7, 7, 7, 7, 7, 7, 7, 7, 8, 8, 8, 8, 8, 8, 8, 8, 8, 8, 8, 8, 8, 8, 8, 8, 8, 8, 8, 8, 8, 8, 8, 8, 8, 8, 8, 8, 8, 8, 8, 8, 8, 8, 8, 8, 8, 8, 8, 8, 8, 8, 8, 8, 8, 8, 8, 8, 8, 8, 8, 8, 8, 8, 8, 8, 8, 8, 8, 8, 8, 8, 8, 8, 8, 8, 8, 8, 8, 8, 8, 8, 8, 8, 8, 8, 8, 8, 8, 8, 8, 8, 8, 8, 8, 8, 8, 8, 8, 8, 8, 8, 8, 8, 8, 8, 8, 8, 8, 8, 8, 8, 8, 8, 8, 8, 8, 8, 8, 8, 8, 8, 8, 8, 8, 8, 8, 8, 8, 8, 8, 8, 8, 8, 8, 8, 8, 8]⟩ : ByteArray) (((a0 / 65536) / 256) % 256)
      replace p10 := eq_true p10
      replace q10 := eq_true q10
      have H := HH.out
      obtain rfl := Option.some.inj H
      clear HH
      go_wp2
      go_ret
      exact ⟨by first | rfl | (simp; done) | (simp [*]; done), by repeat (first | exact Drawn0.refl _ | apply Drawn0.step)⟩
    · replace HH := zqdo HH
      obtain ⟨HH, hk16⟩ := HH
      replace HH := zqto HH
      obtain ⟨HH, hk18, hk19⟩ := HH
      have p20 : 0 ≤ (((a0 / 65536) % 256) : Int) := of_decide_eq_true (by first | (with_reducible assumption) | assumption)
      have q20 : ((a0 / 65536) % 256) < (256 : Int) := of_decide_eq_true (by first | (with_reducible assumption) | assumption)
      have hx20 := MW.bt_at' (⟨#[0, 1, 2, 2, 3, 3, 3, 3, 4, 4, 4, 4, 4, 4, 4, 4, 5, 5, 5, 5, 5, 5, 5, 5, 5, 5, 5, 5, 5, 5, 5, 5, 6, 6, 6, 6, 6, 6, 6, 6, 6, 6, 6, 6, 6, 6, 6, 6, 6, 6, 6, 6, 6, 6, 6, 6, 6, 6, 6, 6, 6, 6, 6, 6, 7, 7, 7, 7, 7, 7, 7, 7, 7, 7, 7, 7, 7, 7, 7, 7, 7, 7, 7, 7, 7, 7, 7, 7, 7, 7, 7, 7, 7, 7, 7, 7, 7, 7, 7, 7, 7, 7, 7, 7, 7, 7, 7, 7, 7, 7, 7, 7, 7, 7, 7, 7, 7, 7, 7, 7, 7, 7, 7, 7, 7, 7, 7, 7, 8, 8, 8, 8, 8, 8, 8, 8, 8, 8, 8, 8, 8, 8, 8, 8, 8, 8, 8, 8, 8, 8, 8, 8, 8, 8, 8, 8, 8, 8, 8, 8, 8, 8, 8, 8, 8, 8, 8, 8, 8, 8, 8, 8, 8, 8, 8, 8, 8, 8, 8, 8, 8, 8, 8, 8, 8, 8, 8, 8, 8, 8, 8, 8, 8, 8, 8, 8, 8, 8, 8, 8, 8, 8, 8, 8, 8, 8, 8, 8, 8, 8, 8, 8, 8, 8, 8, 8, 8, 8, 8, 8, 8, 8, 8, 8, 8, 8, 8, 8, 8, 8, 8, 8, 8, 8, 8, 8, 8, 8, 8, 8, 8, 8, 8, 8, 8, 8, 8, 8, 8, 8, 8, 8, 8, 8, 8, 8]⟩ : ByteArray) ((a0 / 65536) % 256)
      replace p20 := eq_true p20
      replace q20 := eq_true q20
      have H := HH.out
      obtain rfl := Option.some.inj H
      clear HH
      go_wp2
      go_ret
      exact ⟨by first | rfl | (simp; done) | (simp [*]; done), by repeat (first | exact Drawn0.refl _ | apply Drawn0.step)⟩
  · replace HH := zqG HH
    rcases HH with ⟨HH, hk26⟩ | ⟨HH, hk36⟩
    · replace HH := zqdo HH
      obtain ⟨HH, hk28⟩ := HH
      replace HH := zqto HH
      obtain ⟨HH, hk30, hk31⟩ := HH
      have p32 : 0 ≤ (((a0 / 256) % 256) : Int) := of_decide_eq_true (by first | (with_reducible assumption) | assumption)
      have q32 : ((a0 / 256) % 256) < (256 : Int) := of_decide_eq_true (by first | (with_reducible assumption) | assumption)
      have hx32 := MW.bt_at' (⟨#[0, 1, 2, 2, 3, 3, 3, 3, 4, 4, 4, 4, 4, 4, 4, 4, 5, 5, 5, 5, 5, 5, 5, 5, 5, 5, 5, 5, 5, 5, 5, 5, 6, 6, 6, 6, 6, 6, 6, 6, 6, 6, 6, 6, 6, 6, 6, 6, 6, 6, 6, 6, 6, 6, 6, 6, 6, 6, 6, 6, 6, 6, 6, 6, 7, 7, 7, 7, 7, 7, 7, 7, 7, 7, 7, 7, 7, 7, 7, 7, 7, 7, 7, 7, 7, 7, 7, 7, 7, 7, 7, 7, 7, 7, 7, 7, 7, 7, 7, 7, 7, 7, 7, 7, 7, 7, 7, 7, 7, 7, 7, 7, 7, 7, 7, 7, 7, 7, 7, 7, 7, 7, 7, 7, 7, 7, 7, 7, 8, 8, 8, 8, 8, 8, 8, 8, 8, 8, 8, 8, 8, 8, 8, 8, 8, 8, 8, 8, 8, 8, 8, 8, 8, 8, 8, 8, 8, 8, 8, 8, 8, 8, 8, 8, 8, 8, 8, 8, 8, 8, 8, 8, 8, 8, 8, 8, 8, 8, 8, 8, 8, 8, 8, 8, 8, 8, 8, 8, 8, 8, 8, 8, 8, 8, 8, 8, 8, 8, 8, 8, 8, 8, 8, 8, 8, 8, 8, 8, 8, 8, 8, 8, 8, 8, 8, 8, 8, 8, 8, 8, 8, 8, 8, 8, 8, 8, 8, 8, 8, 8, 8, 8, 8, 8, 8, 8, 8, 8, 8, 8, 8, 8, 8, 8, 8, 8, 8, 8, 8, 8, 8, 8, 8, 8, 8, 8]⟩ : ByteArray) ((a0 / 256) % 256)
      replace p32 := eq_true p32
      replace q32 := eq_true q32
      have H := HH.out
      obtain rfl := Option.some.inj H
      clear HH
      go_wp2
      go_ret
      exact ⟨by first | rfl | (simp; done) | (simp [*]; done), by repeat (first | exact Drawn0.refl _ | apply Drawn0.step)⟩
    · replace HH := zqdo HH
      obtain ⟨HH, hk38⟩ := HH
      replace HH := zqto HH
      obtain ⟨HH, hk40, hk41⟩ := HH
      have p42 : 0 ≤ (((a0) % 256) : Int) := of_decide_eq_true (by first | (with_reducible assumption) | assumption)
      have q42 : ((a0) % 256) < (256 : Int) := of_decide_eq_true (by first | (with_reducible assumption) | assumption)
      have hx42 := MW.bt_at' (⟨#[0, 1, 2, 2, 3, 3, 3, 3, 4, 4, 4, 4, 4, 4, 4, 4, 5, 5, 5, 5, 5, 5, 5, 5, 5, 5, 5, 5, 5, 5, 5, 5, 6, 6, 6, 6, 6, 6, 6, 6, 6, 6, 6, 6, 6, 6, 6, 6, 6, 6, 6, 6, 6, 6, 6, 6, 6, 6, 6, 6, 6, 6, 6, 6, 7, 7, 7, 7, 7, 7, 7, 7, 7, 7, 7, 7, 7, 7, 7, 7, 7, 7, 7, 7, 7, 7, 7, 7, 7, 7, 7, 7, 7, 7, 7, 7, 7, 7, 7, 7, 7, 7, 7, 7, 7, 7, 7, 7, 7, 7, 7, 7, 7, 7, 7, 7, 7, 7, 7, 7, 7, 7, 7, 7, 7, 7, 7, 7, 8, 8, 8, 8, 8, 8, 8, 8, 8, 8, 8, 8, 8, 8, 8, 8, 8, 8, 8, 8, 8, 8, 8, 8, 8, 8, 8, 8, 8, 8, 8, 8, 8, 8, 8, 8, 8, 8, 8, 8, 8, 8, 8, 8, 8, 8, 8, 8, 8, 8, 8, 8, 8, 8, 8, 8, 8, 8, 8, 8, 8, 8, 8, 8, 8, 8, 8, 8, 8, 8, 8, 8, 8, 8, 8, 8, 8, 8, 8, 8, 8, 8, 8, 8, 8, 8, 8, 8, 8, 8, 8, 8, 8, 8, 8, 8, 8, 8, 8, 8, 8, 8, 8, 8, 8, 8, 8, 8, 8, 8, 8, 8, 8, 8, 8, 8, 8, 8, 8, 8, 8, 8, 8, 8, 8, 8, 8, 8]⟩ : ByteArray) ((a0) % 256)
      replace p42 := eq_true p42
      replace q42 := eq_true q42
      have H := HH.out
      obtain rfl := Option.some.inj H
      clear HH
      go_wp2
      go_ret
      exact ⟨by first | rfl | (simp; done) | (simp [*]; done), by repeat (first | exact Drawn0.refl _ | apply Drawn0.step)⟩

/-! ### bits_Len64: function 46 -/
def bits_Len64.f (a0 : Int) : Option (Int) := if a0 ≥ 4294967296 then (if (a0 / 4294967296) ≥ 65536 then (if ((a0 / 4294967296) / 65536) ≥ 256 then (if 0 ≤ ((((a0 / 4294967296) / 65536) / 256) % 256) then (if ((((a0 / 4294967296) / 65536) / 256) % 256) < 256 then (some (wrap64 (56 + (wrap64 (bt (⟨#[0, 1, 2, 2, 3, 3, 3, 3, 4, 4, 4, 4, 4, 4, 4, 4, 5, 5, 5, 5, 5, 5, 5, 5, 5, 5, 5, 5, 5, 5, 5, 5, 6, 6, 6, 6, 6, 6, 6, 6, 6, 6, 6, 6, 6, 6, 6, 6, 6, 6, 6, 6, 6, 6, 6, 6, 6, 6, 6, 6, 6, 6, 6, 6, 7, 7, 7, 7, 7, 7, 7, 7, 7, 7, 7, 7, 7, 7, 7, 7, 7, 7, 7, 7, 7, 7, 7, 7, 7, 7, 7, 7, 7, 7, 7, 7, 7, 7, 7, 7, 7, 7, 7, 7, 7, 7, 7, 7, 7, 7, 7, 7, 7, 7, 7, 7, 7, 7, 7, 7, 7, 7, 7, 7, 7, 7, 7, 7, 8, 8, 8, 8, 8, 8, 8, 8, 8, 8, 8, 8, 8, 8, 8, 8, 8, 8, 8, 8, 8, 8, 8, 8, 8, 8, 8, 8, 8, 8, 8, 8, 8, 8, 8, 8, 8, 8, 8, 8, 8, 8, 8, 8, 8, 8, 8, 8, 8, 8, 8, 8, 8, 8, 8, 8, 8, 8, 8, 8, 8, 8, 8, 8, 8, 8, 8, 8, 8, 8, 8, 8, 8, 8, 8, 8, 8, 8, 8, 8, 8, 8, 8, 8, 8, 8, 8, 8, 8, 8, 8, 8, 8, 8, 8, 8, 8, 8, 8, 8, 8, 8, 8, 8, 8, 8, 8, 8, 8, 8, 8, 8, 8, 8, 8, 8, 8, 8, 8, 8, 8, 8, 8, 8, 8, 8, 8, 8]⟩ : ByteArray) ((((a0 / 4294967296) / 65536) / 256) % 256)))))) else (none)) else (none)) else (if 0 ≤ (((a0 / 4294967296) / 65536) % 256) then (if (((a0 / 4294967296) / 65536) % 256) < 256 then (some (wrap64 (48 + (wrap64 (bt (⟨#[0, 1, 2, 2, 3, 3, 3, 3, 4, 4, 4, 4, 4, 4, 4, 4, 5, 5, 5, 5, 5, 5, 5, 5, 5, 5, 5, 5, 5, 5, 5, 5, 6, 6, 6, 6, 6, 6, 6, 6, 6, 6, 6, 6, 6, 6, 6, 6, 6, 6, 6, 6, 6, 6, 6, 6, 6, 6, 6, 6, 6, 6, 6, 6, 7, 7, 7, 7, 7, 7, 7, 7, 7, 7, 7, 7, 7, 7, 7, 7, 7, 7, 7, 7, 7, 7, 7, 7, 7, 7, 7, 7, 7, 7, 7, 7, 7, 7, 7, 7, 7, 7, 7, 7, 7, 7, 7, 7, 7, 7, 7, 7, 7, 7, 7, 7, 7, 7, 7, 7, 7, 7, 7, 7, 7, 7, 7, 7, 8, 8, 8, 8, 8, 8, 8, 8, 8, 8, 8, 8, 8, 8, 8, 8, 8, 8, 8, 8, 8, 8, 8, 8, 8, 8, 8, 8, 8, 8, 8, 8, 8, 8, 8, 8, 8, 8, 8, 8, 8, 8, 8, 8, 8, 8, 8, 8, 8, 8, 8, 8, 8, 8, 8, 8, 8, 8, 8, 8, 8, 8, 8, 8, 8, 8, 8, 8, 8, 8, 8, 8, 8, 8, 8, 8, 8, 8, 8, 8, 8, 8, 8, 8, 8, 8, 8, 8, 8, 8, 8, 8, 8, 8, 8, 8, 8, 8, 8, 8, 8, 8, 8, 8, 8, 8, 8, 8, 8, 8, 8, 8, 8, 8, 8, 8, 8, 8, 8, 8, 8, 8, 8, 8, 8, 8, 8, 8]⟩ : ByteArray) (((a0 / 4294967296) / 65536) % 256)))))) else (none)) else (none))) else (if (a0 / 4294967296) ≥ 256 then (if 0 ≤ (((a0 / 4294967296) / 256) % 256) then (if (((a0 / 4294967296) / 256) % 256) < 256 then (some (wrap64 (40 + (wrap64 (bt (⟨#[0, 1, 2, 2, 3, 3, 3, 3, 4, 4, 4, 4, 4, 4, 4, 4, 5, 5, 5, 5, 5, 5, 5, 5, 5, 5, 5, 5, 5, 5, 5, 5, 6, 6, 6, 6, 6, 6, 6, 6, 6, 6, 6, 6, 6, 6, 6, 6, 6, 6, 6, 6, 6, 6, 6, 6, 6, 6, 6, 6, 6, 6, 6, 6, 7, 7, 7, 7, 7, 7, 7, 7, 7, 7, 7, 7, 7, 7, 7, 7, 7, 7, 7, 7, 7, 7, 7, 7, 7, 7, 7, 7, 7, 7, 7, 7, 7, 7, 7, 7, 7, 7, 7, 7, 7, 7, 7, 7, 7, 7, 7, 7, 7, 7, 7, 7, 7, 7, 7, 7, 7, 7, 7, 7, 7, 7, 7, 7, 8, 8, 8, 8, 8, 8, 8, 8, 8, 8, 8, 8, 8, 8, 8, 8, 8, 8, 8, 8, 8, 8, 8, 8, 8, 8, 8, 8, 8, 8, 8, 8, 8, 8, 8, 8, 8, 8, 8, 8, 8, 8, 8, 8, 8, 8, 8, 8, 8, 8, 8, 8, 8, 8, 8, 8, 8, 8, 8, 8, 8, 8, 8, 8, 8, 8, 8, 8, 8, 8, 8, 8, 8, 8, 8, 8, 8, 8, 8, 8, 8, 8, 8, 8, 8, 8, 8, 8, 8, 8, 8, 8, 8, 8, 8, 8, 8, 8, 8, 8, 8, 8, 8, 8, 8, 8, 8, 8, 8, 8, 8, 8, 8, 8, 8, 8, 8, 8, 8, 8, 8, 8, 8, 8, 8, 8, 8, 8]⟩ : ByteArray) (((a0 / 4294967296) / 256) % 256)))))) else (none)) else (none)) else (if 0 ≤ ((a0 / 4294967296) % 256) then (if ((a0 / 4294967296) % 256) < 256 then (some (wrap64 (32 + (wrap64 (bt (⟨#[0, 1, 2, 2, 3, 3, 3, 3, 4, 4, 4, 4, 4, 4, 4, 4, 5, 5, 5, 5, 5, 5, 5, 5, 5, 5, 5, 5, 5, 5, 5, 5, 6, 6, 6, 6, 6, 6, 6, 6, 6, 6, 6, 6, 6, 6, 6, 6, 6, 6, 6, 6, 6, 6, 6, 6, 6, 6, 6, 6, 6, 6, 6, 6, 7, 7, 7, 7, 7, 7, 7, 7, 7, 7, 7, 7, 7, 7, 7, 7, 7, 7, 7, 7, 7, 7, 7, 7, 7, 7, 7, 7, 7, 7, 7, 7, 7, 7, 7, 7, 7, 7, 7, 7, 7, 7, 7, 7, 7, 7, 7, 7, 7, 7, 7, 7, 7, 7, 7, 7, 7, 7, 7, 7, 7, 7, 7, 7, 8, 8, 8, 8, 8, 8, 8, 8, 8, 8, 8, 8, 8, 8, 8, 8, 8, 8, 8, 8, 8, 8, 8, 8, 8, 8, 8, 8, 8, 8, 8, 8, 8, 8, 8, 8, 8, 8, 8, 8, 8, 8, 8, 8, 8, 8, 8, 8, 8, 8, 8, 8, 8, 8, 8, 8, 8, 8, 8, 8, 8, 8, 8, 8, 8, 8, 8, 8, 8, 8, 8, 8, 8, 8, 8, 8, 8, 8, 8, 8, 8, 8, 8, 8, 8, 8, 8, 8, 8, 8, 8, 8, 8, 8, 8, 8, 8, 8, 8, 8, 8, 8, 8, 8, 8, 8, 8, 8, 8, 8, 8, 8, 8, 8, 8, 8, 8, 8, 8, 8, 8, 8, 8, 8, 8, 8, 8, 8]⟩ : ByteArray) ((a0 / 4294967296) % 256)))))) else (none)) else (none)))) else (if a0 ≥ 65536 then (if (a0 / 65536) ≥ 256 then (if 0 ≤ (((a0 / 65536) / 256) % 256) then (if (((a0 / 65536) / 256) % 256) < 256 then (some (wrap64 (24 + (wrap64 (bt (⟨#[0, 1, 2, 2, 3, 3, 3, 3, 4, 4, 4, 4, 4, 4, 4, 4, 5, 5, 5, 5, 5, 5, 5, 5, 5, 5, 5, 5, 5, 5, 5, 5, 6, 6, 6, 6, 6, 6, 6, 6, 6, 6, 6, 6, 6, 6, 6, 6, 6, 6, 6, 6, 6, 6, 6, 6, 6, 6, 6, 6, 6, 6, 6, 6, 7, 7, 7, 7, 7, 7, 7, 7, 7, 7, 7, 7, 7, 7, 7, 7, 7, 7, 7, 7, 7, 7, 7, 7, 7, 7, 7, 7, 7, 7, 7, 7, 7, 7, 7, 7, 7, 7, 7, 7, 7, 7, 7, 7, 7, 7, 7, 7, 7, 7, 7, 7, 7, 7, 7, 7, 7, 7, 7, 7, 7, 7, 7, 7, 8, 8, 8, 8, 8, 8, 8, 8, 8, 8, 8, 8, 8, 8, 8, 8, 8, 8, 8, 8, 8, 8, 8, 8, 8, 8, 8, 8, 8, 8, 8, 8, 8, 8, 8, 8, 8, 8, 8, 8, 8, 8, 8, 8, 8, 8, 8, 8, 8, 8, 8, 8, 8, 8, 8, 8, 8, 8, 8, 8, 8, 8, 8, 8, 8, 8, 8, 8, 8, 8, 8, 8, 8, 8, 8, 8, 8, 8, 8, 8, 8, 8, 8, 8, 8, 8, 8, 8, 8, 8, 8, 8, 8, 8, 8, 8, 8, 8, 8, 8, 8, 8, 8, 8, 8, 8, 8, 8, 8, 8, 8, 8, 8, 8, 8, 8, 8, 8, 8, 8, 8, 8, 8, 8, 8, 8, 8, 8]⟩ : ByteArray) (((a0 / 65536) / 256) % 256)))))) else (none)) else (none)) else (if 0 ≤ ((a0 / 65536) % 256) then (if ((a0 / 65536) % 256) < 256 then (some (wrap64 (16 + (wrap64 (bt (⟨#[0, 1, 2, 2, 3, 3, 3, 3, 4, 4, 4, 4, 4, 4, 4, 4, 5, 5, 5, 5, 5, 5, 5, 5, 5, 5, 5, 5, 5, 5, 5, 5, 6, 6, 6, 6, 6, 6, 6, 6, 6, 6, 6, 6, 6, 6, 6, 6, 6, 6, 6, 6, 6, 6, 6, 6, 6, 6, 6, 6, 6, 6, 6, 6, 7, 7, 7, 7, 7, 7, 7, 7, 7, 7, 7, 7, 7, 7, 7, 7, 7, 7, 7, 7, 7, 7, 7, 7, 7, 7, 7, 7, 7, 7, 7, 7, 7, 7, 7, 7, 7, 7, 7, 7, 7, 7, 7, 7, 7, 7, 7, 7, 7, 7, 7, 7, 7, 7, 7, 7, 7, 7, 7, 7, 7, 7, 7, 7, 8, 8, 8, 8, 8, 8, 8, 8, 8, 8, 8, 8, 8, 8, 8, 8, 8, 8, 8, 8, 8, 8, 8, 8, 8, 8, 8, 8, 8, 8, 8, 8, 8, 8, 8, 8, 8, 8, 8, 8, 8, 8, 8, 8, 8, 8, 8, 8, 8, 8, 8, 8, 8, 8, 8, 8, 8, 8, 8, 8, 8, 8, 8, 8, 8, 8, 8, 8, 8, 8, 8, 8, 8, 8, 8, 8, 8, 8, 8, 8, 8, 8, 8, 8, 8, 8, 8, 8, 8, 8, 8, 8, 8, 8, 8, 8, 8, 8, 8, 8, 8, 8, 8, 8, 8, 8, 8, 8, 8, 8, 8, 8, 8, 8, 8, 8, 8, 8, 8, 8, 8, 8, 8, 8, 8, 8, 8, 8]⟩ : ByteArray) ((a0 / 65536) % 256)))))) else (none)) else (none))) else (if a0 ≥ 256 then (if 0 ≤ ((a0 / 256) % 256) then (if ((a0 / 256) % 256) < 256 then (some (wrap64 (8 + (wrap64 (bt (⟨#[0, 1, 2, 2, 3, 3, 3, 3, 4, 4, 4, 4, 4, 4, 4, 4, 5, 5, 5, 5, 5, 5, 5, 5, 5, 5, 5, 5, 5, 5, 5, 5, 6, 6, 6, 6, 6, 6, 6, 6, 6, 6, 6, 6, 6, 6, 6, 6, 6, 6, 6, 6, 6, 6, 6, 6, 6, 6, 6, 6, 6, 6, 6, 6, 7, 7, 7, 7, 7, 7, 7, 7, 7, 7, 7, 7, 7, 7, 7, 7, 7, 7, 7, 7, 7, 7, 7, 7, 7, 7, 7, 7, 7, 7, 7, 7, 7, 7, 7, 7, 7, 7, 7, 7, 7, 7, 7, 7, 7, 7, 7, 7, 7, 7, 7, 7, 7, 7, 7, 7, 7, 7, 7, 7, 7, 7, 7, 7, 8, 8, 8, 8, 8, 8, 8, 8, 8, 8, 8, 8, 8, 8, 8, 8, 8, 8, 8, 8, 8, 8, 8, 8, 8, 8, 8, 8, 8, 8, 8, 8, 8, 8, 8, 8, 8, 8, 8, 8, 8, 8, 8, 8, 8, 8, 8, 8, 8, 8, 8, 8, 8, 8, 8, 8, 8, 8, 8, 8, 8, 8, 8, 8, 8, 8, 8, 8, 8, 8, 8, 8, 8, 8, 8, 8, 8, 8, 8, 8, 8, 8, 8, 8, 8, 8, 8, 8, 8, 8, 8, 8, 8, 8, 8, 8, 8, 8, 8, 8, 8, 8, 8, 8, 8, 8, 8, 8, 8, 8, 8, 8, 8, 8, 8, 8, 8, 8, 8, 8, 8, 8, 8, 8, 8, 8, 8, 8]⟩ : ByteArray) ((a0 / 256) % 256)))))) else (none)) else (none)) else (if 0 ≤ ((a0) % 256) then (if ((a0) % 256) < 256 then (some (wrap64 (0 + (wrap64 (bt (⟨#[0, 1, 2, 2, 3, 3, 3, 3, 4, 4, 4, 4, 4, 4, 4, 4, 5, 5, 5, 5, 5, 5, 5, 5, 5, 5, 5, 5, 5, 5, 5, 5, 6, 6, 6, 6, 6, 6, 6, 6, 6, 6, 6, 6, 6, 6, 6, 6, 6, 6, 6, 6, 6, 6, 6, 6, 6, 6, 6, 6, 6, 6, 6, 6, 7, 7, 7, 7, 7, 7, 7, 7, 7, 7, 7, 7, 7, 7, 7, 7, 7, 7, 7, 7, 7, 7, 7, 7, 7, 7, 7, 7, 7, 7, 7, 7, 7, 7, 7, 7, 7, 7, 7, 7, 7, 7, 7, 7, 7, 7, 7, 7, 7, 7, 7, 7, 7, 7, 7, 7, 7, 7, 7, 7, 7, 7, 7, 7, 8, 8, 8, 8, 8, 8, 8, 8, 8, 8, 8, 8, 8, 8, 8, 8, 8, 8, 8, 8, 8, 8, 8, 8, 8, 8, 8, 8, 8, 8, 8, 8, 8, 8, 8, 8, 8, 8, 8, 8, 8, 8, 8, 8, 8, 8, 8, 8, 8, 8, 8, 8, 8, 8, 8, 8, 8, 8, 8, 8, 8, 8, 8, 8, 8, 8, 8, 8, 8, 8, 8, 8, 8, 8, 8, 8, 8, 8, 8, 8, 8, 8, 8, 8, 8, 8, 8, 8, 8, 8, 8, 8, 8, 8, 8, 8, 8, 8, 8, 8, 8, 8, 8, 8, 8, 8, 8, 8, 8, 8, 8, 8, 8, 8, 8, 8, 8, 8, 8, 8, 8, 8, 8, 8, 8, 8, 8, 8]⟩ : ByteArray) ((a0) % 256)))))) else (none)) else (none))))
set_option maxHeartbeats 8000000 in
set_option maxRecDepth 100000 in
theorem bits_Len64.calls (a0 : Int) (r : Int) (w : World) (h : bits_Len64.f a0 = some r) :
    Calls Try.prog 46 #[.int .u64 a0] w (fun e w' => e = .returned (.int .i64 r) ∧ Drawn0 w w') := by
  unfold bits_Len64.f at h
  have HH := Aside0.mk h
  clear h
  go_enter Try.func46, Try.ntmps46
  replace HH := zqG HH
  rcases HH with ⟨HH, hk2⟩ | ⟨HH, hk48⟩
  · replace HH := zqG HH
    rcases HH with ⟨HH, hk4⟩ | ⟨HH, hk26⟩
    · replace HH := zqG HH
      rcases HH with ⟨HH, hk6⟩ | ⟨HH, hk16⟩
      · replace HH := zqdo HH
        obtain ⟨HH, hk8⟩ := HH
        replace HH := zqto HH
        obtain ⟨HH, hk10, hk11⟩ := HH
        have p12 : 0 ≤ (((((a0 / 4294967296) / 65536) / 256) % 256) : Int) := of_decide_eq_true (by first | (with_reducible assumption) | assumption)
        have q12 : ((((a0 / 4294967296) / 65536) / 256) % 256) < (256 : Int) := of_decide_eq_true (by first | (with_reducible assumption) | assumption)
        have hx12 := MW.bt_at' (⟨#[0, 1, 2, 2, 3, 3, 3, 3, 4, 4, 4, 4, 4, 4, 4, 4, 5, 5, 5, 5, 5, 5, 5, 5, 5, 5, 5, 5, 5, 5, 5, 5, 6, 6, 6, 6, 6, 6, 6, 6, 6, 6, 6, 6, 6, 6, 6, 6, 6, 6, 6, 6, 6, 6, 6, 6, 6, 6, 6, 6, 6, 6, 6, 6, 7, 7, 7, 7, 7, 7, 7, 7, 7, 7, 7, 7, 7, 7, 7, 7, 7, 7, 7, 7, 7, 7, 7, 7, 7, 7, 7, 7, 7, 7, 7, 7, 7, 7, 7, 7, 7, 7, 7, 7, 7, 7, 7, 7, 7, 7, 7, 7, 7, 7, 7, 7, 7, 7, 7, 7, 7, 7, 7, 7, 7, 7, 7, 7, 8, 8, 8, 8, 8, 8, 8, 8, 8, 8, 8, 8, 8, 8, 8, 8, 8, 8, 8, 8, 8, 8, 8, 8, 8, 8, 8, 8, 8, 8, 8, 8, 8, 8, 8, 8, 8, 8, 8, 8, 8, 8, 8, 8, 8, 8, 8, 8, 8, 8, 8, 8, 8, 8, 8, 8, 8, 8, 8, 8, 8, 8, 8, 8, 8, 8, 8, 8, 8, 8, 8, 8, 8, 8, 8, 8, 8, 8, 8, 8, 8, 8, 8, 8, 8, 8, 8, 8, 8, 8, 8, 8, 8, 8, 8, 8, 8, 8, 8, 8, 8, 8, 8, 8, 8, 8, 8, 8, 8, 8, 8, 8, 8, 8, 8, 8, 8, 8, 8, 8, 8, 8, 8, 8, 8, 8, 8, 8]⟩ : ByteArray) ((((a0 / 4294967296) / 65536) / 256) % 256)
        replace p12 := eq_true p12
        replace q12 := eq_true q12
        have H := HH.out
        obtain rfl := Option.some.inj H
        clear HH
        go_wp2
        go_ret
        exact ⟨by first | rfl | (simp; done) | (simp [*]; done), by repeat (first | exact Drawn0.refl _ | apply Drawn0.step)⟩
      · replace HH := zqdo HH
        obtain ⟨HH, hk18⟩ := HH
        replace HH := zqto HH
        obtain ⟨HH, hk20, hk21⟩ := HH
        have p22 : 0 ≤ ((((a0 / 4294967296) / 65536) % 256) : Int) := of_decide_eq_true (by first | (with_reducible assumption) | assumption)
        have q22 : (((a0 / 4294967296) / 65536) % 256) < (256 : Int) := of_decide_eq_true (by first | (with_reducible assumption) | assumption)
        have hx22 := MW.bt_at' (⟨#[0, 1, 2, 2, 3, 3, 3, 3, 4, 4, 4, 4, 4, 4, 4, 4, 5, 5, 5, 5, 5, 5, 5, 5, 5, 5, 5, 5, 5, 5, 5, 5, 6, 6, 6, 6, 6, 6, 6, 6, 6, 6, 6, 6, 6, 6, 6, 6, 6, 6, 6, 6, 6, 6, 6, 6, 6, 6, 6, 6, 6, 6, 6, 6, 7, 7, 7, 7, 7, 7, 7, 7, 7, 7, 7, 7, 7, 7, 7, 7, 7, 7, 7, 7, 7, 7, 7, 7, 7, 7, 7, 7, 7, 7, 7, 7, 7, 7, 7, 7, 7, 7, 7, 7, 7, 7, 7, 7, 7, 7, 7, 7, 7, 7, 7, 7, 7, 7, 7, 7, 7, 7, 7, 7, 7, 7, 7, 7, 8, 8, 8, 8, 8, 8, 8, 8, 8, 8, 8, 8, 8, 8, 8, 8, 8, 8, 8, 8, 8, 8, 8, 8, 8, 8, 8, 8, 8, 8, 8, 8, 8, 8, 8, 8, 8, 8, 8, 8, 8, 8, 8, 8, 8, 8, 8, 8, 8, 8, 8, 8, 8, 8, 8, 8, 8, 8, 8, 8, 8, 8, 8, 8, 8, 8, 8, 8, 8, 8, 8, 8, 8, 8, 8, 8, 8, 8, 8, 8, 8, 8, 8, 8, 8, 8, 8, 8, 8, 8, 8, 8, 8, 8, 8, 8, 8, 8, 8, 8, 8, 8, 8, 8, 8, 8, 8, 8, 8, 8, 8, 8, 8, 8, 8, 8, 8, 8, 8, 8, 8, 8, 8, 8, 8, 8, 8, 8]⟩ : ByteArray) (((a0 / 4294967296) / 65536) % 256)
        replace p22 := eq_true p22
        replace q22 := eq_true q22
        have H := HH.out
        obtain rfl := Option.some.inj H
        clear HH
        go_wp2
        go_ret
        exact ⟨by first | rfl | (simp; done) | (simp [*]; done), by repeat (first | exact Drawn0.refl _ | apply Drawn0.step)⟩
    · replace HH := zqG HH
      rcases HH with ⟨HH, hk28⟩ | ⟨HH, hk38⟩
      · replace HH := zqdo HH
        obtain ⟨HH, hk30⟩ := HH
        replace HH := zqto HH
        obtain ⟨HH, hk32, hk33⟩ := HH
        have p34 : 0 ≤ ((((a0 / 4294967296) / 256) % 256) : Int) := of_decide_eq_true (by first | (with_reducible assumption) | assumption)
        have q34 : (((a0 / 4294967296) / 256) % 256) < (256 : Int) := of_decide_eq_true (by first | (with_reducible assumption) | assumption)
        have hx34 := MW.bt_at' (⟨#[0, 1, 2, 2, 3, 3, 3, 3, 4, 4, 4, 4, 4, 4, 4, 4, 5, 5, 5, 5, 5, 5, 5, 5, 5, 5, 5, 5, 5, 5, 5, 5, 6, 6, 6, 6, 6, 6, 6, 6, 6, 6, 6, 6, 6, 6, 6, 6, 6, 6, 6, 6, 6, 6, 6, 6, 6, 6, 6, 6, 6, 6, 6, 6, 7, 7, 7, 7, 7, 7, 7, 7, 7, 7, 7, 7, 7, 7, 7, 7, 7, 7, 7, 7, 7, 7, 7, 7, 7, 7, 7, 7, 7, 7, 7, 7, 7, 7, 7, 7, 7, 7, 7, 7, 7, 7, 7, 7, 7, 7, 7, 7, 7, 7, 7, 7, 7, 7, 7, 7, 7, 7, 7, 7, 7, 7, 7, 7, 8, 8, 8, 8, 8, 8, 8, 8, 8, 8, 8, 8, 8, 8, 8, 8, 8, 8, 8, 8, 8, 8, 8, 8, 8, 8, 8, 8, 8, 8, 8, 8, 8, 8, 8, 8, 8, 8, 8, 8, 8, 8, 8, 8, 8, 8, 8, 8, 8, 8, 8, 8, 8, 8, 8, 8, 8, 8, 8, 8, 8, 8, 8, 8, 8, 8, 8, 8, 8, 8, 8, 8, 8, 8, 8, 8, 8, 8, 8, 8, 8, 8, 8, 8, 8, 8, 8, 8, 8, 8, 8, 8, 8, 8, 8, 8, 8, 8, 8, 8, 8, 8, 8, 8, 8, 8, 8, 8, 8, 8, 8, 8, 8, 8, 8, 8, 8, 8, 8, 8, 8, 8, 8, 8, 8, 8, 8, 8]⟩ : ByteArray) (((a0 / 4294967296) / 256) % 256)
        replace p34 := eq_true p34
        replace q34 := eq_true q34
        have H := HH.out
        obtain rfl := Option.some.inj H
        clear HH
        go_wp2
        go_ret
        exact ⟨by first | rfl | (simp; done) | (simp [*]; done), by repeat (first | exact Drawn0.refl _ | apply Drawn0.step)⟩
      · replace HH := zqdo HH
        obtain ⟨HH, hk40⟩ := HH
        replace HH := zqto HH
        obtain ⟨HH, hk42, hk43⟩ := HH
        have p44 : 0 ≤ (((a0 / 4294967296) % 256) : Int) := of_decide_eq_true (by first | (with_reducible assumption) | assumption)
        have q44 : ((a0 / 4294967296) % 256) < (256 : Int) := of_decide_eq_true (by first | (with_reducible assumption) | assumption)
        have hx44 := MW.bt_at' (⟨#[0, 1, 2, 2, 3, 3, 3, 3, 4, 4, 4, 4, 4, 4, 4, 4, 5, 5, 5, 5, 5, 5, 5, 5, 5, 5, 5, 5, 5, 5, 5, 5, 6, 6, 6, 6, 6, 6, 6, 6, 6, 6, 6, 6, 6, 6, 6, 6, 6, 6, 6, 6, 6, 6, 6, 6, 6, 6, 6, 6, 6, 6, 6, 6, 7, 7, 7, 7, 7, 7, 7, 7, 7, 7, 7, 7, 7, 7, 7, 7, 7, 7, 7, 7, 7, 7, 7, 7, 7, 7, 7, 7, 7, 7, 7, 7, 7, 7, 7, 7, 7, 7, 7, 7, 7, 7, 7, 7, 7, 7, 7, 7, 7, 7, 7, 7, 7, 7, 7, 7, 7, 7, 7, 7, 7, 7, 7, 7, 8, 8, 8, 8, 8, 8, 8, 8, 8, 8, 8, 8, 8, 8, 8, 8, 8, 8, 8, 8, 8, 8, 8, 8, 8, 8, 8, 8, 8, 8, 8, 8, 8, 8, 8, 8, 8, 8, 8, 8, 8, 8, 8, 8, 8, 8, 8, 8, 8, 8, 8, 8, 8, 8, 8, 8, 8, 8, 8, 8, 8, 8, 8, 8, 8, 8, 8, 8, 8, 8, 8, 8, 8, 8, 8, 8, 8, 8, 8, 8, 8, 8, 8, 8, 8, 8, 8, 8, 8, 8, 8, 8, 8, 8, 8, 8, 8, 8, 8, 8, 8, 8, 8, 8, 8, 8, 8, 8, 8, 8, 8, 8, 8, 8, 8, 8, 8, 8, 8, 8, 8, 8, 8, 8, 8, 8, 8, 8]⟩ : ByteArray) ((a0 / 4294967296) % 256)
        replace p44 := eq_true p44
        replace q44 := eq_true q44
        have H := HH.out
        obtain rfl := Option.some.inj H
        clear HH
        go_wp2
        go_ret
        exact ⟨by first | rfl | (simp; done) | (simp [*]; done), by repeat (first | exact Drawn0.refl _ | apply Drawn0.step)⟩
  · replace HH := zqG HH
    rcases HH with ⟨HH, hk50⟩ | ⟨HH, hk72⟩
    · replace HH := zqG HH
      rcases HH with ⟨HH, hk52⟩ | ⟨HH, hk62⟩
      · replace HH := zqdo HH
        obtain ⟨HH, hk54⟩ := HH
        replace HH := zqto HH
        obtain ⟨HH, hk56, hk57⟩ := HH
        have p58 : 0 ≤ ((((a0 / 65536) / 256) % 256) : Int) := of_decide_eq_true (by first | (with_reducible assumption) | assumption)
        have q58 : (((a0 / 65536) / 256) % 256) < (256 : Int) := of_decide_eq_true (by first | (with_reducible assumption) | assumption)
        have hx58 := MW.bt_at' (⟨#[0, 1, 2, 2, 3, 3, 3, 3, 4, 4, 4, 4, 4, 4, 4, 4, 5, 5, 5, 5, 5, 5, 5, 5, 5, 5, 5, 5, 5, 5, 5, 5, 6, 6, 6, 6, 6, 6, 6, 6, 6, 6, 6, 6, 6, 6, 6, 6, 6, 6, 6, 6, 6, 6, 6, 6, 6, 6, 6, 6, 6, 6, 6, 6, 7, 7, 7, 7, 7, 7, 7, 7, 7, 7, 7, 7, 7, 7, 7, 7, 7, 7, 7, 7, 7, 7, 7, 7, 7, 7, 7, 7, 7, 7, 7, 7, 7, 7, 7, 7, 7, 7, 7, 7, 7, 7, 7, 7, 7, 7, 7, 7, 7, 7, 7, 7, 7, 7, 7, 7, 7, 7, 7, 7, 7, 7, 7, 7, 8, 8, 8, 8, 8, 8, 8, 8, 8, 8, 8, 8, 8, 8, 8, 8, 8, 8, 8, 8, 8, 8, 8, 8, 8, 8, 8, 8, 8, 8, 8, 8, 8, 8, 8, 8, 8, 8, 8, 8, 8, 8, 8, 8, 8, 8, 8, 8, 8, 8, 8, 8, 8, 8, 8, 8, 8, 8, 8, 8, 8, 8, 8, 8, 8, 8, 8, 8, 8, 8, 8, 8, 8, 8, 8, 8, 8, 8, 8, 8, 8, 8, 8, 8, 8, 8, 8, 8, 8, 8, 8, 8, 8, 8, 8, 8, 8, 8, 8, 8, 8, 8, 8, 8, 8, 8, 8, 8, 8, 8, 8, 8, 8, 8, 8, 8, 8, 8, 8, 8, 8, 8, 8, 8, 8, 8, 8, 8]⟩ : ByteArray) (((a0 / 65536) / 256) % 256)
        replace p58 := eq_true p58
        replace q58 := eq_true q58
        have H := HH.out
        obtain rfl := Option.some.inj H
        clear HH
        go_wp2
        go_ret
        exact ⟨by first | rfl | (simp; done) | (simp [*]; done), by repeat (first | exact Drawn0.refl _ | apply Drawn0.step)⟩
      · replace HH := zqdo HH
        obtain ⟨HH, hk64⟩ := HH
        replace HH := zqto HH
        obtain ⟨HH, hk66, hk67⟩ := HH
        have p68 : 0 ≤ (((a0 / 65536) % 256) : Int) := of_decide_eq_true (by first | (with_reducible assumption) | assumption)
        have q68 : ((a0 / 65536) % 256) < (256 : Int) := of_decide_eq_true (by first | (with_reducible assumption) | assumption)
        have hx68 := MW.bt_at' (⟨#[0, 1, 2, 2, 3, 3, 3, 3, 4, 4, 4, 4, 4, 4, 4, 4, 5, 5, 5, 5, 5, 5, 5, 5, 5, 5, 5, 5, 5, 5, 5, 5, 6, 6, 6, 6, 6, 6, 6, 6, 6, 6, 6, 6, 6, 6, 6, 6, 6, 6, 6, 6, 6, 6, 6, 6, 6, 6, 6, 6, 6, 6, 6, 6, 7, 7, 7, 7, 7, 7, 7, 7, 7, 7, 7, 7, 7, 7, 7, 7, 7, 7, 7, 7, 7, 7, 7, 7, 7, 7, 7, 7, 7, 7, 7, 7, 7, 7, 7, 7, 7, 7, 7, 7, 7, 7, 7, 7, 7, 7, 7, 7, 7, 7, 7, 7, 7, 7, 7, 7, 7, 7, 7, 7, 7, 7, 7, 7, 8, 8, 8, 8, 8, 8, 8, 8, 8, 8, 8, 8, 8, 8, 8, 8, 8, 8, 8, 8, 8, 8, 8, 8, 8, 8, 8, 8, 8, 8, 8, 8, 8, 8, 8, 8, 8, 8, 8, 8, 8, 8, 8, 8, 8, 8, 8, 8, 8, 8, 8, 8, 8, 8, 8, 8, 8, 8, 8, 8, 8, 8, 8, 8, 8, 8, 8, 8, 8, 8, 8, 8, 8, 8, 8, 8, 8, 8, 8, 8, 8, 8, 8, 8, 8, 8, 8, 8, 8, 8, 8, 8, 8, 8, 8, 8, 8, 8, 8, 8, 8, 8, 8, 8, 8, 8, 8, 8, 8, 8, 8, 8, 8, 8, 8, 8, 8, 8, 8, 8, 8, 8, 8, 8, 8, 8, 8, 8]⟩ : ByteArray) ((a0 / 65536) % 256)
        replace p68 := eq_true p68
        replace q68 := eq_true q68
        have H := HH.out
        obtain rfl := Option.some.inj H
        clear HH
        go_wp2
        go_ret
        exact ⟨by first | rfl | (simp; done) | (simp [*]; done), by repeat (first | exact Drawn0.refl _ | apply Drawn0.step)⟩
    · replace HH := zqG HH
      rcases HH with ⟨HH, hk74⟩ | ⟨HH, hk84⟩
      · replace HH := zqdo HH
        obtain ⟨HH, hk76⟩ := HH
        replace HH := zqto HH
        obtain ⟨HH, hk78, hk79⟩ := HH
        have p80 : 0 ≤ (((a0 / 256) % 256) : Int) := of_decide_eq_true (by first | (with_reducible assumption) | assumption)
        have q80 : ((a0 / 256) % 256) < (256 : Int) := of_decide_eq_true (by first | (with_reducible assumption) | assumption)
        have hx80 := MW.bt_at' (⟨#[0, 1, 2, 2, 3, 3, 3, 3, 4, 4, 4, 4, 4, 4, 4, 4, 5, 5, 5, 5, 5, 5, 5, 5, 5, 5, 5, 5, 5, 5, 5, 5, 6, 6, 6, 6, 6, 6, 6, 6, 6, 6, 6, 6, 6, 6, 6, 6, 6, 6, 6, 6, 6, 6, 6, 6, 6, 6, 6, 6, 6, 6, 6, 6, 7, 7, 7, 7, 7, 7, 7, 7, 7, 7, 7, 7, 7, 7, 7, 7, 7, 7, 7, 7, 7, 7, 7, 7, 7, 7, 7, 7, 7, 7, 7, 7, 7, 7, 7, 7, 7, 7, 7, 7, 7, 7, 7, 7, 7, 7, 7, 7, 7, 7, 7, 7, 7, 7, 7, 7, 7, 7, 7, 7, 7, 7, 7, 7, 8, 8, 8, 8, 8, 8, 8, 8, 8, 8, 8, 8, 8, 8, 8, 8, 8, 8, 8, 8, 8, 8, 8, 8, 8, 8, 8, 8, 8, 8, 8, 8, 8, 8, 8, 8, 8, 8, 8, 8, 8, 8, 8, 8, 8, 8, 8, 8, 8, 8, 8, 8, 8, 8, 8, 8, 8, 8, 8, 8, 8, 8, 8, 8, 8, 8, 8, 8, 8, 8, 8, 8, 8, 8, 8, 8, 8, 8, 8, 8, 8, 8, 8, 8, 8, 8, 8, 8, 8, 8, 8, 8, 8, 8, 8, 8, 8, 8, 8, 8, 8, 8, 8, 8, 8, 8, 8, 8, 8, 8, 8, 8, 8, 8, 8, 8, 8, 8, 8, 8, 8, 8, 8, 8, 8, 8, 8, 8]⟩ : ByteArray) ((a0 / 256) % 256)
        replace p80 := eq_true p80
        replace q80 := eq_true q80
        have H := HH.out
        obtain rfl := Option.some.inj H
        clear HH
        go_wp2
        go_ret
        exact ⟨by first | rfl | (simp; done) | (simp [*]; done), by repeat (first | exact Drawn0.refl _ | apply Drawn0.step)⟩
      · replace HH := zqdo HH
        obtain ⟨HH, hk86⟩ := HH
        replace HH := zqto HH
        obtain ⟨HH, hk88, hk89⟩ := HH
        have p90 : 0 ≤ (((a0) % 256) : Int) := of_decide_eq_true (by first | (with_reducible assumption) | assumption)
        have q90 : ((a0) % 256) < (256 : Int) := of_decide_eq_true (by first | (with_reducible assumption) | assumption)
        have hx90 := MW.bt_at' (⟨#[0, 1, 2, 2, 3, 3, 3, 3, 4, 4, 4, 4, 4, 4, 4, 4, 5, 5, 5, 5, 5, 5, 5, 5, 5, 5, 5, 5, 5, 5, 5, 5, 6, 6, 6, 6, 6, 6, 6, 6, 6, 6, 6, 6, 6, 6, 6, 6, 6, 6, 6, 6, 6, 6, 6, 6, 6, 6, 6, 6, 6, 6, 6, 6, 7, 7, 7, 7, 7, 7, 7, 7, 7, 7, 7, 7, 7, 7, 7, 7, 7, 7, 7, 7, 7, 7, 7, 7, 7, 7, 7, 7, 7, 7, 7, 7, 7, 7, 7, 7, 7, 7, 7, 7, 7, 7, 7, 7, 7, 7, 7, 7, 7, 7, 7, 7, 7, 7, 7, 7, 7, 7, 7, 7, 7, 7, 7, 7, 8, 8, 8, 8, 8, 8, 8, 8, 8, 8, 8, 8, 8, 8, 8, 8, 8, 8, 8, 8, 8, 8, 8, 8, 8, 8, 8, 8, 8, 8, 8, 8, 8, 8, 8, 8, 8, 8, 8, 8, 8, 8, 8, 8, 8, 8, 8, 8, 8, 8, 8, 8, 8, 8, 8, 8, 8, 8, 8, 8, 8, 8, 8, 8, 8, 8, 8, 8, 8, 8, 8, 8, 8, 8, 8, 8, 8, 8, 8, 8, 8, 8, 8, 8, 8, 8, 8, 8, 8, 8, 8, 8, 8, 8, 8, 8, 8, 8, 8, 8, 8, 8, 8, 8, 8, 8, 8, 8, 8, 8, 8, 8, 8, 8, 8, 8, 8, 8, 8, 8, 8, 8, 8, 8, 8, 8, 8, 8]⟩ : ByteArray) ((a0) % 256)
        replace p90 := eq_true p90
        replace q90 := eq_true q90
        have H := HH.out
        obtain rfl := Option.some.inj H
        clear HH
        go_wp2
        go_ret
        exact ⟨by first | rfl | (simp; done) | (simp [*]; done), by repeat (first | exact Drawn0.refl _ | apply Drawn0.step)⟩

/-! ### bits_Len: function 35 -/
def bits_Len.f (a0 : Int) : Option (Int) := (bits_Len64.f a0).bind fun t1 => (some t1)
set_option maxHeartbeats 8000000 in
set_option maxRecDepth 100000 in
theorem bits_Len.calls (a0 : Int) (r : Int) (w : World) (h : bits_Len.f a0 = some r) :
    Calls Try.prog 35 #[.int .u64 a0] w (fun e w' => e = .returned (.int .i64 r) ∧ Drawn0 w w') := by
  unfold bits_Len.f at h
  have HH := Aside0.mk h
  clear h
  go_enter Try.func35, Try.ntmps35
  replace HH := zd HH
  obtain ⟨t1, At2, HH⟩ := HH
  go_wp2_with ((with_reducible refine gc 46 rfl ?_); refine zc 46 (some 7) Try.func46 #[.int .u64 a0] (h := ?_); (with_reducible refine (bits_Len64.calls  a0 t1 _  At2.out).mono ?_); rintro e w' ⟨rfl, ⟨nd, rfl⟩⟩; refine ⟨_, rfl, ?_⟩)
  refine Stop.go ?_
  have H := HH.out
  obtain rfl := Option.some.inj H
  clear HH
  go_wp2
  go_ret
  exact ⟨by first | rfl | (simp; done) | (simp [*]; done), by repeat (first | exact Drawn0.refl _ | apply Drawn0.step)⟩

/-! ### slices_Compact_rune_rune: function 32 -/
def slices_Compact_rune_rune.f (l0 : List Int) : Option (List Int) := some (Go.Lib.compact l0)
theorem N_max {α : Type} {d : Kd α} {e base n c : Nat} {A : Option Addr} {W : World} {ok : Nat → Prop} {xs : List α} (h : Kd.N d e W base ok (.slice A n c) xs) : n ≤ maxLen := by
  obtain ⟨_, rows, hl, ⟨_, inner, ⟨_, ho⟩, _⟩, _⟩ := h
  rcases ho with ⟨h1, h2⟩ | ⟨g, cap, cur, hv, _, _, h3, h4, _⟩
  · injection h1 with _ h3
    omega
  · injection hv with _ h5
    omega
theorem at_arr (xs : List Int) (j : Nat) (h : j < xs.length) : rd xs (j : Int) = xs.toArray[j]! := by
  simp [rd, rdOf, List.getD, h]
theorem grown_drewN (w : World) (q n : Nat) {g : Nat} : w.grownBy (w.drewN (q + n)) (some g) := ⟨rfl, rfl, rfl, Nat.le_refl _, fun _ _ _ => rfl⟩
theorem grown_drew2 {w W : World} {n g : Nat} (h : w.grownBy W (some g)) : w.grownBy (W.drewN n) (some g) := ⟨h.os, h.tape, h.output, h.size, h.block⟩
theorem zero21 (w : World) : (zeroValue 21).run Try.prog w = .ok (.int .i32 0) w := by
  obtain ⟨i, h1, h2, _⟩ := info_parts info21
  simp [zeroValue, typeInfo, h1, h2]
theorem comp_keep {d xs : List Int} {m k : Nat} {u : Int} (h : Go.Lib.CompInv d.toArray m k xs.toArray) (hm : m < d.length) (hu : d.toArray[m]! = u) (hk : Go.Lib.keeps d.toArray m = true) : Go.Lib.CompInv d.toArray (m + 1) (k + 1) (xs.set k u).toArray := by
  have h1 := h.keep (by simpa using hm) hk
  rw [hu] at h1
  simpa using h1
theorem grown_any {w W : World} {g : Nat} (h : Below w.heap.size w W) : w.grownBy W (some g) := ⟨h.os, h.tape, h.output, h.size, fun k hk _ => h.block k hk⟩
theorem below_grown {B g : Nat} {w W : World} (hb : B ≤ g) (hw : B ≤ w.heap.size) (h : w.grownBy W (some g)) : Below B w W := ⟨h.os, h.tape, h.output, h.size, fun k hk => h.block k (Nat.lt_of_lt_of_le hk hw) (fun e => by injection e with e; omega)⟩
set_option maxHeartbeats 8000000 in
set_option maxRecDepth 100000 in
theorem slices_Compact_rune_rune.calls0 (B_ : Nat) (A0 : Option Addr) (c0 : Nat) (l0 : List Int) (r : List Int) (w : World) (hB0 : B_ ≤ w.heap.size) (hn0 : Kd.N (Kd.int .i32) 21 w B_ (fun k_ => some k_ = ((.slice A0 l0.length c0) : Value).ownBlock) (.slice A0 l0.length c0) l0) (h : slices_Compact_rune_rune.f l0 = some r) :
    Calls Try.prog 32 #[(.slice A0 l0.length c0)] w (fun e w' => e = .returned (.slice A0 r.length c0) ∧ Kd.N (Kd.int .i32) 21 w' B_ (fun k_ => some k_ = ((.slice A0 r.length c0) : Value).ownBlock) (.slice A0 r.length c0) r ∧ (∀ k_ : Nat, some k_ ≠ ((.slice A0 l0.length c0) : Value).ownBlock → k_ < w.heap.size → w'.heap[k_]? = w.heap[k_]?) ∧ Below B_ w w') := by
  obtain rfl : Go.Lib.compact l0 = r := Option.some.inj h
  clear h
  by_cases h2 : l0.length < 2
  · have e : Go.Lib.compact l0 = l0 := Go.Lib.compact_all _ (fun j hj => Go.Lib.keeps_lt_one _ j (by omega))
    rw [e]
    have q2 : ((l0.length : Int) < 2) = True := eq_true (by omega)
    have HN := Aside0.mk hn0
    clear hn0
    go_enter Try.func32, Try.ntmps32
    go_wp2
    go_ret
    exact ⟨rfl, HN.out, fun _ _ _ => rfl, Below.refl _ _⟩
  · obtain ⟨g, cap, hv, hbg, hgl, _⟩ := Kd.N_form hn0 (by omega)
    injection hv with hA _ hc
    subst hA
    subst hc
    have hmx : l0.length ≤ 9223372036854775807 := N_max hn0
    have q2 : ((l0.length : Int) < 2) = False := eq_false (by omega)
    have hl0 : l0.length ≤ c0 := (Kd.N_reads' hn0).2.1
    have HN := Aside0.mk hn0
    clear hn0
    go_enter Try.func32, Try.ntmps32
    go_wp2
    go_loopg [3] l0.length (fun gk s3 wr => ∃ (k q : Nat), 1 ≤ k ∧ k ≤ l0.length ∧ l0.length - k ≤ gk ∧ s3 = .int .i64 k ∧ wr = w.drewN q ∧ Aside0 (∀ j, j < k → Go.Lib.keeps l0.toArray j = true))
    case atStart => exact ⟨1, 0, by omega, by omega, by omega, rfl, rfl, ⟨Go.Lib.keeps_lt_one _⟩⟩
    case round =>
      obtain ⟨k, q, hk1, hk, hg, rfl, rfl, hall⟩ := hrel
      by_cases hlt : k < l0.length
      · obtain ⟨ad, e1, hx⟩ := Kd.at_int (Kd.F_now (Kd.N_F HN.out)) k (by omega) (by omega)
        cases e1
        obtain ⟨ad, e2, hy⟩ := Kd.at_int (Kd.F_now (Kd.N_F HN.out)) (k - 1) (by omega) (by omega)
        cases e2
        obtain ⟨x, hxe⟩ : ∃ x, rd l0 k = x := ⟨_, rfl⟩
        obtain ⟨y, hye⟩ : ∃ y, rd l0 (k - 1) = y := ⟨_, rfl⟩
        rw [hxe] at hx
        rw [hye] at hy
        have B := Aside0.mk (And.intro hxe hye)
        clear hxe hye
        have hw1 : wrap64 ((k : Int) - 1) = (k : Int) - 1 := by simp [wrap64]; omega
        have p1 : (0 ≤ (k : Int)) = True := eq_true (by omega)
        have p2 : ((k : Int) < (l0.length : Int)) = True := eq_true (by omega)
        have p3 : (0 ≤ (k : Int) - 1) = True := eq_true (by omega)
        have p4 : ((k : Int) - 1 < (l0.length : Int)) = True := eq_true (by omega)
        have ek : ((k : Int) - 1).toNat = k - 1 := by omega
        have hx1 : w.cell? ⟨g, k, none⟩ = some (.int .i32 x) := by rw [← hx, add_at, Nat.zero_add, Int.toNat_natCast]
        have hy1 : w.cell? ⟨g, k - 1, none⟩ = some (.int .i32 y) := by rw [← hy, add_at, Nat.zero_add, ek]
        clear hx hy
        by_cases hdup : x = y
        · subst hdup
          go_wp2
          go_quiet (fail)
          go_wp2
          clear p1 p2 p3 p4 hx1 hy1
          have hneg : Go.Lib.keeps l0.toArray k = false := Go.Lib.keeps_neg (by omega) (by rw [← at_arr l0 k (by omega), ← at_arr l0 (k - 1) (by omega), B.out.1, show ((k - 1 : Nat) : Int) = (k : Int) - 1 by omega, B.out.2])
          have hst := Aside0.mk (Go.Lib.CompInv.start hall.out hneg)
          have hle0 : (k : Int) ≤ (l0.length : Int) := by omega
          clear hneg hall
          go_loopg [3, 5] l0.length (fun gk s3 s5 wr => ∃ (kk k2 : Nat) (xs : List Int), s3 = .int .i64 kk ∧ s5 = .int .i64 k2 ∧ 1 ≤ k2 ∧ k + k2 ≤ l0.length ∧ l0.length - (k + k2) ≤ gk ∧ Aside0 (w.grownBy wr (some g)) ∧ Aside0 (Kd.N (Kd.int .i32) 21 wr B_ (fun k_ => some k_ = ((.slice (some ⟨g, 0, none⟩) l0.length c0) : Value).ownBlock) (.slice (some ⟨g, 0, none⟩) l0.length c0) xs) ∧ Aside0 (Go.Lib.CompInv l0.toArray (k + k2) kk xs.toArray))
          case atStart => exact ⟨k, 1, l0, rfl, rfl, by omega, by omega, by omega, ⟨grown_drewN w q nq⟩, ⟨Kd.N_drewN (Kd.N_drewN HN.out q) nq⟩, hst⟩
          case round =>
            obtain ⟨kk, k2, xs, rfl, rfl, h1, hle, hg2, HG, HX, HI⟩ := hrel
            have hkk := HI.out.lt
            have hxl : xs.length = l0.length := by have := HI.out.size; simpa using this
            obtain ⟨w1, rfl⟩ : ∃ wo_ : World, wo_ = wr := ⟨_, rfl⟩
            have HB := Aside0.mk (below_grown hbg hB0 HG.out)
            by_cases hlt2 : k + k2 < l0.length
            · obtain ⟨ad, e1, hx⟩ := Kd.at_int (Kd.F_now (Kd.N_F HX.out)) ((k + k2 : Nat) : Int) (by omega) (by omega)
              cases e1
              obtain ⟨ad, e2, hy⟩ := Kd.at_int (Kd.F_now (Kd.N_F HX.out)) ((k + k2 - 1 : Nat) : Int) (by omega) (by omega)
              cases e2
              obtain ⟨u, hue⟩ : ∃ u, rd xs ((k + k2 : Nat) : Int) = u := ⟨_, rfl⟩
              obtain ⟨v, hve⟩ : ∃ v, rd xs ((k + k2 - 1 : Nat) : Int) = v := ⟨_, rfl⟩
              rw [hue] at hx
              rw [hve] at hy
              have eu : l0.toArray[k + k2]! = u := by rw [← HI.out.high _ (by omega), ← at_arr xs _ (by omega), hue]
              have ev : l0.toArray[k + k2 - 1]! = v := by rw [← HI.out.high _ (by omega), ← at_arr xs _ (by omega), hve]
              have B2 := Aside0.mk (And.intro eu ev)
              clear hue hve eu ev
              have hw2 : wrap64 ((k2 : Int) - 1) = (k2 : Int) - 1 := by simp [wrap64]; omega
              have ek2 : ((k2 : Int) - 1).toNat = k2 - 1 := by omega
              have hx1 : w1.cell? ⟨g, k + k2, none⟩ = some (.int .i32 u) := by rw [← hx, add_at, Nat.zero_add, Int.toNat_natCast]
              have hy1 : w1.cell? ⟨g, k + (k2 - 1), none⟩ = some (.int .i32 v) := by rw [← hy, add_at, Nat.zero_add, Int.toNat_natCast, show k + (k2 - 1) = k + k2 - 1 by omega]
              clear hx hy
              have p1 : (0 ≤ (k2 : Int)) = True := eq_true (by omega)
              have p2 : ((k2 : Int) < ((l0.length - k : Nat) : Int)) = True := eq_true (by omega)
              have p3 : (0 ≤ (k2 : Int) - 1) = True := eq_true (by omega)
              have p4 : ((k2 : Int) - 1 < ((l0.length - k : Nat) : Int)) = True := eq_true (by omega)
              by_cases huv : u = v
              · subst huv
                go_wp2
                go_quiet (fail)
                go_wp2
                go_roundg (l0.length - (k + (k2 + 1)))
                case measure => omega
                case rel => exact ⟨kk, k2 + 1, xs, rfl, by go_num, by omega, by omega, Nat.le_refl _, ⟨grown_drew2 HG.out⟩, ⟨Kd.N_drewN HX.out _⟩, ⟨HI.out.skip (Go.Lib.keeps_neg (by omega) (by rw [B2.out.1, B2.out.2]))⟩⟩
              · have hd : (u == v) = false := by simpa using huv
                have p5 : (0 ≤ (kk : Int)) = True := eq_true (by omega)
                have p6 : ((kk : Int) < (l0.length : Int)) = True := eq_true (by omega)
                go_wp2
                go_quiet (fail)
                repeat (first | (refine MQ.code_stop (id := 12) ?_) | go_values | go_skip | go_guarded | go_step | go_upon)
                refine Stop.go ?_
                clear hx1 hy1
                refine MW.name_world (W0 := w1) (by repeat (first | exact Drawn0.refl _ | apply Drawn0.step)) ?_
                intro w2 hb
                replace HX := znb HX.out hb
                have HG2 := Aside0.mk (World.grownBy.trans HG.out (grown_any hb))
                have HB2 := Aside0.mk (below_grown hbg hB0 HG2.out)
                clear hb HG HB
                obtain ⟨ad, e1, hx⟩ := Kd.at_int (Kd.F_now (Kd.N_F HX.out)) ((k + k2 : Nat) : Int) (by omega) (by omega)
                cases e1
                rw [show rd xs ((k + k2 : Nat) : Int) = u by rw [at_arr xs _ (by omega), HI.out.high _ (by omega), B2.out.1]] at hx
                have hx1 : w2.cell? ⟨g, k + k2, none⟩ = some (.int .i32 u) := by rw [← hx, add_at, Nat.zero_add, Int.toNat_natCast]
                clear hx
                go_wp2_with (((with_reducible refine gate_store (t := 21) (p := 51) rfl ?_); (try (refine gate_guard (by rfl) ?_; dsimp only)); refine MW.ev_set1 (n := l0.length) B_ rfl rfl _ _ _ rfl 21 (kk : Int) xs u (fun k_ => some k_ = ((.slice (some ⟨g, 0, none⟩) l0.length c0) : Value).ownBlock) (by rw [add_at, Nat.zero_add, Int.toNat_natCast]; rfl) (by rfl) (by kernel_rfl) HX.out (by omega) (by omega) HB2.out ?_; intro w3 hn1 hb1 hg1); refine stop_ ?_)
                refine Stop.go ?_
                have HG3 := Aside0.mk (World.grownBy.trans HG2.out hg1)
                have HX3 := Aside0.mk hn1
                clear hn1 hb1 hg1 hx1
                go_wp2
                go_roundg (l0.length - (k + (k2 + 1)))
                case measure => omega
                case rel => exact ⟨kk + 1, k2 + 1, xs.set kk u, by go_num, by go_num, by omega, by omega, Nat.le_refl _, HG3, HX3, ⟨comp_keep (m := k + k2) HI.out hlt2 B2.out.1 (Go.Lib.keeps_pos (by rw [B2.out.1, B2.out.2]; exact huv))⟩⟩
            · have hend : k + k2 = l0.length := by omega
              have hz : ∀ w, (zeroValue 21).run Try.prog w = .ok (.int .i32 0) w := zero21
              have hcl : ∀ ty, (Builtin.clear_ #[45] ty #[.slice (some ⟨g, kk, none⟩) (l0.length - kk) (c0 - kk)]).run Try.prog w1 = .ok (.tuple #[]) (w1.setCells g kk (List.replicate (l0.length - kk) (.int .i32 0))) :=
                fun ty => Lib.run_clear_slice w1 45 21 ty _ Try.underlying45 hz rfl rfl g kk _ _ (by omega)
                  (fun j hj => by
                    obtain ⟨ad, e1, hx⟩ := Kd.at_int (Kd.F_now (Kd.N_F HX.out)) ((kk + j : Nat) : Int) (by omega) (by omega)
                    cases e1
                    rw [add_at, Nat.zero_add, Int.toNat_natCast] at hx
                    rw [hx]; rfl) (fun j hj => by
                    obtain ⟨c, _, _, _, hf⟩ := Kd.N_elem HX.out 0 ((kk + j : Nat) : Int) (by omega) (by omega)
                    have e : ((kk + j : Nat) : Int).toNat * (Kd.int .i32).sz + 0 = kk + j := by rw [Int.toNat_natCast]; exact Nat.mul_one _
                    rw [← e]; exact hf 0)
              have hlek : (kk : Int) ≤ (l0.length : Int) := by omega
              have p5 : (0 ≤ (kk : Int)) = True := eq_true (by omega)
              go_wp2
              go_ret
              have hI := HI.out
              rw [hend] at hI
              have hcomp : Go.Lib.compact l0 = xs.take kk := by
                apply List.ext_getElem?
                intro j
                rw [List.getElem?_take]
                split
                · rename_i hj
                  rw [show Go.Lib.compact l0 = Go.Lib.compactUpTo l0.toArray l0.length from rfl, hI.low j hj]
                  have : j < xs.length := by omega
                  simp [this]
                · exact List.getElem?_eq_none (by rw [show Go.Lib.compact l0 = Go.Lib.compactUpTo l0.toArray l0.length from rfl, hI.len]; omega)
              have hlen : (Go.Lib.compact l0).length = kk := hI.len
              have hgr := World.grownBy.trans HG.out (MS.setCells_grown w1 g kk (List.replicate (l0.length - kk) (.int .i32 0)))
              rw [hlen, hcomp]
              refine ⟨rfl, MS.N_head HX.out (by omega) (fun k_ hk_ hlt_ => (MS.setCells_grown w1 g kk _).block k_ hlt_ (fun e => hk_ (Option.some.inj e))) (fun cur hcur => ?_), fun k_ hk_ hlt_ => hgr.block k_ hlt_ hk_, below_grown hbg hB0 hgr⟩
              obtain ⟨cur', h1, h2, h3⟩ := MS.setCells_head (List.replicate (l0.length - kk) (.int .i32 0)) kk w1 cur hcur
              exact ⟨cur', h1, h2, fun j hj => h3 j (by rw [show (Kd.int .i32).sz = 1 from rfl] at hj; omega)⟩
        · have hd : (x == y) = false := by simpa using hdup
          go_wp2
          go_quiet (fail)
          go_wp2
          go_roundg (l0.length - (k + 1))
          case measure => omega
          case rel => 
            refine ⟨k + 1, q + nq, by omega, by omega, by omega, by go_num, rfl, ⟨fun j hj => ?_⟩⟩
            by_cases e : j = k
            · subst e
              exact Go.Lib.keeps_pos (by rw [← at_arr l0 j (by omega), ← at_arr l0 (j - 1) (by omega), B.out.1, show ((j - 1 : Nat) : Int) = (j : Int) - 1 by omega, B.out.2]; exact hdup)
            · exact hall.out j (by omega)
      · have e : k = l0.length := by omega
        subst e
        go_wp2
        go_ret
        have e : Go.Lib.compact l0 = l0 := Go.Lib.compact_all _ (fun j hj => hall.out j hj)
        rw [e]
        exact ⟨rfl, Kd.N_drewN HN.out q, fun k_ _ hlt_ => (pw_below_drewN (Below.refl _ _) _).block k_ hlt_, pw_below_drewN (Below.refl _ _) _⟩
theorem slices_Compact_rune_rune.calls (B_ : Nat) (A0 : Option Addr) (c0 : Nat) (l0 : List Int) (r : List Int) (w : World) (hB0 : B_ ≤ w.heap.size) (hn0 : Kd.N (Kd.int .i32) 21 w B_ (fun k_ => some k_ = ((.slice A0 l0.length c0) : Value).ownBlock) (.slice A0 l0.length c0) l0) (h : slices_Compact_rune_rune.f l0 = some r) :
    Calls Try.prog 32 #[(.slice A0 l0.length c0)] w (fun e w' => ∃ v0_ : Value, e = .returned v0_ ∧ v0_.ownBlock = ((.slice A0 l0.length c0) : Value).ownBlock ∧ Kd.N (Kd.int .i32) 21 w' B_ (fun k_ => some k_ = v0_.ownBlock) v0_ r ∧ (∀ k_ : Nat, some k_ ≠ ((.slice A0 l0.length c0) : Value).ownBlock → k_ < w.heap.size → w'.heap[k_]? = w.heap[k_]?) ∧ Below B_ w w') := by
  refine (slices_Compact_rune_rune.calls0 B_ A0 c0 l0 r w hB0 hn0 h).mono ?_
  rintro e w' ⟨rfl, hn, hf, hb⟩
  exact ⟨_, rfl, by cases A0 <;> rfl, hn, hf, hb⟩
end Go.Proofs.Ytcokpnajkkjclaa.GA

namespace Go.Proofs.Ytcokpnajkkjclaa.GA
open Go.RowKit Go.Proofs.Ytcokpnajkkjclaa Go.Proofs.Ytcokpnajkkjclaa.MW Go.Proofs.YtcokpnajkkjclaaW.PrintWords Go.Proofs.YtcokpnajkkjclaaW.PrintLast Go.Proofs.YtcokpnajkkjclaaW.PrintMore
attribute [local go_sem] max2_int min2_int max_two min_two
set_option linter.unusedVariables false
set_option linter.unusedSimpArgs false
attribute [local go_sem high] eqA37
/-! ### toponymref02_Same: function 17 -/
def toponymref02_Same.l0 : Nat → Int → (List (S37)) → (List (S37)) → Option (Bool)
  | 0, _, _, _ => none
  | k + 1, x5, l0, l1 => if x5 < (l0.length : Int) then (if 0 ≤ x5 then (if x5 < (l1.length : Int) then (if (!(((rd_T37 l0 x5).f0) == ((rd_T37 l1 x5).f0)) || (!(((rd_T37 l0 x5).f1) == ((rd_T37 l1 x5).f1)) || (!(((rd_T37 l0 x5).f2) == ((rd_T37 l1 x5).f2))))) = true then (some false) else ((toponymref02_Same.l0 k (wrap64 (x5 + 1)) l0 l1))) else (none)) else (none)) else (some true)
def toponymref02_Same.f (k : Nat) (l0 : List (S37)) (l1 : List (S37)) : Option (Bool) := if (l0.length : Int) = (l1.length : Int) then ((toponymref02_Same.l0 k 0 l0 l1)) else (some false)
theorem toponymref02_Same.mono_l : ∀ k, (∀ y0 y1 y2, LeO (toponymref02_Same.l0 k y0 y1 y2) (toponymref02_Same.l0 (k + 1) y0 y1 y2))
  | 0 => fun _ _ _ r h => by simp [toponymref02_Same.l0] at h
  | k + 1 => by
    have ih0 := toponymref02_Same.mono_l k
    · intro y0 y1 y2
      unfold toponymref02_Same.l0
      repeat' first
      | (with_reducible exact ih0 _ _ _)
      | (with_reducible exact LeO.refl _)
      | (with_reducible exact LeO.none _)
      | (with_reducible refine LeO.ite ?_ ?_)
      | (with_reducible refine LeO.bind ?_ (fun _ => ?_))
      | exact ih0 _ _ _
      | exact LeO.none _
      | refine LeO.ite ?_ ?_
      | refine LeO.bind ?_ (fun _ => ?_)
theorem toponymref02_Same.mono : ∀ a0_ a1_ k, LeO (toponymref02_Same.f k a0_ a1_) (toponymref02_Same.f (k + 1) a0_ a1_) := by
  intro a0_ a1_ k
  have ih0 := toponymref02_Same.mono_l k
  unfold toponymref02_Same.f
  repeat' first
      | (with_reducible exact ih0 _ _ _)
      | (with_reducible exact LeO.refl _)
      | (with_reducible exact LeO.none _)
      | (with_reducible refine LeO.ite ?_ ?_)
      | (with_reducible refine LeO.bind ?_ (fun _ => ?_))
      | exact ih0 _ _ _
      | exact LeO.none _
      | refine LeO.ite ?_ ?_
      | refine LeO.bind ?_ (fun _ => ?_)
set_option maxHeartbeats 8000000 in
set_option maxRecDepth 100000 in
theorem toponymref02_Same.calls (k : Nat) (P_ : Nat → Prop) (A0 : Option Addr) (c0 : Nat) (l0 : List (S37)) (A1 : Option Addr) (c1 : Nat) (l1 : List (S37)) (r : Bool) (w : World) (hs0 : Kd.F k37 w P_ A0 l0.length l0) (hc0 : l0.length ≤ c0) (hs1 : Kd.F k37 w P_ A1 l1.length l1) (hc1 : l1.length ≤ c1) (h : toponymref02_Same.f k l0 l1 = some r) :
    Calls Try.prog 17 #[.slice A0 l0.length c0, .slice A1 l1.length c1] w (fun e w' => e = .returned (.bool r) ∧ Drawn0 w w') := by
  unfold toponymref02_Same.f at h
  have HH := Aside0.mk h
  clear h
  have HF0 := zfp hs0
  have HL0 := Aside0.mk hc0
  clear hs0 hc0
  have HF1 := zfp hs1
  have HL1 := Aside0.mk hc1
  clear hs1 hc1
  have hu37 := Try.underlying37
  go_enter Try.func17, Try.ntmps17
  by_cases c1 : (l0.length : Int) = (l1.length : Int)
  · replace HH := MW.hpos HH c1
    have hk2 : ((l0.length : Int) == (l1.length : Int)) = true := beq_iff_eq.mpr c1
    have hk3 : ((l0.length : Int) != (l1.length : Int)) = false := bne_eq_false_iff_eq.mpr c1
    have hk4 : (l0.length == l1.length) = true := by first | simpa using c1 | (simp at c1 ⊢; omega)
    clear c1
    go_wp2
    go_loopg [5] k (fun kq u5 w' => ∃ (x5 : Int), u5 = .int .i64 x5 ∧ Aside0 ((toponymref02_Same.l0 kq x5 l0 l1) = some r) ∧ Aside0 (kq ≤ k) ∧ Drawn0 w w')
    case atStart => exact ⟨0, (by first | rfl | (simp; done) | (simp [*]; done)), HH, ⟨Nat.le_refl _⟩, by repeat (first | exact Drawn0.refl _ | apply Drawn0.step)⟩
    case round =>
      clear hk2
      clear hk3
      clear hk4
      clear HH
      obtain ⟨x5, rfl, HA, HK0, ⟨m0_, rfl⟩⟩ := hrel
      cases gk with
      | zero => exact absurd HA.out (by simp [toponymref02_Same.l0])
      | succ k6 =>
        have H := HA.out
        clear HA
        simp only [toponymref02_Same.l0] at H
        have HH := Aside0.mk H
        clear H
        replace HH := zqt HH
        rcases HH with ⟨HH, hk9, hk10⟩ | ⟨HH, hk24, hk25⟩
        · replace HH := zqdo HH
          obtain ⟨HH, hk12⟩ := HH
          have p13 : 0 ≤ (x5 : Int) := of_decide_eq_true (by first | (with_reducible assumption) | assumption)
          have q13 : x5 < (l0.length : Int) := of_decide_eq_true (by first | (with_reducible assumption) | assumption)
          obtain ⟨ad13, e13, hx13_0, hx13_1, hx13_2⟩ := atF_T37 HF0.out x5 p13 q13
          cases e13
          replace p13 := eq_true p13
          replace q13 := eq_true q13
          replace HH := zqto HH
          obtain ⟨HH, hk15, hk16⟩ := HH
          have p17 : 0 ≤ (x5 : Int) := of_decide_eq_true (by first | (with_reducible assumption) | assumption)
          have q17 : x5 < (l1.length : Int) := of_decide_eq_true (by first | (with_reducible assumption) | assumption)
          obtain ⟨ad17, e17, hx17_0, hx17_1, hx17_2⟩ := atF_T37 HF1.out x5 p17 q17
          cases e17
          replace p17 := eq_true p17
          replace q17 := eq_true q17
          by_cases c18 : (!(((rd_T37 l0 x5).f0) == ((rd_T37 l1 x5).f0)) || (!(((rd_T37 l0 x5).f1) == ((rd_T37 l1 x5).f1)) || (!(((rd_T37 l0 x5).f2) == ((rd_T37 l1 x5).f2))))) = true
          · replace HH := MW.hpos HH c18
            have hk19 : (!(((rd_T37 l0 x5).f0) == ((rd_T37 l1 x5).f0)) || (!(((rd_T37 l0 x5).f1) == ((rd_T37 l1 x5).f1)) || (!(((rd_T37 l0 x5).f2) == ((rd_T37 l1 x5).f2))))) = true := c18
            clear c18
            have H := HH.out
            obtain rfl := Option.some.inj H
            clear HH
            go_wp2
            go_quiet (fail)
            go_wp2
            go_ret
            exact ⟨by first | rfl | (simp; done) | (simp [*]; done), by repeat (first | exact Drawn0.refl _ | apply Drawn0.step)⟩
          · replace HH := MW.hneg HH c18
            have hk20 : (!(((rd_T37 l0 x5).f0) == ((rd_T37 l1 x5).f0)) || (!(((rd_T37 l0 x5).f1) == ((rd_T37 l1 x5).f1)) || (!(((rd_T37 l0 x5).f2) == ((rd_T37 l1 x5).f2))))) = false := by simpa using c18
            clear c18
            go_wp2
            go_quiet (fail)
            go_wp2
            go_roundg k6
            case measure => have := HK0.out; omega
            case rel => exact ⟨wrap64 (x5 + 1), (by first | rfl | (simp; done) | (simp [*]; done)), HH, ⟨by have := HK0.out; omega⟩, by repeat (first | exact Drawn0.refl _ | apply Drawn0.step)⟩
        · have H := HH.out
          obtain rfl := Option.some.inj H
          clear HH
          go_wp2
          go_ret
          exact ⟨by first | rfl | (simp; done) | (simp [*]; done), by repeat (first | exact Drawn0.refl _ | apply Drawn0.step)⟩
  · replace HH := MW.hneg HH c1
    have hk26 : ((l0.length : Int) == (l1.length : Int)) = false := beq_eq_false_iff_ne.mpr c1
    have hk27 : ((l0.length : Int) != (l1.length : Int)) = true := bne_iff_ne.mpr c1
    have hk28 : (l0.length == l1.length) = false := by first | simpa using c1 | (simp at c1 ⊢; omega)
    clear c1
    have H := HH.out
    obtain rfl := Option.some.inj H
    clear HH
    go_wp2
    go_ret
    exact ⟨by first | rfl | (simp; done) | (simp [*]; done), by repeat (first | exact Drawn0.refl _ | apply Drawn0.step)⟩
end Go.Proofs.Ytcokpnajkkjclaa.GA
