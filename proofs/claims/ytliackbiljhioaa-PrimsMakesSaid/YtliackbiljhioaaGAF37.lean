-- written by wip/gen.py, a program of this session
import Derived.Test.YtliackbiljhioaaGA0
import Derived.Test.YtliackbiljhioaaGAF44
namespace Go.Proofs.Ytliackbiljhioaa.GA
open Go.RowKit Go.Proofs.Ytliackbiljhioaa Go.Proofs.Ytliackbiljhioaa.MW Go.Proofs.YtliackbiljhioaaW.PrintWords Go.Proofs.YtliackbiljhioaaW.PrintLast Go.Proofs.YtliackbiljhioaaW.PrintMore
attribute [local go_sem] max2_int min2_int max_two min_two
set_option linter.unusedVariables false
set_option linter.unusedSimpArgs false

/-! ### toponymref16_Bytes: function 37 -/
def toponymref16_Bytes.l0 : Nat → Int → Int → Option (ByteArray)
  | 0, _, _ => none
  | k + 1, x1, a0 => if x1 ≤ 4 then ((toponymref16_digits.f k a0 x1).bind fun bt6 => (if bt6.2 = true then (some bt6.1) else ((toponymref16_Bytes.l0 k (wrap64 (x1 + 1)) a0)))) else (some (⟨#[]⟩ : ByteArray))
def toponymref16_Bytes.f (k : Nat) (a0 : Int) : Option (ByteArray) := (toponymref16_Bytes.l0 k 1 a0)
theorem toponymref16_Bytes.mono_l : ∀ k, (∀ y0 y1, LeO (toponymref16_Bytes.l0 k y0 y1) (toponymref16_Bytes.l0 (k + 1) y0 y1))
  | 0 => fun _ _ r h => by simp [toponymref16_Bytes.l0] at h
  | k + 1 => by
    have ih0 := toponymref16_Bytes.mono_l k
    · intro y0 y1
      unfold toponymref16_Bytes.l0
      repeat' first
      | (with_reducible exact ih0 _ _)
      | (with_reducible exact toponymref16_digits.mono _ _ _)
      | (with_reducible exact LeO.refl _)
      | (with_reducible exact LeO.none _)
      | (with_reducible refine LeO.ite ?_ ?_)
      | (with_reducible refine LeO.bind ?_ (fun _ => ?_))
      | exact ih0 _ _
      | exact toponymref16_digits.mono _ _ _
      | exact LeO.none _
      | refine LeO.ite ?_ ?_
      | refine LeO.bind ?_ (fun _ => ?_)
theorem toponymref16_Bytes.mono : ∀ a0_ k, LeO (toponymref16_Bytes.f k a0_) (toponymref16_Bytes.f (k + 1) a0_) := by
  intro a0_ k
  have ih0 := toponymref16_Bytes.mono_l k
  unfold toponymref16_Bytes.f
  repeat' first
      | (with_reducible exact ih0 _ _)
      | (with_reducible exact toponymref16_digits.mono _ _ _)
      | (with_reducible exact LeO.refl _)
      | (with_reducible exact LeO.none _)
      | (with_reducible refine LeO.ite ?_ ?_)
      | (with_reducible refine LeO.bind ?_ (fun _ => ?_))
      | exact ih0 _ _
      | exact toponymref16_digits.mono _ _ _
      | exact LeO.none _
      | refine LeO.ite ?_ ?_
      | refine LeO.bind ?_ (fun _ => ?_)
set_option maxHeartbeats 8000000 in
set_option maxRecDepth 100000 in
theorem toponymref16_Bytes.calls (k : Nat) (a0 : Int) (r : ByteArray) (w : World) (h : toponymref16_Bytes.f k a0 = some r) :
    Calls Try.prog 37 #[.int .i64 a0] w (fun e w' => e = .returned (.string r) ∧ Below w.heap.size w w') := by
  have HH := Aside0.mk (show ((toponymref16_Bytes.l0 k 1 a0)) = some r from h)
  clear h
  have HB := Aside0.mk (Below.refl w.heap.size w)
  go_enter Try.func37, Try.ntmps37
  go_wp2
  go_loopg [3] k (fun kq u3 w' => ∃ (x1 : Int), u3 = .int .i64 x1 ∧ Aside0 ((toponymref16_Bytes.l0 kq x1 a0) = some r) ∧ Aside0 (kq ≤ k) ∧ Aside0 (Below w.heap.size w w'))
  case atStart => exact ⟨1, (by first | rfl | (simp; done) | (simp [*]; done)), HH, ⟨Nat.le_refl _⟩, ⟨HB.out⟩⟩
  case round =>
    clear HH
    clear HB
    obtain ⟨x1, rfl, HA, HK0, HB⟩ := hrel
    obtain ⟨w3, rfl⟩ : ∃ wo_ : World, wo_ = wr := ⟨_, rfl⟩
    cases gk with
    | zero => exact absurd HA.out (by simp [toponymref16_Bytes.l0])
    | succ k2 =>
      have H := HA.out
      clear HA
      simp only [toponymref16_Bytes.l0] at H
      have HH := Aside0.mk H
      clear H
      by_cases c4 : x1 ≤ 4
      · have H := HH.out
        rw [if_pos c4] at H
        replace HH := Aside0.mk H
        clear H
        have hk5 : decide (x1 ≤ 4) = true := decide_eq_true c4
        clear c4
        have H := HH.out
        replace H := Option.bind_eq_some_iff.mp H
        obtain ⟨⟨t6, t7⟩, at_, H⟩ := H
        have At8 := Aside0.mk at_
        clear at_
        replace HH := Aside0.mk (show (if t7 = true then (some t6) else ((toponymref16_Bytes.l0 k2 (wrap64 (x1 + 1)) a0))) = some r from H)
        clear H
        go_wp2_with (((with_reducible refine gate_callee (f := 44) rfl ?_); (try (refine gate_guard (by rfl) ?_; dsimp only)); refine goesL_ (some 13) rfl rfl Try.func44 (by kernel_rfl) rfl #[.int .i64 a0, .int .i64 x1] rfl (by (try simp only [List.map_toArray, List.map_cons, List.map_nil]); first | done | rfl | (simp only [List.length_drop, List.length_take]; rfl)) ?_; (with_reducible refine (toponymref16_digits.calls k2  a0 x1 t6 t7 _  At8.out).mono ?_); rintro e w9 ⟨rfl, hb⟩; refine ⟨_, rfl, ?_⟩); refine stop_ ?_)
        refine Stop.go ?_
        replace HB := Aside0.mk (below_step HB.out hb)
        clear hb
        by_cases c10 : t7 = true
        · have H := HH.out
          rw [if_pos c10] at H
          replace HH := Aside0.mk H
          clear H
          subst c10
          have H := HH.out
          obtain rfl := Option.some.inj H
          clear HH
          go_wp2
          go_ret
          exact ⟨by first | rfl | (simp; done) | (simp [*]; done), HB.out⟩
        · have H := HH.out
          rw [if_neg c10] at H
          replace HH := Aside0.mk H
          clear H
          replace c10 := Bool.eq_false_iff.mpr c10
          subst c10
          go_wp2
          go_roundg k2
          case measure => have := HK0.out; omega
          case rel => exact ⟨wrap64 (x1 + 1), (by first | rfl | (simp; done) | (simp [*]; done)), HH, ⟨by have := HK0.out; omega⟩, ⟨HB.out⟩⟩
      · have H := HH.out
        rw [if_neg c4] at H
        replace HH := Aside0.mk H
        clear H
        have hk11 : decide (x1 ≤ 4) = false := decide_eq_false c4
        clear c4
        have H := HH.out
        obtain rfl := Option.some.inj H
        clear HH
        go_wp2
        go_ret
        exact ⟨by first | rfl | (simp; done) | (simp [*]; done), HB.out⟩

end Go.Proofs.Ytliackbiljhioaa.GA
