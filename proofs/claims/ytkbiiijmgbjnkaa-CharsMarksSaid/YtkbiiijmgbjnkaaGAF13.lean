-- written by wip/gen.py, a program of this session
import Derived.Test.YtkbiiijmgbjnkaaGA0
import Derived.Test.YtkbiiijmgbjnkaaGAF9
namespace Go.Proofs.Ytkbiiijmgbjnkaa.GA
open Go.RowKit Go.Proofs.Ytkbiiijmgbjnkaa Go.Proofs.Ytkbiiijmgbjnkaa.MW Go.Proofs.YtkbiiijmgbjnkaaW.PrintWords Go.Proofs.YtkbiiijmgbjnkaaW.PrintLast Go.Proofs.YtkbiiijmgbjnkaaW.PrintMore
attribute [local go_sem] max2_int min2_int max_two min_two
set_option linter.unusedVariables false
set_option linter.unusedSimpArgs false

/-! ### toponymref03_Class: function 13 -/
def toponymref03_Class.f (k : Nat) (a0 : Int) : Option (Int) := (toponymref03_Kind.f k a0).bind fun t1 => (if t1 = 3 then (if a0 = 807 then (some 202) else (if a0 = 808 then (some 202) else (if a0 = 803 then (some 220) else (if a0 = 12441 then (some 8) else (if a0 = 12442 then (some 8) else (some 230)))))) else (some 0))
theorem toponymref03_Class.mono : ∀ a0_ k, LeO (toponymref03_Class.f k a0_) (toponymref03_Class.f (k + 1) a0_) := by
  intro a0_ k
  unfold toponymref03_Class.f
  repeat' first
      | (with_reducible exact toponymref03_Kind.mono _ _)
      | (with_reducible exact LeO.refl _)
      | (with_reducible exact LeO.none _)
      | (with_reducible refine LeO.ite ?_ ?_)
      | (with_reducible refine LeO.bind ?_ (fun _ => ?_))
      | exact toponymref03_Kind.mono _ _
      | exact LeO.none _
      | refine LeO.ite ?_ ?_
      | refine LeO.bind ?_ (fun _ => ?_)
set_option maxHeartbeats 8000000 in
set_option maxRecDepth 100000 in
theorem toponymref03_Class.calls (k : Nat) (a0 : Int) (r : Int) (w : World) (h : toponymref03_Class.f k a0 = some r) :
    Calls Try.prog 13 #[.int .i32 a0] w (fun e w' => e = .returned (.int .i64 r) ∧ Below w.heap.size w w') := by
  have HH := Aside0.mk (show ((toponymref03_Kind.f k a0).bind fun t1 => (if t1 = 3 then (if a0 = 807 then (some 202) else (if a0 = 808 then (some 202) else (if a0 = 803 then (some 220) else (if a0 = 12441 then (some 8) else (if a0 = 12442 then (some 8) else (some 230)))))) else (some 0))) = some r from h)
  clear h
  have HB := Aside0.mk (Below.refl w.heap.size w)
  go_enter Try.func13, Try.ntmps13
  have H := HH.out
  replace H := Option.bind_eq_some_iff.mp H
  obtain ⟨t1, at_, H⟩ := H
  have At2 := Aside0.mk at_
  clear at_
  replace HH := Aside0.mk (show (if t1 = 3 then (if a0 = 807 then (some 202) else (if a0 = 808 then (some 202) else (if a0 = 803 then (some 220) else (if a0 = 12441 then (some 8) else (if a0 = 12442 then (some 8) else (some 230)))))) else (some 0)) = some r from H)
  clear H
  go_wp2_with (((with_reducible refine gate_callee (f := 9) rfl ?_); (try (refine gate_guard (by rfl) ?_; dsimp only)); refine goesL_ (some 4) rfl rfl Try.func9 (by kernel_rfl) rfl #[.int .i32 a0] rfl (by (try simp only [List.map_toArray, List.map_cons, List.map_nil]); first | done | rfl | (simp only [List.length_drop, List.length_take]; rfl)) ?_; (with_reducible refine (toponymref03_Kind.calls k  a0 t1 _  At2.out).mono ?_); rintro e w3 ⟨rfl, hb⟩; refine ⟨_, rfl, ?_⟩); refine stop_ ?_)
  refine Stop.go ?_
  replace HB := Aside0.mk (below_step HB.out hb)
  clear hb
  by_cases c4 : t1 = 3
  · have H := HH.out
    rw [if_pos c4] at H
    replace HH := Aside0.mk H
    clear H
    have hk5 : (t1 == 3) = true := beq_iff_eq.mpr c4
    have hk6 : (t1 != 3) = false := bne_eq_false_iff_eq.mpr c4
    clear c4
    by_cases c7 : a0 = 807
    · have H := HH.out
      rw [if_pos c7] at H
      replace HH := Aside0.mk H
      clear H
      have hk8 : (a0 == 807) = true := beq_iff_eq.mpr c7
      have hk9 : (a0 != 807) = false := bne_eq_false_iff_eq.mpr c7
      clear c7
      have H := HH.out
      obtain rfl := Option.some.inj H
      clear HH
      go_wp2
      go_ret
      exact ⟨by first | rfl | (simp; done) | (simp [*]; done), HB.out⟩
    · have H := HH.out
      rw [if_neg c7] at H
      replace HH := Aside0.mk H
      clear H
      have hk10 : (a0 == 807) = false := beq_eq_false_iff_ne.mpr c7
      have hk11 : (a0 != 807) = true := bne_iff_ne.mpr c7
      clear c7
      by_cases c12 : a0 = 808
      · have H := HH.out
        rw [if_pos c12] at H
        replace HH := Aside0.mk H
        clear H
        have hk13 : (a0 == 808) = true := beq_iff_eq.mpr c12
        have hk14 : (a0 != 808) = false := bne_eq_false_iff_eq.mpr c12
        clear c12
        have H := HH.out
        obtain rfl := Option.some.inj H
        clear HH
        go_wp2
        go_ret
        exact ⟨by first | rfl | (simp; done) | (simp [*]; done), HB.out⟩
      · have H := HH.out
        rw [if_neg c12] at H
        replace HH := Aside0.mk H
        clear H
        have hk15 : (a0 == 808) = false := beq_eq_false_iff_ne.mpr c12
        have hk16 : (a0 != 808) = true := bne_iff_ne.mpr c12
        clear c12
        by_cases c17 : a0 = 803
        · have H := HH.out
          rw [if_pos c17] at H
          replace HH := Aside0.mk H
          clear H
          have hk18 : (a0 == 803) = true := beq_iff_eq.mpr c17
          have hk19 : (a0 != 803) = false := bne_eq_false_iff_eq.mpr c17
          clear c17
          have H := HH.out
          obtain rfl := Option.some.inj H
          clear HH
          go_wp2
          go_ret
          exact ⟨by first | rfl | (simp; done) | (simp [*]; done), HB.out⟩
        · have H := HH.out
          rw [if_neg c17] at H
          replace HH := Aside0.mk H
          clear H
          have hk20 : (a0 == 803) = false := beq_eq_false_iff_ne.mpr c17
          have hk21 : (a0 != 803) = true := bne_iff_ne.mpr c17
          clear c17
          by_cases c22 : a0 = 12441
          · have H := HH.out
            rw [if_pos c22] at H
            replace HH := Aside0.mk H
            clear H
            have hk23 : (a0 == 12441) = true := beq_iff_eq.mpr c22
            have hk24 : (a0 != 12441) = false := bne_eq_false_iff_eq.mpr c22
            clear c22
            have H := HH.out
            obtain rfl := Option.some.inj H
            clear HH
            go_wp2
            go_ret
            exact ⟨by first | rfl | (simp; done) | (simp [*]; done), HB.out⟩
          · have H := HH.out
            rw [if_neg c22] at H
            replace HH := Aside0.mk H
            clear H
            have hk25 : (a0 == 12441) = false := beq_eq_false_iff_ne.mpr c22
            have hk26 : (a0 != 12441) = true := bne_iff_ne.mpr c22
            clear c22
            by_cases c27 : a0 = 12442
            · have H := HH.out
              rw [if_pos c27] at H
              replace HH := Aside0.mk H
              clear H
              have hk28 : (a0 == 12442) = true := beq_iff_eq.mpr c27
              have hk29 : (a0 != 12442) = false := bne_eq_false_iff_eq.mpr c27
              clear c27
              have H := HH.out
              obtain rfl := Option.some.inj H
              clear HH
              go_wp2
              go_ret
              exact ⟨by first | rfl | (simp; done) | (simp [*]; done), HB.out⟩
            · have H := HH.out
              rw [if_neg c27] at H
              replace HH := Aside0.mk H
              clear H
              have hk30 : (a0 == 12442) = false := beq_eq_false_iff_ne.mpr c27
              have hk31 : (a0 != 12442) = true := bne_iff_ne.mpr c27
              clear c27
              have H := HH.out
              obtain rfl := Option.some.inj H
              clear HH
              go_wp2
              go_ret
              exact ⟨by first | rfl | (simp; done) | (simp [*]; done), HB.out⟩
  · have H := HH.out
    rw [if_neg c4] at H
    replace HH := Aside0.mk H
    clear H
    have hk32 : (t1 == 3) = false := beq_eq_false_iff_ne.mpr c4
    have hk33 : (t1 != 3) = true := bne_iff_ne.mpr c4
    clear c4
    have H := HH.out
    obtain rfl := Option.some.inj H
    clear HH
    go_wp2
    go_ret
    exact ⟨by first | rfl | (simp; done) | (simp [*]; done), HB.out⟩

end Go.Proofs.Ytkbiiijmgbjnkaa.GA
