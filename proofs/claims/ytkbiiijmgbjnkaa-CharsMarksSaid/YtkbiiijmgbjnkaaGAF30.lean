-- written by wip/gen.py, a program of this session
import Derived.Test.YtkbiiijmgbjnkaaGA0
namespace Go.Proofs.Ytkbiiijmgbjnkaa.GA
open Go.RowKit Go.Proofs.Ytkbiiijmgbjnkaa Go.Proofs.Ytkbiiijmgbjnkaa.MW Go.Proofs.YtkbiiijmgbjnkaaW.PrintWords Go.Proofs.YtkbiiijmgbjnkaaW.PrintLast Go.Proofs.YtkbiiijmgbjnkaaW.PrintMore
attribute [local go_sem] max2_int min2_int max_two min_two
set_option linter.unusedVariables false
set_option linter.unusedSimpArgs false

/-! ### toponymref03_ascii: function 30 -/
def toponymref03_ascii.f (a0 : Int) : Option (Int) := if a0 ≥ 97 then (if a0 ≤ 122 then (some 1) else (if a0 ≥ 65 then (if a0 ≤ 90 then (some 1) else (if a0 ≥ 48 then (if a0 ≤ 57 then (some 2) else (if a0 = 32 then (some 5) else (if a0 ≥ 9 then (if a0 ≤ 13 then (some 5) else (if a0 < 32 then (some 6) else (if a0 = 127 then (some 6) else (some 4)))) else (if a0 < 32 then (some 6) else (if a0 = 127 then (some 6) else (some 4)))))) else (if a0 = 32 then (some 5) else (if a0 ≥ 9 then (if a0 ≤ 13 then (some 5) else (if a0 < 32 then (some 6) else (if a0 = 127 then (some 6) else (some 4)))) else (if a0 < 32 then (some 6) else (if a0 = 127 then (some 6) else (some 4))))))) else (if a0 ≥ 48 then (if a0 ≤ 57 then (some 2) else (if a0 = 32 then (some 5) else (if a0 ≥ 9 then (if a0 ≤ 13 then (some 5) else (if a0 < 32 then (some 6) else (if a0 = 127 then (some 6) else (some 4)))) else (if a0 < 32 then (some 6) else (if a0 = 127 then (some 6) else (some 4)))))) else (if a0 = 32 then (some 5) else (if a0 ≥ 9 then (if a0 ≤ 13 then (some 5) else (if a0 < 32 then (some 6) else (if a0 = 127 then (some 6) else (some 4)))) else (if a0 < 32 then (some 6) else (if a0 = 127 then (some 6) else (some 4)))))))) else (if a0 ≥ 65 then (if a0 ≤ 90 then (some 1) else (if a0 ≥ 48 then (if a0 ≤ 57 then (some 2) else (if a0 = 32 then (some 5) else (if a0 ≥ 9 then (if a0 ≤ 13 then (some 5) else (if a0 < 32 then (some 6) else (if a0 = 127 then (some 6) else (some 4)))) else (if a0 < 32 then (some 6) else (if a0 = 127 then (some 6) else (some 4)))))) else (if a0 = 32 then (some 5) else (if a0 ≥ 9 then (if a0 ≤ 13 then (some 5) else (if a0 < 32 then (some 6) else (if a0 = 127 then (some 6) else (some 4)))) else (if a0 < 32 then (some 6) else (if a0 = 127 then (some 6) else (some 4))))))) else (if a0 ≥ 48 then (if a0 ≤ 57 then (some 2) else (if a0 = 32 then (some 5) else (if a0 ≥ 9 then (if a0 ≤ 13 then (some 5) else (if a0 < 32 then (some 6) else (if a0 = 127 then (some 6) else (some 4)))) else (if a0 < 32 then (some 6) else (if a0 = 127 then (some 6) else (some 4)))))) else (if a0 = 32 then (some 5) else (if a0 ≥ 9 then (if a0 ≤ 13 then (some 5) else (if a0 < 32 then (some 6) else (if a0 = 127 then (some 6) else (some 4)))) else (if a0 < 32 then (some 6) else (if a0 = 127 then (some 6) else (some 4)))))))
set_option maxHeartbeats 8000000 in
set_option maxRecDepth 100000 in
theorem toponymref03_ascii.calls (a0 : Int) (r : Int) (w : World) (h : toponymref03_ascii.f a0 = some r) :
    Calls Try.prog 30 #[.int .i32 a0] w (fun e w' => e = .returned (.int .i64 r) ∧ Drawn0 w w') := by
  have HH := Aside0.mk (show (if a0 ≥ 97 then (if a0 ≤ 122 then (some 1) else (if a0 ≥ 65 then (if a0 ≤ 90 then (some 1) else (if a0 ≥ 48 then (if a0 ≤ 57 then (some 2) else (if a0 = 32 then (some 5) else (if a0 ≥ 9 then (if a0 ≤ 13 then (some 5) else (if a0 < 32 then (some 6) else (if a0 = 127 then (some 6) else (some 4)))) else (if a0 < 32 then (some 6) else (if a0 = 127 then (some 6) else (some 4)))))) else (if a0 = 32 then (some 5) else (if a0 ≥ 9 then (if a0 ≤ 13 then (some 5) else (if a0 < 32 then (some 6) else (if a0 = 127 then (some 6) else (some 4)))) else (if a0 < 32 then (some 6) else (if a0 = 127 then (some 6) else (some 4))))))) else (if a0 ≥ 48 then (if a0 ≤ 57 then (some 2) else (if a0 = 32 then (some 5) else (if a0 ≥ 9 then (if a0 ≤ 13 then (some 5) else (if a0 < 32 then (some 6) else (if a0 = 127 then (some 6) else (some 4)))) else (if a0 < 32 then (some 6) else (if a0 = 127 then (some 6) else (some 4)))))) else (if a0 = 32 then (some 5) else (if a0 ≥ 9 then (if a0 ≤ 13 then (some 5) else (if a0 < 32 then (some 6) else (if a0 = 127 then (some 6) else (some 4)))) else (if a0 < 32 then (some 6) else (if a0 = 127 then (some 6) else (some 4)))))))) else (if a0 ≥ 65 then (if a0 ≤ 90 then (some 1) else (if a0 ≥ 48 then (if a0 ≤ 57 then (some 2) else (if a0 = 32 then (some 5) else (if a0 ≥ 9 then (if a0 ≤ 13 then (some 5) else (if a0 < 32 then (some 6) else (if a0 = 127 then (some 6) else (some 4)))) else (if a0 < 32 then (some 6) else (if a0 = 127 then (some 6) else (some 4)))))) else (if a0 = 32 then (some 5) else (if a0 ≥ 9 then (if a0 ≤ 13 then (some 5) else (if a0 < 32 then (some 6) else (if a0 = 127 then (some 6) else (some 4)))) else (if a0 < 32 then (some 6) else (if a0 = 127 then (some 6) else (some 4))))))) else (if a0 ≥ 48 then (if a0 ≤ 57 then (some 2) else (if a0 = 32 then (some 5) else (if a0 ≥ 9 then (if a0 ≤ 13 then (some 5) else (if a0 < 32 then (some 6) else (if a0 = 127 then (some 6) else (some 4)))) else (if a0 < 32 then (some 6) else (if a0 = 127 then (some 6) else (some 4)))))) else (if a0 = 32 then (some 5) else (if a0 ≥ 9 then (if a0 ≤ 13 then (some 5) else (if a0 < 32 then (some 6) else (if a0 = 127 then (some 6) else (some 4)))) else (if a0 < 32 then (some 6) else (if a0 = 127 then (some 6) else (some 4)))))))) = some r from h)
  clear h
  go_enter Try.func30, Try.ntmps30
  by_cases c1 : a0 ≥ 97
  · have H := HH.out
    rw [if_pos c1] at H
    replace HH := Aside0.mk H
    clear H
    have hk2 : decide (97 ≤ a0) = true := decide_eq_true c1
    clear c1
    by_cases c3 : a0 ≤ 122
    · have H := HH.out
      rw [if_pos c3] at H
      replace HH := Aside0.mk H
      clear H
      have hk4 : decide (a0 ≤ 122) = true := decide_eq_true c3
      clear c3
      have H := HH.out
      obtain rfl := Option.some.inj H
      clear HH
      go_wp2
      go_ret
      exact ⟨by first | rfl | (simp; done) | (simp [*]; done), by repeat (first | exact Drawn0.refl _ | apply Drawn0.step)⟩
    · have H := HH.out
      rw [if_neg c3] at H
      replace HH := Aside0.mk H
      clear H
      have hk5 : decide (a0 ≤ 122) = false := decide_eq_false c3
      clear c3
      by_cases c6 : a0 ≥ 65
      · have H := HH.out
        rw [if_pos c6] at H
        replace HH := Aside0.mk H
        clear H
        have hk7 : decide (65 ≤ a0) = true := decide_eq_true c6
        clear c6
        by_cases c8 : a0 ≤ 90
        · have H := HH.out
          rw [if_pos c8] at H
          replace HH := Aside0.mk H
          clear H
          have hk9 : decide (a0 ≤ 90) = true := decide_eq_true c8
          clear c8
          have H := HH.out
          obtain rfl := Option.some.inj H
          clear HH
          go_wp2
          go_ret
          exact ⟨by first | rfl | (simp; done) | (simp [*]; done), by repeat (first | exact Drawn0.refl _ | apply Drawn0.step)⟩
        · have H := HH.out
          rw [if_neg c8] at H
          replace HH := Aside0.mk H
          clear H
          have hk10 : decide (a0 ≤ 90) = false := decide_eq_false c8
          clear c8
          by_cases c11 : a0 ≥ 48
          · have H := HH.out
            rw [if_pos c11] at H
            replace HH := Aside0.mk H
            clear H
            have hk12 : decide (48 ≤ a0) = true := decide_eq_true c11
            clear c11
            by_cases c13 : a0 ≤ 57
            · have H := HH.out
              rw [if_pos c13] at H
              replace HH := Aside0.mk H
              clear H
              have hk14 : decide (a0 ≤ 57) = true := decide_eq_true c13
              clear c13
              have H := HH.out
              obtain rfl := Option.some.inj H
              clear HH
              go_wp2
              go_ret
              exact ⟨by first | rfl | (simp; done) | (simp [*]; done), by repeat (first | exact Drawn0.refl _ | apply Drawn0.step)⟩
            · have H := HH.out
              rw [if_neg c13] at H
              replace HH := Aside0.mk H
              clear H
              have hk15 : decide (a0 ≤ 57) = false := decide_eq_false c13
              clear c13
              by_cases c16 : a0 = 32
              · have H := HH.out
                rw [if_pos c16] at H
                replace HH := Aside0.mk H
                clear H
                have hk17 : (a0 == 32) = true := beq_iff_eq.mpr c16
                have hk18 : (a0 != 32) = false := bne_eq_false_iff_eq.mpr c16
                clear c16
                have H := HH.out
                obtain rfl := Option.some.inj H
                clear HH
                go_wp2
                go_ret
                exact ⟨by first | rfl | (simp; done) | (simp [*]; done), by repeat (first | exact Drawn0.refl _ | apply Drawn0.step)⟩
              · have H := HH.out
                rw [if_neg c16] at H
                replace HH := Aside0.mk H
                clear H
                have hk19 : (a0 == 32) = false := beq_eq_false_iff_ne.mpr c16
                have hk20 : (a0 != 32) = true := bne_iff_ne.mpr c16
                clear c16
                by_cases c21 : a0 ≥ 9
                · have H := HH.out
                  rw [if_pos c21] at H
                  replace HH := Aside0.mk H
                  clear H
                  have hk22 : decide (9 ≤ a0) = true := decide_eq_true c21
                  clear c21
                  by_cases c23 : a0 ≤ 13
                  · have H := HH.out
                    rw [if_pos c23] at H
                    replace HH := Aside0.mk H
                    clear H
                    have hk24 : decide (a0 ≤ 13) = true := decide_eq_true c23
                    clear c23
                    have H := HH.out
                    obtain rfl := Option.some.inj H
                    clear HH
                    go_wp2
                    go_ret
                    exact ⟨by first | rfl | (simp; done) | (simp [*]; done), by repeat (first | exact Drawn0.refl _ | apply Drawn0.step)⟩
                  · have H := HH.out
                    rw [if_neg c23] at H
                    replace HH := Aside0.mk H
                    clear H
                    have hk25 : decide (a0 ≤ 13) = false := decide_eq_false c23
                    clear c23
                    by_cases c26 : a0 < 32
                    · have H := HH.out
                      rw [if_pos c26] at H
                      replace HH := Aside0.mk H
                      clear H
                      have hk27 : (a0 < 32) = True := eq_true c26
                      have hk28 : decide (a0 < 32) = true := decide_eq_true c26
                      clear c26
                      have H := HH.out
                      obtain rfl := Option.some.inj H
                      clear HH
                      go_wp2
                      go_ret
                      exact ⟨by first | rfl | (simp; done) | (simp [*]; done), by repeat (first | exact Drawn0.refl _ | apply Drawn0.step)⟩
                    · have H := HH.out
                      rw [if_neg c26] at H
                      replace HH := Aside0.mk H
                      clear H
                      have hk29 : (a0 < 32) = False := eq_false c26
                      have hk30 : decide (a0 < 32) = false := decide_eq_false c26
                      clear c26
                      by_cases c31 : a0 = 127
                      · have H := HH.out
                        rw [if_pos c31] at H
                        replace HH := Aside0.mk H
                        clear H
                        have hk32 : (a0 == 127) = true := beq_iff_eq.mpr c31
                        have hk33 : (a0 != 127) = false := bne_eq_false_iff_eq.mpr c31
                        clear c31
                        have H := HH.out
                        obtain rfl := Option.some.inj H
                        clear HH
                        go_wp2
                        go_ret
                        exact ⟨by first | rfl | (simp; done) | (simp [*]; done), by repeat (first | exact Drawn0.refl _ | apply Drawn0.step)⟩
                      · have H := HH.out
                        rw [if_neg c31] at H
                        replace HH := Aside0.mk H
                        clear H
                        have hk34 : (a0 == 127) = false := beq_eq_false_iff_ne.mpr c31
                        have hk35 : (a0 != 127) = true := bne_iff_ne.mpr c31
                        clear c31
                        have H := HH.out
                        obtain rfl := Option.some.inj H
                        clear HH
                        go_wp2
                        go_ret
                        exact ⟨by first | rfl | (simp; done) | (simp [*]; done), by repeat (first | exact Drawn0.refl _ | apply Drawn0.step)⟩
                · have H := HH.out
                  rw [if_neg c21] at H
                  replace HH := Aside0.mk H
                  clear H
                  have hk36 : decide (9 ≤ a0) = false := decide_eq_false c21
                  clear c21
                  by_cases c37 : a0 < 32
                  · have H := HH.out
                    rw [if_pos c37] at H
                    replace HH := Aside0.mk H
                    clear H
                    have hk38 : (a0 < 32) = True := eq_true c37
                    have hk39 : decide (a0 < 32) = true := decide_eq_true c37
                    clear c37
                    have H := HH.out
                    obtain rfl := Option.some.inj H
                    clear HH
                    go_wp2
                    go_ret
                    exact ⟨by first | rfl | (simp; done) | (simp [*]; done), by repeat (first | exact Drawn0.refl _ | apply Drawn0.step)⟩
                  · have H := HH.out
                    rw [if_neg c37] at H
                    replace HH := Aside0.mk H
                    clear H
                    have hk40 : (a0 < 32) = False := eq_false c37
                    have hk41 : decide (a0 < 32) = false := decide_eq_false c37
                    clear c37
                    by_cases c42 : a0 = 127
                    · have H := HH.out
                      rw [if_pos c42] at H
                      replace HH := Aside0.mk H
                      clear H
                      have hk43 : (a0 == 127) = true := beq_iff_eq.mpr c42
                      have hk44 : (a0 != 127) = false := bne_eq_false_iff_eq.mpr c42
                      clear c42
                      have H := HH.out
                      obtain rfl := Option.some.inj H
                      clear HH
                      go_wp2
                      go_ret
                      exact ⟨by first | rfl | (simp; done) | (simp [*]; done), by repeat (first | exact Drawn0.refl _ | apply Drawn0.step)⟩
                    · have H := HH.out
                      rw [if_neg c42] at H
                      replace HH := Aside0.mk H
                      clear H
                      have hk45 : (a0 == 127) = false := beq_eq_false_iff_ne.mpr c42
                      have hk46 : (a0 != 127) = true := bne_iff_ne.mpr c42
                      clear c42
                      have H := HH.out
                      obtain rfl := Option.some.inj H
                      clear HH
                      go_wp2
                      go_ret
                      exact ⟨by first | rfl | (simp; done) | (simp [*]; done), by repeat (first | exact Drawn0.refl _ | apply Drawn0.step)⟩
          · have H := HH.out
            rw [if_neg c11] at H
            replace HH := Aside0.mk H
            clear H
            have hk47 : decide (48 ≤ a0) = false := decide_eq_false c11
            clear c11
            by_cases c48 : a0 = 32
            · have H := HH.out
              rw [if_pos c48] at H
              replace HH := Aside0.mk H
              clear H
              have hk49 : (a0 == 32) = true := beq_iff_eq.mpr c48
              have hk50 : (a0 != 32) = false := bne_eq_false_iff_eq.mpr c48
              clear c48
              have H := HH.out
              obtain rfl := Option.some.inj H
              clear HH
              go_wp2
              go_ret
              exact ⟨by first | rfl | (simp; done) | (simp [*]; done), by repeat (first | exact Drawn0.refl _ | apply Drawn0.step)⟩
            · have H := HH.out
              rw [if_neg c48] at H
              replace HH := Aside0.mk H
              clear H
              have hk51 : (a0 == 32) = false := beq_eq_false_iff_ne.mpr c48
              have hk52 : (a0 != 32) = true := bne_iff_ne.mpr c48
              clear c48
              by_cases c53 : a0 ≥ 9
              · have H := HH.out
                rw [if_pos c53] at H
                replace HH := Aside0.mk H
                clear H
                have hk54 : decide (9 ≤ a0) = true := decide_eq_true c53
                clear c53
                by_cases c55 : a0 ≤ 13
                · have H := HH.out
                  rw [if_pos c55] at H
                  replace HH := Aside0.mk H
                  clear H
                  have hk56 : decide (a0 ≤ 13) = true := decide_eq_true c55
                  clear c55
                  have H := HH.out
                  obtain rfl := Option.some.inj H
                  clear HH
                  go_wp2
                  go_ret
                  exact ⟨by first | rfl | (simp; done) | (simp [*]; done), by repeat (first | exact Drawn0.refl _ | apply Drawn0.step)⟩
                · have H := HH.out
                  rw [if_neg c55] at H
                  replace HH := Aside0.mk H
                  clear H
                  have hk57 : decide (a0 ≤ 13) = false := decide_eq_false c55
                  clear c55
                  by_cases c58 : a0 < 32
                  · have H := HH.out
                    rw [if_pos c58] at H
                    replace HH := Aside0.mk H
                    clear H
                    have hk59 : (a0 < 32) = True := eq_true c58
                    have hk60 : decide (a0 < 32) = true := decide_eq_true c58
                    clear c58
                    have H := HH.out
                    obtain rfl := Option.some.inj H
                    clear HH
                    go_wp2
                    go_ret
                    exact ⟨by first | rfl | (simp; done) | (simp [*]; done), by repeat (first | exact Drawn0.refl _ | apply Drawn0.step)⟩
                  · have H := HH.out
                    rw [if_neg c58] at H
                    replace HH := Aside0.mk H
                    clear H
                    have hk61 : (a0 < 32) = False := eq_false c58
                    have hk62 : decide (a0 < 32) = false := decide_eq_false c58
                    clear c58
                    by_cases c63 : a0 = 127
                    · have H := HH.out
                      rw [if_pos c63] at H
                      replace HH := Aside0.mk H
                      clear H
                      have hk64 : (a0 == 127) = true := beq_iff_eq.mpr c63
                      have hk65 : (a0 != 127) = false := bne_eq_false_iff_eq.mpr c63
                      clear c63
                      have H := HH.out
                      obtain rfl := Option.some.inj H
                      clear HH
                      go_wp2
                      go_ret
                      exact ⟨by first | rfl | (simp; done) | (simp [*]; done), by repeat (first | exact Drawn0.refl _ | apply Drawn0.step)⟩
                    · have H := HH.out
                      rw [if_neg c63] at H
                      replace HH := Aside0.mk H
                      clear H
                      have hk66 : (a0 == 127) = false := beq_eq_false_iff_ne.mpr c63
                      have hk67 : (a0 != 127) = true := bne_iff_ne.mpr c63
                      clear c63
                      have H := HH.out
                      obtain rfl := Option.some.inj H
                      clear HH
                      go_wp2
                      go_ret
                      exact ⟨by first | rfl | (simp; done) | (simp [*]; done), by repeat (first | exact Drawn0.refl _ | apply Drawn0.step)⟩
              · have H := HH.out
                rw [if_neg c53] at H
                replace HH := Aside0.mk H
                clear H
                have hk68 : decide (9 ≤ a0) = false := decide_eq_false c53
                clear c53
                by_cases c69 : a0 < 32
                · have H := HH.out
                  rw [if_pos c69] at H
                  replace HH := Aside0.mk H
                  clear H
                  have hk70 : (a0 < 32) = True := eq_true c69
                  have hk71 : decide (a0 < 32) = true := decide_eq_true c69
                  clear c69
                  have H := HH.out
                  obtain rfl := Option.some.inj H
                  clear HH
                  go_wp2
                  go_ret
                  exact ⟨by first | rfl | (simp; done) | (simp [*]; done), by repeat (first | exact Drawn0.refl _ | apply Drawn0.step)⟩
                · have H := HH.out
                  rw [if_neg c69] at H
                  replace HH := Aside0.mk H
                  clear H
                  have hk72 : (a0 < 32) = False := eq_false c69
                  have hk73 : decide (a0 < 32) = false := decide_eq_false c69
                  clear c69
                  by_cases c74 : a0 = 127
                  · have H := HH.out
                    rw [if_pos c74] at H
                    replace HH := Aside0.mk H
                    clear H
                    have hk75 : (a0 == 127) = true := beq_iff_eq.mpr c74
                    have hk76 : (a0 != 127) = false := bne_eq_false_iff_eq.mpr c74
                    clear c74
                    have H := HH.out
                    obtain rfl := Option.some.inj H
                    clear HH
                    go_wp2
                    go_ret
                    exact ⟨by first | rfl | (simp; done) | (simp [*]; done), by repeat (first | exact Drawn0.refl _ | apply Drawn0.step)⟩
                  · have H := HH.out
                    rw [if_neg c74] at H
                    replace HH := Aside0.mk H
                    clear H
                    have hk77 : (a0 == 127) = false := beq_eq_false_iff_ne.mpr c74
                    have hk78 : (a0 != 127) = true := bne_iff_ne.mpr c74
                    clear c74
                    have H := HH.out
                    obtain rfl := Option.some.inj H
                    clear HH
                    go_wp2
                    go_ret
                    exact ⟨by first | rfl | (simp; done) | (simp [*]; done), by repeat (first | exact Drawn0.refl _ | apply Drawn0.step)⟩
      · have H := HH.out
        rw [if_neg c6] at H
        replace HH := Aside0.mk H
        clear H
        have hk79 : decide (65 ≤ a0) = false := decide_eq_false c6
        clear c6
        by_cases c80 : a0 ≥ 48
        · have H := HH.out
          rw [if_pos c80] at H
          replace HH := Aside0.mk H
          clear H
          have hk81 : decide (48 ≤ a0) = true := decide_eq_true c80
          clear c80
          by_cases c82 : a0 ≤ 57
          · have H := HH.out
            rw [if_pos c82] at H
            replace HH := Aside0.mk H
            clear H
            have hk83 : decide (a0 ≤ 57) = true := decide_eq_true c82
            clear c82
            have H := HH.out
            obtain rfl := Option.some.inj H
            clear HH
            go_wp2
            go_ret
            exact ⟨by first | rfl | (simp; done) | (simp [*]; done), by repeat (first | exact Drawn0.refl _ | apply Drawn0.step)⟩
          · have H := HH.out
            rw [if_neg c82] at H
            replace HH := Aside0.mk H
            clear H
            have hk84 : decide (a0 ≤ 57) = false := decide_eq_false c82
            clear c82
            by_cases c85 : a0 = 32
            · have H := HH.out
              rw [if_pos c85] at H
              replace HH := Aside0.mk H
              clear H
              have hk86 : (a0 == 32) = true := beq_iff_eq.mpr c85
              have hk87 : (a0 != 32) = false := bne_eq_false_iff_eq.mpr c85
              clear c85
              have H := HH.out
              obtain rfl := Option.some.inj H
              clear HH
              go_wp2
              go_ret
              exact ⟨by first | rfl | (simp; done) | (simp [*]; done), by repeat (first | exact Drawn0.refl _ | apply Drawn0.step)⟩
            · have H := HH.out
              rw [if_neg c85] at H
              replace HH := Aside0.mk H
              clear H
              have hk88 : (a0 == 32) = false := beq_eq_false_iff_ne.mpr c85
              have hk89 : (a0 != 32) = true := bne_iff_ne.mpr c85
              clear c85
              by_cases c90 : a0 ≥ 9
              · have H := HH.out
                rw [if_pos c90] at H
                replace HH := Aside0.mk H
                clear H
                have hk91 : decide (9 ≤ a0) = true := decide_eq_true c90
                clear c90
                by_cases c92 : a0 ≤ 13
                · have H := HH.out
                  rw [if_pos c92] at H
                  replace HH := Aside0.mk H
                  clear H
                  have hk93 : decide (a0 ≤ 13) = true := decide_eq_true c92
                  clear c92
                  have H := HH.out
                  obtain rfl := Option.some.inj H
                  clear HH
                  go_wp2
                  go_ret
                  exact ⟨by first | rfl | (simp; done) | (simp [*]; done), by repeat (first | exact Drawn0.refl _ | apply Drawn0.step)⟩
                · have H := HH.out
                  rw [if_neg c92] at H
                  replace HH := Aside0.mk H
                  clear H
                  have hk94 : decide (a0 ≤ 13) = false := decide_eq_false c92
                  clear c92
                  by_cases c95 : a0 < 32
                  · have H := HH.out
                    rw [if_pos c95] at H
                    replace HH := Aside0.mk H
                    clear H
                    have hk96 : (a0 < 32) = True := eq_true c95
                    have hk97 : decide (a0 < 32) = true := decide_eq_true c95
                    clear c95
                    have H := HH.out
                    obtain rfl := Option.some.inj H
                    clear HH
                    go_wp2
                    go_ret
                    exact ⟨by first | rfl | (simp; done) | (simp [*]; done), by repeat (first | exact Drawn0.refl _ | apply Drawn0.step)⟩
                  · have H := HH.out
                    rw [if_neg c95] at H
                    replace HH := Aside0.mk H
                    clear H
                    have hk98 : (a0 < 32) = False := eq_false c95
                    have hk99 : decide (a0 < 32) = false := decide_eq_false c95
                    clear c95
                    by_cases c100 : a0 = 127
                    · have H := HH.out
                      rw [if_pos c100] at H
                      replace HH := Aside0.mk H
                      clear H
                      have hk101 : (a0 == 127) = true := beq_iff_eq.mpr c100
                      have hk102 : (a0 != 127) = false := bne_eq_false_iff_eq.mpr c100
                      clear c100
                      have H := HH.out
                      obtain rfl := Option.some.inj H
                      clear HH
                      go_wp2
                      go_ret
                      exact ⟨by first | rfl | (simp; done) | (simp [*]; done), by repeat (first | exact Drawn0.refl _ | apply Drawn0.step)⟩
                    · have H := HH.out
                      rw [if_neg c100] at H
                      replace HH := Aside0.mk H
                      clear H
                      have hk103 : (a0 == 127) = false := beq_eq_false_iff_ne.mpr c100
                      have hk104 : (a0 != 127) = true := bne_iff_ne.mpr c100
                      clear c100
                      have H := HH.out
                      obtain rfl := Option.some.inj H
                      clear HH
                      go_wp2
                      go_ret
                      exact ⟨by first | rfl | (simp; done) | (simp [*]; done), by repeat (first | exact Drawn0.refl _ | apply Drawn0.step)⟩
              · have H := HH.out
                rw [if_neg c90] at H
                replace HH := Aside0.mk H
                clear H
                have hk105 : decide (9 ≤ a0) = false := decide_eq_false c90
                clear c90
                by_cases c106 : a0 < 32
                · have H := HH.out
                  rw [if_pos c106] at H
                  replace HH := Aside0.mk H
                  clear H
                  have hk107 : (a0 < 32) = True := eq_true c106
                  have hk108 : decide (a0 < 32) = true := decide_eq_true c106
                  clear c106
                  have H := HH.out
                  obtain rfl := Option.some.inj H
                  clear HH
                  go_wp2
                  go_ret
                  exact ⟨by first | rfl | (simp; done) | (simp [*]; done), by repeat (first | exact Drawn0.refl _ | apply Drawn0.step)⟩
                · have H := HH.out
                  rw [if_neg c106] at H
                  replace HH := Aside0.mk H
                  clear H
                  have hk109 : (a0 < 32) = False := eq_false c106
                  have hk110 : decide (a0 < 32) = false := decide_eq_false c106
                  clear c106
                  by_cases c111 : a0 = 127
                  · have H := HH.out
                    rw [if_pos c111] at H
                    replace HH := Aside0.mk H
                    clear H
                    have hk112 : (a0 == 127) = true := beq_iff_eq.mpr c111
                    have hk113 : (a0 != 127) = false := bne_eq_false_iff_eq.mpr c111
                    clear c111
                    have H := HH.out
                    obtain rfl := Option.some.inj H
                    clear HH
                    go_wp2
                    go_ret
                    exact ⟨by first | rfl | (simp; done) | (simp [*]; done), by repeat (first | exact Drawn0.refl _ | apply Drawn0.step)⟩
                  · have H := HH.out
                    rw [if_neg c111] at H
                    replace HH := Aside0.mk H
                    clear H
                    have hk114 : (a0 == 127) = false := beq_eq_false_iff_ne.mpr c111
                    have hk115 : (a0 != 127) = true := bne_iff_ne.mpr c111
                    clear c111
                    have H := HH.out
                    obtain rfl := Option.some.inj H
                    clear HH
                    go_wp2
                    go_ret
                    exact ⟨by first | rfl | (simp; done) | (simp [*]; done), by repeat (first | exact Drawn0.refl _ | apply Drawn0.step)⟩
        · have H := HH.out
          rw [if_neg c80] at H
          replace HH := Aside0.mk H
          clear H
          have hk116 : decide (48 ≤ a0) = false := decide_eq_false c80
          clear c80
          by_cases c117 : a0 = 32
          · have H := HH.out
            rw [if_pos c117] at H
            replace HH := Aside0.mk H
            clear H
            have hk118 : (a0 == 32) = true := beq_iff_eq.mpr c117
            have hk119 : (a0 != 32) = false := bne_eq_false_iff_eq.mpr c117
            clear c117
            have H := HH.out
            obtain rfl := Option.some.inj H
            clear HH
            go_wp2
            go_ret
            exact ⟨by first | rfl | (simp; done) | (simp [*]; done), by repeat (first | exact Drawn0.refl _ | apply Drawn0.step)⟩
          · have H := HH.out
            rw [if_neg c117] at H
            replace HH := Aside0.mk H
            clear H
            have hk120 : (a0 == 32) = false := beq_eq_false_iff_ne.mpr c117
            have hk121 : (a0 != 32) = true := bne_iff_ne.mpr c117
            clear c117
            by_cases c122 : a0 ≥ 9
            · have H := HH.out
              rw [if_pos c122] at H
              replace HH := Aside0.mk H
              clear H
              have hk123 : decide (9 ≤ a0) = true := decide_eq_true c122
              clear c122
              by_cases c124 : a0 ≤ 13
              · have H := HH.out
                rw [if_pos c124] at H
                replace HH := Aside0.mk H
                clear H
                have hk125 : decide (a0 ≤ 13) = true := decide_eq_true c124
                clear c124
                have H := HH.out
                obtain rfl := Option.some.inj H
                clear HH
                go_wp2
                go_ret
                exact ⟨by first | rfl | (simp; done) | (simp [*]; done), by repeat (first | exact Drawn0.refl _ | apply Drawn0.step)⟩
              · have H := HH.out
                rw [if_neg c124] at H
                replace HH := Aside0.mk H
                clear H
                have hk126 : decide (a0 ≤ 13) = false := decide_eq_false c124
                clear c124
                by_cases c127 : a0 < 32
                · have H := HH.out
                  rw [if_pos c127] at H
                  replace HH := Aside0.mk H
                  clear H
                  have hk128 : (a0 < 32) = True := eq_true c127
                  have hk129 : decide (a0 < 32) = true := decide_eq_true c127
                  clear c127
                  have H := HH.out
                  obtain rfl := Option.some.inj H
                  clear HH
                  go_wp2
                  go_ret
                  exact ⟨by first | rfl | (simp; done) | (simp [*]; done), by repeat (first | exact Drawn0.refl _ | apply Drawn0.step)⟩
                · have H := HH.out
                  rw [if_neg c127] at H
                  replace HH := Aside0.mk H
                  clear H
                  have hk130 : (a0 < 32) = False := eq_false c127
                  have hk131 : decide (a0 < 32) = false := decide_eq_false c127
                  clear c127
                  by_cases c132 : a0 = 127
                  · have H := HH.out
                    rw [if_pos c132] at H
                    replace HH := Aside0.mk H
                    clear H
                    have hk133 : (a0 == 127) = true := beq_iff_eq.mpr c132
                    have hk134 : (a0 != 127) = false := bne_eq_false_iff_eq.mpr c132
                    clear c132
                    have H := HH.out
                    obtain rfl := Option.some.inj H
                    clear HH
                    go_wp2
                    go_ret
                    exact ⟨by first | rfl | (simp; done) | (simp [*]; done), by repeat (first | exact Drawn0.refl _ | apply Drawn0.step)⟩
                  · have H := HH.out
                    rw [if_neg c132] at H
                    replace HH := Aside0.mk H
                    clear H
                    have hk135 : (a0 == 127) = false := beq_eq_false_iff_ne.mpr c132
                    have hk136 : (a0 != 127) = true := bne_iff_ne.mpr c132
                    clear c132
                    have H := HH.out
                    obtain rfl := Option.some.inj H
                    clear HH
                    go_wp2
                    go_ret
                    exact ⟨by first | rfl | (simp; done) | (simp [*]; done), by repeat (first | exact Drawn0.refl _ | apply Drawn0.step)⟩
            · have H := HH.out
              rw [if_neg c122] at H
              replace HH := Aside0.mk H
              clear H
              have hk137 : decide (9 ≤ a0) = false := decide_eq_false c122
              clear c122
              by_cases c138 : a0 < 32
              · have H := HH.out
                rw [if_pos c138] at H
                replace HH := Aside0.mk H
                clear H
                have hk139 : (a0 < 32) = True := eq_true c138
                have hk140 : decide (a0 < 32) = true := decide_eq_true c138
                clear c138
                have H := HH.out
                obtain rfl := Option.some.inj H
                clear HH
                go_wp2
                go_ret
                exact ⟨by first | rfl | (simp; done) | (simp [*]; done), by repeat (first | exact Drawn0.refl _ | apply Drawn0.step)⟩
              · have H := HH.out
                rw [if_neg c138] at H
                replace HH := Aside0.mk H
                clear H
                have hk141 : (a0 < 32) = False := eq_false c138
                have hk142 : decide (a0 < 32) = false := decide_eq_false c138
                clear c138
                by_cases c143 : a0 = 127
                · have H := HH.out
                  rw [if_pos c143] at H
                  replace HH := Aside0.mk H
                  clear H
                  have hk144 : (a0 == 127) = true := beq_iff_eq.mpr c143
                  have hk145 : (a0 != 127) = false := bne_eq_false_iff_eq.mpr c143
                  clear c143
                  have H := HH.out
                  obtain rfl := Option.some.inj H
                  clear HH
                  go_wp2
                  go_ret
                  exact ⟨by first | rfl | (simp; done) | (simp [*]; done), by repeat (first | exact Drawn0.refl _ | apply Drawn0.step)⟩
                · have H := HH.out
                  rw [if_neg c143] at H
                  replace HH := Aside0.mk H
                  clear H
                  have hk146 : (a0 == 127) = false := beq_eq_false_iff_ne.mpr c143
                  have hk147 : (a0 != 127) = true := bne_iff_ne.mpr c143
                  clear c143
                  have H := HH.out
                  obtain rfl := Option.some.inj H
                  clear HH
                  go_wp2
                  go_ret
                  exact ⟨by first | rfl | (simp; done) | (simp [*]; done), by repeat (first | exact Drawn0.refl _ | apply Drawn0.step)⟩
  · have H := HH.out
    rw [if_neg c1] at H
    replace HH := Aside0.mk H
    clear H
    have hk148 : decide (97 ≤ a0) = false := decide_eq_false c1
    clear c1
    by_cases c149 : a0 ≥ 65
    · have H := HH.out
      rw [if_pos c149] at H
      replace HH := Aside0.mk H
      clear H
      have hk150 : decide (65 ≤ a0) = true := decide_eq_true c149
      clear c149
      by_cases c151 : a0 ≤ 90
      · have H := HH.out
        rw [if_pos c151] at H
        replace HH := Aside0.mk H
        clear H
        have hk152 : decide (a0 ≤ 90) = true := decide_eq_true c151
        clear c151
        have H := HH.out
        obtain rfl := Option.some.inj H
        clear HH
        go_wp2
        go_ret
        exact ⟨by first | rfl | (simp; done) | (simp [*]; done), by repeat (first | exact Drawn0.refl _ | apply Drawn0.step)⟩
      · have H := HH.out
        rw [if_neg c151] at H
        replace HH := Aside0.mk H
        clear H
        have hk153 : decide (a0 ≤ 90) = false := decide_eq_false c151
        clear c151
        by_cases c154 : a0 ≥ 48
        · have H := HH.out
          rw [if_pos c154] at H
          replace HH := Aside0.mk H
          clear H
          have hk155 : decide (48 ≤ a0) = true := decide_eq_true c154
          clear c154
          by_cases c156 : a0 ≤ 57
          · have H := HH.out
            rw [if_pos c156] at H
            replace HH := Aside0.mk H
            clear H
            have hk157 : decide (a0 ≤ 57) = true := decide_eq_true c156
            clear c156
            have H := HH.out
            obtain rfl := Option.some.inj H
            clear HH
            go_wp2
            go_ret
            exact ⟨by first | rfl | (simp; done) | (simp [*]; done), by repeat (first | exact Drawn0.refl _ | apply Drawn0.step)⟩
          · have H := HH.out
            rw [if_neg c156] at H
            replace HH := Aside0.mk H
            clear H
            have hk158 : decide (a0 ≤ 57) = false := decide_eq_false c156
            clear c156
            by_cases c159 : a0 = 32
            · have H := HH.out
              rw [if_pos c159] at H
              replace HH := Aside0.mk H
              clear H
              have hk160 : (a0 == 32) = true := beq_iff_eq.mpr c159
              have hk161 : (a0 != 32) = false := bne_eq_false_iff_eq.mpr c159
              clear c159
              have H := HH.out
              obtain rfl := Option.some.inj H
              clear HH
              go_wp2
              go_ret
              exact ⟨by first | rfl | (simp; done) | (simp [*]; done), by repeat (first | exact Drawn0.refl _ | apply Drawn0.step)⟩
            · have H := HH.out
              rw [if_neg c159] at H
              replace HH := Aside0.mk H
              clear H
              have hk162 : (a0 == 32) = false := beq_eq_false_iff_ne.mpr c159
              have hk163 : (a0 != 32) = true := bne_iff_ne.mpr c159
              clear c159
              by_cases c164 : a0 ≥ 9
              · have H := HH.out
                rw [if_pos c164] at H
                replace HH := Aside0.mk H
                clear H
                have hk165 : decide (9 ≤ a0) = true := decide_eq_true c164
                clear c164
                by_cases c166 : a0 ≤ 13
                · have H := HH.out
                  rw [if_pos c166] at H
                  replace HH := Aside0.mk H
                  clear H
                  have hk167 : decide (a0 ≤ 13) = true := decide_eq_true c166
                  clear c166
                  have H := HH.out
                  obtain rfl := Option.some.inj H
                  clear HH
                  go_wp2
                  go_ret
                  exact ⟨by first | rfl | (simp; done) | (simp [*]; done), by repeat (first | exact Drawn0.refl _ | apply Drawn0.step)⟩
                · have H := HH.out
                  rw [if_neg c166] at H
                  replace HH := Aside0.mk H
                  clear H
                  have hk168 : decide (a0 ≤ 13) = false := decide_eq_false c166
                  clear c166
                  by_cases c169 : a0 < 32
                  · have H := HH.out
                    rw [if_pos c169] at H
                    replace HH := Aside0.mk H
                    clear H
                    have hk170 : (a0 < 32) = True := eq_true c169
                    have hk171 : decide (a0 < 32) = true := decide_eq_true c169
                    clear c169
                    have H := HH.out
                    obtain rfl := Option.some.inj H
                    clear HH
                    go_wp2
                    go_ret
                    exact ⟨by first | rfl | (simp; done) | (simp [*]; done), by repeat (first | exact Drawn0.refl _ | apply Drawn0.step)⟩
                  · have H := HH.out
                    rw [if_neg c169] at H
                    replace HH := Aside0.mk H
                    clear H
                    have hk172 : (a0 < 32) = False := eq_false c169
                    have hk173 : decide (a0 < 32) = false := decide_eq_false c169
                    clear c169
                    by_cases c174 : a0 = 127
                    · have H := HH.out
                      rw [if_pos c174] at H
                      replace HH := Aside0.mk H
                      clear H
                      have hk175 : (a0 == 127) = true := beq_iff_eq.mpr c174
                      have hk176 : (a0 != 127) = false := bne_eq_false_iff_eq.mpr c174
                      clear c174
                      have H := HH.out
                      obtain rfl := Option.some.inj H
                      clear HH
                      go_wp2
                      go_ret
                      exact ⟨by first | rfl | (simp; done) | (simp [*]; done), by repeat (first | exact Drawn0.refl _ | apply Drawn0.step)⟩
                    · have H := HH.out
                      rw [if_neg c174] at H
                      replace HH := Aside0.mk H
                      clear H
                      have hk177 : (a0 == 127) = false := beq_eq_false_iff_ne.mpr c174
                      have hk178 : (a0 != 127) = true := bne_iff_ne.mpr c174
                      clear c174
                      have H := HH.out
                      obtain rfl := Option.some.inj H
                      clear HH
                      go_wp2
                      go_ret
                      exact ⟨by first | rfl | (simp; done) | (simp [*]; done), by repeat (first | exact Drawn0.refl _ | apply Drawn0.step)⟩
              · have H := HH.out
                rw [if_neg c164] at H
                replace HH := Aside0.mk H
                clear H
                have hk179 : decide (9 ≤ a0) = false := decide_eq_false c164
                clear c164
                by_cases c180 : a0 < 32
                · have H := HH.out
                  rw [if_pos c180] at H
                  replace HH := Aside0.mk H
                  clear H
                  have hk181 : (a0 < 32) = True := eq_true c180
                  have hk182 : decide (a0 < 32) = true := decide_eq_true c180
                  clear c180
                  have H := HH.out
                  obtain rfl := Option.some.inj H
                  clear HH
                  go_wp2
                  go_ret
                  exact ⟨by first | rfl | (simp; done) | (simp [*]; done), by repeat (first | exact Drawn0.refl _ | apply Drawn0.step)⟩
                · have H := HH.out
                  rw [if_neg c180] at H
                  replace HH := Aside0.mk H
                  clear H
                  have hk183 : (a0 < 32) = False := eq_false c180
                  have hk184 : decide (a0 < 32) = false := decide_eq_false c180
                  clear c180
                  by_cases c185 : a0 = 127
                  · have H := HH.out
                    rw [if_pos c185] at H
                    replace HH := Aside0.mk H
                    clear H
                    have hk186 : (a0 == 127) = true := beq_iff_eq.mpr c185
                    have hk187 : (a0 != 127) = false := bne_eq_false_iff_eq.mpr c185
                    clear c185
                    have H := HH.out
                    obtain rfl := Option.some.inj H
                    clear HH
                    go_wp2
                    go_ret
                    exact ⟨by first | rfl | (simp; done) | (simp [*]; done), by repeat (first | exact Drawn0.refl _ | apply Drawn0.step)⟩
                  · have H := HH.out
                    rw [if_neg c185] at H
                    replace HH := Aside0.mk H
                    clear H
                    have hk188 : (a0 == 127) = false := beq_eq_false_iff_ne.mpr c185
                    have hk189 : (a0 != 127) = true := bne_iff_ne.mpr c185
                    clear c185
                    have H := HH.out
                    obtain rfl := Option.some.inj H
                    clear HH
                    go_wp2
                    go_ret
                    exact ⟨by first | rfl | (simp; done) | (simp [*]; done), by repeat (first | exact Drawn0.refl _ | apply Drawn0.step)⟩
        · have H := HH.out
          rw [if_neg c154] at H
          replace HH := Aside0.mk H
          clear H
          have hk190 : decide (48 ≤ a0) = false := decide_eq_false c154
          clear c154
          by_cases c191 : a0 = 32
          · have H := HH.out
            rw [if_pos c191] at H
            replace HH := Aside0.mk H
            clear H
            have hk192 : (a0 == 32) = true := beq_iff_eq.mpr c191
            have hk193 : (a0 != 32) = false := bne_eq_false_iff_eq.mpr c191
            clear c191
            have H := HH.out
            obtain rfl := Option.some.inj H
            clear HH
            go_wp2
            go_ret
            exact ⟨by first | rfl | (simp; done) | (simp [*]; done), by repeat (first | exact Drawn0.refl _ | apply Drawn0.step)⟩
          · have H := HH.out
            rw [if_neg c191] at H
            replace HH := Aside0.mk H
            clear H
            have hk194 : (a0 == 32) = false := beq_eq_false_iff_ne.mpr c191
            have hk195 : (a0 != 32) = true := bne_iff_ne.mpr c191
            clear c191
            by_cases c196 : a0 ≥ 9
            · have H := HH.out
              rw [if_pos c196] at H
              replace HH := Aside0.mk H
              clear H
              have hk197 : decide (9 ≤ a0) = true := decide_eq_true c196
              clear c196
              by_cases c198 : a0 ≤ 13
              · have H := HH.out
                rw [if_pos c198] at H
                replace HH := Aside0.mk H
                clear H
                have hk199 : decide (a0 ≤ 13) = true := decide_eq_true c198
                clear c198
                have H := HH.out
                obtain rfl := Option.some.inj H
                clear HH
                go_wp2
                go_ret
                exact ⟨by first | rfl | (simp; done) | (simp [*]; done), by repeat (first | exact Drawn0.refl _ | apply Drawn0.step)⟩
              · have H := HH.out
                rw [if_neg c198] at H
                replace HH := Aside0.mk H
                clear H
                have hk200 : decide (a0 ≤ 13) = false := decide_eq_false c198
                clear c198
                by_cases c201 : a0 < 32
                · have H := HH.out
                  rw [if_pos c201] at H
                  replace HH := Aside0.mk H
                  clear H
                  have hk202 : (a0 < 32) = True := eq_true c201
                  have hk203 : decide (a0 < 32) = true := decide_eq_true c201
                  clear c201
                  have H := HH.out
                  obtain rfl := Option.some.inj H
                  clear HH
                  go_wp2
                  go_ret
                  exact ⟨by first | rfl | (simp; done) | (simp [*]; done), by repeat (first | exact Drawn0.refl _ | apply Drawn0.step)⟩
                · have H := HH.out
                  rw [if_neg c201] at H
                  replace HH := Aside0.mk H
                  clear H
                  have hk204 : (a0 < 32) = False := eq_false c201
                  have hk205 : decide (a0 < 32) = false := decide_eq_false c201
                  clear c201
                  by_cases c206 : a0 = 127
                  · have H := HH.out
                    rw [if_pos c206] at H
                    replace HH := Aside0.mk H
                    clear H
                    have hk207 : (a0 == 127) = true := beq_iff_eq.mpr c206
                    have hk208 : (a0 != 127) = false := bne_eq_false_iff_eq.mpr c206
                    clear c206
                    have H := HH.out
                    obtain rfl := Option.some.inj H
                    clear HH
                    go_wp2
                    go_ret
                    exact ⟨by first | rfl | (simp; done) | (simp [*]; done), by repeat (first | exact Drawn0.refl _ | apply Drawn0.step)⟩
                  · have H := HH.out
                    rw [if_neg c206] at H
                    replace HH := Aside0.mk H
                    clear H
                    have hk209 : (a0 == 127) = false := beq_eq_false_iff_ne.mpr c206
                    have hk210 : (a0 != 127) = true := bne_iff_ne.mpr c206
                    clear c206
                    have H := HH.out
                    obtain rfl := Option.some.inj H
                    clear HH
                    go_wp2
                    go_ret
                    exact ⟨by first | rfl | (simp; done) | (simp [*]; done), by repeat (first | exact Drawn0.refl _ | apply Drawn0.step)⟩
            · have H := HH.out
              rw [if_neg c196] at H
              replace HH := Aside0.mk H
              clear H
              have hk211 : decide (9 ≤ a0) = false := decide_eq_false c196
              clear c196
              by_cases c212 : a0 < 32
              · have H := HH.out
                rw [if_pos c212] at H
                replace HH := Aside0.mk H
                clear H
                have hk213 : (a0 < 32) = True := eq_true c212
                have hk214 : decide (a0 < 32) = true := decide_eq_true c212
                clear c212
                have H := HH.out
                obtain rfl := Option.some.inj H
                clear HH
                go_wp2
                go_ret
                exact ⟨by first | rfl | (simp; done) | (simp [*]; done), by repeat (first | exact Drawn0.refl _ | apply Drawn0.step)⟩
              · have H := HH.out
                rw [if_neg c212] at H
                replace HH := Aside0.mk H
                clear H
                have hk215 : (a0 < 32) = False := eq_false c212
                have hk216 : decide (a0 < 32) = false := decide_eq_false c212
                clear c212
                by_cases c217 : a0 = 127
                · have H := HH.out
                  rw [if_pos c217] at H
                  replace HH := Aside0.mk H
                  clear H
                  have hk218 : (a0 == 127) = true := beq_iff_eq.mpr c217
                  have hk219 : (a0 != 127) = false := bne_eq_false_iff_eq.mpr c217
                  clear c217
                  have H := HH.out
                  obtain rfl := Option.some.inj H
                  clear HH
                  go_wp2
                  go_ret
                  exact ⟨by first | rfl | (simp; done) | (simp [*]; done), by repeat (first | exact Drawn0.refl _ | apply Drawn0.step)⟩
                · have H := HH.out
                  rw [if_neg c217] at H
                  replace HH := Aside0.mk H
                  clear H
                  have hk220 : (a0 == 127) = false := beq_eq_false_iff_ne.mpr c217
                  have hk221 : (a0 != 127) = true := bne_iff_ne.mpr c217
                  clear c217
                  have H := HH.out
                  obtain rfl := Option.some.inj H
                  clear HH
                  go_wp2
                  go_ret
                  exact ⟨by first | rfl | (simp; done) | (simp [*]; done), by repeat (first | exact Drawn0.refl _ | apply Drawn0.step)⟩
    · have H := HH.out
      rw [if_neg c149] at H
      replace HH := Aside0.mk H
      clear H
      have hk222 : decide (65 ≤ a0) = false := decide_eq_false c149
      clear c149
      by_cases c223 : a0 ≥ 48
      · have H := HH.out
        rw [if_pos c223] at H
        replace HH := Aside0.mk H
        clear H
        have hk224 : decide (48 ≤ a0) = true := decide_eq_true c223
        clear c223
        by_cases c225 : a0 ≤ 57
        · have H := HH.out
          rw [if_pos c225] at H
          replace HH := Aside0.mk H
          clear H
          have hk226 : decide (a0 ≤ 57) = true := decide_eq_true c225
          clear c225
          have H := HH.out
          obtain rfl := Option.some.inj H
          clear HH
          go_wp2
          go_ret
          exact ⟨by first | rfl | (simp; done) | (simp [*]; done), by repeat (first | exact Drawn0.refl _ | apply Drawn0.step)⟩
        · have H := HH.out
          rw [if_neg c225] at H
          replace HH := Aside0.mk H
          clear H
          have hk227 : decide (a0 ≤ 57) = false := decide_eq_false c225
          clear c225
          by_cases c228 : a0 = 32
          · have H := HH.out
            rw [if_pos c228] at H
            replace HH := Aside0.mk H
            clear H
            have hk229 : (a0 == 32) = true := beq_iff_eq.mpr c228
            have hk230 : (a0 != 32) = false := bne_eq_false_iff_eq.mpr c228
            clear c228
            have H := HH.out
            obtain rfl := Option.some.inj H
            clear HH
            go_wp2
            go_ret
            exact ⟨by first | rfl | (simp; done) | (simp [*]; done), by repeat (first | exact Drawn0.refl _ | apply Drawn0.step)⟩
          · have H := HH.out
            rw [if_neg c228] at H
            replace HH := Aside0.mk H
            clear H
            have hk231 : (a0 == 32) = false := beq_eq_false_iff_ne.mpr c228
            have hk232 : (a0 != 32) = true := bne_iff_ne.mpr c228
            clear c228
            by_cases c233 : a0 ≥ 9
            · have H := HH.out
              rw [if_pos c233] at H
              replace HH := Aside0.mk H
              clear H
              have hk234 : decide (9 ≤ a0) = true := decide_eq_true c233
              clear c233
              by_cases c235 : a0 ≤ 13
              · have H := HH.out
                rw [if_pos c235] at H
                replace HH := Aside0.mk H
                clear H
                have hk236 : decide (a0 ≤ 13) = true := decide_eq_true c235
                clear c235
                have H := HH.out
                obtain rfl := Option.some.inj H
                clear HH
                go_wp2
                go_ret
                exact ⟨by first | rfl | (simp; done) | (simp [*]; done), by repeat (first | exact Drawn0.refl _ | apply Drawn0.step)⟩
              · have H := HH.out
                rw [if_neg c235] at H
                replace HH := Aside0.mk H
                clear H
                have hk237 : decide (a0 ≤ 13) = false := decide_eq_false c235
                clear c235
                by_cases c238 : a0 < 32
                · have H := HH.out
                  rw [if_pos c238] at H
                  replace HH := Aside0.mk H
                  clear H
                  have hk239 : (a0 < 32) = True := eq_true c238
                  have hk240 : decide (a0 < 32) = true := decide_eq_true c238
                  clear c238
                  have H := HH.out
                  obtain rfl := Option.some.inj H
                  clear HH
                  go_wp2
                  go_ret
                  exact ⟨by first | rfl | (simp; done) | (simp [*]; done), by repeat (first | exact Drawn0.refl _ | apply Drawn0.step)⟩
                · have H := HH.out
                  rw [if_neg c238] at H
                  replace HH := Aside0.mk H
                  clear H
                  have hk241 : (a0 < 32) = False := eq_false c238
                  have hk242 : decide (a0 < 32) = false := decide_eq_false c238
                  clear c238
                  by_cases c243 : a0 = 127
                  · have H := HH.out
                    rw [if_pos c243] at H
                    replace HH := Aside0.mk H
                    clear H
                    have hk244 : (a0 == 127) = true := beq_iff_eq.mpr c243
                    have hk245 : (a0 != 127) = false := bne_eq_false_iff_eq.mpr c243
                    clear c243
                    have H := HH.out
                    obtain rfl := Option.some.inj H
                    clear HH
                    go_wp2
                    go_ret
                    exact ⟨by first | rfl | (simp; done) | (simp [*]; done), by repeat (first | exact Drawn0.refl _ | apply Drawn0.step)⟩
                  · have H := HH.out
                    rw [if_neg c243] at H
                    replace HH := Aside0.mk H
                    clear H
                    have hk246 : (a0 == 127) = false := beq_eq_false_iff_ne.mpr c243
                    have hk247 : (a0 != 127) = true := bne_iff_ne.mpr c243
                    clear c243
                    have H := HH.out
                    obtain rfl := Option.some.inj H
                    clear HH
                    go_wp2
                    go_ret
                    exact ⟨by first | rfl | (simp; done) | (simp [*]; done), by repeat (first | exact Drawn0.refl _ | apply Drawn0.step)⟩
            · have H := HH.out
              rw [if_neg c233] at H
              replace HH := Aside0.mk H
              clear H
              have hk248 : decide (9 ≤ a0) = false := decide_eq_false c233
              clear c233
              by_cases c249 : a0 < 32
              · have H := HH.out
                rw [if_pos c249] at H
                replace HH := Aside0.mk H
                clear H
                have hk250 : (a0 < 32) = True := eq_true c249
                have hk251 : decide (a0 < 32) = true := decide_eq_true c249
                clear c249
                have H := HH.out
                obtain rfl := Option.some.inj H
                clear HH
                go_wp2
                go_ret
                exact ⟨by first | rfl | (simp; done) | (simp [*]; done), by repeat (first | exact Drawn0.refl _ | apply Drawn0.step)⟩
              · have H := HH.out
                rw [if_neg c249] at H
                replace HH := Aside0.mk H
                clear H
                have hk252 : (a0 < 32) = False := eq_false c249
                have hk253 : decide (a0 < 32) = false := decide_eq_false c249
                clear c249
                by_cases c254 : a0 = 127
                · have H := HH.out
                  rw [if_pos c254] at H
                  replace HH := Aside0.mk H
                  clear H
                  have hk255 : (a0 == 127) = true := beq_iff_eq.mpr c254
                  have hk256 : (a0 != 127) = false := bne_eq_false_iff_eq.mpr c254
                  clear c254
                  have H := HH.out
                  obtain rfl := Option.some.inj H
                  clear HH
                  go_wp2
                  go_ret
                  exact ⟨by first | rfl | (simp; done) | (simp [*]; done), by repeat (first | exact Drawn0.refl _ | apply Drawn0.step)⟩
                · have H := HH.out
                  rw [if_neg c254] at H
                  replace HH := Aside0.mk H
                  clear H
                  have hk257 : (a0 == 127) = false := beq_eq_false_iff_ne.mpr c254
                  have hk258 : (a0 != 127) = true := bne_iff_ne.mpr c254
                  clear c254
                  have H := HH.out
                  obtain rfl := Option.some.inj H
                  clear HH
                  go_wp2
                  go_ret
                  exact ⟨by first | rfl | (simp; done) | (simp [*]; done), by repeat (first | exact Drawn0.refl _ | apply Drawn0.step)⟩
      · have H := HH.out
        rw [if_neg c223] at H
        replace HH := Aside0.mk H
        clear H
        have hk259 : decide (48 ≤ a0) = false := decide_eq_false c223
        clear c223
        by_cases c260 : a0 = 32
        · have H := HH.out
          rw [if_pos c260] at H
          replace HH := Aside0.mk H
          clear H
          have hk261 : (a0 == 32) = true := beq_iff_eq.mpr c260
          have hk262 : (a0 != 32) = false := bne_eq_false_iff_eq.mpr c260
          clear c260
          have H := HH.out
          obtain rfl := Option.some.inj H
          clear HH
          go_wp2
          go_ret
          exact ⟨by first | rfl | (simp; done) | (simp [*]; done), by repeat (first | exact Drawn0.refl _ | apply Drawn0.step)⟩
        · have H := HH.out
          rw [if_neg c260] at H
          replace HH := Aside0.mk H
          clear H
          have hk263 : (a0 == 32) = false := beq_eq_false_iff_ne.mpr c260
          have hk264 : (a0 != 32) = true := bne_iff_ne.mpr c260
          clear c260
          by_cases c265 : a0 ≥ 9
          · have H := HH.out
            rw [if_pos c265] at H
            replace HH := Aside0.mk H
            clear H
            have hk266 : decide (9 ≤ a0) = true := decide_eq_true c265
            clear c265
            by_cases c267 : a0 ≤ 13
            · have H := HH.out
              rw [if_pos c267] at H
              replace HH := Aside0.mk H
              clear H
              have hk268 : decide (a0 ≤ 13) = true := decide_eq_true c267
              clear c267
              have H := HH.out
              obtain rfl := Option.some.inj H
              clear HH
              go_wp2
              go_ret
              exact ⟨by first | rfl | (simp; done) | (simp [*]; done), by repeat (first | exact Drawn0.refl _ | apply Drawn0.step)⟩
            · have H := HH.out
              rw [if_neg c267] at H
              replace HH := Aside0.mk H
              clear H
              have hk269 : decide (a0 ≤ 13) = false := decide_eq_false c267
              clear c267
              by_cases c270 : a0 < 32
              · have H := HH.out
                rw [if_pos c270] at H
                replace HH := Aside0.mk H
                clear H
                have hk271 : (a0 < 32) = True := eq_true c270
                have hk272 : decide (a0 < 32) = true := decide_eq_true c270
                clear c270
                have H := HH.out
                obtain rfl := Option.some.inj H
                clear HH
                go_wp2
                go_ret
                exact ⟨by first | rfl | (simp; done) | (simp [*]; done), by repeat (first | exact Drawn0.refl _ | apply Drawn0.step)⟩
              · have H := HH.out
                rw [if_neg c270] at H
                replace HH := Aside0.mk H
                clear H
                have hk273 : (a0 < 32) = False := eq_false c270
                have hk274 : decide (a0 < 32) = false := decide_eq_false c270
                clear c270
                by_cases c275 : a0 = 127
                · have H := HH.out
                  rw [if_pos c275] at H
                  replace HH := Aside0.mk H
                  clear H
                  have hk276 : (a0 == 127) = true := beq_iff_eq.mpr c275
                  have hk277 : (a0 != 127) = false := bne_eq_false_iff_eq.mpr c275
                  clear c275
                  have H := HH.out
                  obtain rfl := Option.some.inj H
                  clear HH
                  go_wp2
                  go_ret
                  exact ⟨by first | rfl | (simp; done) | (simp [*]; done), by repeat (first | exact Drawn0.refl _ | apply Drawn0.step)⟩
                · have H := HH.out
                  rw [if_neg c275] at H
                  replace HH := Aside0.mk H
                  clear H
                  have hk278 : (a0 == 127) = false := beq_eq_false_iff_ne.mpr c275
                  have hk279 : (a0 != 127) = true := bne_iff_ne.mpr c275
                  clear c275
                  have H := HH.out
                  obtain rfl := Option.some.inj H
                  clear HH
                  go_wp2
                  go_ret
                  exact ⟨by first | rfl | (simp; done) | (simp [*]; done), by repeat (first | exact Drawn0.refl _ | apply Drawn0.step)⟩
          · have H := HH.out
            rw [if_neg c265] at H
            replace HH := Aside0.mk H
            clear H
            have hk280 : decide (9 ≤ a0) = false := decide_eq_false c265
            clear c265
            by_cases c281 : a0 < 32
            · have H := HH.out
              rw [if_pos c281] at H
              replace HH := Aside0.mk H
              clear H
              have hk282 : (a0 < 32) = True := eq_true c281
              have hk283 : decide (a0 < 32) = true := decide_eq_true c281
              clear c281
              have H := HH.out
              obtain rfl := Option.some.inj H
              clear HH
              go_wp2
              go_ret
              exact ⟨by first | rfl | (simp; done) | (simp [*]; done), by repeat (first | exact Drawn0.refl _ | apply Drawn0.step)⟩
            · have H := HH.out
              rw [if_neg c281] at H
              replace HH := Aside0.mk H
              clear H
              have hk284 : (a0 < 32) = False := eq_false c281
              have hk285 : decide (a0 < 32) = false := decide_eq_false c281
              clear c281
              by_cases c286 : a0 = 127
              · have H := HH.out
                rw [if_pos c286] at H
                replace HH := Aside0.mk H
                clear H
                have hk287 : (a0 == 127) = true := beq_iff_eq.mpr c286
                have hk288 : (a0 != 127) = false := bne_eq_false_iff_eq.mpr c286
                clear c286
                have H := HH.out
                obtain rfl := Option.some.inj H
                clear HH
                go_wp2
                go_ret
                exact ⟨by first | rfl | (simp; done) | (simp [*]; done), by repeat (first | exact Drawn0.refl _ | apply Drawn0.step)⟩
              · have H := HH.out
                rw [if_neg c286] at H
                replace HH := Aside0.mk H
                clear H
                have hk289 : (a0 == 127) = false := beq_eq_false_iff_ne.mpr c286
                have hk290 : (a0 != 127) = true := bne_iff_ne.mpr c286
                clear c286
                have H := HH.out
                obtain rfl := Option.some.inj H
                clear HH
                go_wp2
                go_ret
                exact ⟨by first | rfl | (simp; done) | (simp [*]; done), by repeat (first | exact Drawn0.refl _ | apply Drawn0.step)⟩

end Go.Proofs.Ytkbiiijmgbjnkaa.GA
