-- written by wip/gen.py, a program of this session
import Derived.Test.YtliackbiljhioaaGA0
import Derived.Test.YtliackbiljhioaaGAF49
namespace Go.Proofs.Ytliackbiljhioaa.GA
open Go.RowKit Go.Proofs.Ytliackbiljhioaa Go.Proofs.Ytliackbiljhioaa.MW Go.Proofs.YtliackbiljhioaaW.PrintWords Go.Proofs.YtliackbiljhioaaW.PrintLast Go.Proofs.YtliackbiljhioaaW.PrintMore
attribute [local go_sem] max2_int min2_int max_two min_two
set_option linter.unusedVariables false
set_option linter.unusedSimpArgs false


/-! ### ber_sized: function 50 -/
def ber_sized.f (a0 : ByteArray) (a1 : Int) : Option (Int × Int × Int) := if a1 ≥ (a0.size : Int) then (some (0, 0, 150)) else (if 0 ≤ a1 then (if a1 < (a0.size : Int) then (if (wrap64 (bt a0 a1)) < 128 then (some (wrap64 (bt a0 a1), wrap64 (a1 + 1), 0)) else (if (wrap64 ((wrap64 (bt a0 a1)) - 128)) < 1 then (some (0, 0, 152)) else (if (wrap64 ((wrap64 (bt a0 a1)) - 128)) > 2 then (some (0, 0, 152)) else (if (wrap64 ((wrap64 (bt a0 a1)) - 128)) > (wrap64 ((a0.size : Int) - (wrap64 (a1 + 1)))) then (some (0, 0, 150)) else (if 0 ≤ (wrap64 (a1 + 1)) then (if (wrap64 (a1 + 1)) < (a0.size : Int) then (if (wrap64 ((wrap64 (bt a0 a1)) - 128)) = 2 then (if 0 ≤ (wrap64 ((wrap64 (a1 + 1)) + 1)) then (if (wrap64 ((wrap64 (a1 + 1)) + 1)) < (a0.size : Int) then ((ber_length.f (Go.bits .or .i64 (wrap64 ((wrap64 (bt a0 (wrap64 (a1 + 1)))) * 256)) (wrap64 (bt a0 (wrap64 ((wrap64 (a1 + 1)) + 1)))))).bind fun t41 => (if (t41.size : Int) = (wrap64 (1 + (wrap64 ((wrap64 (bt a0 a1)) - 128)))) then (some (Go.bits .or .i64 (wrap64 ((wrap64 (bt a0 (wrap64 (a1 + 1)))) * 256)) (wrap64 (bt a0 (wrap64 ((wrap64 (a1 + 1)) + 1)))), wrap64 ((wrap64 (a1 + 1)) + (wrap64 ((wrap64 (bt a0 a1)) - 128))), 0)) else (some (0, 0, 152)))) else (none)) else (none)) else ((ber_length.f (wrap64 (bt a0 (wrap64 (a1 + 1))))).bind fun t54 => (if (t54.size : Int) = (wrap64 (1 + (wrap64 ((wrap64 (bt a0 a1)) - 128)))) then (some (wrap64 (bt a0 (wrap64 (a1 + 1))), wrap64 ((wrap64 (a1 + 1)) + (wrap64 ((wrap64 (bt a0 a1)) - 128))), 0)) else (some (0, 0, 152))))) else (none)) else (none)))))) else (none)) else (none))
set_option maxHeartbeats 8000000 in
set_option maxRecDepth 100000 in
theorem ber_sized.calls (a0 : ByteArray) (a1 : Int) (r1 : Int) (r2 : Int) (r3 : Int) (w : World) (h : ber_sized.f a0 a1 = some (r1, r2, r3)) :
    Calls Try.prog 50 #[.string a0, .int .i64 a1] w (fun e w' => e = .returned (.tuple #[.int .i64 r1, .int .i64 r2, .int .i64 r3]) ∧ Below w.heap.size w w') := by
  have HH := Aside0.mk (show (if a1 ≥ (a0.size : Int) then (some (0, 0, 150)) else (if 0 ≤ a1 then (if a1 < (a0.size : Int) then (if (wrap64 (bt a0 a1)) < 128 then (some (wrap64 (bt a0 a1), wrap64 (a1 + 1), 0)) else (if (wrap64 ((wrap64 (bt a0 a1)) - 128)) < 1 then (some (0, 0, 152)) else (if (wrap64 ((wrap64 (bt a0 a1)) - 128)) > 2 then (some (0, 0, 152)) else (if (wrap64 ((wrap64 (bt a0 a1)) - 128)) > (wrap64 ((a0.size : Int) - (wrap64 (a1 + 1)))) then (some (0, 0, 150)) else (if 0 ≤ (wrap64 (a1 + 1)) then (if (wrap64 (a1 + 1)) < (a0.size : Int) then (if (wrap64 ((wrap64 (bt a0 a1)) - 128)) = 2 then (if 0 ≤ (wrap64 ((wrap64 (a1 + 1)) + 1)) then (if (wrap64 ((wrap64 (a1 + 1)) + 1)) < (a0.size : Int) then ((ber_length.f (Go.bits .or .i64 (wrap64 ((wrap64 (bt a0 (wrap64 (a1 + 1)))) * 256)) (wrap64 (bt a0 (wrap64 ((wrap64 (a1 + 1)) + 1)))))).bind fun t41 => (if (t41.size : Int) = (wrap64 (1 + (wrap64 ((wrap64 (bt a0 a1)) - 128)))) then (some (Go.bits .or .i64 (wrap64 ((wrap64 (bt a0 (wrap64 (a1 + 1)))) * 256)) (wrap64 (bt a0 (wrap64 ((wrap64 (a1 + 1)) + 1)))), wrap64 ((wrap64 (a1 + 1)) + (wrap64 ((wrap64 (bt a0 a1)) - 128))), 0)) else (some (0, 0, 152)))) else (none)) else (none)) else ((ber_length.f (wrap64 (bt a0 (wrap64 (a1 + 1))))).bind fun t54 => (if (t54.size : Int) = (wrap64 (1 + (wrap64 ((wrap64 (bt a0 a1)) - 128)))) then (some (wrap64 (bt a0 (wrap64 (a1 + 1))), wrap64 ((wrap64 (a1 + 1)) + (wrap64 ((wrap64 (bt a0 a1)) - 128))), 0)) else (some (0, 0, 152))))) else (none)) else (none)))))) else (none)) else (none))) = some (r1, r2, r3) from h)
  clear h
  have HB := Aside0.mk (Below.refl w.heap.size w)
  go_enter Try.func50, Try.ntmps50
  by_cases c1 : a1 ≥ (a0.size : Int)
  · have H := HH.out
    rw [if_pos c1] at H
    replace HH := Aside0.mk H
    clear H
    have hk2 : decide ((a0.size : Int) ≤ a1) = true := decide_eq_true c1
    clear c1
    have H := HH.out
    simp only [Option.some.injEq, Prod.mk.injEq] at H
    obtain ⟨rfl, rfl, rfl⟩ := H
    clear HH
    (try go_wp2)
    refine MW.scope_labs ?_
    go_wp2
    apply wp_goto
    refine MW.goto_labs (Eq.refl _) ?_
    go_wp2
    (try simp only [MW.backTo_ret, MW.labs_ret])
    go_ret3
    exact ⟨by first | rfl | (simp; done) | (simp [*]; done), HB.out⟩
  · have H := HH.out
    rw [if_neg c1] at H
    replace HH := Aside0.mk H
    clear H
    have hk3 : decide ((a0.size : Int) ≤ a1) = false := decide_eq_false c1
    clear c1
    by_cases c4 : 0 ≤ a1
    · have H := HH.out
      rw [if_pos c4] at H
      replace HH := Aside0.mk H
      clear H
      have hk5 : decide (0 ≤ a1) = true := decide_eq_true c4
      clear c4
      by_cases c6 : a1 < (a0.size : Int)
      · have H := HH.out
        rw [if_pos c6] at H
        replace HH := Aside0.mk H
        clear H
        have hk7 : (a1 < (a0.size : Int)) = True := eq_true c6
        have hk8 : decide (a1 < (a0.size : Int)) = true := decide_eq_true c6
        clear c6
        have p9 : 0 ≤ (a1 : Int) := of_decide_eq_true (by first | (with_reducible assumption) | assumption)
        have q9 : a1 < (a0.size : Int) := of_decide_eq_true (by first | (with_reducible assumption) | assumption)
        have hx9 := MW.bt_at' a0 a1
        replace p9 := eq_true p9
        replace q9 := eq_true q9
        by_cases c10 : (wrap64 (bt a0 a1)) < 128
        · have H := HH.out
          rw [if_pos c10] at H
          replace HH := Aside0.mk H
          clear H
          have hk11 : ((wrap64 (bt a0 a1)) < 128) = True := eq_true c10
          have hk12 : decide ((wrap64 (bt a0 a1)) < 128) = true := decide_eq_true c10
          clear c10
          have H := HH.out
          simp only [Option.some.injEq, Prod.mk.injEq] at H
          obtain ⟨rfl, rfl, rfl⟩ := H
          clear HH
          (try go_wp2)
          refine MW.scope_labs ?_
          go_wp2
          (try simp only [MW.backTo_ret, MW.labs_ret])
          go_ret3
          exact ⟨by first | rfl | (simp; done) | (simp [*]; done), HB.out⟩
        · have H := HH.out
          rw [if_neg c10] at H
          replace HH := Aside0.mk H
          clear H
          have hk13 : ((wrap64 (bt a0 a1)) < 128) = False := eq_false c10
          have hk14 : decide ((wrap64 (bt a0 a1)) < 128) = false := decide_eq_false c10
          clear c10
          by_cases c15 : (wrap64 ((wrap64 (bt a0 a1)) - 128)) < 1
          · have H := HH.out
            rw [if_pos c15] at H
            replace HH := Aside0.mk H
            clear H
            have hk16 : ((wrap64 ((wrap64 (bt a0 a1)) - 128)) < 1) = True := eq_true c15
            have hk17 : decide ((wrap64 ((wrap64 (bt a0 a1)) - 128)) < 1) = true := decide_eq_true c15
            clear c15
            have H := HH.out
            simp only [Option.some.injEq, Prod.mk.injEq] at H
            obtain ⟨rfl, rfl, rfl⟩ := H
            clear HH
            (try go_wp2)
            refine MW.scope_labs ?_
            go_wp2
            apply wp_goto
            refine MW.goto_labs (Eq.refl _) ?_
            go_wp2
            (try simp only [MW.backTo_ret, MW.labs_ret])
            go_ret3
            exact ⟨by first | rfl | (simp; done) | (simp [*]; done), HB.out⟩
          · have H := HH.out
            rw [if_neg c15] at H
            replace HH := Aside0.mk H
            clear H
            have hk18 : ((wrap64 ((wrap64 (bt a0 a1)) - 128)) < 1) = False := eq_false c15
            have hk19 : decide ((wrap64 ((wrap64 (bt a0 a1)) - 128)) < 1) = false := decide_eq_false c15
            clear c15
            by_cases c20 : (wrap64 ((wrap64 (bt a0 a1)) - 128)) > 2
            · have H := HH.out
              rw [if_pos c20] at H
              replace HH := Aside0.mk H
              clear H
              have hk21 : decide (2 < (wrap64 ((wrap64 (bt a0 a1)) - 128))) = true := decide_eq_true c20
              clear c20
              have H := HH.out
              simp only [Option.some.injEq, Prod.mk.injEq] at H
              obtain ⟨rfl, rfl, rfl⟩ := H
              clear HH
              (try go_wp2)
              refine MW.scope_labs ?_
              go_wp2
              apply wp_goto
              refine MW.goto_labs (Eq.refl _) ?_
              go_wp2
              (try simp only [MW.backTo_ret, MW.labs_ret])
              go_ret3
              exact ⟨by first | rfl | (simp; done) | (simp [*]; done), HB.out⟩
            · have H := HH.out
              rw [if_neg c20] at H
              replace HH := Aside0.mk H
              clear H
              have hk22 : decide (2 < (wrap64 ((wrap64 (bt a0 a1)) - 128))) = false := decide_eq_false c20
              clear c20
              by_cases c23 : (wrap64 ((wrap64 (bt a0 a1)) - 128)) > (wrap64 ((a0.size : Int) - (wrap64 (a1 + 1))))
              · have H := HH.out
                rw [if_pos c23] at H
                replace HH := Aside0.mk H
                clear H
                have hk24 : decide ((wrap64 ((a0.size : Int) - (wrap64 (a1 + 1)))) < (wrap64 ((wrap64 (bt a0 a1)) - 128))) = true := decide_eq_true c23
                clear c23
                have H := HH.out
                simp only [Option.some.injEq, Prod.mk.injEq] at H
                obtain ⟨rfl, rfl, rfl⟩ := H
                clear HH
                (try go_wp2)
                refine MW.scope_labs ?_
                go_wp2
                apply wp_goto
                refine MW.goto_labs (Eq.refl _) ?_
                go_wp2
                (try simp only [MW.backTo_ret, MW.labs_ret])
                go_ret3
                exact ⟨by first | rfl | (simp; done) | (simp [*]; done), HB.out⟩
              · have H := HH.out
                rw [if_neg c23] at H
                replace HH := Aside0.mk H
                clear H
                have hk25 : decide ((wrap64 ((a0.size : Int) - (wrap64 (a1 + 1)))) < (wrap64 ((wrap64 (bt a0 a1)) - 128))) = false := decide_eq_false c23
                clear c23
                by_cases c26 : 0 ≤ (wrap64 (a1 + 1))
                · have H := HH.out
                  rw [if_pos c26] at H
                  replace HH := Aside0.mk H
                  clear H
                  have hk27 : decide (0 ≤ (wrap64 (a1 + 1))) = true := decide_eq_true c26
                  clear c26
                  by_cases c28 : (wrap64 (a1 + 1)) < (a0.size : Int)
                  · have H := HH.out
                    rw [if_pos c28] at H
                    replace HH := Aside0.mk H
                    clear H
                    have hk29 : ((wrap64 (a1 + 1)) < (a0.size : Int)) = True := eq_true c28
                    have hk30 : decide ((wrap64 (a1 + 1)) < (a0.size : Int)) = true := decide_eq_true c28
                    clear c28
                    have p31 : 0 ≤ ((wrap64 (a1 + 1)) : Int) := of_decide_eq_true (by first | (with_reducible assumption) | assumption)
                    have q31 : (wrap64 (a1 + 1)) < (a0.size : Int) := of_decide_eq_true (by first | (with_reducible assumption) | assumption)
                    have hx31 := MW.bt_at' a0 (wrap64 (a1 + 1))
                    replace p31 := eq_true p31
                    replace q31 := eq_true q31
                    by_cases c32 : (wrap64 ((wrap64 (bt a0 a1)) - 128)) = 2
                    · have H := HH.out
                      rw [if_pos c32] at H
                      replace HH := Aside0.mk H
                      clear H
                      have hk33 : ((wrap64 ((wrap64 (bt a0 a1)) - 128)) == 2) = true := beq_iff_eq.mpr c32
                      have hk34 : ((wrap64 ((wrap64 (bt a0 a1)) - 128)) != 2) = false := bne_eq_false_iff_eq.mpr c32
                      clear c32
                      by_cases c35 : 0 ≤ (wrap64 ((wrap64 (a1 + 1)) + 1))
                      · have H := HH.out
                        rw [if_pos c35] at H
                        replace HH := Aside0.mk H
                        clear H
                        have hk36 : decide (0 ≤ (wrap64 ((wrap64 (a1 + 1)) + 1))) = true := decide_eq_true c35
                        clear c35
                        by_cases c37 : (wrap64 ((wrap64 (a1 + 1)) + 1)) < (a0.size : Int)
                        · have H := HH.out
                          rw [if_pos c37] at H
                          replace HH := Aside0.mk H
                          clear H
                          have hk38 : ((wrap64 ((wrap64 (a1 + 1)) + 1)) < (a0.size : Int)) = True := eq_true c37
                          have hk39 : decide ((wrap64 ((wrap64 (a1 + 1)) + 1)) < (a0.size : Int)) = true := decide_eq_true c37
                          clear c37
                          have p40 : 0 ≤ ((wrap64 ((wrap64 (a1 + 1)) + 1)) : Int) := of_decide_eq_true (by first | (with_reducible assumption) | assumption)
                          have q40 : (wrap64 ((wrap64 (a1 + 1)) + 1)) < (a0.size : Int) := of_decide_eq_true (by first | (with_reducible assumption) | assumption)
                          have hx40 := MW.bt_at' a0 (wrap64 ((wrap64 (a1 + 1)) + 1))
                          replace p40 := eq_true p40
                          replace q40 := eq_true q40
                          have H := HH.out
                          replace H := Option.bind_eq_some_iff.mp H
                          obtain ⟨t41, at_, H⟩ := H
                          have At42 := Aside0.mk at_
                          clear at_
                          replace HH := Aside0.mk (show (if (t41.size : Int) = (wrap64 (1 + (wrap64 ((wrap64 (bt a0 a1)) - 128)))) then (some (Go.bits .or .i64 (wrap64 ((wrap64 (bt a0 (wrap64 (a1 + 1)))) * 256)) (wrap64 (bt a0 (wrap64 ((wrap64 (a1 + 1)) + 1)))), wrap64 ((wrap64 (a1 + 1)) + (wrap64 ((wrap64 (bt a0 a1)) - 128))), 0)) else (some (0, 0, 152))) = some (r1, r2, r3) from H)
                          clear H
                          (try go_wp2)
                          refine MW.scope_labs ?_
                          go_wp2_with (((with_reducible refine gate_callee (f := 49) rfl ?_); (try (refine gate_guard (by rfl) ?_; dsimp only)); refine goesL_ (some 52) rfl rfl Try.func49 (by kernel_rfl) rfl #[.int .i64 (Go.bits .or .i64 (wrap64 ((wrap64 (bt a0 (wrap64 (a1 + 1)))) * 256)) (wrap64 (bt a0 (wrap64 ((wrap64 (a1 + 1)) + 1)))))] rfl (by (try simp only [List.map_toArray, List.map_cons, List.map_nil]); first | done | rfl | (simp only [List.length_drop, List.length_take]; rfl)) ?_; (with_reducible refine (ber_length.calls  (Go.bits .or .i64 (wrap64 ((wrap64 (bt a0 (wrap64 (a1 + 1)))) * 256)) (wrap64 (bt a0 (wrap64 ((wrap64 (a1 + 1)) + 1))))) t41 _  At42.out).mono ?_); rintro e w43 ⟨rfl, hb⟩; refine ⟨_, rfl, ?_⟩); refine stop_ ?_)
                          refine Stop.go ?_
                          replace HB := Aside0.mk (below_step HB.out hb)
                          clear hb
                          by_cases c44 : (t41.size : Int) = (wrap64 (1 + (wrap64 ((wrap64 (bt a0 a1)) - 128))))
                          · have H := HH.out
                            rw [if_pos c44] at H
                            replace HH := Aside0.mk H
                            clear H
                            have hk45 : ((t41.size : Int) == (wrap64 (1 + (wrap64 ((wrap64 (bt a0 a1)) - 128))))) = true := beq_iff_eq.mpr c44
                            have hk46 : ((t41.size : Int) != (wrap64 (1 + (wrap64 ((wrap64 (bt a0 a1)) - 128))))) = false := bne_eq_false_iff_eq.mpr c44
                            clear c44
                            have H := HH.out
                            simp only [Option.some.injEq, Prod.mk.injEq] at H
                            obtain ⟨rfl, rfl, rfl⟩ := H
                            clear HH
                            go_wp2
                            (try simp only [MW.backTo_ret, MW.labs_ret])
                            go_ret3
                            exact ⟨by first | rfl | (simp; done) | (simp [*]; done), HB.out⟩
                          · have H := HH.out
                            rw [if_neg c44] at H
                            replace HH := Aside0.mk H
                            clear H
                            have hk47 : ((t41.size : Int) == (wrap64 (1 + (wrap64 ((wrap64 (bt a0 a1)) - 128))))) = false := beq_eq_false_iff_ne.mpr c44
                            have hk48 : ((t41.size : Int) != (wrap64 (1 + (wrap64 ((wrap64 (bt a0 a1)) - 128))))) = true := bne_iff_ne.mpr c44
                            clear c44
                            have H := HH.out
                            simp only [Option.some.injEq, Prod.mk.injEq] at H
                            obtain ⟨rfl, rfl, rfl⟩ := H
                            clear HH
                            go_wp2
                            apply wp_goto
                            refine MW.goto_labs (Eq.refl _) ?_
                            go_wp2
                            (try simp only [MW.backTo_ret, MW.labs_ret])
                            go_ret3
                            exact ⟨by first | rfl | (simp; done) | (simp [*]; done), HB.out⟩
                        · exact absurd HH.out (by rw [if_neg c37]; simp)
                      · exact absurd HH.out (by rw [if_neg c35]; simp)
                    · have H := HH.out
                      rw [if_neg c32] at H
                      replace HH := Aside0.mk H
                      clear H
                      have hk52 : ((wrap64 ((wrap64 (bt a0 a1)) - 128)) == 2) = false := beq_eq_false_iff_ne.mpr c32
                      have hk53 : ((wrap64 ((wrap64 (bt a0 a1)) - 128)) != 2) = true := bne_iff_ne.mpr c32
                      clear c32
                      have H := HH.out
                      replace H := Option.bind_eq_some_iff.mp H
                      obtain ⟨t54, at_, H⟩ := H
                      have At55 := Aside0.mk at_
                      clear at_
                      replace HH := Aside0.mk (show (if (t54.size : Int) = (wrap64 (1 + (wrap64 ((wrap64 (bt a0 a1)) - 128)))) then (some (wrap64 (bt a0 (wrap64 (a1 + 1))), wrap64 ((wrap64 (a1 + 1)) + (wrap64 ((wrap64 (bt a0 a1)) - 128))), 0)) else (some (0, 0, 152))) = some (r1, r2, r3) from H)
                      clear H
                      (try go_wp2)
                      refine MW.scope_labs ?_
                      go_wp2_with (((with_reducible refine gate_callee (f := 49) rfl ?_); (try (refine gate_guard (by rfl) ?_; dsimp only)); refine goesL_ (some 52) rfl rfl Try.func49 (by kernel_rfl) rfl #[.int .i64 (wrap64 (bt a0 (wrap64 (a1 + 1))))] rfl (by (try simp only [List.map_toArray, List.map_cons, List.map_nil]); first | done | rfl | (simp only [List.length_drop, List.length_take]; rfl)) ?_; (with_reducible refine (ber_length.calls  (wrap64 (bt a0 (wrap64 (a1 + 1)))) t54 _  At55.out).mono ?_); rintro e w56 ⟨rfl, hb⟩; refine ⟨_, rfl, ?_⟩); refine stop_ ?_)
                      refine Stop.go ?_
                      replace HB := Aside0.mk (below_step HB.out hb)
                      clear hb
                      by_cases c57 : (t54.size : Int) = (wrap64 (1 + (wrap64 ((wrap64 (bt a0 a1)) - 128))))
                      · have H := HH.out
                        rw [if_pos c57] at H
                        replace HH := Aside0.mk H
                        clear H
                        have hk58 : ((t54.size : Int) == (wrap64 (1 + (wrap64 ((wrap64 (bt a0 a1)) - 128))))) = true := beq_iff_eq.mpr c57
                        have hk59 : ((t54.size : Int) != (wrap64 (1 + (wrap64 ((wrap64 (bt a0 a1)) - 128))))) = false := bne_eq_false_iff_eq.mpr c57
                        clear c57
                        have H := HH.out
                        simp only [Option.some.injEq, Prod.mk.injEq] at H
                        obtain ⟨rfl, rfl, rfl⟩ := H
                        clear HH
                        go_wp2
                        (try simp only [MW.backTo_ret, MW.labs_ret])
                        go_ret3
                        exact ⟨by first | rfl | (simp; done) | (simp [*]; done), HB.out⟩
                      · have H := HH.out
                        rw [if_neg c57] at H
                        replace HH := Aside0.mk H
                        clear H
                        have hk60 : ((t54.size : Int) == (wrap64 (1 + (wrap64 ((wrap64 (bt a0 a1)) - 128))))) = false := beq_eq_false_iff_ne.mpr c57
                        have hk61 : ((t54.size : Int) != (wrap64 (1 + (wrap64 ((wrap64 (bt a0 a1)) - 128))))) = true := bne_iff_ne.mpr c57
                        clear c57
                        have H := HH.out
                        simp only [Option.some.injEq, Prod.mk.injEq] at H
                        obtain ⟨rfl, rfl, rfl⟩ := H
                        clear HH
                        go_wp2
                        apply wp_goto
                        refine MW.goto_labs (Eq.refl _) ?_
                        go_wp2
                        (try simp only [MW.backTo_ret, MW.labs_ret])
                        go_ret3
                        exact ⟨by first | rfl | (simp; done) | (simp [*]; done), HB.out⟩
                  · exact absurd HH.out (by rw [if_neg c28]; simp)
                · exact absurd HH.out (by rw [if_neg c26]; simp)
      · exact absurd HH.out (by rw [if_neg c6]; simp)
    · exact absurd HH.out (by rw [if_neg c4]; simp)

end Go.Proofs.Ytliackbiljhioaa.GA
