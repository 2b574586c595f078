-- written by wip/gen.py, a program of this session
import Derived.Test.YthfonbnbffloaaaGA0
import Derived.Test.YthfonbnbffloaaaGAF10
import Derived.Test.YthfonbnbffloaaaGAF27
namespace Go.Proofs.Ythfonbnbffloaaa.GA
open Go.RowKit Go.Proofs.Ythfonbnbffloaaa Go.Proofs.Ythfonbnbffloaaa.MW Go.Proofs.YthfonbnbffloaaaW.PrintWords Go.Proofs.YthfonbnbffloaaaW.PrintLast Go.Proofs.YthfonbnbffloaaaW.PrintMore
attribute [local go_sem] max2_int min2_int max_two min_two
set_option linter.unusedVariables false
set_option linter.unusedSimpArgs false


/-! ### toponymref15_Encode: function 14 -/
mutual
def toponymref15_Encode.l0 : Nat → Int → (List (S26)) → Option (ByteArray × Int)
  | 0, _, _ => none
  | k + 1, x1, l0 => if x1 < (l0.length : Int) then (if 0 ≤ x1 then ((toponymref15_Check.f k ((rd_T26 l0 x1).f0) ((rd_T26 l0 x1).f1) ((rd_T26 l0 x1).f2) ((rd_T26 l0 x1).f3) ((rd_T26 l0 x1).f4)).bind fun t10 => (if t10 = 0 then ((toponymref15_Encode.l0 k (wrap64 (x1 + 1)) l0)) else (some ((⟨#[]⟩ : ByteArray), t10)))) else (none)) else ((toponymref15_Encode.l1 k (⟨#[]⟩ : ByteArray) 0 l0))
def toponymref15_Encode.l1 : Nat → ByteArray → Int → (List (S26)) → Option (ByteArray × Int)
  | 0, _, _, _ => none
  | k + 1, x21, x22, l0 => if x22 < (l0.length : Int) then (if 0 ≤ x22 then ((toponymref15_lay.f k ((rd_T26 l0 x22).f0) ((rd_T26 l0 x22).f1) ((rd_T26 l0 x22).f2) ((rd_T26 l0 x22).f3) ((rd_T26 l0 x22).f4)).bind fun t31 => (if x21.size + t31.size ≤ 9223372036854775807 then (if ((x21 ++ t31).size : Int) > 4000 then (some ((⟨#[]⟩ : ByteArray), 3)) else ((toponymref15_Encode.l1 k (x21 ++ t31) (wrap64 (x22 + 1)) l0))) else (none))) else (none)) else (some (x21, 0))
end
def toponymref15_Encode.f (k : Nat) (l0 : List (S26)) : Option (ByteArray × Int) := (toponymref15_Encode.l0 k 0 l0)
theorem toponymref15_Encode.mono_l : ∀ k, (∀ y0 y1, LeO (toponymref15_Encode.l0 k y0 y1) (toponymref15_Encode.l0 (k + 1) y0 y1)) ∧ (∀ y0 y1 y2, LeO (toponymref15_Encode.l1 k y0 y1 y2) (toponymref15_Encode.l1 (k + 1) y0 y1 y2))
  | 0 => ⟨fun _ _ r h => by simp [toponymref15_Encode.l0] at h, fun _ _ _ r h => by simp [toponymref15_Encode.l1] at h⟩
  | k + 1 => by
    obtain ⟨ih0, ih1⟩ := toponymref15_Encode.mono_l k
    refine ⟨?_, ?_⟩
    · intro y0 y1
      unfold toponymref15_Encode.l0
      repeat' first
      | (with_reducible exact ih0 _ _)
      | (with_reducible exact ih1 _ _ _)
      | (with_reducible exact toponymref15_Check.mono _ _ _ _ _ _)
      | (with_reducible exact toponymref15_lay.mono _ _ _ _ _ _)
      | (with_reducible exact LeO.refl _)
      | (with_reducible exact LeO.none _)
      | (with_reducible refine LeO.ite ?_ ?_)
      | (with_reducible refine LeO.bind ?_ (fun _ => ?_))
      | exact ih0 _ _
      | exact ih1 _ _ _
      | exact toponymref15_Check.mono _ _ _ _ _ _
      | exact toponymref15_lay.mono _ _ _ _ _ _
      | exact LeO.none _
      | refine LeO.ite ?_ ?_
      | refine LeO.bind ?_ (fun _ => ?_)
    · intro y0 y1 y2
      unfold toponymref15_Encode.l1
      repeat' first
      | (with_reducible exact ih0 _ _)
      | (with_reducible exact ih1 _ _ _)
      | (with_reducible exact toponymref15_Check.mono _ _ _ _ _ _)
      | (with_reducible exact toponymref15_lay.mono _ _ _ _ _ _)
      | (with_reducible exact LeO.refl _)
      | (with_reducible exact LeO.none _)
      | (with_reducible refine LeO.ite ?_ ?_)
      | (with_reducible refine LeO.bind ?_ (fun _ => ?_))
      | exact ih0 _ _
      | exact ih1 _ _ _
      | exact toponymref15_Check.mono _ _ _ _ _ _
      | exact toponymref15_lay.mono _ _ _ _ _ _
      | exact LeO.none _
      | refine LeO.ite ?_ ?_
      | refine LeO.bind ?_ (fun _ => ?_)
theorem toponymref15_Encode.mono : ∀ a0_ k, LeO (toponymref15_Encode.f k a0_) (toponymref15_Encode.f (k + 1) a0_) := by
  intro a0_ k
  obtain ⟨ih0, ih1⟩ := toponymref15_Encode.mono_l k
  unfold toponymref15_Encode.f
  repeat' first
      | (with_reducible exact ih0 _ _)
      | (with_reducible exact ih1 _ _ _)
      | (with_reducible exact toponymref15_Check.mono _ _ _ _ _ _)
      | (with_reducible exact toponymref15_lay.mono _ _ _ _ _ _)
      | (with_reducible exact LeO.refl _)
      | (with_reducible exact LeO.none _)
      | (with_reducible refine LeO.ite ?_ ?_)
      | (with_reducible refine LeO.bind ?_ (fun _ => ?_))
      | exact ih0 _ _
      | exact ih1 _ _ _
      | exact toponymref15_Check.mono _ _ _ _ _ _
      | exact toponymref15_lay.mono _ _ _ _ _ _
      | exact LeO.none _
      | refine LeO.ite ?_ ?_
      | refine LeO.bind ?_ (fun _ => ?_)
set_option maxHeartbeats 8000000 in
set_option maxRecDepth 100000 in
theorem toponymref15_Encode.calls (k : Nat) (P_ : Nat → Prop) (A0 : Option Addr) (c0 : Nat) (l0 : List (S26)) (r1 : ByteArray) (r2 : Int) (w : World) (hs0 : Kd.F k26 w P_ A0 l0.length l0) (hc0 : l0.length ≤ c0) (h : toponymref15_Encode.f k l0 = some (r1, r2)) :
    Calls Try.prog 14 #[.slice A0 l0.length c0] w (fun e w' => e = .returned (.tuple #[.string r1, .int .i64 r2]) ∧ Below w.heap.size w w') := by
  have HH := Aside0.mk (show ((toponymref15_Encode.l0 k 0 l0)) = some (r1, r2) from h)
  clear h
  have HF0 := Aside0.mk (Kd.F_mono hs0 (fun k_ hk_ => (.inl hk_ : P_ k_ ∨ w.heap.size ≤ k_)))
  have HL0 := Aside0.mk hc0
  clear hs0 hc0
  have HB := Aside0.mk (Below.refl w.heap.size w)
  have hu26 := Try.underlying26
  go_enter Try.func14, Try.ntmps14
  go_wp2
  go_loopg [4] k (fun kq u4 w' => ∃ (x1 : Int), u4 = .int .i64 x1 ∧ Aside0 ((toponymref15_Encode.l0 kq x1 l0) = some (r1, r2)) ∧ Aside0 (kq ≤ k) ∧ Aside0 (Kd.F k26 w' (fun k_ => (P_ k_ ∨ w.heap.size ≤ k_)) A0 l0.length l0) ∧ Aside0 (Below w.heap.size w w'))
  case atStart => exact ⟨0, (by first | rfl | (simp; done) | (simp [*]; done)), HH, ⟨Nat.le_refl _⟩, ⟨(Kd.F_mono (ok := (fun k_ => (P_ k_ ∨ w.heap.size ≤ k_))) HF0.out (fun k_ hk_ => hk_))⟩, ⟨HB.out⟩⟩
  case round =>
    clear HH
    clear HF0 HB
    obtain ⟨x1, rfl, HA, HK0, HF0, HB⟩ := hrel
    obtain ⟨w3, rfl⟩ : ∃ wo_ : World, wo_ = wr := ⟨_, rfl⟩
    cases gk with
    | zero => exact absurd HA.out (by simp [toponymref15_Encode.l0])
    | succ k2 =>
      have H := HA.out
      clear HA
      simp only [toponymref15_Encode.l0] at H
      have HH := Aside0.mk H
      clear H
      by_cases c4 : x1 < (l0.length : Int)
      · have H := HH.out
        rw [if_pos c4] at H
        replace HH := Aside0.mk H
        clear H
        have hk5 : (x1 < (l0.length : Int)) = True := eq_true c4
        have hk6 : decide (x1 < (l0.length : Int)) = true := decide_eq_true c4
        clear c4
        by_cases c7 : 0 ≤ x1
        · have H := HH.out
          rw [if_pos c7] at H
          replace HH := Aside0.mk H
          clear H
          have hk8 : decide (0 ≤ x1) = true := decide_eq_true c7
          clear c7
          have p9 : 0 ≤ (x1 : Int) := of_decide_eq_true (by first | (with_reducible assumption) | assumption)
          have q9 : x1 < (l0.length : Int) := of_decide_eq_true (by first | (with_reducible assumption) | assumption)
          obtain ⟨ad9, A9_4, c9_4, e9, hx9_0, hx9_1, hx9_2, hx9_3, hx9_4, hl9_4, hi9_4⟩ := atF_T26 HF0.out x1 p9 q9
          cases e9
          have HF9_4 := Aside0.mk hi9_4
          have HL9_4 := Aside0.mk hl9_4
          clear hi9_4 hl9_4
          replace p9 := eq_true p9
          replace q9 := eq_true q9
          have H := HH.out
          replace H := Option.bind_eq_some_iff.mp H
          obtain ⟨t10, at_, H⟩ := H
          have At11 := Aside0.mk at_
          clear at_
          replace HH := Aside0.mk (show (if t10 = 0 then ((toponymref15_Encode.l0 k2 (wrap64 (x1 + 1)) l0)) else (some ((⟨#[]⟩ : ByteArray), t10))) = some (r1, r2) from H)
          clear H
          go_wp2_with (((with_reducible refine gate_callee (f := 10) rfl ?_); (try (refine gate_guard (by rfl) ?_; dsimp only)); refine goesL_ (some 18) rfl rfl Try.func10 (by kernel_rfl) rfl #[.agg #[.int .i64 ((rd_T26 l0 x1).f0), .bool ((rd_T26 l0 x1).f1), .int .i64 ((rd_T26 l0 x1).f2), .string ((rd_T26 l0 x1).f3), .slice A9_4 ((rd_T26 l0 x1).f4).length c9_4]] rfl (by (try simp only [List.map_toArray, List.map_cons, List.map_nil]); first | done | rfl | (simp only [List.length_drop, List.length_take]; rfl)) ?_; (with_reducible refine (toponymref15_Check.calls k2 (fun k_ => (P_ k_ ∨ w.heap.size ≤ k_)) ((rd_T26 l0 x1).f0) ((rd_T26 l0 x1).f1) ((rd_T26 l0 x1).f2) ((rd_T26 l0 x1).f3) _ _ ((rd_T26 l0 x1).f4) t10 _ (Kd.F_mono (ok := (fun k_ => (P_ k_ ∨ w.heap.size ≤ k_))) HF9_4.out (fun k_ hk_ => hk_)) HL9_4.out At11.out).mono ?_); rintro e w12 ⟨rfl, hb⟩; refine ⟨_, rfl, ?_⟩); refine stop_ ?_)
          refine Stop.go ?_
          replace HF0 := Aside0.mk (Kd.F_below HF0.out hb)
          replace HF9_4 := Aside0.mk (Kd.F_below HF9_4.out hb)
          replace HB := Aside0.mk (below_step HB.out hb)
          clear hb
          clear hx9_0 hx9_1 hx9_2 hx9_3 hx9_4 p9 q9
          by_cases c13 : t10 = 0
          · have H := HH.out
            rw [if_pos c13] at H
            replace HH := Aside0.mk H
            clear H
            have hk14 : (t10 == 0) = true := beq_iff_eq.mpr c13
            have hk15 : (t10 != 0) = false := bne_eq_false_iff_eq.mpr c13
            clear c13
            go_wp2
            go_roundg k2
            case measure => have := HK0.out; omega
            case rel => exact ⟨wrap64 (x1 + 1), (by first | rfl | (simp; done) | (simp [*]; done)), HH, ⟨by have := HK0.out; omega⟩, ⟨(Kd.F_mono (ok := (fun k_ => (P_ k_ ∨ w.heap.size ≤ k_))) HF0.out (fun k_ hk_ => hk_))⟩, ⟨HB.out⟩⟩
          · have H := HH.out
            rw [if_neg c13] at H
            replace HH := Aside0.mk H
            clear H
            have hk16 : (t10 == 0) = false := beq_eq_false_iff_ne.mpr c13
            have hk17 : (t10 != 0) = true := bne_iff_ne.mpr c13
            clear c13
            have H := HH.out
            simp only [Option.some.injEq, Prod.mk.injEq] at H
            obtain ⟨rfl, rfl⟩ := H
            clear HH
            go_wp2
            go_ret2
            exact ⟨by first | rfl | (simp; done) | (simp [*]; done), HB.out⟩
        · exact absurd HH.out (by rw [if_neg c7]; simp)
      · have H := HH.out
        rw [if_neg c4] at H
        replace HH := Aside0.mk H
        clear H
        have hk19 : (x1 < (l0.length : Int)) = False := eq_false c4
        have hk20 : decide (x1 < (l0.length : Int)) = false := decide_eq_false c4
        clear c4
        go_wp2
        go_loopg [6, 7] k2 (fun kq u6 u7 w' => ∃ (x21 : ByteArray) (x22 : Int), u6 = .string x21 ∧ u7 = .int .i64 x22 ∧ Aside0 ((toponymref15_Encode.l1 kq x21 x22 l0) = some (r1, r2)) ∧ Aside0 (kq ≤ k2) ∧ Aside0 (Kd.F k26 w' (fun k_ => (P_ k_ ∨ w.heap.size ≤ k_)) A0 l0.length l0) ∧ Aside0 (Below w.heap.size w w'))
        case atStart => exact ⟨(⟨#[]⟩ : ByteArray), 0, (by first | rfl | (simp; done) | (simp [*]; done)), (by first | rfl | (simp; done) | (simp [*]; done)), HH, ⟨Nat.le_refl _⟩, ⟨(Kd.F_mono (ok := (fun k_ => (P_ k_ ∨ w.heap.size ≤ k_))) HF0.out (fun k_ hk_ => hk_))⟩, ⟨HB.out⟩⟩
        case round =>
          clear hk19
          clear hk20
          clear HH
          clear HF0 HB
          obtain ⟨x21, x22, rfl, rfl, HA, HK1, HF0, HB⟩ := hrel
          obtain ⟨w24, rfl⟩ : ∃ wo_ : World, wo_ = wr := ⟨_, rfl⟩
          cases gk with
          | zero => exact absurd HA.out (by simp [toponymref15_Encode.l1])
          | succ k23 =>
            have H := HA.out
            clear HA
            simp only [toponymref15_Encode.l1] at H
            have HH := Aside0.mk H
            clear H
            by_cases c25 : x22 < (l0.length : Int)
            · have H := HH.out
              rw [if_pos c25] at H
              replace HH := Aside0.mk H
              clear H
              have hk26 : (x22 < (l0.length : Int)) = True := eq_true c25
              have hk27 : decide (x22 < (l0.length : Int)) = true := decide_eq_true c25
              clear c25
              by_cases c28 : 0 ≤ x22
              · have H := HH.out
                rw [if_pos c28] at H
                replace HH := Aside0.mk H
                clear H
                have hk29 : decide (0 ≤ x22) = true := decide_eq_true c28
                clear c28
                have p30 : 0 ≤ (x22 : Int) := of_decide_eq_true (by first | (with_reducible assumption) | assumption)
                have q30 : x22 < (l0.length : Int) := of_decide_eq_true (by first | (with_reducible assumption) | assumption)
                obtain ⟨ad30, A30_4, c30_4, e30, hx30_0, hx30_1, hx30_2, hx30_3, hx30_4, hl30_4, hi30_4⟩ := atF_T26 HF0.out x22 p30 q30
                cases e30
                have HF30_4 := Aside0.mk hi30_4
                have HL30_4 := Aside0.mk hl30_4
                clear hi30_4 hl30_4
                replace p30 := eq_true p30
                replace q30 := eq_true q30
                have H := HH.out
                replace H := Option.bind_eq_some_iff.mp H
                obtain ⟨t31, at_, H⟩ := H
                have At32 := Aside0.mk at_
                clear at_
                replace HH := Aside0.mk (show (if x21.size + t31.size ≤ 9223372036854775807 then (if ((x21 ++ t31).size : Int) > 4000 then (some ((⟨#[]⟩ : ByteArray), 3)) else ((toponymref15_Encode.l1 k23 (x21 ++ t31) (wrap64 (x22 + 1)) l0))) else (none)) = some (r1, r2) from H)
                clear H
                go_wp2_with (((with_reducible refine gate_callee (f := 27) rfl ?_); (try (refine gate_guard (by rfl) ?_; dsimp only)); refine goesL_ (some 33) rfl rfl Try.func27 (by kernel_rfl) rfl #[.agg #[.int .i64 ((rd_T26 l0 x22).f0), .bool ((rd_T26 l0 x22).f1), .int .i64 ((rd_T26 l0 x22).f2), .string ((rd_T26 l0 x22).f3), .slice A30_4 ((rd_T26 l0 x22).f4).length c30_4]] rfl (by (try simp only [List.map_toArray, List.map_cons, List.map_nil]); first | done | rfl | (simp only [List.length_drop, List.length_take]; rfl)) ?_; (with_reducible refine (toponymref15_lay.calls k23 (fun k_ => (P_ k_ ∨ w.heap.size ≤ k_)) ((rd_T26 l0 x22).f0) ((rd_T26 l0 x22).f1) ((rd_T26 l0 x22).f2) ((rd_T26 l0 x22).f3) _ _ ((rd_T26 l0 x22).f4) t31 _ (Kd.F_mono (ok := (fun k_ => (P_ k_ ∨ w.heap.size ≤ k_))) HF30_4.out (fun k_ hk_ => hk_)) HL30_4.out At32.out).mono ?_); rintro e w33 ⟨rfl, hb⟩; refine ⟨_, rfl, ?_⟩); refine stop_ ?_)
                refine Stop.go ?_
                replace HF0 := Aside0.mk (Kd.F_below HF0.out hb)
                replace HF30_4 := Aside0.mk (Kd.F_below HF30_4.out hb)
                replace HB := Aside0.mk (below_step HB.out hb)
                clear hb
                clear hx30_0 hx30_1 hx30_2 hx30_3 hx30_4 p30 q30
                by_cases c34 : x21.size + t31.size ≤ 9223372036854775807
                · have H := HH.out
                  rw [if_pos c34] at H
                  replace HH := Aside0.mk H
                  clear H
                  have hk35 : (9223372036854775807 < x21.size + t31.size) = False := eq_false (Nat.not_lt.2 c34)
                  have hk36 : (x21.size + t31.size ≤ 9223372036854775807) = True := eq_true c34
                  have hk37 : decide (x21.size + t31.size ≤ 9223372036854775807) = true := decide_eq_true c34
                  clear c34
                  by_cases c38 : ((x21 ++ t31).size : Int) > 4000
                  · have H := HH.out
                    rw [if_pos c38] at H
                    replace HH := Aside0.mk H
                    clear H
                    have hk39 : decide (4000 < ((x21 ++ t31).size : Int)) = true := decide_eq_true c38
                    have hk40 : decide (4000 < (x21 ++ t31).size) = true := decide_eq_true (by omega)
                    try have hk41 : decide (4000 < ((x21.size : Int) + (t31.size : Int))) = true := decide_eq_true (show ((x21.size : Int) + (t31.size : Int)) > 4000 from by have h_ := c38; simp only [ByteArray.size_append, Int.natCast_add] at h_; exact h_)
                    try have hk42 : (((x21.size : Int) + (t31.size : Int)) > 4000) = True := eq_true (show ((x21.size : Int) + (t31.size : Int)) > 4000 from by have h_ := c38; simp only [ByteArray.size_append, Int.natCast_add] at h_; exact h_)
                    clear c38
                    have H := HH.out
                    simp only [Option.some.injEq, Prod.mk.injEq] at H
                    obtain ⟨rfl, rfl⟩ := H
                    clear HH
                    go_wp2
                    go_ret2
                    exact ⟨by first | rfl | (simp; done) | (simp [*]; done), HB.out⟩
                  · have H := HH.out
                    rw [if_neg c38] at H
                    replace HH := Aside0.mk H
                    clear H
                    have hk43 : decide (4000 < ((x21 ++ t31).size : Int)) = false := decide_eq_false c38
                    have hk44 : decide (4000 < (x21 ++ t31).size) = false := decide_eq_false (by omega)
                    try have hk45 : decide (4000 < ((x21.size : Int) + (t31.size : Int))) = false := decide_eq_false (show ¬ (((x21.size : Int) + (t31.size : Int)) > 4000) from by have h_ := c38; simp only [ByteArray.size_append, Int.natCast_add] at h_; exact h_)
                    try have hk46 : (((x21.size : Int) + (t31.size : Int)) > 4000) = False := eq_false (show ¬ (((x21.size : Int) + (t31.size : Int)) > 4000) from by have h_ := c38; simp only [ByteArray.size_append, Int.natCast_add] at h_; exact h_)
                    clear c38
                    go_wp2
                    go_roundg k23
                    case measure => have := HK0.out; have := HK1.out; omega
                    case rel => exact ⟨x21 ++ t31, wrap64 (x22 + 1), (by first | rfl | (simp; done) | (simp [*]; done)), (by first | rfl | (simp; done) | (simp [*]; done)), HH, ⟨by have := HK0.out; have := HK1.out; omega⟩, ⟨(Kd.F_mono (ok := (fun k_ => (P_ k_ ∨ w.heap.size ≤ k_))) HF0.out (fun k_ hk_ => hk_))⟩, ⟨HB.out⟩⟩
                · exact absurd HH.out (by rw [if_neg c34]; simp)
              · exact absurd HH.out (by rw [if_neg c28]; simp)
            · have H := HH.out
              rw [if_neg c25] at H
              replace HH := Aside0.mk H
              clear H
              have hk49 : (x22 < (l0.length : Int)) = False := eq_false c25
              have hk50 : decide (x22 < (l0.length : Int)) = false := decide_eq_false c25
              clear c25
              have H := HH.out
              simp only [Option.some.injEq, Prod.mk.injEq] at H
              obtain ⟨rfl, rfl⟩ := H
              clear HH
              go_wp2
              go_ret2
              exact ⟨by first | rfl | (simp; done) | (simp [*]; done), HB.out⟩

end Go.Proofs.Ythfonbnbffloaaa.GA
