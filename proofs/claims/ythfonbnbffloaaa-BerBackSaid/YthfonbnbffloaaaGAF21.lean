-- written by wip/gen.py, a program of this session
import Derived.Test.YthfonbnbffloaaaGA0
namespace Go.Proofs.Ythfonbnbffloaaa.GA
open Go.RowKit Go.Proofs.Ythfonbnbffloaaa Go.Proofs.Ythfonbnbffloaaa.MW Go.Proofs.YthfonbnbffloaaaW.PrintWords Go.Proofs.YthfonbnbffloaaaW.PrintLast Go.Proofs.YthfonbnbffloaaaW.PrintMore
attribute [local go_sem] max2_int min2_int max_two min_two
set_option linter.unusedVariables false
set_option linter.unusedSimpArgs false


/-! ### toponymref15_fine: function 21 -/
mutual
def toponymref15_fine.l0 : Nat → Int → Int → Bool → Int → ByteArray → (List (S26)) → Option (Bool)
  | 0, _, _, _, _, _, _ => none
  | k + 1, x13, a0_0, a0_1, a0_2, a0_3, l0_4 => if x13 < (l0_4.length : Int) then (if 0 ≤ x13 then ((toponymref15_fine.f k ((rd_T26 l0_4 x13).f0) ((rd_T26 l0_4 x13).f1) ((rd_T26 l0_4 x13).f2) ((rd_T26 l0_4 x13).f3) ((rd_T26 l0_4 x13).f4)).bind fun t33 => (if t33 = true then ((toponymref15_fine.l0 k (wrap64 (x13 + 1)) a0_0 a0_1 a0_2 a0_3 l0_4)) else (some false))) else (none)) else (if a0_0 ≥ 0 then (if a0_0 < 4 then (if a0_2 ≥ 0 then (if a0_2 < 31 then (if a0_1 = true then (if (a0_3.size : Int) = 0 then (some true) else (some false)) else (some ((l0_4.length : Int) == 0))) else (some false)) else (some false)) else (some false)) else (some false))
def toponymref15_fine.f : Nat → Int → Bool → Int → ByteArray → (List (S26)) → Option (Bool)
  | 0, _, _, _, _, _ => none
  | k + 1, a0_0, a0_1, a0_2, a0_3, l0_4 => (toponymref15_fine.l0 k 0 a0_0 a0_1 a0_2 a0_3 l0_4)
end
theorem toponymref15_fine.mono_l : ∀ k, (∀ y0 y1 y2 y3 y4, LeO (toponymref15_fine.f k y0 y1 y2 y3 y4) (toponymref15_fine.f (k + 1) y0 y1 y2 y3 y4)) ∧ (∀ y0 y1 y2 y3 y4 y5, LeO (toponymref15_fine.l0 k y0 y1 y2 y3 y4 y5) (toponymref15_fine.l0 (k + 1) y0 y1 y2 y3 y4 y5))
  | 0 => ⟨fun _ _ _ _ _ r h => by simp [toponymref15_fine.f] at h, fun _ _ _ _ _ _ r h => by simp [toponymref15_fine.l0] at h⟩
  | k + 1 => by
    obtain ⟨ih0, ih1⟩ := toponymref15_fine.mono_l k
    refine ⟨?_, ?_⟩
    · intro y0 y1 y2 y3 y4
      unfold toponymref15_fine.f
      repeat' first
      | (with_reducible exact ih0 _ _ _ _ _)
      | (with_reducible exact ih1 _ _ _ _ _ _)
      | (with_reducible exact LeO.refl _)
      | (with_reducible exact LeO.none _)
      | (with_reducible refine LeO.ite ?_ ?_)
      | (with_reducible refine LeO.bind ?_ (fun _ => ?_))
      | exact ih0 _ _ _ _ _
      | exact ih1 _ _ _ _ _ _
      | exact LeO.none _
      | refine LeO.ite ?_ ?_
      | refine LeO.bind ?_ (fun _ => ?_)
    · intro y0 y1 y2 y3 y4 y5
      unfold toponymref15_fine.l0
      repeat' first
      | (with_reducible exact ih0 _ _ _ _ _)
      | (with_reducible exact ih1 _ _ _ _ _ _)
      | (with_reducible exact LeO.refl _)
      | (with_reducible exact LeO.none _)
      | (with_reducible refine LeO.ite ?_ ?_)
      | (with_reducible refine LeO.bind ?_ (fun _ => ?_))
      | exact ih0 _ _ _ _ _
      | exact ih1 _ _ _ _ _ _
      | exact LeO.none _
      | refine LeO.ite ?_ ?_
      | refine LeO.bind ?_ (fun _ => ?_)
theorem toponymref15_fine.mono : ∀ a0_ a1_ a2_ a3_ a4_ k, LeO (toponymref15_fine.f k a0_ a1_ a2_ a3_ a4_) (toponymref15_fine.f (k + 1) a0_ a1_ a2_ a3_ a4_) := by
  intro a0_ a1_ a2_ a3_ a4_ k
  obtain ⟨ih0, ih1⟩ := toponymref15_fine.mono_l k
  exact ih0 a0_ a1_ a2_ a3_ a4_
set_option maxHeartbeats 8000000 in
set_option maxRecDepth 100000 in
theorem toponymref15_fine.calls (k : Nat) : ∀ (P_ : Nat → Prop) (a0_0 : Int) (a0_1 : Bool) (a0_2 : Int) (a0_3 : ByteArray) (A0_4 : Option Addr) (c0_4 : Nat) (l0_4 : List (S26)) (r : Bool) (w : World) (hs0_4 : Kd.F k26 w P_ A0_4 l0_4.length l0_4) (hc0_4 : l0_4.length ≤ c0_4) (h : toponymref15_fine.f k a0_0 a0_1 a0_2 a0_3 l0_4 = some r),
    Calls Try.prog 21 #[.agg #[.int .i64 a0_0, .bool a0_1, .int .i64 a0_2, .string a0_3, .slice A0_4 l0_4.length c0_4]] w (fun e w' => e = .returned (.bool r) ∧ Below w.heap.size w w') := by
  induction k using Nat.strongRecOn with
  | _ k ih =>
  intro P_ a0_0 a0_1 a0_2 a0_3 A0_4 c0_4 l0_4 r w hs0_4 hc0_4 h
  cases k with
  | zero => exact absurd h (by simp [toponymref15_fine.f])
  | succ k1 =>
  simp only [toponymref15_fine.f] at h
  have HH := Aside0.mk h
  clear h
  have HF0_4 := Aside0.mk (Kd.F_mono hs0_4 (fun k_ hk_ => (.inl hk_ : P_ k_ ∨ w.heap.size ≤ k_)))
  have HL0_4 := Aside0.mk hc0_4
  clear hs0_4 hc0_4
  have HB := Aside0.mk (Below.refl w.heap.size w)
  have hu26 := Try.underlying26
  go_enter Try.func21, Try.ntmps21
  go_wp2_with (((with_reducible refine gate_dst (N := 1) rfl ?_); (try (refine gate_guard (by rfl) ?_; dsimp only)); refine box_event ?hg (N := 1) ?hd (cs := #[.int .i64 a0_0, .bool a0_1, .int .i64 a0_2, .string a0_3, .slice A0_4 l0_4.length c0_4]) (t := 26) ?hr ?_; (case hd => rfl); (case hg => rfl); (case hr => first | (go_simp; done) | (go_simp; rfl)); intro g1 hg w2 hbox hb); replace hg := Aside0.mk hg; replace hbox := Aside0.mk hbox; refine stop_ ?_)
  refine Stop.go ?_
  replace hg := hg.out
  replace hbox := hbox.out
  have GEg1 := Aside0.mk (by rw [hg]; exact (below_size HB.out) : w.heap.size ≤ g1)
  replace HF0_4 := Aside0.mk (Kd.F_elderB HF0_4.out g1 (Nat.le_of_eq hg.symm))
  replace HF0_4 := Aside0.mk (Kd.F_mono HF0_4.out (fun k_ hk_ => ⟨hk_.1, hk_.2⟩) : Kd.F k26 _ (fun k_ => (P_ k_ ∨ w.heap.size ≤ k_) ∧ k_ ≠ g1) _ _ _)
  replace HF0_4 := Aside0.mk (Kd.F_below HF0_4.out hb)
  replace HB := Aside0.mk (below_step HB.out hb)
  have BKg1 := Aside0.mk hbox
  clear hg hbox hb
  obtain ⟨hz3, hz4, hz5, hz6, hz7, hf8, hf9, hf10, hf11, hf12⟩ := MB.lay5 BKg1.out
  go_wp2
  go_loopg [3] k1 (fun kq u3 w' => ∃ (x13 : Int), u3 = .int .i64 x13 ∧ Aside0 ((toponymref15_fine.l0 kq x13 a0_0 a0_1 a0_2 a0_3 l0_4) = some r) ∧ Aside0 (kq ≤ k1) ∧ Aside0 (Kd.F k26 w' (fun k_ => (P_ k_ ∨ w.heap.size ≤ k_) ∧ k_ ≠ g1) A0_4 l0_4.length l0_4) ∧ Aside0 (w'.heap[g1]? = some (.cells #[.int .i64 a0_0, .bool a0_1, .int .i64 a0_2, .string a0_3, .slice A0_4 l0_4.length c0_4] 26 (0, 0))) ∧ Aside0 (Below w.heap.size w w'))
  case atStart => exact ⟨0, (by first | rfl | (simp; done) | (simp [*]; done)), HH, ⟨Nat.le_refl _⟩, ⟨(Kd.F_mono (ok := (fun k_ => (P_ k_ ∨ w.heap.size ≤ k_) ∧ k_ ≠ g1)) HF0_4.out (fun k_ hk_ => ⟨hk_.1, hk_.2⟩))⟩, ⟨BKg1.out⟩, ⟨HB.out⟩⟩
  case round =>
    clear hz3 hz4 hz5 hz6 hz7 hf8 hf9 hf10 hf11 hf12
    clear HH
    clear HF0_4 BKg1 HB
    obtain ⟨x13, rfl, HA, HK0, HF0_4, BKg1, HB⟩ := hrel
    obtain ⟨w15, rfl⟩ : ∃ wo_ : World, wo_ = wr := ⟨_, rfl⟩
    cases gk with
    | zero => exact absurd HA.out (by simp [toponymref15_fine.l0])
    | succ k16 =>
      have H := HA.out
      clear HA
      simp only [toponymref15_fine.l0] at H
      have HH := Aside0.mk H
      clear H
      obtain ⟨hz17, hz18, hz19, hz20, hz21, hf22, hf23, hf24, hf25, hf26⟩ := MB.lay5 BKg1.out
      by_cases c27 : x13 < (l0_4.length : Int)
      · have H := HH.out
        rw [if_pos c27] at H
        replace HH := Aside0.mk H
        clear H
        have hk28 : (x13 < (l0_4.length : Int)) = True := eq_true c27
        have hk29 : decide (x13 < (l0_4.length : Int)) = true := decide_eq_true c27
        clear c27
        by_cases c30 : 0 ≤ x13
        · have H := HH.out
          rw [if_pos c30] at H
          replace HH := Aside0.mk H
          clear H
          have hk31 : decide (0 ≤ x13) = true := decide_eq_true c30
          clear c30
          have p32 : 0 ≤ (x13 : Int) := of_decide_eq_true (by first | (with_reducible assumption) | assumption)
          have q32 : x13 < (l0_4.length : Int) := of_decide_eq_true (by first | (with_reducible assumption) | assumption)
          obtain ⟨ad32, A32_4, c32_4, e32, hx32_0, hx32_1, hx32_2, hx32_3, hx32_4, hl32_4, hi32_4⟩ := atF_T26 HF0_4.out x13 p32 q32
          cases e32
          have HF32_4 := Aside0.mk hi32_4
          have HL32_4 := Aside0.mk hl32_4
          clear hi32_4 hl32_4
          replace p32 := eq_true p32
          replace q32 := eq_true q32
          have H := HH.out
          replace H := Option.bind_eq_some_iff.mp H
          obtain ⟨t33, at_, H⟩ := H
          have At34 := Aside0.mk at_
          clear at_
          replace HH := Aside0.mk (show (if t33 = true then ((toponymref15_fine.l0 k16 (wrap64 (x13 + 1)) a0_0 a0_1 a0_2 a0_3 l0_4)) else (some false)) = some r from H)
          clear H
          go_wp2_with (((with_reducible refine gate_callee (f := 21) rfl ?_); (try (refine gate_guard (by rfl) ?_; dsimp only)); refine goesL_ (some 17) rfl rfl Try.func21 (by kernel_rfl) rfl #[.agg #[.int .i64 ((rd_T26 l0_4 x13).f0), .bool ((rd_T26 l0_4 x13).f1), .int .i64 ((rd_T26 l0_4 x13).f2), .string ((rd_T26 l0_4 x13).f3), .slice A32_4 ((rd_T26 l0_4 x13).f4).length c32_4]] rfl (by (try simp only [List.map_toArray, List.map_cons, List.map_nil]); first | done | rfl | (simp only [List.length_drop, List.length_take]; rfl)) ?_; (with_reducible refine (ih k16 (by have := HK0.out; omega) (fun k_ => (P_ k_ ∨ w.heap.size ≤ k_) ∧ k_ ≠ g1) ((rd_T26 l0_4 x13).f0) ((rd_T26 l0_4 x13).f1) ((rd_T26 l0_4 x13).f2) ((rd_T26 l0_4 x13).f3) _ _ ((rd_T26 l0_4 x13).f4) t33 _ (Kd.F_mono (ok := (fun k_ => (P_ k_ ∨ w.heap.size ≤ k_) ∧ k_ ≠ g1)) HF32_4.out (fun k_ hk_ => ⟨hk_.1, hk_.2⟩)) HL32_4.out At34.out).mono ?_); rintro e w35 ⟨rfl, hb⟩; refine ⟨_, rfl, ?_⟩); refine stop_ ?_)
          refine Stop.go ?_
          replace HF0_4 := Aside0.mk (Kd.F_below HF0_4.out hb)
          replace HF32_4 := Aside0.mk (Kd.F_below HF32_4.out hb)
          replace BKg1 := Aside0.mk (blk_below (o := .cells #[.int .i64 a0_0, .bool a0_1, .int .i64 a0_2, .string a0_3, .slice (some ad32) l0_4.length c0_4] 26 (0, 0)) BKg1.out hb)
          replace HB := Aside0.mk (below_step HB.out hb)
          clear hb
          clear hz17 hz18 hz19 hz20 hz21 hf22 hf23 hf24 hf25 hf26 hx32_0 hx32_1 hx32_2 hx32_3 hx32_4 p32 q32
          obtain ⟨hz36, hz37, hz38, hz39, hz40, hf41, hf42, hf43, hf44, hf45⟩ := MB.lay5 BKg1.out
          by_cases c46 : t33 = true
          · have H := HH.out
            rw [if_pos c46] at H
            replace HH := Aside0.mk H
            clear H
            subst c46
            go_wp2
            go_roundg k16
            case measure => have := HK0.out; omega
            case rel => exact ⟨wrap64 (x13 + 1), (by first | rfl | (simp; done) | (simp [*]; done)), HH, ⟨by have := HK0.out; omega⟩, ⟨(Kd.F_mono (ok := (fun k_ => (P_ k_ ∨ w.heap.size ≤ k_) ∧ k_ ≠ g1)) HF0_4.out (fun k_ hk_ => ⟨hk_.1, hk_.2⟩))⟩, ⟨BKg1.out⟩, ⟨HB.out⟩⟩
          · have H := HH.out
            rw [if_neg c46] at H
            replace HH := Aside0.mk H
            clear H
            replace c46 := Bool.eq_false_iff.mpr c46
            subst c46
            have H := HH.out
            obtain rfl := Option.some.inj H
            clear HH
            go_wp2
            go_ret
            exact ⟨by first | rfl | (simp; done) | (simp [*]; done), HB.out⟩
        · exact absurd HH.out (by rw [if_neg c30]; simp)
      · have H := HH.out
        rw [if_neg c27] at H
        replace HH := Aside0.mk H
        clear H
        have hk48 : (x13 < (l0_4.length : Int)) = False := eq_false c27
        have hk49 : decide (x13 < (l0_4.length : Int)) = false := decide_eq_false c27
        clear c27
        by_cases c50 : a0_0 ≥ 0
        · have H := HH.out
          rw [if_pos c50] at H
          replace HH := Aside0.mk H
          clear H
          have hk51 : decide (0 ≤ a0_0) = true := decide_eq_true c50
          clear c50
          by_cases c52 : a0_0 < 4
          · have H := HH.out
            rw [if_pos c52] at H
            replace HH := Aside0.mk H
            clear H
            have hk53 : (a0_0 < 4) = True := eq_true c52
            have hk54 : decide (a0_0 < 4) = true := decide_eq_true c52
            clear c52
            by_cases c55 : a0_2 ≥ 0
            · have H := HH.out
              rw [if_pos c55] at H
              replace HH := Aside0.mk H
              clear H
              have hk56 : decide (0 ≤ a0_2) = true := decide_eq_true c55
              clear c55
              by_cases c57 : a0_2 < 31
              · have H := HH.out
                rw [if_pos c57] at H
                replace HH := Aside0.mk H
                clear H
                have hk58 : (a0_2 < 31) = True := eq_true c57
                have hk59 : decide (a0_2 < 31) = true := decide_eq_true c57
                clear c57
                by_cases c60 : a0_1 = true
                · have H := HH.out
                  rw [if_pos c60] at H
                  replace HH := Aside0.mk H
                  clear H
                  subst c60
                  by_cases c61 : (a0_3.size : Int) = 0
                  · have H := HH.out
                    rw [if_pos c61] at H
                    replace HH := Aside0.mk H
                    clear H
                    have hk62 : ((a0_3.size : Int) == 0) = true := beq_iff_eq.mpr c61
                    have hk63 : ((a0_3.size : Int) != 0) = false := bne_eq_false_iff_eq.mpr c61
                    clear c61
                    have H := HH.out
                    obtain rfl := Option.some.inj H
                    clear HH
                    go_wp2
                    go_ret
                    exact ⟨by first | rfl | (simp; done) | (simp [*]; done), HB.out⟩
                  · have H := HH.out
                    rw [if_neg c61] at H
                    replace HH := Aside0.mk H
                    clear H
                    have hk64 : ((a0_3.size : Int) == 0) = false := beq_eq_false_iff_ne.mpr c61
                    have hk65 : ((a0_3.size : Int) != 0) = true := bne_iff_ne.mpr c61
                    clear c61
                    have H := HH.out
                    obtain rfl := Option.some.inj H
                    clear HH
                    go_wp2
                    go_ret
                    exact ⟨by first | rfl | (simp; done) | (simp [*]; done), HB.out⟩
                · have H := HH.out
                  rw [if_neg c60] at H
                  replace HH := Aside0.mk H
                  clear H
                  replace c60 := Bool.eq_false_iff.mpr c60
                  subst c60
                  have H := HH.out
                  obtain rfl := Option.some.inj H
                  clear HH
                  go_wp2
                  go_ret
                  exact ⟨by first | rfl | (simp; done) | (simp [*]; done), HB.out⟩
              · have H := HH.out
                rw [if_neg c57] at H
                replace HH := Aside0.mk H
                clear H
                have hk66 : (a0_2 < 31) = False := eq_false c57
                have hk67 : decide (a0_2 < 31) = false := decide_eq_false c57
                clear c57
                have H := HH.out
                obtain rfl := Option.some.inj H
                clear HH
                go_wp2
                go_ret
                exact ⟨by first | rfl | (simp; done) | (simp [*]; done), HB.out⟩
            · have H := HH.out
              rw [if_neg c55] at H
              replace HH := Aside0.mk H
              clear H
              have hk68 : decide (0 ≤ a0_2) = false := decide_eq_false c55
              clear c55
              have H := HH.out
              obtain rfl := Option.some.inj H
              clear HH
              go_wp2
              go_ret
              exact ⟨by first | rfl | (simp; done) | (simp [*]; done), HB.out⟩
          · have H := HH.out
            rw [if_neg c52] at H
            replace HH := Aside0.mk H
            clear H
            have hk69 : (a0_0 < 4) = False := eq_false c52
            have hk70 : decide (a0_0 < 4) = false := decide_eq_false c52
            clear c52
            have H := HH.out
            obtain rfl := Option.some.inj H
            clear HH
            go_wp2
            go_ret
            exact ⟨by first | rfl | (simp; done) | (simp [*]; done), HB.out⟩
        · have H := HH.out
          rw [if_neg c50] at H
          replace HH := Aside0.mk H
          clear H
          have hk71 : decide (0 ≤ a0_0) = false := decide_eq_false c50
          clear c50
          have H := HH.out
          obtain rfl := Option.some.inj H
          clear HH
          go_wp2
          go_ret
          exact ⟨by first | rfl | (simp; done) | (simp [*]; done), HB.out⟩

end Go.Proofs.Ythfonbnbffloaaa.GA
