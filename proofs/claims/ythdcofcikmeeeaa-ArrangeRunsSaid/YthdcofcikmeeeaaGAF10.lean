-- written by wip/gen.py, a program of this session
import Derived.Test.YthdcofcikmeeeaaGA0
import Derived.Test.YthdcofcikmeeeaaGAF14
import Derived.Test.YthdcofcikmeeeaaGAF19
import Derived.Test.YthdcofcikmeeeaaGAF20
namespace Go.Proofs.Ythdcofcikmeeeaa.GA
open Go.RowKit Go.Proofs.Ythdcofcikmeeeaa Go.Proofs.Ythdcofcikmeeeaa.MW Go.Proofs.YthdcofcikmeeeaaW.PrintWords Go.Proofs.YthdcofcikmeeeaaW.PrintLast Go.Proofs.YthdcofcikmeeeaaW.PrintMore
attribute [local go_sem] max2_int min2_int max_two min_two
set_option linter.unusedVariables false
set_option linter.unusedSimpArgs false

/-! ### toponymref06_Order: function 10 -/
mutual
def toponymref06_Order.l0 : Nat → (List Int) → Int → (List (List Int)) → Option (List Int)
  | 0, _, _, _ => none
  | k + 1, x9, x12, t1 => if x12 < (t1.length : Int) then ((toponymref06_Order.l1 k x9 0 t1 x12)) else (some x9)
def toponymref06_Order.l1 : Nat → (List Int) → Int → (List (List Int)) → Int → Option (List Int)
  | 0, _, _, _, _ => none
  | k + 1, x19, x22, t1, x12 => if x22 ≤ 230 then ((toponymref06_Order.l2 k x19 0 t1 x12 x22)) else ((toponymref06_Order.l0 k x19 (wrap64 (x12 + 1)) t1))
def toponymref06_Order.l2 : Nat → (List Int) → Int → (List (List Int)) → Int → Int → Option (List Int)
  | 0, _, _, _, _, _ => none
  | k + 1, x27, x30, t1, x12, x22 => if 0 ≤ x12 then (if x12 < (t1.length : Int) then (if x30 < ((rd_L1 t1 x12).length : Int) then (if 0 ≤ x30 then ((toponymref03_Class.f k (rd (rd_L1 t1 x12) x30)).bind fun t45 => (if t45 = x22 then (if x27.length < 35184372088832 then ((some (x27 ++ [rd (rd_L1 t1 x12) x30] : List Int)).bind fun y54 => ((toponymref06_Order.l2 k y54 (wrap64 (x30 + 1)) t1 x12 x22))) else (none)) else ((toponymref06_Order.l2 k x27 (wrap64 (x30 + 1)) t1 x12 x22)))) else (none)) else ((toponymref06_step.f x22).bind fun t63 => ((toponymref06_Order.l1 k x27 (wrap64 (x22 + t63)) t1 x12)))) else (none)) else (none)
end
def toponymref06_Order.f (k : Nat) (l0 : List Int) : Option (List Int) := (toponymref06_Runs.f k l0).bind fun t1 => ((toponymref06_Order.l0 k ([] : List Int) 0 t1))
theorem toponymref06_Order.mono_l : ∀ k, (∀ y0 y1 y2, LeO (toponymref06_Order.l0 k y0 y1 y2) (toponymref06_Order.l0 (k + 1) y0 y1 y2)) ∧ (∀ y0 y1 y2 y3, LeO (toponymref06_Order.l1 k y0 y1 y2 y3) (toponymref06_Order.l1 (k + 1) y0 y1 y2 y3)) ∧ (∀ y0 y1 y2 y3 y4, LeO (toponymref06_Order.l2 k y0 y1 y2 y3 y4) (toponymref06_Order.l2 (k + 1) y0 y1 y2 y3 y4))
  | 0 => ⟨fun _ _ _ r h => by simp [toponymref06_Order.l0] at h, fun _ _ _ _ r h => by simp [toponymref06_Order.l1] at h, fun _ _ _ _ _ r h => by simp [toponymref06_Order.l2] at h⟩
  | k + 1 => by
    obtain ⟨ih0, ih1, ih2⟩ := toponymref06_Order.mono_l k
    refine ⟨?_, ?_, ?_⟩
    · intro y0 y1 y2
      unfold toponymref06_Order.l0
      repeat' first
      | (with_reducible exact ih0 _ _ _)
      | (with_reducible exact ih1 _ _ _ _)
      | (with_reducible exact ih2 _ _ _ _ _)
      | (with_reducible exact toponymref03_Class.mono _ _)
      | (with_reducible exact toponymref06_Runs.mono _ _)
      | (with_reducible exact LeO.refl _)
      | (with_reducible exact LeO.none _)
      | (with_reducible refine LeO.ite ?_ ?_)
      | (with_reducible refine LeO.bind ?_ (fun _ => ?_))
      | exact ih0 _ _ _
      | exact ih1 _ _ _ _
      | exact ih2 _ _ _ _ _
      | exact toponymref03_Class.mono _ _
      | exact toponymref06_Runs.mono _ _
      | exact LeO.none _
      | refine LeO.ite ?_ ?_
      | refine LeO.bind ?_ (fun _ => ?_)
    · intro y0 y1 y2 y3
      unfold toponymref06_Order.l1
      repeat' first
      | (with_reducible exact ih0 _ _ _)
      | (with_reducible exact ih1 _ _ _ _)
      | (with_reducible exact ih2 _ _ _ _ _)
      | (with_reducible exact toponymref03_Class.mono _ _)
      | (with_reducible exact toponymref06_Runs.mono _ _)
      | (with_reducible exact LeO.refl _)
      | (with_reducible exact LeO.none _)
      | (with_reducible refine LeO.ite ?_ ?_)
      | (with_reducible refine LeO.bind ?_ (fun _ => ?_))
      | exact ih0 _ _ _
      | exact ih1 _ _ _ _
      | exact ih2 _ _ _ _ _
      | exact toponymref03_Class.mono _ _
      | exact toponymref06_Runs.mono _ _
      | exact LeO.none _
      | refine LeO.ite ?_ ?_
      | refine LeO.bind ?_ (fun _ => ?_)
    · intro y0 y1 y2 y3 y4
      unfold toponymref06_Order.l2
      repeat' first
      | (with_reducible exact ih0 _ _ _)
      | (with_reducible exact ih1 _ _ _ _)
      | (with_reducible exact ih2 _ _ _ _ _)
      | (with_reducible exact toponymref03_Class.mono _ _)
      | (with_reducible exact toponymref06_Runs.mono _ _)
      | (with_reducible exact LeO.refl _)
      | (with_reducible exact LeO.none _)
      | (with_reducible refine LeO.ite ?_ ?_)
      | (with_reducible refine LeO.bind ?_ (fun _ => ?_))
      | exact ih0 _ _ _
      | exact ih1 _ _ _ _
      | exact ih2 _ _ _ _ _
      | exact toponymref03_Class.mono _ _
      | exact toponymref06_Runs.mono _ _
      | exact LeO.none _
      | refine LeO.ite ?_ ?_
      | refine LeO.bind ?_ (fun _ => ?_)
theorem toponymref06_Order.mono : ∀ a0_ k, LeO (toponymref06_Order.f k a0_) (toponymref06_Order.f (k + 1) a0_) := by
  intro a0_ k
  obtain ⟨ih0, ih1, ih2⟩ := toponymref06_Order.mono_l k
  unfold toponymref06_Order.f
  repeat' first
      | (with_reducible exact ih0 _ _ _)
      | (with_reducible exact ih1 _ _ _ _)
      | (with_reducible exact ih2 _ _ _ _ _)
      | (with_reducible exact toponymref03_Class.mono _ _)
      | (with_reducible exact toponymref06_Runs.mono _ _)
      | (with_reducible exact LeO.refl _)
      | (with_reducible exact LeO.none _)
      | (with_reducible refine LeO.ite ?_ ?_)
      | (with_reducible refine LeO.bind ?_ (fun _ => ?_))
      | exact ih0 _ _ _
      | exact ih1 _ _ _ _
      | exact ih2 _ _ _ _ _
      | exact toponymref03_Class.mono _ _
      | exact toponymref06_Runs.mono _ _
      | exact LeO.none _
      | refine LeO.ite ?_ ?_
      | refine LeO.bind ?_ (fun _ => ?_)
set_option maxHeartbeats 8000000 in
set_option maxRecDepth 100000 in
theorem toponymref06_Order.calls (k : Nat) (P_ : Nat → Prop) (A0 : Option Addr) (c0 : Nat) (l0 : List Int) (r : List Int) (w : World) (hs0 : Kd.F (Kd.int .i32) w P_ A0 l0.length l0) (hc0 : l0.length ≤ c0) (h : toponymref06_Order.f k l0 = some r) :
    Calls Try.prog 10 #[.slice A0 l0.length c0] w (fun e w' => ∃ v0_ : Value, e = .returned (v0_) ∧ Kd.N (Kd.int .i32) 21 w' w.heap.size (fun k_ => P_ k_ ∨ w.heap.size ≤ k_) v0_ r ∧ Below w.heap.size w w') := by
  have HH := Aside0.mk (show ((toponymref06_Runs.f k l0).bind fun t1 => ((toponymref06_Order.l0 k ([] : List Int) 0 t1))) = some r from h)
  clear h
  have HF0 := Aside0.mk (Kd.F_mono hs0 (fun k_ hk_ => (.inl hk_ : P_ k_ ∨ w.heap.size ≤ k_)))
  have HL0 := Aside0.mk hc0
  clear hs0 hc0
  have HB := Aside0.mk (Below.refl w.heap.size w)
  go_enter Try.func10, Try.ntmps10
  have H := HH.out
  replace H := Option.bind_eq_some_iff.mp H
  obtain ⟨t1, at_, H⟩ := H
  have At2 := Aside0.mk at_
  clear at_
  replace HH := Aside0.mk (show ((toponymref06_Order.l0 k ([] : List Int) 0 t1)) = some r from H)
  clear H
  go_wp2_with (((with_reducible refine gate_callee (f := 14) rfl ?_); (try (refine gate_guard (by rfl) ?_; dsimp only)); refine goesL_ (some 9) rfl rfl Try.func14 (by kernel_rfl) rfl #[.slice A0 l0.length c0] rfl (by (try simp only [List.map_toArray, List.map_cons, List.map_nil]); first | done | rfl | (simp only [List.length_drop, List.length_take]; rfl)) ?_; (with_reducible refine (toponymref06_Runs.calls k (fun k_ => (P_ k_ ∨ w.heap.size ≤ k_)) _ _ l0 t1 _ (Kd.F_mono (ok := (fun k_ => (P_ k_ ∨ w.heap.size ≤ k_))) HF0.out (fun k_ hk_ => hk_)) HL0.out At2.out).mono ?_); rintro e w3 ⟨v4, rfl, hn4, hb⟩; refine ⟨_, rfl, ?_⟩); refine stop_ ?_)
  refine Stop.go ?_
  have hba := Kd.N_base hn4
  have HN4 := Aside0.mk (Kd.N_mono (Kd.N_lower hn4 (below_size HB.out)) (fun k_ hk_ => hk_.elim (fun h_ => h_) (fun h_ => .inr (Nat.le_trans (below_size HB.out) h_))) : Kd.N (Kd.slice 21 (Kd.int .i32)) 22 w3 w.heap.size (fun k_ => (P_ k_ ∨ w.heap.size ≤ k_)) v4 t1)
  replace HF0 := Aside0.mk (Kd.F_mono (Kd.F_elder' (ok := (fun k_ => (P_ k_ ∨ w.heap.size ≤ k_))) HF0.out hba hb) (fun k_ hk_ => ⟨hk_.1, hk_.2⟩) : Kd.F (Kd.int .i32) _ (fun k_ => (P_ k_ ∨ w.heap.size ≤ k_) ∧ some k_ ≠ (v4 : Value).ownBlock) _ _ _)
  replace HB := Aside0.mk (below_step HB.out hb)
  clear hn4 hba hb
  obtain ⟨A5, cp6, he_⟩ := Kd.N_slice HN4.out
  subst he_
  have HL8 := Aside0.mk (Kd.N_reads' HN4.out).2.1
  have HF7 := Aside0.mk (Kd.N_F HN4.out)
  clear HN4
  go_wp2
  go_loopg [4, 5] k (fun kq u4 u5 w' => ∃ (x9 : List Int) (x12 : Int), u5 = .int .i64 x12 ∧ Aside0 ((toponymref06_Order.l0 kq x9 x12 t1) = some r) ∧ Aside0 (kq ≤ k) ∧ Aside0 (Kd.F (Kd.slice 21 (Kd.int .i32)) w' (fun k_ => (P_ k_ ∨ w.heap.size ≤ k_) ∧ some k_ ≠ (u4 : Value).ownBlock) A5 t1.length t1) ∧ Aside0 (Kd.N (Kd.int .i32) 21 w' w.heap.size (fun k_ => (P_ k_ ∨ w.heap.size ≤ k_)) u4 x9) ∧ Aside0 (Below w.heap.size w w'))
  case atStart => exact ⟨([] : List Int), 0, (by first | rfl | (simp; done) | (simp [*]; done)), HH, ⟨Nat.le_refl _⟩, ⟨(Kd.F_mono (ok := (fun k_ => (P_ k_ ∨ w.heap.size ≤ k_))) HF7.out (fun k_ hk_ => ⟨hk_, (by simp [Value.ownBlock])⟩))⟩, ⟨Kd.N_nil _ _ _ _ _⟩, ⟨HB.out⟩⟩
  case round =>
    clear HH
    clear HF7 HB
    obtain ⟨x9, x12, rfl, HA, HK0, HF7, HN11, HB⟩ := hrel
    obtain ⟨v10, rfl⟩ : ∃ z_ : Value, z_ = u4 := ⟨_, rfl⟩
    obtain ⟨w14, rfl⟩ : ∃ wo_ : World, wo_ = wr := ⟨_, rfl⟩
    cases gk with
    | zero => exact absurd HA.out (by simp [toponymref06_Order.l0])
    | succ k15 =>
      have H := HA.out
      clear HA
      simp only [toponymref06_Order.l0] at H
      have HH := Aside0.mk H
      clear H
      by_cases c16 : x12 < (t1.length : Int)
      · have H := HH.out
        rw [if_pos c16] at H
        replace HH := Aside0.mk H
        clear H
        have hk17 : (x12 < (t1.length : Int)) = True := eq_true c16
        have hk18 : decide (x12 < (t1.length : Int)) = true := decide_eq_true c16
        clear c16
        go_wp2
        go_loopg [4, 6] k15 (fun kq u4 u6 w' => ∃ (x19 : List Int) (x22 : Int), u6 = .int .i64 x22 ∧ Aside0 ((toponymref06_Order.l1 kq x19 x22 t1 x12) = some r) ∧ Aside0 (kq ≤ k15) ∧ Aside0 (Kd.F (Kd.slice 21 (Kd.int .i32)) w' (fun k_ => (P_ k_ ∨ w.heap.size ≤ k_) ∧ some k_ ≠ (u4 : Value).ownBlock) A5 t1.length t1) ∧ Aside0 (Kd.N (Kd.int .i32) 21 w' w.heap.size (fun k_ => (P_ k_ ∨ w.heap.size ≤ k_)) u4 x19) ∧ Aside0 (Below w.heap.size w w'))
        case atStart => exact ⟨x9, 0, (by first | rfl | (simp; done) | (simp [*]; done)), HH, ⟨Nat.le_refl _⟩, ⟨(Kd.F_mono (ok := (fun k_ => (P_ k_ ∨ w.heap.size ≤ k_) ∧ some k_ ≠ (v10 : Value).ownBlock)) HF7.out (fun k_ hk_ => ⟨hk_.1, hk_.2⟩))⟩, ⟨(Kd.N_mono (ok := (fun k_ => (P_ k_ ∨ w.heap.size ≤ k_))) HN11.out (fun k_ hk_ => hk_))⟩, ⟨HB.out⟩⟩
        case round =>
          clear hk17
          clear hk18
          clear HH
          clear HF7 HN11 HB
          obtain ⟨x19, x22, rfl, HA, HK1, HF7, HN21, HB⟩ := hrel
          obtain ⟨v20, rfl⟩ : ∃ z_ : Value, z_ = u4 := ⟨_, rfl⟩
          obtain ⟨w24, rfl⟩ : ∃ wo_ : World, wo_ = wr := ⟨_, rfl⟩
          cases gk with
          | zero => exact absurd HA.out (by simp [toponymref06_Order.l1])
          | succ k23 =>
            have H := HA.out
            clear HA
            simp only [toponymref06_Order.l1] at H
            have HH := Aside0.mk H
            clear H
            by_cases c25 : x22 ≤ 230
            · have H := HH.out
              rw [if_pos c25] at H
              replace HH := Aside0.mk H
              clear H
              have hk26 : decide (x22 ≤ 230) = true := decide_eq_true c25
              clear c25
              go_wp2
              go_loopg [4, 7] k23 (fun kq u4 u7 w' => ∃ (x27 : List Int) (x30 : Int), u7 = .int .i64 x30 ∧ Aside0 ((toponymref06_Order.l2 kq x27 x30 t1 x12 x22) = some r) ∧ Aside0 (kq ≤ k23) ∧ Aside0 (Kd.F (Kd.slice 21 (Kd.int .i32)) w' (fun k_ => (P_ k_ ∨ w.heap.size ≤ k_) ∧ some k_ ≠ (u4 : Value).ownBlock) A5 t1.length t1) ∧ Aside0 (Kd.N (Kd.int .i32) 21 w' w.heap.size (fun k_ => (P_ k_ ∨ w.heap.size ≤ k_)) u4 x27) ∧ Aside0 (Below w.heap.size w w'))
              case atStart => exact ⟨x19, 0, (by first | rfl | (simp; done) | (simp [*]; done)), HH, ⟨Nat.le_refl _⟩, ⟨(Kd.F_mono (ok := (fun k_ => (P_ k_ ∨ w.heap.size ≤ k_) ∧ some k_ ≠ (v20 : Value).ownBlock)) HF7.out (fun k_ hk_ => ⟨hk_.1, hk_.2⟩))⟩, ⟨(Kd.N_mono (ok := (fun k_ => (P_ k_ ∨ w.heap.size ≤ k_))) HN21.out (fun k_ hk_ => hk_))⟩, ⟨HB.out⟩⟩
              case round =>
                clear hk26
                clear HH
                clear HF7 HN21 HB
                obtain ⟨x27, x30, rfl, HA, HK2, HF7, HN29, HB⟩ := hrel
                obtain ⟨v28, rfl⟩ : ∃ z_ : Value, z_ = u4 := ⟨_, rfl⟩
                obtain ⟨w32, rfl⟩ : ∃ wo_ : World, wo_ = wr := ⟨_, rfl⟩
                cases gk with
                | zero => exact absurd HA.out (by simp [toponymref06_Order.l2])
                | succ k31 =>
                  have H := HA.out
                  clear HA
                  simp only [toponymref06_Order.l2] at H
                  have HH := Aside0.mk H
                  clear H
                  by_cases c33 : 0 ≤ x12
                  · have H := HH.out
                    rw [if_pos c33] at H
                    replace HH := Aside0.mk H
                    clear H
                    have hk34 : decide (0 ≤ x12) = true := decide_eq_true c33
                    clear c33
                    by_cases c35 : x12 < (t1.length : Int)
                    · have H := HH.out
                      rw [if_pos c35] at H
                      replace HH := Aside0.mk H
                      clear H
                      have hk36 : (x12 < (t1.length : Int)) = True := eq_true c35
                      have hk37 : decide (x12 < (t1.length : Int)) = true := decide_eq_true c35
                      clear c35
                      have p38 : 0 ≤ (x12 : Int) := of_decide_eq_true (by first | (with_reducible assumption) | assumption)
                      have q38 : x12 < (t1.length : Int) := of_decide_eq_true (by first | (with_reducible assumption) | assumption)
                      obtain ⟨ad38, A38_0, c38_0, e38, hx38_0, hl38_0, hi38_0⟩ := atF_L1 HF7.out x12 p38 q38
                      cases e38
                      have HF38_0 := Aside0.mk hi38_0
                      have HL38_0 := Aside0.mk hl38_0
                      clear hi38_0 hl38_0
                      replace p38 := eq_true p38
                      replace q38 := eq_true q38
                      by_cases c39 : x30 < ((rd_L1 t1 x12).length : Int)
                      · have H := HH.out
                        rw [if_pos c39] at H
                        replace HH := Aside0.mk H
                        clear H
                        have hk40 : (x30 < ((rd_L1 t1 x12).length : Int)) = True := eq_true c39
                        have hk41 : decide (x30 < ((rd_L1 t1 x12).length : Int)) = true := decide_eq_true c39
                        clear c39
                        by_cases c42 : 0 ≤ x30
                        · have H := HH.out
                          rw [if_pos c42] at H
                          replace HH := Aside0.mk H
                          clear H
                          have hk43 : decide (0 ≤ x30) = true := decide_eq_true c42
                          clear c42
                          have p44 : 0 ≤ (x30 : Int) := of_decide_eq_true (by first | (with_reducible assumption) | assumption)
                          have q44 : x30 < ((rd_L1 t1 x12).length : Int) := of_decide_eq_true (by first | (with_reducible assumption) | assumption)
                          obtain ⟨ad44, e44, hx44_0⟩ := Kd.at_int (Kd.F_now HF38_0.out) x30 p44 q44
                          cases e44
                          replace p44 := eq_true p44
                          replace q44 := eq_true q44
                          have H := HH.out
                          replace H := Option.bind_eq_some_iff.mp H
                          obtain ⟨t45, at_, H⟩ := H
                          have At46 := Aside0.mk at_
                          clear at_
                          replace HH := Aside0.mk (show (if t45 = x22 then (if x27.length < 35184372088832 then ((some (x27 ++ [rd (rd_L1 t1 x12) x30] : List Int)).bind fun y54 => ((toponymref06_Order.l2 k31 y54 (wrap64 (x30 + 1)) t1 x12 x22))) else (none)) else ((toponymref06_Order.l2 k31 x27 (wrap64 (x30 + 1)) t1 x12 x22))) = some r from H)
                          clear H
                          go_wp2_with (((with_reducible refine gate_callee (f := 20) rfl ?_); (try (refine gate_guard (by rfl) ?_; dsimp only)); refine goesL_ (some 38) rfl rfl Try.func20 (by kernel_rfl) rfl #[.int .i32 (rd (rd_L1 t1 x12) x30)] rfl (by (try simp only [List.map_toArray, List.map_cons, List.map_nil]); first | done | rfl | (simp only [List.length_drop, List.length_take]; rfl)) ?_; (with_reducible refine (toponymref03_Class.calls k31  (rd (rd_L1 t1 x12) x30) t45 _  At46.out).mono ?_); rintro e w47 ⟨rfl, hb⟩; refine ⟨_, rfl, ?_⟩); refine stop_ ?_)
                          refine Stop.go ?_
                          replace HF7 := Aside0.mk (Kd.F_below HF7.out hb)
                          replace HF38_0 := Aside0.mk (Kd.F_below HF38_0.out hb)
                          replace HN29 := Aside0.mk (Kd.N_below HN29.out hb)
                          replace HB := Aside0.mk (below_step HB.out hb)
                          clear hb
                          clear hx38_0 p38 q38 hx44_0 p44 q44
                          by_cases c48 : t45 = x22
                          · have H := HH.out
                            rw [if_pos c48] at H
                            replace HH := Aside0.mk H
                            clear H
                            have hk49 : (t45 == x22) = true := beq_iff_eq.mpr c48
                            have hk50 : (t45 != x22) = false := bne_eq_false_iff_eq.mpr c48
                            clear c48
                            have p51 : 0 ≤ (x12 : Int) := of_decide_eq_true (by first | (with_reducible assumption) | assumption)
                            have q51 : x12 < (t1.length : Int) := of_decide_eq_true (by first | (with_reducible assumption) | assumption)
                            obtain ⟨ad51, A51_0, c51_0, e51, hx51_0, hl51_0, hi51_0⟩ := atF_L1 HF7.out x12 p51 q51
                            cases e51
                            have HF51_0 := Aside0.mk hi51_0
                            have HL51_0 := Aside0.mk hl51_0
                            clear hi51_0 hl51_0
                            replace p51 := eq_true p51
                            replace q51 := eq_true q51
                            have p52 : 0 ≤ (x30 : Int) := of_decide_eq_true (by first | (with_reducible assumption) | assumption)
                            have q52 : x30 < ((rd_L1 t1 x12).length : Int) := of_decide_eq_true (by first | (with_reducible assumption) | assumption)
                            obtain ⟨ad52, e52, hx52_0⟩ := Kd.at_int (Kd.F_now HF51_0.out) x30 p52 q52
                            cases e52
                            replace p52 := eq_true p52
                            replace q52 := eq_true q52
                            by_cases c53 : x27.length < 35184372088832
                            · have H := HH.out
                              rw [if_pos c53] at H
                              replace HH := Aside0.mk H
                              clear H
                              have LMc53 := Aside0.mk c53
                              clear c53
                              obtain ⟨y54, hy54⟩ : ∃ y_ : List Int, y_ = (x27 ++ [rd (rd_L1 t1 x12) x30]) := ⟨_, rfl⟩
                              have H : ((toponymref06_Order.l2 k31 y54 (wrap64 (x30 + 1)) t1 x12 x22)) = some r := by rw [hy54]; exact HH.out
                              replace HH := Aside0.mk H
                              clear H
                              have NYy54 := Aside0.mk hy54
                              clear hy54
                              go_wp2_with (((with_reducible refine gate_dst (N := 50) rfl ?_); (try (refine gate_guard (by rfl) ?_; dsimp only)); refine Kd.N_append (Kd.int .i32) w.heap.size rfl _ _ 22 21 (.int .i32 0) 4 rfl Try.underlying22 info21 rfl (by decide) (by decide) (v28) x27 (rd (rd_L1 t1 x12) x30) [.int .i32 (rd (rd_L1 t1 x12) x30)] (fun k_ => (P_ k_ ∨ w.heap.size ≤ k_)) (fun k_ => (fun k_ => (P_ k_ ∨ w.heap.size ≤ k_)) k_ ∧ some k_ ≠ (v28 : Value).ownBlock) rfl rfl (fun _ _ => rfl) (fun _ hk_ => hk_) (fun k_ h_ => .inr (Nat.le_trans (below_size (by repeat (first | (with_reducible first | exact HB.out | apply below_alloc | apply pw_below_drewN | apply below_drew1) | exact HB.out))) h_)) (by (with_reducible repeat (first | apply Kd.N_alloc | apply Kd.N_drewN | apply Kd.N_drew)); exact HN29.out) (by repeat (first | (with_reducible first | exact HB.out | apply below_alloc | apply pw_below_drewN | apply below_drew1) | exact HB.out)) (below_size (by repeat (first | (with_reducible first | exact HB.out | apply below_alloc | apply pw_below_drewN | apply below_drew1) | exact HB.out))) (by first | (have := LMc53.out; omega) | (have := LMc53.out; simp at *; omega)) ?_; intro v55 w56 hn1 hb1 hg1 hat1); replace hat1 := Aside0.mk hat1; refine stop_ ?_)
                              refine Stop.go ?_
                              replace hat1 := hat1.out
                              replace HF7 := Aside0.mk (Kd.F_mono (Kd.F_after (v := v28) (ok := (fun k_ => (P_ k_ ∨ w.heap.size ≤ k_))) (Kd.F_mono (ok := (fun k_ => (P_ k_ ∨ w.heap.size ≤ k_) ∧ some k_ ≠ (v28 : Value).ownBlock)) (by (with_reducible repeat (first | apply Kd.F_alloc | apply Kd.F_drewN | apply Kd.F_drew)); exact HF7.out) (fun k_ hk_ => ⟨hk_.1, hk_.2⟩)) hg1 hat1) (fun k_ hk_ => ⟨hk_.1, hk_.2⟩) : Kd.F (Kd.slice 21 (Kd.int .i32)) _ (fun k_ => (P_ k_ ∨ w.heap.size ≤ k_) ∧ some k_ ≠ (v55 : Value).ownBlock) _ _ _)
                              replace HF38_0 := Aside0.mk (Kd.F_mono (Kd.F_after (v := v28) (ok := (fun k_ => (P_ k_ ∨ w.heap.size ≤ k_))) (Kd.F_mono (ok := (fun k_ => (P_ k_ ∨ w.heap.size ≤ k_) ∧ some k_ ≠ (v28 : Value).ownBlock)) (by (with_reducible repeat (first | apply Kd.F_alloc | apply Kd.F_drewN | apply Kd.F_drew)); exact HF38_0.out) (fun k_ hk_ => ⟨hk_.1, hk_.2⟩)) hg1 hat1) (fun k_ hk_ => ⟨hk_.1, hk_.2⟩) : Kd.F (Kd.int .i32) _ (fun k_ => (P_ k_ ∨ w.heap.size ≤ k_) ∧ some k_ ≠ (v55 : Value).ownBlock) _ _ _)
                              replace HF51_0 := Aside0.mk (Kd.F_mono (Kd.F_after (v := v28) (ok := (fun k_ => (P_ k_ ∨ w.heap.size ≤ k_))) (Kd.F_mono (ok := (fun k_ => (P_ k_ ∨ w.heap.size ≤ k_) ∧ some k_ ≠ (v28 : Value).ownBlock)) (by (with_reducible repeat (first | apply Kd.F_alloc | apply Kd.F_drewN | apply Kd.F_drew)); exact HF51_0.out) (fun k_ hk_ => ⟨hk_.1, hk_.2⟩)) hg1 hat1) (fun k_ hk_ => ⟨hk_.1, hk_.2⟩) : Kd.F (Kd.int .i32) _ (fun k_ => (P_ k_ ∨ w.heap.size ≤ k_) ∧ some k_ ≠ (v55 : Value).ownBlock) _ _ _)
                              replace HB := Aside0.mk hb1
                              clear HN29
                              have HN57 := Aside0.mk hn1
                              clear hn1 hb1 hg1 hat1
                              replace HN57 := Aside0.mk (by rw [NYy54.out]; exact HN57.out : Kd.N (Kd.int .i32) 21 w56 w.heap.size (fun k_ => (P_ k_ ∨ w.heap.size ≤ k_)) v55 y54)
                              clear hx51_0 p51 q51 hx52_0 p52 q52
                              go_wp2
                              go_roundg k31
                              case measure => have := HK0.out; have := HK1.out; have := HK2.out; omega
                              case rel => exact ⟨y54, wrap64 (x30 + 1), (by first | rfl | (simp; done) | (simp [*]; done)), HH, ⟨by have := HK0.out; have := HK1.out; have := HK2.out; omega⟩, ⟨(Kd.F_mono (ok := (fun k_ => (P_ k_ ∨ w.heap.size ≤ k_) ∧ some k_ ≠ (v55 : Value).ownBlock)) HF7.out (fun k_ hk_ => ⟨hk_.1, hk_.2⟩))⟩, ⟨(Kd.N_mono (ok := (fun k_ => (P_ k_ ∨ w.heap.size ≤ k_))) HN57.out (fun k_ hk_ => hk_))⟩, ⟨HB.out⟩⟩
                            · exact absurd HH.out (by rw [if_neg c53]; simp)
                          · have H := HH.out
                            rw [if_neg c48] at H
                            replace HH := Aside0.mk H
                            clear H
                            have hk58 : (t45 == x22) = false := beq_eq_false_iff_ne.mpr c48
                            have hk59 : (t45 != x22) = true := bne_iff_ne.mpr c48
                            clear c48
                            go_wp2
                            go_roundg k31
                            case measure => have := HK0.out; have := HK1.out; have := HK2.out; omega
                            case rel => exact ⟨x27, wrap64 (x30 + 1), (by first | rfl | (simp; done) | (simp [*]; done)), HH, ⟨by have := HK0.out; have := HK1.out; have := HK2.out; omega⟩, ⟨(Kd.F_mono (ok := (fun k_ => (P_ k_ ∨ w.heap.size ≤ k_) ∧ some k_ ≠ (v28 : Value).ownBlock)) HF7.out (fun k_ hk_ => ⟨hk_.1, hk_.2⟩))⟩, ⟨(Kd.N_mono (ok := (fun k_ => (P_ k_ ∨ w.heap.size ≤ k_))) HN29.out (fun k_ hk_ => hk_))⟩, ⟨HB.out⟩⟩
                        · exact absurd HH.out (by rw [if_neg c42]; simp)
                      · have H := HH.out
                        rw [if_neg c39] at H
                        replace HH := Aside0.mk H
                        clear H
                        have hk61 : (x30 < ((rd_L1 t1 x12).length : Int)) = False := eq_false c39
                        have hk62 : decide (x30 < ((rd_L1 t1 x12).length : Int)) = false := decide_eq_false c39
                        clear c39
                        have H := HH.out
                        replace H := Option.bind_eq_some_iff.mp H
                        obtain ⟨t63, at_, H⟩ := H
                        have At64 := Aside0.mk at_
                        clear at_
                        replace HH := Aside0.mk (show ((toponymref06_Order.l1 k31 x27 (wrap64 (x22 + t63)) t1 x12)) = some r from H)
                        clear H
                        go_wp2_with (((with_reducible refine gate_callee (f := 19) rfl ?_); (try (refine gate_guard (by rfl) ?_; dsimp only)); refine goesL_ (some 20) rfl rfl Try.func19 (by kernel_rfl) rfl #[.int .i64 x22] rfl (by (try simp only [List.map_toArray, List.map_cons, List.map_nil]); first | done | rfl | (simp only [List.length_drop, List.length_take]; rfl)) ?_; (with_reducible refine (toponymref06_step.calls  x22 t63 _  At64.out).mono ?_); rintro e w' ⟨rfl, ⟨nd, rfl⟩⟩; refine ⟨_, rfl, ?_⟩); refine stop_ ?_)
                        refine Stop.go ?_
                        go_wp2
                        go_roundg k31
                        case measure => have := HK0.out; have := HK1.out; have := HK2.out; omega
                        case rel => exact ⟨x27, wrap64 (x22 + t63), (by first | rfl | (simp; done) | (simp [*]; done)), HH, ⟨by have := HK0.out; have := HK1.out; have := HK2.out; omega⟩, ⟨(Kd.F_mono (ok := (fun k_ => (P_ k_ ∨ w.heap.size ≤ k_) ∧ some k_ ≠ (v28 : Value).ownBlock)) (by (with_reducible repeat (first | apply Kd.F_alloc | apply Kd.F_drewN | apply Kd.F_drew)); exact HF7.out) (fun k_ hk_ => ⟨hk_.1, hk_.2⟩))⟩, ⟨(Kd.N_mono (ok := (fun k_ => (P_ k_ ∨ w.heap.size ≤ k_))) (by (with_reducible repeat (first | apply Kd.N_alloc | apply Kd.N_drewN | apply Kd.N_drew)); exact HN29.out) (fun k_ hk_ => hk_))⟩, ⟨(by repeat (first | (with_reducible first | exact HB.out | apply below_alloc | apply pw_below_drewN | apply below_drew1) | exact HB.out))⟩⟩
                    · exact absurd HH.out (by rw [if_neg c35]; simp)
                  · exact absurd HH.out (by rw [if_neg c33]; simp)
            · have H := HH.out
              rw [if_neg c25] at H
              replace HH := Aside0.mk H
              clear H
              have hk69 : decide (x22 ≤ 230) = false := decide_eq_false c25
              clear c25
              go_wp2
              go_roundg k23
              case measure => have := HK0.out; have := HK1.out; omega
              case rel => exact ⟨x19, wrap64 (x12 + 1), (by first | rfl | (simp; done) | (simp [*]; done)), HH, ⟨by have := HK0.out; have := HK1.out; omega⟩, ⟨(Kd.F_mono (ok := (fun k_ => (P_ k_ ∨ w.heap.size ≤ k_) ∧ some k_ ≠ (v20 : Value).ownBlock)) HF7.out (fun k_ hk_ => ⟨hk_.1, hk_.2⟩))⟩, ⟨(Kd.N_mono (ok := (fun k_ => (P_ k_ ∨ w.heap.size ≤ k_))) HN21.out (fun k_ hk_ => hk_))⟩, ⟨HB.out⟩⟩
      · have H := HH.out
        rw [if_neg c16] at H
        replace HH := Aside0.mk H
        clear H
        have hk70 : (x12 < (t1.length : Int)) = False := eq_false c16
        have hk71 : decide (x12 < (t1.length : Int)) = false := decide_eq_false c16
        clear c16
        have H := HH.out
        obtain rfl := Option.some.inj H
        clear HH
        go_wp2
        go_ret
        exact ⟨_, by first | rfl | (simp; done) | (simp [*]; done), (Kd.N_mono (ok := (fun k_ => (P_ k_ ∨ w.heap.size ≤ k_))) HN11.out (fun k_ hk_ => hk_)), HB.out⟩

end Go.Proofs.Ythdcofcikmeeeaa.GA
