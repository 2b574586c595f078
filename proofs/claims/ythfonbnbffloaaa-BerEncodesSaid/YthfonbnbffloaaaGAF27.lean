-- written by wip/gen.py, a program of this session
import Derived.Test.YthfonbnbffloaaaGA0
namespace Go.Proofs.Ythfonbnbffloaaa.GA
open Go.RowKit Go.Proofs.Ythfonbnbffloaaa Go.Proofs.Ythfonbnbffloaaa.MW Go.Proofs.YthfonbnbffloaaaW.PrintWords Go.Proofs.YthfonbnbffloaaaW.PrintLast Go.Proofs.YthfonbnbffloaaaW.PrintMore
attribute [local go_sem] max2_int min2_int max_two min_two
set_option linter.unusedVariables false
set_option linter.unusedSimpArgs false


/-! ### toponymref15_lay: function 27 -/
mutual
def toponymref15_lay.l0 : Nat → ByteArray → Int → Int → Int → (List (S26)) → Option (ByteArray)
  | 0, _, _, _, _, _ => none
  | k + 1, x14, x15, a0_0, a0_2, l0_4 => if x15 < (l0_4.length : Int) then (if 0 ≤ x15 then ((toponymref15_lay.f k ((rd_T26 l0_4 x15).f0) ((rd_T26 l0_4 x15).f1) ((rd_T26 l0_4 x15).f2) ((rd_T26 l0_4 x15).f3) ((rd_T26 l0_4 x15).f4)).bind fun t34 => (if x14.size + t34.size ≤ 9223372036854775807 then ((toponymref15_lay.l0 k (x14 ++ t34) (wrap64 (x15 + 1)) a0_0 a0_2 l0_4)) else (none))) else (none)) else (if (x14.size : Int) < 128 then (if (strOfNums ([(wrap64 ((wrap64 ((wrap64 (64 * a0_0)) + a0_2)) + 32)) % 256, ((x14.size : Int)) % 256] : List Int)).size + x14.size ≤ 9223372036854775807 then (some ((strOfNums ([(wrap64 ((wrap64 ((wrap64 (64 * a0_0)) + a0_2)) + 32)) % 256, ((x14.size : Int)) % 256] : List Int)) ++ x14)) else (none)) else (if (x14.size : Int) < 256 then (if (strOfNums ([(wrap64 ((wrap64 ((wrap64 (64 * a0_0)) + a0_2)) + 32)) % 256, 129, ((x14.size : Int)) % 256] : List Int)).size + x14.size ≤ 9223372036854775807 then (some ((strOfNums ([(wrap64 ((wrap64 ((wrap64 (64 * a0_0)) + a0_2)) + 32)) % 256, 129, ((x14.size : Int)) % 256] : List Int)) ++ x14)) else (none)) else (if (strOfNums ([(wrap64 ((wrap64 ((wrap64 (64 * a0_0)) + a0_2)) + 32)) % 256, 130, (wrap64 ((x14.size : Int) / 256)) % 256, (x14.size : Int) % 256] : List Int)).size + x14.size ≤ 9223372036854775807 then (some ((strOfNums ([(wrap64 ((wrap64 ((wrap64 (64 * a0_0)) + a0_2)) + 32)) % 256, 130, (wrap64 ((x14.size : Int) / 256)) % 256, (x14.size : Int) % 256] : List Int)) ++ x14)) else (none))))
def toponymref15_lay.f : Nat → Int → Bool → Int → ByteArray → (List (S26)) → Option (ByteArray)
  | 0, _, _, _, _, _ => none
  | k + 1, a0_0, a0_1, a0_2, a0_3, l0_4 => if a0_1 = true then ((toponymref15_lay.l0 k (⟨#[]⟩ : ByteArray) 0 a0_0 a0_2 l0_4)) else (if (a0_3.size : Int) < 128 then (if (strOfNums ([(wrap64 ((wrap64 (64 * a0_0)) + a0_2)) % 256, ((a0_3.size : Int)) % 256] : List Int)).size + a0_3.size ≤ 9223372036854775807 then (some ((strOfNums ([(wrap64 ((wrap64 (64 * a0_0)) + a0_2)) % 256, ((a0_3.size : Int)) % 256] : List Int)) ++ a0_3)) else (none)) else (if (a0_3.size : Int) < 256 then (if (strOfNums ([(wrap64 ((wrap64 (64 * a0_0)) + a0_2)) % 256, 129, ((a0_3.size : Int)) % 256] : List Int)).size + a0_3.size ≤ 9223372036854775807 then (some ((strOfNums ([(wrap64 ((wrap64 (64 * a0_0)) + a0_2)) % 256, 129, ((a0_3.size : Int)) % 256] : List Int)) ++ a0_3)) else (none)) else (if (strOfNums ([(wrap64 ((wrap64 (64 * a0_0)) + a0_2)) % 256, 130, (wrap64 ((a0_3.size : Int) / 256)) % 256, (a0_3.size : Int) % 256] : List Int)).size + a0_3.size ≤ 9223372036854775807 then (some ((strOfNums ([(wrap64 ((wrap64 (64 * a0_0)) + a0_2)) % 256, 130, (wrap64 ((a0_3.size : Int) / 256)) % 256, (a0_3.size : Int) % 256] : List Int)) ++ a0_3)) else (none))))
end
theorem toponymref15_lay.mono_l : ∀ k, (∀ y0 y1 y2 y3 y4, LeO (toponymref15_lay.f k y0 y1 y2 y3 y4) (toponymref15_lay.f (k + 1) y0 y1 y2 y3 y4)) ∧ (∀ y0 y1 y2 y3 y4, LeO (toponymref15_lay.l0 k y0 y1 y2 y3 y4) (toponymref15_lay.l0 (k + 1) y0 y1 y2 y3 y4))
  | 0 => ⟨fun _ _ _ _ _ r h => by simp [toponymref15_lay.f] at h, fun _ _ _ _ _ r h => by simp [toponymref15_lay.l0] at h⟩
  | k + 1 => by
    obtain ⟨ih0, ih1⟩ := toponymref15_lay.mono_l k
    refine ⟨?_, ?_⟩
    · intro y0 y1 y2 y3 y4
      unfold toponymref15_lay.f
      repeat' first
      | (with_reducible exact ih0 _ _ _ _ _)
      | (with_reducible exact ih1 _ _ _ _ _)
      | (with_reducible exact LeO.refl _)
      | (with_reducible exact LeO.none _)
      | (with_reducible refine LeO.ite ?_ ?_)
      | (with_reducible refine LeO.bind ?_ (fun _ => ?_))
      | exact ih0 _ _ _ _ _
      | exact ih1 _ _ _ _ _
      | exact LeO.none _
      | refine LeO.ite ?_ ?_
      | refine LeO.bind ?_ (fun _ => ?_)
    · intro y0 y1 y2 y3 y4
      unfold toponymref15_lay.l0
      repeat' first
      | (with_reducible exact ih0 _ _ _ _ _)
      | (with_reducible exact ih1 _ _ _ _ _)
      | (with_reducible exact LeO.refl _)
      | (with_reducible exact LeO.none _)
      | (with_reducible refine LeO.ite ?_ ?_)
      | (with_reducible refine LeO.bind ?_ (fun _ => ?_))
      | exact ih0 _ _ _ _ _
      | exact ih1 _ _ _ _ _
      | exact LeO.none _
      | refine LeO.ite ?_ ?_
      | refine LeO.bind ?_ (fun _ => ?_)
theorem toponymref15_lay.mono : ∀ a0_ a1_ a2_ a3_ a4_ k, LeO (toponymref15_lay.f k a0_ a1_ a2_ a3_ a4_) (toponymref15_lay.f (k + 1) a0_ a1_ a2_ a3_ a4_) := by
  intro a0_ a1_ a2_ a3_ a4_ k
  obtain ⟨ih0, ih1⟩ := toponymref15_lay.mono_l k
  exact ih0 a0_ a1_ a2_ a3_ a4_
set_option maxHeartbeats 8000000 in
set_option maxRecDepth 100000 in
theorem toponymref15_lay.calls (k : Nat) : ∀ (P_ : Nat → Prop) (a0_0 : Int) (a0_1 : Bool) (a0_2 : Int) (a0_3 : ByteArray) (A0_4 : Option Addr) (c0_4 : Nat) (l0_4 : List (S26)) (r : ByteArray) (w : World) (hs0_4 : Kd.F k26 w P_ A0_4 l0_4.length l0_4) (hc0_4 : l0_4.length ≤ c0_4) (h : toponymref15_lay.f k a0_0 a0_1 a0_2 a0_3 l0_4 = some r),
    Calls Try.prog 27 #[.agg #[.int .i64 a0_0, .bool a0_1, .int .i64 a0_2, .string a0_3, .slice A0_4 l0_4.length c0_4]] w (fun e w' => e = .returned (.string r) ∧ Below w.heap.size w w') := by
  induction k using Nat.strongRecOn with
  | _ k ih =>
  intro P_ a0_0 a0_1 a0_2 a0_3 A0_4 c0_4 l0_4 r w hs0_4 hc0_4 h
  cases k with
  | zero => exact absurd h (by simp [toponymref15_lay.f])
  | succ k1 =>
  simp only [toponymref15_lay.f] at h
  have HH := Aside0.mk h
  clear h
  have HF0_4 := Aside0.mk (Kd.F_mono hs0_4 (fun k_ hk_ => (.inl hk_ : P_ k_ ∨ w.heap.size ≤ k_)))
  have HL0_4 := Aside0.mk hc0_4
  clear hs0_4 hc0_4
  have HB := Aside0.mk (Below.refl w.heap.size w)
  have hu26 := Try.underlying26
  go_enter Try.func27, Try.ntmps27
  go_wp2_with (((with_reducible refine gate_dst (N := 1) rfl ?_); (try (refine gate_guard (by rfl) ?_; dsimp only)); refine box_event ?hg (N := 1) ?hd (cs := #[.int .i64 a0_0, .bool a0_1, .int .i64 a0_2, .string a0_3, .slice A0_4 l0_4.length c0_4]) (t := 26) ?hr ?_; (case hd => rfl); (case hg => rfl); (case hr => first | (go_simp; done) | (go_simp; rfl)); intro g1 hg w2 hbox hb); replace hg := Aside0.mk hg; replace hbox := Aside0.mk hbox; refine stop_ ?_)
  refine Stop.go ?_
  replace hg := hg.out
  replace hbox := hbox.out
  have GEg1 := Aside0.mk (by rw [hg]; exact (below_size HB.out) : w.heap.size ≤ g1)
  replace HF0_4 := Aside0.mk (Kd.F_elderB HF0_4.out g1 (Nat.le_of_eq hg.symm))
  replace HF0_4 := Aside0.mk (Kd.F_mono HF0_4.out (fun k_ hk_ => ⟨hk_.1, hk_.2⟩) : Kd.F k26 _ (fun k_ => (P_ k_ ∨ w.heap.size ≤ k_) ∧ k_ ≠ g1) _ _ _)
  replace HF0_4 := Aside0.mk (Kd.F_below HF0_4.out hb)
  replace HB := Aside0.mk (below_step HB.out hb)
  have BKg1 := Aside0.mk hbox
  clear hg hbox hb
  obtain ⟨hz3, hz4, hz5, hz6, hz7, hf8, hf9, hf10, hf11, hf12⟩ := MB.lay5 BKg1.out
  by_cases c13 : a0_1 = true
  · have H := HH.out
    rw [if_pos c13] at H
    replace HH := Aside0.mk H
    clear H
    subst c13
    go_wp2
    go_loopg [3, 5] k1 (fun kq u3 u5 w' => ∃ (x14 : ByteArray) (x15 : Int), u3 = .string x14 ∧ u5 = .int .i64 x15 ∧ Aside0 ((toponymref15_lay.l0 kq x14 x15 a0_0 a0_2 l0_4) = some r) ∧ Aside0 (kq ≤ k1) ∧ Aside0 (Kd.F k26 w' (fun k_ => (P_ k_ ∨ w.heap.size ≤ k_) ∧ k_ ≠ g1) A0_4 l0_4.length l0_4) ∧ Aside0 (w'.heap[g1]? = some (.cells #[.int .i64 a0_0, .bool true, .int .i64 a0_2, .string a0_3, .slice A0_4 l0_4.length c0_4] 26 (0, 0))) ∧ Aside0 (Below w.heap.size w w'))
    case atStart => exact ⟨(⟨#[]⟩ : ByteArray), 0, (by first | rfl | (simp; done) | (simp [*]; done)), (by first | rfl | (simp; done) | (simp [*]; done)), HH, ⟨Nat.le_refl _⟩, ⟨(Kd.F_mono (ok := (fun k_ => (P_ k_ ∨ w.heap.size ≤ k_) ∧ k_ ≠ g1)) HF0_4.out (fun k_ hk_ => ⟨hk_.1, hk_.2⟩))⟩, ⟨BKg1.out⟩, ⟨HB.out⟩⟩
    case round =>
      clear hz3 hz4 hz5 hz6 hz7 hf8 hf9 hf10 hf11 hf12
      clear HH
      clear HF0_4 BKg1 HB
      obtain ⟨x14, x15, rfl, rfl, HA, HK0, HF0_4, BKg1, HB⟩ := hrel
      obtain ⟨w17, rfl⟩ : ∃ wo_ : World, wo_ = wr := ⟨_, rfl⟩
      cases gk with
      | zero => exact absurd HA.out (by simp [toponymref15_lay.l0])
      | succ k16 =>
        have H := HA.out
        clear HA
        simp only [toponymref15_lay.l0] at H
        have HH := Aside0.mk H
        clear H
        obtain ⟨hz18, hz19, hz20, hz21, hz22, hf23, hf24, hf25, hf26, hf27⟩ := MB.lay5 BKg1.out
        by_cases c28 : x15 < (l0_4.length : Int)
        · have H := HH.out
          rw [if_pos c28] at H
          replace HH := Aside0.mk H
          clear H
          have hk29 : (x15 < (l0_4.length : Int)) = True := eq_true c28
          have hk30 : decide (x15 < (l0_4.length : Int)) = true := decide_eq_true c28
          clear c28
          by_cases c31 : 0 ≤ x15
          · have H := HH.out
            rw [if_pos c31] at H
            replace HH := Aside0.mk H
            clear H
            have hk32 : decide (0 ≤ x15) = true := decide_eq_true c31
            clear c31
            have p33 : 0 ≤ (x15 : Int) := of_decide_eq_true (by first | (with_reducible assumption) | assumption)
            have q33 : x15 < (l0_4.length : Int) := of_decide_eq_true (by first | (with_reducible assumption) | assumption)
            obtain ⟨ad33, A33_4, c33_4, e33, hx33_0, hx33_1, hx33_2, hx33_3, hx33_4, hl33_4, hi33_4⟩ := atF_T26 HF0_4.out x15 p33 q33
            cases e33
            have HF33_4 := Aside0.mk hi33_4
            have HL33_4 := Aside0.mk hl33_4
            clear hi33_4 hl33_4
            replace p33 := eq_true p33
            replace q33 := eq_true q33
            have H := HH.out
            replace H := Option.bind_eq_some_iff.mp H
            obtain ⟨t34, at_, H⟩ := H
            have At35 := Aside0.mk at_
            clear at_
            replace HH := Aside0.mk (show (if x14.size + t34.size ≤ 9223372036854775807 then ((toponymref15_lay.l0 k16 (x14 ++ t34) (wrap64 (x15 + 1)) a0_0 a0_2 l0_4)) else (none)) = some r from H)
            clear H
            go_wp2_with (((with_reducible refine gate_callee (f := 27) rfl ?_); (try (refine gate_guard (by rfl) ?_; dsimp only)); refine goesL_ (some 32) rfl rfl Try.func27 (by kernel_rfl) rfl #[.agg #[.int .i64 ((rd_T26 l0_4 x15).f0), .bool ((rd_T26 l0_4 x15).f1), .int .i64 ((rd_T26 l0_4 x15).f2), .string ((rd_T26 l0_4 x15).f3), .slice A33_4 ((rd_T26 l0_4 x15).f4).length c33_4]] rfl (by (try simp only [List.map_toArray, List.map_cons, List.map_nil]); first | done | rfl | (simp only [List.length_drop, List.length_take]; rfl)) ?_; (with_reducible refine (ih k16 (by have := HK0.out; omega) (fun k_ => (P_ k_ ∨ w.heap.size ≤ k_) ∧ k_ ≠ g1) ((rd_T26 l0_4 x15).f0) ((rd_T26 l0_4 x15).f1) ((rd_T26 l0_4 x15).f2) ((rd_T26 l0_4 x15).f3) _ _ ((rd_T26 l0_4 x15).f4) t34 _ (Kd.F_mono (ok := (fun k_ => (P_ k_ ∨ w.heap.size ≤ k_) ∧ k_ ≠ g1)) HF33_4.out (fun k_ hk_ => ⟨hk_.1, hk_.2⟩)) HL33_4.out At35.out).mono ?_); rintro e w36 ⟨rfl, hb⟩; refine ⟨_, rfl, ?_⟩); refine stop_ ?_)
            refine Stop.go ?_
            replace HF0_4 := Aside0.mk (Kd.F_below HF0_4.out hb)
            replace HF33_4 := Aside0.mk (Kd.F_below HF33_4.out hb)
            replace BKg1 := Aside0.mk (blk_below (o := .cells #[.int .i64 a0_0, .bool true, .int .i64 a0_2, .string a0_3, .slice (some ad33) l0_4.length c0_4] 26 (0, 0)) BKg1.out hb)
            replace HB := Aside0.mk (below_step HB.out hb)
            clear hb
            clear hz18 hz19 hz20 hz21 hz22 hf23 hf24 hf25 hf26 hf27 hx33_0 hx33_1 hx33_2 hx33_3 hx33_4 p33 q33
            obtain ⟨hz37, hz38, hz39, hz40, hz41, hf42, hf43, hf44, hf45, hf46⟩ := MB.lay5 BKg1.out
            by_cases c47 : x14.size + t34.size ≤ 9223372036854775807
            · have H := HH.out
              rw [if_pos c47] at H
              replace HH := Aside0.mk H
              clear H
              have hk48 : (9223372036854775807 < x14.size + t34.size) = False := eq_false (Nat.not_lt.2 c47)
              have hk49 : (x14.size + t34.size ≤ 9223372036854775807) = True := eq_true c47
              have hk50 : decide (x14.size + t34.size ≤ 9223372036854775807) = true := decide_eq_true c47
              clear c47
              go_wp2
              go_roundg k16
              case measure => have := HK0.out; omega
              case rel => exact ⟨x14 ++ t34, wrap64 (x15 + 1), (by first | rfl | (simp; done) | (simp [*]; done)), (by first | rfl | (simp; done) | (simp [*]; done)), HH, ⟨by have := HK0.out; omega⟩, ⟨(Kd.F_mono (ok := (fun k_ => (P_ k_ ∨ w.heap.size ≤ k_) ∧ k_ ≠ g1)) HF0_4.out (fun k_ hk_ => ⟨hk_.1, hk_.2⟩))⟩, ⟨BKg1.out⟩, ⟨HB.out⟩⟩
            · exact absurd HH.out (by rw [if_neg c47]; simp)
          · exact absurd HH.out (by rw [if_neg c31]; simp)
        · have H := HH.out
          rw [if_neg c28] at H
          replace HH := Aside0.mk H
          clear H
          have hk53 : (x15 < (l0_4.length : Int)) = False := eq_false c28
          have hk54 : decide (x15 < (l0_4.length : Int)) = false := decide_eq_false c28
          clear c28
          by_cases c55 : (x14.size : Int) < 128
          · have H := HH.out
            rw [if_pos c55] at H
            replace HH := Aside0.mk H
            clear H
            have hk56 : ((x14.size : Int) < 128) = True := eq_true c55
            have hk57 : decide ((x14.size : Int) < 128) = true := decide_eq_true c55
            have hk58 : decide (x14.size < 128) = true := decide_eq_true (by omega)
            clear c55
            go_wp2_with (((with_reducible refine gate_dst (N := 42) rfl ?_); (try (refine gate_guard (by rfl) ?_; dsimp only)); refine Kd.N_lit (Kd.int .u8) w.heap.size 5 rfl (N' := 42) rfl (xs := ([(wrap64 ((wrap64 ((wrap64 (64 * a0_0)) + a0_2)) + 32)) % 256, ((x14.size : Int)) % 256] : List Int)) (inner := [.int .u8 ((wrap64 ((wrap64 ((wrap64 (64 * a0_0)) + a0_2)) + 32)) % 256), .int .u8 (((x14.size : Int)) % 256)]) (ok := (fun k_ => (P_ k_ ∨ w.heap.size ≤ k_) ∧ k_ ≠ g1)) (okp := (fun k_ => (P_ k_ ∨ w.heap.size ≤ k_) ∧ k_ ≠ g1)) ?hr ?hp (fun _ hk_ => hk_) ?hf HB.out (below_size HB.out) (by first | simp | decide) ?_; (case hr => first | (go_simp; done) | (go_simp; rfl)); (case hp => exact (Reps.one (fun _ _ => rfl) (Reps.one (fun _ _ => rfl) (Reps.none _ _)))); (case hf => exact (show ∀ k_, w17.heap.size ≤ k_ → (fun k_ => (P_ k_ ∨ w.heap.size ≤ k_) ∧ k_ ≠ g1) k_ from fun k_ h_ => ⟨.inr (Nat.le_trans (below_size HB.out) h_), Kd.freshB (o := .cells #[.int .i64 a0_0, .bool true, .int .i64 a0_2, .string a0_3, .slice A0_4 l0_4.length c0_4] 26 (0, 0)) BKg1.out k_ h_⟩) _ (Nat.le_refl _)); intro v59 w60 hn1 hb1 hg1 hat1); replace hat1 := Aside0.mk hat1; refine stop_ ?_)
            refine Stop.go ?_
            replace hat1 := hat1.out
            have hbe := MW.grown_below hg1
            have hba := MW.base_of hat1
            replace HF0_4 := Aside0.mk (Kd.F_mono (Kd.F_elder' (ok := (fun k_ => (P_ k_ ∨ w.heap.size ≤ k_) ∧ k_ ≠ g1)) HF0_4.out hba hbe) (fun k_ hk_ => ⟨hk_.1.1, hk_.1.2, hk_.2⟩) : Kd.F k26 _ (fun k_ => (P_ k_ ∨ w.heap.size ≤ k_) ∧ k_ ≠ g1 ∧ some k_ ≠ (v59 : Value).ownBlock) _ _ _)
            replace BKg1 := Aside0.mk (blk_below (o := .cells #[.int .i64 a0_0, .bool true, .int .i64 a0_2, .string a0_3, .slice A0_4 l0_4.length c0_4] 26 (0, 0)) BKg1.out hbe)
            replace HB := Aside0.mk hb1
            have HN61 := Aside0.mk hn1
            clear hn1 hb1 hg1 hat1 hbe hba
            clear hz18 hz19 hz20 hz21 hz22 hf23 hf24 hf25 hf26 hf27
            obtain ⟨hz62, hz63, hz64, hz65, hz66, hf67, hf68, hf69, hf70, hf71⟩ := MB.lay5 BKg1.out
            obtain ⟨A72, cp73, he_⟩ := Kd.N_slice HN61.out
            subst he_
            have HL75 := Aside0.mk (Kd.N_reads' HN61.out).2.1
            have HF74 := Aside0.mk (Kd.N_F HN61.out)
            clear HN61
            replace HF0_4 := Aside0.mk (Kd.F_mono (ok := (fun k_ => (P_ k_ ∨ w.heap.size ≤ k_) ∧ k_ ≠ g1 ∧ some k_ ≠ ((.slice A72 ([(wrap64 ((wrap64 ((wrap64 (64 * a0_0)) + a0_2)) + 32)) % 256, ((x14.size : Int)) % 256] : List Int).length cp73) : Value).ownBlock)) HF0_4.out (fun k_ hk_ => ⟨hk_.1, hk_.2.1⟩) : Kd.F k26 _ (fun k_ => (P_ k_ ∨ w.heap.size ≤ k_) ∧ k_ ≠ g1) _ _ _)
            have hcv76 := Kd.C_string (P := Try.prog) (A := A72) (c := cp73) Try.underlying48 Try.underlying5 Try.underlying9 (Kd.F_now HF74.out)
            (try simp only [List.length_cons, List.length_nil, Nat.reduceAdd] at hcv76)
            by_cases c77 : (strOfNums ([(wrap64 ((wrap64 ((wrap64 (64 * a0_0)) + a0_2)) + 32)) % 256, ((x14.size : Int)) % 256] : List Int)).size + x14.size ≤ 9223372036854775807
            · have H := HH.out
              rw [if_pos c77] at H
              replace HH := Aside0.mk H
              clear H
              have hk78 : (9223372036854775807 < (strOfNums ([(wrap64 ((wrap64 ((wrap64 (64 * a0_0)) + a0_2)) + 32)) % 256, ((x14.size : Int)) % 256] : List Int)).size + x14.size) = False := eq_false (Nat.not_lt.2 c77)
              have hk79 : ((strOfNums ([(wrap64 ((wrap64 ((wrap64 (64 * a0_0)) + a0_2)) + 32)) % 256, ((x14.size : Int)) % 256] : List Int)).size + x14.size ≤ 9223372036854775807) = True := eq_true c77
              have hk80 : decide ((strOfNums ([(wrap64 ((wrap64 ((wrap64 (64 * a0_0)) + a0_2)) + 32)) % 256, ((x14.size : Int)) % 256] : List Int)).size + x14.size ≤ 9223372036854775807) = true := decide_eq_true c77
              clear c77
              have H := HH.out
              obtain rfl := Option.some.inj H
              clear HH
              go_wp2
              go_ret
              exact ⟨by first | rfl | (simp; done) | (simp [*]; done), HB.out⟩
            · exact absurd HH.out (by rw [if_neg c77]; simp)
          · have H := HH.out
            rw [if_neg c55] at H
            replace HH := Aside0.mk H
            clear H
            have hk82 : ((x14.size : Int) < 128) = False := eq_false c55
            have hk83 : decide ((x14.size : Int) < 128) = false := decide_eq_false c55
            have hk84 : decide (x14.size < 128) = false := decide_eq_false (by omega)
            clear c55
            by_cases c85 : (x14.size : Int) < 256
            · have H := HH.out
              rw [if_pos c85] at H
              replace HH := Aside0.mk H
              clear H
              have hk86 : ((x14.size : Int) < 256) = True := eq_true c85
              have hk87 : decide ((x14.size : Int) < 256) = true := decide_eq_true c85
              have hk88 : decide (x14.size < 256) = true := decide_eq_true (by omega)
              clear c85
              go_wp2_with (((with_reducible refine gate_dst (N := 52) rfl ?_); (try (refine gate_guard (by rfl) ?_; dsimp only)); refine Kd.N_lit (Kd.int .u8) w.heap.size 5 rfl (N' := 52) rfl (xs := ([(wrap64 ((wrap64 ((wrap64 (64 * a0_0)) + a0_2)) + 32)) % 256, 129, ((x14.size : Int)) % 256] : List Int)) (inner := [.int .u8 ((wrap64 ((wrap64 ((wrap64 (64 * a0_0)) + a0_2)) + 32)) % 256), .int .u8 129, .int .u8 (((x14.size : Int)) % 256)]) (ok := (fun k_ => (P_ k_ ∨ w.heap.size ≤ k_) ∧ k_ ≠ g1)) (okp := (fun k_ => (P_ k_ ∨ w.heap.size ≤ k_) ∧ k_ ≠ g1)) ?hr ?hp (fun _ hk_ => hk_) ?hf HB.out (below_size HB.out) (by first | simp | decide) ?_; (case hr => first | (go_simp; done) | (go_simp; rfl)); (case hp => exact (Reps.one (fun _ _ => rfl) (Reps.one (fun _ _ => rfl) (Reps.one (fun _ _ => rfl) (Reps.none _ _))))); (case hf => exact (show ∀ k_, w17.heap.size ≤ k_ → (fun k_ => (P_ k_ ∨ w.heap.size ≤ k_) ∧ k_ ≠ g1) k_ from fun k_ h_ => ⟨.inr (Nat.le_trans (below_size HB.out) h_), Kd.freshB (o := .cells #[.int .i64 a0_0, .bool true, .int .i64 a0_2, .string a0_3, .slice A0_4 l0_4.length c0_4] 26 (0, 0)) BKg1.out k_ h_⟩) _ (Nat.le_refl _)); intro v89 w90 hn1 hb1 hg1 hat1); replace hat1 := Aside0.mk hat1; refine stop_ ?_)
              refine Stop.go ?_
              replace hat1 := hat1.out
              have hbe := MW.grown_below hg1
              have hba := MW.base_of hat1
              replace HF0_4 := Aside0.mk (Kd.F_mono (Kd.F_elder' (ok := (fun k_ => (P_ k_ ∨ w.heap.size ≤ k_) ∧ k_ ≠ g1)) HF0_4.out hba hbe) (fun k_ hk_ => ⟨hk_.1.1, hk_.1.2, hk_.2⟩) : Kd.F k26 _ (fun k_ => (P_ k_ ∨ w.heap.size ≤ k_) ∧ k_ ≠ g1 ∧ some k_ ≠ (v89 : Value).ownBlock) _ _ _)
              replace BKg1 := Aside0.mk (blk_below (o := .cells #[.int .i64 a0_0, .bool true, .int .i64 a0_2, .string a0_3, .slice A0_4 l0_4.length c0_4] 26 (0, 0)) BKg1.out hbe)
              replace HB := Aside0.mk hb1
              have HN91 := Aside0.mk hn1
              clear hn1 hb1 hg1 hat1 hbe hba
              clear hz18 hz19 hz20 hz21 hz22 hf23 hf24 hf25 hf26 hf27
              obtain ⟨hz92, hz93, hz94, hz95, hz96, hf97, hf98, hf99, hf100, hf101⟩ := MB.lay5 BKg1.out
              obtain ⟨A102, cp103, he_⟩ := Kd.N_slice HN91.out
              subst he_
              have HL105 := Aside0.mk (Kd.N_reads' HN91.out).2.1
              have HF104 := Aside0.mk (Kd.N_F HN91.out)
              clear HN91
              replace HF0_4 := Aside0.mk (Kd.F_mono (ok := (fun k_ => (P_ k_ ∨ w.heap.size ≤ k_) ∧ k_ ≠ g1 ∧ some k_ ≠ ((.slice A102 ([(wrap64 ((wrap64 ((wrap64 (64 * a0_0)) + a0_2)) + 32)) % 256, 129, ((x14.size : Int)) % 256] : List Int).length cp103) : Value).ownBlock)) HF0_4.out (fun k_ hk_ => ⟨hk_.1, hk_.2.1⟩) : Kd.F k26 _ (fun k_ => (P_ k_ ∨ w.heap.size ≤ k_) ∧ k_ ≠ g1) _ _ _)
              have hcv106 := Kd.C_string (P := Try.prog) (A := A102) (c := cp103) Try.underlying48 Try.underlying5 Try.underlying9 (Kd.F_now HF104.out)
              (try simp only [List.length_cons, List.length_nil, Nat.reduceAdd] at hcv106)
              by_cases c107 : (strOfNums ([(wrap64 ((wrap64 ((wrap64 (64 * a0_0)) + a0_2)) + 32)) % 256, 129, ((x14.size : Int)) % 256] : List Int)).size + x14.size ≤ 9223372036854775807
              · have H := HH.out
                rw [if_pos c107] at H
                replace HH := Aside0.mk H
                clear H
                have hk108 : (9223372036854775807 < (strOfNums ([(wrap64 ((wrap64 ((wrap64 (64 * a0_0)) + a0_2)) + 32)) % 256, 129, ((x14.size : Int)) % 256] : List Int)).size + x14.size) = False := eq_false (Nat.not_lt.2 c107)
                have hk109 : ((strOfNums ([(wrap64 ((wrap64 ((wrap64 (64 * a0_0)) + a0_2)) + 32)) % 256, 129, ((x14.size : Int)) % 256] : List Int)).size + x14.size ≤ 9223372036854775807) = True := eq_true c107
                have hk110 : decide ((strOfNums ([(wrap64 ((wrap64 ((wrap64 (64 * a0_0)) + a0_2)) + 32)) % 256, 129, ((x14.size : Int)) % 256] : List Int)).size + x14.size ≤ 9223372036854775807) = true := decide_eq_true c107
                clear c107
                have H := HH.out
                obtain rfl := Option.some.inj H
                clear HH
                go_wp2
                go_ret
                exact ⟨by first | rfl | (simp; done) | (simp [*]; done), HB.out⟩
              · exact absurd HH.out (by rw [if_neg c107]; simp)
            · have H := HH.out
              rw [if_neg c85] at H
              replace HH := Aside0.mk H
              clear H
              have hk112 : ((x14.size : Int) < 256) = False := eq_false c85
              have hk113 : decide ((x14.size : Int) < 256) = false := decide_eq_false c85
              have hk114 : decide (x14.size < 256) = false := decide_eq_false (by omega)
              clear c85
              go_wp2_with (((with_reducible refine gate_dst (N := 64) rfl ?_); (try (refine gate_guard (by rfl) ?_; dsimp only)); refine Kd.N_lit (Kd.int .u8) w.heap.size 5 rfl (N' := 64) rfl (xs := ([(wrap64 ((wrap64 ((wrap64 (64 * a0_0)) + a0_2)) + 32)) % 256, 130, (wrap64 ((x14.size : Int) / 256)) % 256, (x14.size : Int) % 256] : List Int)) (inner := [.int .u8 ((wrap64 ((wrap64 ((wrap64 (64 * a0_0)) + a0_2)) + 32)) % 256), .int .u8 130, .int .u8 ((wrap64 ((x14.size : Int) / 256)) % 256), .int .u8 ((x14.size : Int) % 256)]) (ok := (fun k_ => (P_ k_ ∨ w.heap.size ≤ k_) ∧ k_ ≠ g1)) (okp := (fun k_ => (P_ k_ ∨ w.heap.size ≤ k_) ∧ k_ ≠ g1)) ?hr ?hp (fun _ hk_ => hk_) ?hf HB.out (below_size HB.out) (by first | simp | decide) ?_; (case hr => first | (go_simp; done) | (go_simp; rfl)); (case hp => exact (Reps.one (fun _ _ => rfl) (Reps.one (fun _ _ => rfl) (Reps.one (fun _ _ => rfl) (Reps.one (fun _ _ => rfl) (Reps.none _ _)))))); (case hf => exact (show ∀ k_, w17.heap.size ≤ k_ → (fun k_ => (P_ k_ ∨ w.heap.size ≤ k_) ∧ k_ ≠ g1) k_ from fun k_ h_ => ⟨.inr (Nat.le_trans (below_size HB.out) h_), Kd.freshB (o := .cells #[.int .i64 a0_0, .bool true, .int .i64 a0_2, .string a0_3, .slice A0_4 l0_4.length c0_4] 26 (0, 0)) BKg1.out k_ h_⟩) _ (Nat.le_refl _)); intro v115 w116 hn1 hb1 hg1 hat1); replace hat1 := Aside0.mk hat1; refine stop_ ?_)
              refine Stop.go ?_
              replace hat1 := hat1.out
              have hbe := MW.grown_below hg1
              have hba := MW.base_of hat1
              replace HF0_4 := Aside0.mk (Kd.F_mono (Kd.F_elder' (ok := (fun k_ => (P_ k_ ∨ w.heap.size ≤ k_) ∧ k_ ≠ g1)) HF0_4.out hba hbe) (fun k_ hk_ => ⟨hk_.1.1, hk_.1.2, hk_.2⟩) : Kd.F k26 _ (fun k_ => (P_ k_ ∨ w.heap.size ≤ k_) ∧ k_ ≠ g1 ∧ some k_ ≠ (v115 : Value).ownBlock) _ _ _)
              replace BKg1 := Aside0.mk (blk_below (o := .cells #[.int .i64 a0_0, .bool true, .int .i64 a0_2, .string a0_3, .slice A0_4 l0_4.length c0_4] 26 (0, 0)) BKg1.out hbe)
              replace HB := Aside0.mk hb1
              have HN117 := Aside0.mk hn1
              clear hn1 hb1 hg1 hat1 hbe hba
              clear hz18 hz19 hz20 hz21 hz22 hf23 hf24 hf25 hf26 hf27
              obtain ⟨hz118, hz119, hz120, hz121, hz122, hf123, hf124, hf125, hf126, hf127⟩ := MB.lay5 BKg1.out
              obtain ⟨A128, cp129, he_⟩ := Kd.N_slice HN117.out
              subst he_
              have HL131 := Aside0.mk (Kd.N_reads' HN117.out).2.1
              have HF130 := Aside0.mk (Kd.N_F HN117.out)
              clear HN117
              replace HF0_4 := Aside0.mk (Kd.F_mono (ok := (fun k_ => (P_ k_ ∨ w.heap.size ≤ k_) ∧ k_ ≠ g1 ∧ some k_ ≠ ((.slice A128 ([(wrap64 ((wrap64 ((wrap64 (64 * a0_0)) + a0_2)) + 32)) % 256, 130, (wrap64 ((x14.size : Int) / 256)) % 256, (x14.size : Int) % 256] : List Int).length cp129) : Value).ownBlock)) HF0_4.out (fun k_ hk_ => ⟨hk_.1, hk_.2.1⟩) : Kd.F k26 _ (fun k_ => (P_ k_ ∨ w.heap.size ≤ k_) ∧ k_ ≠ g1) _ _ _)
              have hcv132 := Kd.C_string (P := Try.prog) (A := A128) (c := cp129) Try.underlying48 Try.underlying5 Try.underlying9 (Kd.F_now HF130.out)
              (try simp only [List.length_cons, List.length_nil, Nat.reduceAdd] at hcv132)
              by_cases c133 : (strOfNums ([(wrap64 ((wrap64 ((wrap64 (64 * a0_0)) + a0_2)) + 32)) % 256, 130, (wrap64 ((x14.size : Int) / 256)) % 256, (x14.size : Int) % 256] : List Int)).size + x14.size ≤ 9223372036854775807
              · have H := HH.out
                rw [if_pos c133] at H
                replace HH := Aside0.mk H
                clear H
                have hk134 : (9223372036854775807 < (strOfNums ([(wrap64 ((wrap64 ((wrap64 (64 * a0_0)) + a0_2)) + 32)) % 256, 130, (wrap64 ((x14.size : Int) / 256)) % 256, (x14.size : Int) % 256] : List Int)).size + x14.size) = False := eq_false (Nat.not_lt.2 c133)
                have hk135 : ((strOfNums ([(wrap64 ((wrap64 ((wrap64 (64 * a0_0)) + a0_2)) + 32)) % 256, 130, (wrap64 ((x14.size : Int) / 256)) % 256, (x14.size : Int) % 256] : List Int)).size + x14.size ≤ 9223372036854775807) = True := eq_true c133
                have hk136 : decide ((strOfNums ([(wrap64 ((wrap64 ((wrap64 (64 * a0_0)) + a0_2)) + 32)) % 256, 130, (wrap64 ((x14.size : Int) / 256)) % 256, (x14.size : Int) % 256] : List Int)).size + x14.size ≤ 9223372036854775807) = true := decide_eq_true c133
                clear c133
                have H := HH.out
                obtain rfl := Option.some.inj H
                clear HH
                go_wp2
                go_ret
                exact ⟨by first | rfl | (simp; done) | (simp [*]; done), HB.out⟩
              · exact absurd HH.out (by rw [if_neg c133]; simp)
  · have H := HH.out
    rw [if_neg c13] at H
    replace HH := Aside0.mk H
    clear H
    replace c13 := Bool.eq_false_iff.mpr c13
    subst c13
    by_cases c138 : (a0_3.size : Int) < 128
    · have H := HH.out
      rw [if_pos c138] at H
      replace HH := Aside0.mk H
      clear H
      have hk139 : ((a0_3.size : Int) < 128) = True := eq_true c138
      have hk140 : decide ((a0_3.size : Int) < 128) = true := decide_eq_true c138
      have hk141 : decide (a0_3.size < 128) = true := decide_eq_true (by omega)
      clear c138
      go_wp2_with (((with_reducible refine gate_dst (N := 42) rfl ?_); (try (refine gate_guard (by rfl) ?_; dsimp only)); refine Kd.N_lit (Kd.int .u8) w.heap.size 5 rfl (N' := 42) rfl (xs := ([(wrap64 ((wrap64 (64 * a0_0)) + a0_2)) % 256, ((a0_3.size : Int)) % 256] : List Int)) (inner := [.int .u8 ((wrap64 ((wrap64 (64 * a0_0)) + a0_2)) % 256), .int .u8 (((a0_3.size : Int)) % 256)]) (ok := (fun k_ => (P_ k_ ∨ w.heap.size ≤ k_) ∧ k_ ≠ g1)) (okp := (fun k_ => (P_ k_ ∨ w.heap.size ≤ k_) ∧ k_ ≠ g1)) ?hr ?hp (fun _ hk_ => hk_) ?hf HB.out (below_size HB.out) (by first | simp | decide) ?_; (case hr => first | (go_simp; done) | (go_simp; rfl)); (case hp => exact (Reps.one (fun _ _ => rfl) (Reps.one (fun _ _ => rfl) (Reps.none _ _)))); (case hf => exact (show ∀ k_, w2.heap.size ≤ k_ → (fun k_ => (P_ k_ ∨ w.heap.size ≤ k_) ∧ k_ ≠ g1) k_ from fun k_ h_ => ⟨.inr (Nat.le_trans (below_size HB.out) h_), Kd.freshB (o := .cells #[.int .i64 a0_0, .bool false, .int .i64 a0_2, .string a0_3, .slice A0_4 l0_4.length c0_4] 26 (0, 0)) BKg1.out k_ h_⟩) _ (Nat.le_refl _)); intro v142 w143 hn1 hb1 hg1 hat1); replace hat1 := Aside0.mk hat1; refine stop_ ?_)
      refine Stop.go ?_
      replace hat1 := hat1.out
      have hbe := MW.grown_below hg1
      have hba := MW.base_of hat1
      replace HF0_4 := Aside0.mk (Kd.F_mono (Kd.F_elder' (ok := (fun k_ => (P_ k_ ∨ w.heap.size ≤ k_) ∧ k_ ≠ g1)) HF0_4.out hba hbe) (fun k_ hk_ => ⟨hk_.1.1, hk_.1.2, hk_.2⟩) : Kd.F k26 _ (fun k_ => (P_ k_ ∨ w.heap.size ≤ k_) ∧ k_ ≠ g1 ∧ some k_ ≠ (v142 : Value).ownBlock) _ _ _)
      replace BKg1 := Aside0.mk (blk_below (o := .cells #[.int .i64 a0_0, .bool false, .int .i64 a0_2, .string a0_3, .slice A0_4 l0_4.length c0_4] 26 (0, 0)) BKg1.out hbe)
      replace HB := Aside0.mk hb1
      have HN144 := Aside0.mk hn1
      clear hn1 hb1 hg1 hat1 hbe hba
      clear hz3 hz4 hz5 hz6 hz7 hf8 hf9 hf10 hf11 hf12
      obtain ⟨hz145, hz146, hz147, hz148, hz149, hf150, hf151, hf152, hf153, hf154⟩ := MB.lay5 BKg1.out
      obtain ⟨A155, cp156, he_⟩ := Kd.N_slice HN144.out
      subst he_
      have HL158 := Aside0.mk (Kd.N_reads' HN144.out).2.1
      have HF157 := Aside0.mk (Kd.N_F HN144.out)
      clear HN144
      replace HF0_4 := Aside0.mk (Kd.F_mono (ok := (fun k_ => (P_ k_ ∨ w.heap.size ≤ k_) ∧ k_ ≠ g1 ∧ some k_ ≠ ((.slice A155 ([(wrap64 ((wrap64 (64 * a0_0)) + a0_2)) % 256, ((a0_3.size : Int)) % 256] : List Int).length cp156) : Value).ownBlock)) HF0_4.out (fun k_ hk_ => ⟨hk_.1, hk_.2.1⟩) : Kd.F k26 _ (fun k_ => (P_ k_ ∨ w.heap.size ≤ k_) ∧ k_ ≠ g1) _ _ _)
      have hcv159 := Kd.C_string (P := Try.prog) (A := A155) (c := cp156) Try.underlying48 Try.underlying5 Try.underlying9 (Kd.F_now HF157.out)
      (try simp only [List.length_cons, List.length_nil, Nat.reduceAdd] at hcv159)
      by_cases c160 : (strOfNums ([(wrap64 ((wrap64 (64 * a0_0)) + a0_2)) % 256, ((a0_3.size : Int)) % 256] : List Int)).size + a0_3.size ≤ 9223372036854775807
      · have H := HH.out
        rw [if_pos c160] at H
        replace HH := Aside0.mk H
        clear H
        have hk161 : (9223372036854775807 < (strOfNums ([(wrap64 ((wrap64 (64 * a0_0)) + a0_2)) % 256, ((a0_3.size : Int)) % 256] : List Int)).size + a0_3.size) = False := eq_false (Nat.not_lt.2 c160)
        have hk162 : ((strOfNums ([(wrap64 ((wrap64 (64 * a0_0)) + a0_2)) % 256, ((a0_3.size : Int)) % 256] : List Int)).size + a0_3.size ≤ 9223372036854775807) = True := eq_true c160
        have hk163 : decide ((strOfNums ([(wrap64 ((wrap64 (64 * a0_0)) + a0_2)) % 256, ((a0_3.size : Int)) % 256] : List Int)).size + a0_3.size ≤ 9223372036854775807) = true := decide_eq_true c160
        clear c160
        have H := HH.out
        obtain rfl := Option.some.inj H
        clear HH
        go_wp2
        go_ret
        exact ⟨by first | rfl | (simp; done) | (simp [*]; done), HB.out⟩
      · exact absurd HH.out (by rw [if_neg c160]; simp)
    · have H := HH.out
      rw [if_neg c138] at H
      replace HH := Aside0.mk H
      clear H
      have hk165 : ((a0_3.size : Int) < 128) = False := eq_false c138
      have hk166 : decide ((a0_3.size : Int) < 128) = false := decide_eq_false c138
      have hk167 : decide (a0_3.size < 128) = false := decide_eq_false (by omega)
      clear c138
      by_cases c168 : (a0_3.size : Int) < 256
      · have H := HH.out
        rw [if_pos c168] at H
        replace HH := Aside0.mk H
        clear H
        have hk169 : ((a0_3.size : Int) < 256) = True := eq_true c168
        have hk170 : decide ((a0_3.size : Int) < 256) = true := decide_eq_true c168
        have hk171 : decide (a0_3.size < 256) = true := decide_eq_true (by omega)
        clear c168
        go_wp2_with (((with_reducible refine gate_dst (N := 52) rfl ?_); (try (refine gate_guard (by rfl) ?_; dsimp only)); refine Kd.N_lit (Kd.int .u8) w.heap.size 5 rfl (N' := 52) rfl (xs := ([(wrap64 ((wrap64 (64 * a0_0)) + a0_2)) % 256, 129, ((a0_3.size : Int)) % 256] : List Int)) (inner := [.int .u8 ((wrap64 ((wrap64 (64 * a0_0)) + a0_2)) % 256), .int .u8 129, .int .u8 (((a0_3.size : Int)) % 256)]) (ok := (fun k_ => (P_ k_ ∨ w.heap.size ≤ k_) ∧ k_ ≠ g1)) (okp := (fun k_ => (P_ k_ ∨ w.heap.size ≤ k_) ∧ k_ ≠ g1)) ?hr ?hp (fun _ hk_ => hk_) ?hf HB.out (below_size HB.out) (by first | simp | decide) ?_; (case hr => first | (go_simp; done) | (go_simp; rfl)); (case hp => exact (Reps.one (fun _ _ => rfl) (Reps.one (fun _ _ => rfl) (Reps.one (fun _ _ => rfl) (Reps.none _ _))))); (case hf => exact (show ∀ k_, w2.heap.size ≤ k_ → (fun k_ => (P_ k_ ∨ w.heap.size ≤ k_) ∧ k_ ≠ g1) k_ from fun k_ h_ => ⟨.inr (Nat.le_trans (below_size HB.out) h_), Kd.freshB (o := .cells #[.int .i64 a0_0, .bool false, .int .i64 a0_2, .string a0_3, .slice A0_4 l0_4.length c0_4] 26 (0, 0)) BKg1.out k_ h_⟩) _ (Nat.le_refl _)); intro v172 w173 hn1 hb1 hg1 hat1); replace hat1 := Aside0.mk hat1; refine stop_ ?_)
        refine Stop.go ?_
        replace hat1 := hat1.out
        have hbe := MW.grown_below hg1
        have hba := MW.base_of hat1
        replace HF0_4 := Aside0.mk (Kd.F_mono (Kd.F_elder' (ok := (fun k_ => (P_ k_ ∨ w.heap.size ≤ k_) ∧ k_ ≠ g1)) HF0_4.out hba hbe) (fun k_ hk_ => ⟨hk_.1.1, hk_.1.2, hk_.2⟩) : Kd.F k26 _ (fun k_ => (P_ k_ ∨ w.heap.size ≤ k_) ∧ k_ ≠ g1 ∧ some k_ ≠ (v172 : Value).ownBlock) _ _ _)
        replace BKg1 := Aside0.mk (blk_below (o := .cells #[.int .i64 a0_0, .bool false, .int .i64 a0_2, .string a0_3, .slice A0_4 l0_4.length c0_4] 26 (0, 0)) BKg1.out hbe)
        replace HB := Aside0.mk hb1
        have HN174 := Aside0.mk hn1
        clear hn1 hb1 hg1 hat1 hbe hba
        clear hz3 hz4 hz5 hz6 hz7 hf8 hf9 hf10 hf11 hf12
        obtain ⟨hz175, hz176, hz177, hz178, hz179, hf180, hf181, hf182, hf183, hf184⟩ := MB.lay5 BKg1.out
        obtain ⟨A185, cp186, he_⟩ := Kd.N_slice HN174.out
        subst he_
        have HL188 := Aside0.mk (Kd.N_reads' HN174.out).2.1
        have HF187 := Aside0.mk (Kd.N_F HN174.out)
        clear HN174
        replace HF0_4 := Aside0.mk (Kd.F_mono (ok := (fun k_ => (P_ k_ ∨ w.heap.size ≤ k_) ∧ k_ ≠ g1 ∧ some k_ ≠ ((.slice A185 ([(wrap64 ((wrap64 (64 * a0_0)) + a0_2)) % 256, 129, ((a0_3.size : Int)) % 256] : List Int).length cp186) : Value).ownBlock)) HF0_4.out (fun k_ hk_ => ⟨hk_.1, hk_.2.1⟩) : Kd.F k26 _ (fun k_ => (P_ k_ ∨ w.heap.size ≤ k_) ∧ k_ ≠ g1) _ _ _)
        have hcv189 := Kd.C_string (P := Try.prog) (A := A185) (c := cp186) Try.underlying48 Try.underlying5 Try.underlying9 (Kd.F_now HF187.out)
        (try simp only [List.length_cons, List.length_nil, Nat.reduceAdd] at hcv189)
        by_cases c190 : (strOfNums ([(wrap64 ((wrap64 (64 * a0_0)) + a0_2)) % 256, 129, ((a0_3.size : Int)) % 256] : List Int)).size + a0_3.size ≤ 9223372036854775807
        · have H := HH.out
          rw [if_pos c190] at H
          replace HH := Aside0.mk H
          clear H
          have hk191 : (9223372036854775807 < (strOfNums ([(wrap64 ((wrap64 (64 * a0_0)) + a0_2)) % 256, 129, ((a0_3.size : Int)) % 256] : List Int)).size + a0_3.size) = False := eq_false (Nat.not_lt.2 c190)
          have hk192 : ((strOfNums ([(wrap64 ((wrap64 (64 * a0_0)) + a0_2)) % 256, 129, ((a0_3.size : Int)) % 256] : List Int)).size + a0_3.size ≤ 9223372036854775807) = True := eq_true c190
          have hk193 : decide ((strOfNums ([(wrap64 ((wrap64 (64 * a0_0)) + a0_2)) % 256, 129, ((a0_3.size : Int)) % 256] : List Int)).size + a0_3.size ≤ 9223372036854775807) = true := decide_eq_true c190
          clear c190
          have H := HH.out
          obtain rfl := Option.some.inj H
          clear HH
          go_wp2
          go_ret
          exact ⟨by first | rfl | (simp; done) | (simp [*]; done), HB.out⟩
        · exact absurd HH.out (by rw [if_neg c190]; simp)
      · have H := HH.out
        rw [if_neg c168] at H
        replace HH := Aside0.mk H
        clear H
        have hk195 : ((a0_3.size : Int) < 256) = False := eq_false c168
        have hk196 : decide ((a0_3.size : Int) < 256) = false := decide_eq_false c168
        have hk197 : decide (a0_3.size < 256) = false := decide_eq_false (by omega)
        clear c168
        go_wp2_with (((with_reducible refine gate_dst (N := 64) rfl ?_); (try (refine gate_guard (by rfl) ?_; dsimp only)); refine Kd.N_lit (Kd.int .u8) w.heap.size 5 rfl (N' := 64) rfl (xs := ([(wrap64 ((wrap64 (64 * a0_0)) + a0_2)) % 256, 130, (wrap64 ((a0_3.size : Int) / 256)) % 256, (a0_3.size : Int) % 256] : List Int)) (inner := [.int .u8 ((wrap64 ((wrap64 (64 * a0_0)) + a0_2)) % 256), .int .u8 130, .int .u8 ((wrap64 ((a0_3.size : Int) / 256)) % 256), .int .u8 ((a0_3.size : Int) % 256)]) (ok := (fun k_ => (P_ k_ ∨ w.heap.size ≤ k_) ∧ k_ ≠ g1)) (okp := (fun k_ => (P_ k_ ∨ w.heap.size ≤ k_) ∧ k_ ≠ g1)) ?hr ?hp (fun _ hk_ => hk_) ?hf HB.out (below_size HB.out) (by first | simp | decide) ?_; (case hr => first | (go_simp; done) | (go_simp; rfl)); (case hp => exact (Reps.one (fun _ _ => rfl) (Reps.one (fun _ _ => rfl) (Reps.one (fun _ _ => rfl) (Reps.one (fun _ _ => rfl) (Reps.none _ _)))))); (case hf => exact (show ∀ k_, w2.heap.size ≤ k_ → (fun k_ => (P_ k_ ∨ w.heap.size ≤ k_) ∧ k_ ≠ g1) k_ from fun k_ h_ => ⟨.inr (Nat.le_trans (below_size HB.out) h_), Kd.freshB (o := .cells #[.int .i64 a0_0, .bool false, .int .i64 a0_2, .string a0_3, .slice A0_4 l0_4.length c0_4] 26 (0, 0)) BKg1.out k_ h_⟩) _ (Nat.le_refl _)); intro v198 w199 hn1 hb1 hg1 hat1); replace hat1 := Aside0.mk hat1; refine stop_ ?_)
        refine Stop.go ?_
        replace hat1 := hat1.out
        have hbe := MW.grown_below hg1
        have hba := MW.base_of hat1
        replace HF0_4 := Aside0.mk (Kd.F_mono (Kd.F_elder' (ok := (fun k_ => (P_ k_ ∨ w.heap.size ≤ k_) ∧ k_ ≠ g1)) HF0_4.out hba hbe) (fun k_ hk_ => ⟨hk_.1.1, hk_.1.2, hk_.2⟩) : Kd.F k26 _ (fun k_ => (P_ k_ ∨ w.heap.size ≤ k_) ∧ k_ ≠ g1 ∧ some k_ ≠ (v198 : Value).ownBlock) _ _ _)
        replace BKg1 := Aside0.mk (blk_below (o := .cells #[.int .i64 a0_0, .bool false, .int .i64 a0_2, .string a0_3, .slice A0_4 l0_4.length c0_4] 26 (0, 0)) BKg1.out hbe)
        replace HB := Aside0.mk hb1
        have HN200 := Aside0.mk hn1
        clear hn1 hb1 hg1 hat1 hbe hba
        clear hz3 hz4 hz5 hz6 hz7 hf8 hf9 hf10 hf11 hf12
        obtain ⟨hz201, hz202, hz203, hz204, hz205, hf206, hf207, hf208, hf209, hf210⟩ := MB.lay5 BKg1.out
        obtain ⟨A211, cp212, he_⟩ := Kd.N_slice HN200.out
        subst he_
        have HL214 := Aside0.mk (Kd.N_reads' HN200.out).2.1
        have HF213 := Aside0.mk (Kd.N_F HN200.out)
        clear HN200
        replace HF0_4 := Aside0.mk (Kd.F_mono (ok := (fun k_ => (P_ k_ ∨ w.heap.size ≤ k_) ∧ k_ ≠ g1 ∧ some k_ ≠ ((.slice A211 ([(wrap64 ((wrap64 (64 * a0_0)) + a0_2)) % 256, 130, (wrap64 ((a0_3.size : Int) / 256)) % 256, (a0_3.size : Int) % 256] : List Int).length cp212) : Value).ownBlock)) HF0_4.out (fun k_ hk_ => ⟨hk_.1, hk_.2.1⟩) : Kd.F k26 _ (fun k_ => (P_ k_ ∨ w.heap.size ≤ k_) ∧ k_ ≠ g1) _ _ _)
        have hcv215 := Kd.C_string (P := Try.prog) (A := A211) (c := cp212) Try.underlying48 Try.underlying5 Try.underlying9 (Kd.F_now HF213.out)
        (try simp only [List.length_cons, List.length_nil, Nat.reduceAdd] at hcv215)
        by_cases c216 : (strOfNums ([(wrap64 ((wrap64 (64 * a0_0)) + a0_2)) % 256, 130, (wrap64 ((a0_3.size : Int) / 256)) % 256, (a0_3.size : Int) % 256] : List Int)).size + a0_3.size ≤ 9223372036854775807
        · have H := HH.out
          rw [if_pos c216] at H
          replace HH := Aside0.mk H
          clear H
          have hk217 : (9223372036854775807 < (strOfNums ([(wrap64 ((wrap64 (64 * a0_0)) + a0_2)) % 256, 130, (wrap64 ((a0_3.size : Int) / 256)) % 256, (a0_3.size : Int) % 256] : List Int)).size + a0_3.size) = False := eq_false (Nat.not_lt.2 c216)
          have hk218 : ((strOfNums ([(wrap64 ((wrap64 (64 * a0_0)) + a0_2)) % 256, 130, (wrap64 ((a0_3.size : Int) / 256)) % 256, (a0_3.size : Int) % 256] : List Int)).size + a0_3.size ≤ 9223372036854775807) = True := eq_true c216
          have hk219 : decide ((strOfNums ([(wrap64 ((wrap64 (64 * a0_0)) + a0_2)) % 256, 130, (wrap64 ((a0_3.size : Int) / 256)) % 256, (a0_3.size : Int) % 256] : List Int)).size + a0_3.size ≤ 9223372036854775807) = true := decide_eq_true c216
          clear c216
          have H := HH.out
          obtain rfl := Option.some.inj H
          clear HH
          go_wp2
          go_ret
          exact ⟨by first | rfl | (simp; done) | (simp [*]; done), HB.out⟩
        · exact absurd HH.out (by rw [if_neg c216]; simp)

end Go.Proofs.Ythfonbnbffloaaa.GA
