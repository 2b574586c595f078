-- written by wip/gen.py, a program of this session
import Derived.Test.YtliackbiljhioaaGA0
namespace Go.Proofs.Ytliackbiljhioaa.GA
open Go.RowKit Go.Proofs.Ytliackbiljhioaa Go.Proofs.Ytliackbiljhioaa.MW Go.Proofs.YtliackbiljhioaaW.PrintWords Go.Proofs.YtliackbiljhioaaW.PrintLast Go.Proofs.YtliackbiljhioaaW.PrintMore
attribute [local go_sem] max2_int min2_int max_two min_two
set_option linter.unusedVariables false
set_option linter.unusedSimpArgs false


/-! ### ber_depth: function 52 -/
mutual
def ber_depth.l0 : Nat → Int → Int → Int → (List (S28)) → Option (Int)
  | 0, _, _, _, _ => none
  | k + 1, x18, x19, a1, l0_4 => if x19 < (l0_4.length : Int) then (if 0 ≤ x19 then ((ber_depth.f k ((rd_T28 l0_4 x19).f0) ((rd_T28 l0_4 x19).f1) ((rd_T28 l0_4 x19).f2) ((rd_T28 l0_4 x19).f3) ((rd_T28 l0_4 x19).f4) (wrap64 (a1 - 1))).bind fun t81 => (if x18 < t81 then ((ber_depth.l0 k t81 (wrap64 (x19 + 1)) a1 l0_4)) else ((ber_depth.l0 k x18 (wrap64 (x19 + 1)) a1 l0_4)))) else (none)) else (some (wrap64 (x18 + 1)))
def ber_depth.f : Nat → Int → Bool → Int → ByteArray → (List (S28)) → Int → Option (Int)
  | 0, _, _, _, _, _, _ => none
  | k + 1, a0_0, a0_1, a0_2, a0_3, l0_4, a1 => if a1 = 0 then (some 1) else ((ber_depth.l0 k 0 0 a1 l0_4))
end
theorem ber_depth.mono_l : ∀ k, (∀ y0 y1 y2 y3 y4 y5, LeO (ber_depth.f k y0 y1 y2 y3 y4 y5) (ber_depth.f (k + 1) y0 y1 y2 y3 y4 y5)) ∧ (∀ y0 y1 y2 y3, LeO (ber_depth.l0 k y0 y1 y2 y3) (ber_depth.l0 (k + 1) y0 y1 y2 y3))
  | 0 => ⟨fun _ _ _ _ _ _ r h => by simp [ber_depth.f] at h, fun _ _ _ _ r h => by simp [ber_depth.l0] at h⟩
  | k + 1 => by
    obtain ⟨ih0, ih1⟩ := ber_depth.mono_l k
    refine ⟨?_, ?_⟩
    · intro y0 y1 y2 y3 y4 y5
      unfold ber_depth.f
      repeat' first
      | (with_reducible exact ih0 _ _ _ _ _ _)
      | (with_reducible exact ih1 _ _ _ _)
      | (with_reducible exact LeO.refl _)
      | (with_reducible exact LeO.none _)
      | (with_reducible refine LeO.ite ?_ ?_)
      | (with_reducible refine LeO.bind ?_ (fun _ => ?_))
      | exact ih0 _ _ _ _ _ _
      | exact ih1 _ _ _ _
      | exact LeO.none _
      | refine LeO.ite ?_ ?_
      | refine LeO.bind ?_ (fun _ => ?_)
    · intro y0 y1 y2 y3
      unfold ber_depth.l0
      repeat' first
      | (with_reducible exact ih0 _ _ _ _ _ _)
      | (with_reducible exact ih1 _ _ _ _)
      | (with_reducible exact LeO.refl _)
      | (with_reducible exact LeO.none _)
      | (with_reducible refine LeO.ite ?_ ?_)
      | (with_reducible refine LeO.bind ?_ (fun _ => ?_))
      | exact ih0 _ _ _ _ _ _
      | exact ih1 _ _ _ _
      | exact LeO.none _
      | refine LeO.ite ?_ ?_
      | refine LeO.bind ?_ (fun _ => ?_)
theorem ber_depth.mono : ∀ a0_ a1_ a2_ a3_ a4_ a5_ k, LeO (ber_depth.f k a0_ a1_ a2_ a3_ a4_ a5_) (ber_depth.f (k + 1) a0_ a1_ a2_ a3_ a4_ a5_) := by
  intro a0_ a1_ a2_ a3_ a4_ a5_ k
  obtain ⟨ih0, ih1⟩ := ber_depth.mono_l k
  exact ih0 a0_ a1_ a2_ a3_ a4_ a5_
set_option maxHeartbeats 8000000 in
set_option maxRecDepth 100000 in
theorem ber_depth.calls (k : Nat) : ∀ (P_ : Nat → Prop) (a0_0 : Int) (a0_1 : Bool) (a0_2 : Int) (a0_3 : ByteArray) (A0_4 : Option Addr) (c0_4 : Nat) (l0_4 : List (S28)) (a1 : Int) (r : Int) (w : World) (hs0_4 : Kd.F k28 w P_ A0_4 l0_4.length l0_4) (hc0_4 : l0_4.length ≤ c0_4) (h : ber_depth.f k a0_0 a0_1 a0_2 a0_3 l0_4 a1 = some r),
    Calls Try.prog 52 #[.agg #[.int .i64 a0_0, .bool a0_1, .int .i64 a0_2, .string a0_3, .slice A0_4 l0_4.length c0_4], .int .i64 a1] w (fun e w' => e = .returned (.int .i64 r) ∧ Below w.heap.size w w') := by
  induction k using Nat.strongRecOn with
  | _ k ih =>
  intro P_ a0_0 a0_1 a0_2 a0_3 A0_4 c0_4 l0_4 a1 r w hs0_4 hc0_4 h
  cases k with
  | zero => exact absurd h (by simp [ber_depth.f])
  | succ k1 =>
  simp only [ber_depth.f] at h
  have HH := Aside0.mk h
  clear h
  have HF0_4 := Aside0.mk (Kd.F_mono hs0_4 (fun k_ hk_ => (.inl hk_ : P_ k_ ∨ w.heap.size ≤ k_)))
  have HL0_4 := Aside0.mk hc0_4
  clear hs0_4 hc0_4
  have HB := Aside0.mk (Below.refl w.heap.size w)
  have hu28 := Try.underlying28
  go_enter Try.func52, Try.ntmps52
  go_wp2_with (((with_reducible refine gate_dst (N := 2) rfl ?_); (try (refine gate_guard (by rfl) ?_; dsimp only)); refine box_event ?hg (N := 2) ?hd (cs := #[.int .i64 a0_0, .bool a0_1, .int .i64 a0_2, .string a0_3, .slice A0_4 l0_4.length c0_4]) (t := 28) ?hr ?_; (case hd => rfl); (case hg => rfl); (case hr => first | (go_simp; done) | (go_simp; rfl)); intro g1 hg w2 hbox hb); replace hg := Aside0.mk hg; replace hbox := Aside0.mk hbox; refine stop_ ?_)
  refine Stop.go ?_
  replace hg := hg.out
  replace hbox := hbox.out
  have GEg1 := Aside0.mk (by rw [hg]; exact (below_size HB.out) : w.heap.size ≤ g1)
  replace HF0_4 := Aside0.mk (Kd.F_elderB HF0_4.out g1 (Nat.le_of_eq hg.symm))
  replace HF0_4 := Aside0.mk (Kd.F_mono HF0_4.out (fun k_ hk_ => ⟨hk_.1, hk_.2⟩) : Kd.F k28 _ (fun k_ => (P_ k_ ∨ w.heap.size ≤ k_) ∧ k_ ≠ g1) _ _ _)
  replace HF0_4 := Aside0.mk (Kd.F_below HF0_4.out hb)
  replace HB := Aside0.mk (below_step HB.out hb)
  have BKg1 := Aside0.mk hbox
  clear hg hbox hb
  obtain ⟨hz3, hz4, hz5, hz6, hz7, hf8, hf9, hf10, hf11, hf12⟩ := MB.lay5 BKg1.out
  by_cases c13 : a1 = 0
  · have H := HH.out
    rw [if_pos c13] at H
    replace HH := Aside0.mk H
    clear H
    have hk14 : (a1 == 0) = true := beq_iff_eq.mpr c13
    have hk15 : (a1 != 0) = false := bne_eq_false_iff_eq.mpr c13
    clear c13
    have H := HH.out
    obtain rfl := Option.some.inj H
    clear HH
    go_wp2
    go_ret
    exact ⟨by first | rfl | (simp; done) | (simp [*]; done), HB.out⟩
  · have H := HH.out
    rw [if_neg c13] at H
    replace HH := Aside0.mk H
    clear H
    have hk16 : (a1 == 0) = false := beq_eq_false_iff_ne.mpr c13
    have hk17 : (a1 != 0) = true := bne_iff_ne.mpr c13
    clear c13
    go_wp2
    go_loopg [5, 13] k1 (fun kq u5 u13 w' => ∃ (x18 : Int) (x19 : Int), u5 = .int .i64 x18 ∧ u13 = .int .i64 x19 ∧ Aside0 ((ber_depth.l0 kq x18 x19 a1 l0_4) = some r) ∧ Aside0 (kq ≤ k1) ∧ Aside0 (Kd.F k28 w' (fun k_ => (P_ k_ ∨ w.heap.size ≤ k_) ∧ k_ ≠ g1) A0_4 l0_4.length l0_4) ∧ Aside0 (w'.heap[g1]? = some (.cells #[.int .i64 a0_0, .bool a0_1, .int .i64 a0_2, .string a0_3, .slice A0_4 l0_4.length c0_4] 28 (0, 0))) ∧ Aside0 (Below w.heap.size w w'))
    case atStart => exact ⟨0, 0, (by first | rfl | (simp; done) | (simp [*]; done)), (by first | rfl | (simp; done) | (simp [*]; done)), HH, ⟨Nat.le_refl _⟩, ⟨(Kd.F_mono (ok := (fun k_ => (P_ k_ ∨ w.heap.size ≤ k_) ∧ k_ ≠ g1)) HF0_4.out (fun k_ hk_ => ⟨hk_.1, hk_.2⟩))⟩, ⟨BKg1.out⟩, ⟨HB.out⟩⟩
    case round =>
      clear hz3 hz4 hz5 hz6 hz7 hf8 hf9 hf10 hf11 hf12
      clear hk16
      clear hk17
      clear HH
      clear HF0_4 BKg1 HB
      obtain ⟨x18, x19, rfl, rfl, HA, HK0, HF0_4, BKg1, HB⟩ := hrel
      obtain ⟨w21, rfl⟩ : ∃ wo_ : World, wo_ = wr := ⟨_, rfl⟩
      cases gk with
      | zero => exact absurd HA.out (by simp [ber_depth.l0])
      | succ k20 =>
        have H := HA.out
        clear HA
        simp only [ber_depth.l0] at H
        have HH := Aside0.mk H
        clear H
        obtain ⟨hz22, hz23, hz24, hz25, hz26, hf27, hf28, hf29, hf30, hf31⟩ := MB.lay5 BKg1.out
        by_cases c32 : x19 < (l0_4.length : Int)
        · have H := HH.out
          rw [if_pos c32] at H
          replace HH := Aside0.mk H
          clear H
          have hk33 : (x19 < (l0_4.length : Int)) = True := eq_true c32
          have hk34 : decide (x19 < (l0_4.length : Int)) = true := decide_eq_true c32
          clear c32
          by_cases c35 : 0 ≤ x19
          · have H := HH.out
            rw [if_pos c35] at H
            replace HH := Aside0.mk H
            clear H
            have hk36 : decide (0 ≤ x19) = true := decide_eq_true c35
            clear c35
            have p37 : 0 ≤ (x19 : Int) := of_decide_eq_true (by first | (with_reducible assumption) | assumption)
            have q37 : x19 < (l0_4.length : Int) := of_decide_eq_true (by first | (with_reducible assumption) | assumption)
            obtain ⟨ad37, A37_4, c37_4, e37, hx37_0, hx37_1, hx37_2, hx37_3, hx37_4, hl37_4, hi37_4⟩ := atF_T28 HF0_4.out x19 p37 q37
            cases e37
            have HF37_4 := Aside0.mk hi37_4
            have HL37_4 := Aside0.mk hl37_4
            clear hi37_4 hl37_4
            replace p37 := eq_true p37
            replace q37 := eq_true q37
            go_wp2_with (((with_reducible refine gate_dst (N := 7) rfl ?_); (try (refine gate_guard (by rfl) ?_; dsimp only)); refine box_event ?hg (N := 7) ?hd (cs := #[.int .i64 0, .bool false, .int .i64 0, .string (⟨#[]⟩ : ByteArray), .slice none 0 0]) (t := 28) ?hr ?_; (case hd => rfl); (case hg => rfl); (case hr => first | (go_simp; done) | (go_simp; rfl)); intro g38 hg w39 hbox hb); replace hg := Aside0.mk hg; replace hbox := Aside0.mk hbox; refine stop_ ?_)
            refine Stop.go ?_
            replace hg := hg.out
            replace hbox := hbox.out
            have GEg38 := Aside0.mk (by rw [hg]; exact (below_size HB.out) : w.heap.size ≤ g38)
            replace HF0_4 := Aside0.mk (Kd.F_elderB HF0_4.out g38 (Nat.le_of_eq hg.symm))
            replace HF0_4 := Aside0.mk (Kd.F_mono HF0_4.out (fun k_ hk_ => ⟨hk_.1.1, hk_.1.2, hk_.2⟩) : Kd.F k28 _ (fun k_ => (P_ k_ ∨ w.heap.size ≤ k_) ∧ k_ ≠ g1 ∧ k_ ≠ g38) _ _ _)
            replace HF37_4 := Aside0.mk (Kd.F_elderB HF37_4.out g38 (Nat.le_of_eq hg.symm))
            replace HF37_4 := Aside0.mk (Kd.F_mono HF37_4.out (fun k_ hk_ => ⟨hk_.1.1, hk_.1.2, hk_.2⟩) : Kd.F k28 _ (fun k_ => (P_ k_ ∨ w.heap.size ≤ k_) ∧ k_ ≠ g1 ∧ k_ ≠ g38) _ _ _)
            have NEg1_g38 := Aside0.mk (by rw [hg]; exact Nat.ne_of_lt (blk_lt (o := .cells #[.int .i64 a0_0, .bool a0_1, .int .i64 a0_2, .string a0_3, .slice (some ad37) l0_4.length c0_4] 28 (0, 0)) BKg1.out) : g1 ≠ g38)
            have NEg38_g1 := Aside0.mk (Ne.symm NEg1_g38.out)
            replace HF0_4 := Aside0.mk (Kd.F_below HF0_4.out hb)
            replace HF37_4 := Aside0.mk (Kd.F_below HF37_4.out hb)
            replace BKg1 := Aside0.mk (blk_below (o := .cells #[.int .i64 a0_0, .bool a0_1, .int .i64 a0_2, .string a0_3, .slice (some ad37) l0_4.length c0_4] 28 (0, 0)) BKg1.out hb)
            replace HB := Aside0.mk (below_step HB.out hb)
            have BKg38 := Aside0.mk hbox
            clear hg hbox hb
            clear hz22 hz23 hz24 hz25 hz26 hf27 hf28 hf29 hf30 hf31 hx37_0 hx37_1 hx37_2 hx37_3 hx37_4 p37 q37
            obtain ⟨hz40, hz41, hz42, hz43, hz44, hf45, hf46, hf47, hf48, hf49⟩ := MB.lay5 BKg1.out
            obtain ⟨hz50, hz51, hz52, hz53, hz54, hf55, hf56, hf57, hf58, hf59⟩ := MB.lay5 BKg38.out
            go_wp2_with (((with_reducible refine gate_store (t := 28) (p := 7) rfl ?_); (try (refine gate_guard (by rfl) ?_; dsimp only)); refine MW.ev_store #[.int .i64 ((rd_T28 l0_4 x19).f0), .bool ((rd_T28 l0_4 x19).f1), .int .i64 ((rd_T28 l0_4 x19).f2), .string ((rd_T28 l0_4 x19).f3), .slice A37_4 ((rd_T28 l0_4 x19).f4).length c37_4] rfl rfl rfl rfl (cs := #[.int .i64 0, .bool false, .int .i64 0, .string (⟨#[]⟩ : ByteArray), .slice none 0 0]) (ty := 28) BKg38.out [.int .i64 ((rd_T28 l0_4 x19).f0), .bool ((rd_T28 l0_4 x19).f1), .int .i64 ((rd_T28 l0_4 x19).f2), .string ((rd_T28 l0_4 x19).f3), .slice A37_4 ((rd_T28 l0_4 x19).f4).length c37_4] rfl (by kernel_rfl) (by simp) (by simp [Value.oneCell']) rfl ?_; intro w60 hbk hg); replace hbk := Aside0.mk hbk; refine stop_ ?_)
            refine Stop.go ?_
            replace hbk := hbk.out
            replace HF0_4 := Aside0.mk (Kd.F_grown (ok := (fun k_ => (P_ k_ ∨ w.heap.size ≤ k_) ∧ k_ ≠ g1 ∧ k_ ≠ g38)) HF0_4.out hg (fun k_ hk_ he_ => hk_.2.2 (Option.some.inj he_)))
            replace HF37_4 := Aside0.mk (Kd.F_grown (ok := (fun k_ => (P_ k_ ∨ w.heap.size ≤ k_) ∧ k_ ≠ g1 ∧ k_ ≠ g38)) HF37_4.out hg (fun k_ hk_ he_ => hk_.2.2 (Option.some.inj he_)))
            replace BKg1 := Aside0.mk (blk_grown (o := .cells #[.int .i64 a0_0, .bool a0_1, .int .i64 a0_2, .string a0_3, .slice (some ad37) l0_4.length c0_4] 28 (0, 0)) BKg1.out hg (fun he_ => NEg1_g38.out (Option.some.inj he_)))
            replace HB := Aside0.mk (Below.grown HB.out hg (below_size HB.out) (fun k_ hk_ => by injection hk_ with hk_; rw [← hk_]; exact GEg38.out))
            replace BKg38 := Aside0.mk hbk
            clear hg hbk
            clear hz40 hz41 hz42 hz43 hz44 hf45 hf46 hf47 hf48 hf49 hz50 hz51 hz52 hz53 hz54 hf55 hf56 hf57 hf58 hf59
            obtain ⟨hz61, hz62, hz63, hz64, hz65, hf66, hf67, hf68, hf69, hf70⟩ := MB.lay5 BKg1.out
            obtain ⟨hz71, hz72, hz73, hz74, hz75, hf76, hf77, hf78, hf79, hf80⟩ := MB.lay5 BKg38.out
            have H := HH.out
            replace H := Option.bind_eq_some_iff.mp H
            obtain ⟨t81, at_, H⟩ := H
            have At82 := Aside0.mk at_
            clear at_
            replace HH := Aside0.mk (show (if x18 < t81 then ((ber_depth.l0 k20 t81 (wrap64 (x19 + 1)) a1 l0_4)) else ((ber_depth.l0 k20 x18 (wrap64 (x19 + 1)) a1 l0_4))) = some r from H)
            clear H
            go_wp2_with (((with_reducible refine gate_callee (f := 52) rfl ?_); (try (refine gate_guard (by rfl) ?_; dsimp only)); refine goesL_ (some 21) rfl rfl Try.func52 (by kernel_rfl) rfl #[.agg #[.int .i64 ((rd_T28 l0_4 x19).f0), .bool ((rd_T28 l0_4 x19).f1), .int .i64 ((rd_T28 l0_4 x19).f2), .string ((rd_T28 l0_4 x19).f3), .slice A37_4 ((rd_T28 l0_4 x19).f4).length c37_4], .int .i64 (wrap64 (a1 - 1))] rfl (by (try simp only [List.map_toArray, List.map_cons, List.map_nil]); first | done | rfl | (simp only [List.length_drop, List.length_take]; rfl)) ?_; (with_reducible refine (ih k20 (by have := HK0.out; omega) (fun k_ => (P_ k_ ∨ w.heap.size ≤ k_) ∧ k_ ≠ g1 ∧ k_ ≠ g38) ((rd_T28 l0_4 x19).f0) ((rd_T28 l0_4 x19).f1) ((rd_T28 l0_4 x19).f2) ((rd_T28 l0_4 x19).f3) _ _ ((rd_T28 l0_4 x19).f4) (wrap64 (a1 - 1)) t81 _ (Kd.F_mono (ok := (fun k_ => (P_ k_ ∨ w.heap.size ≤ k_) ∧ k_ ≠ g1 ∧ k_ ≠ g38)) HF37_4.out (fun k_ hk_ => ⟨hk_.1, hk_.2.1, hk_.2.2⟩)) HL37_4.out At82.out).mono ?_); rintro e w83 ⟨rfl, hb⟩; refine ⟨_, rfl, ?_⟩); refine stop_ ?_)
            refine Stop.go ?_
            replace HF0_4 := Aside0.mk (Kd.F_below HF0_4.out hb)
            replace HF37_4 := Aside0.mk (Kd.F_below HF37_4.out hb)
            replace BKg1 := Aside0.mk (blk_below (o := .cells #[.int .i64 a0_0, .bool a0_1, .int .i64 a0_2, .string a0_3, .slice (some ad37) l0_4.length c0_4] 28 (0, 0)) BKg1.out hb)
            replace BKg38 := Aside0.mk (blk_below (o := .cells #[.int .i64 ((rd_T28 l0_4 x19).f0), .bool ((rd_T28 l0_4 x19).f1), .int .i64 ((rd_T28 l0_4 x19).f2), .string ((rd_T28 l0_4 x19).f3), .slice A37_4 ((rd_T28 l0_4 x19).f4).length c37_4] 28 (0, 0)) BKg38.out hb)
            replace HB := Aside0.mk (below_step HB.out hb)
            clear hb
            clear hz61 hz62 hz63 hz64 hz65 hf66 hf67 hf68 hf69 hf70 hz71 hz72 hz73 hz74 hz75 hf76 hf77 hf78 hf79 hf80
            obtain ⟨hz84, hz85, hz86, hz87, hz88, hf89, hf90, hf91, hf92, hf93⟩ := MB.lay5 BKg1.out
            obtain ⟨hz94, hz95, hz96, hz97, hz98, hf99, hf100, hf101, hf102, hf103⟩ := MB.lay5 BKg38.out
            by_cases c104 : x18 < t81
            · have H := HH.out
              rw [if_pos c104] at H
              replace HH := Aside0.mk H
              clear H
              have hk105 : (x18 < t81) = True := eq_true c104
              have hk106 : decide (x18 < t81) = true := decide_eq_true c104
              clear c104
              go_wp2
              go_roundg k20
              case measure => have := HK0.out; omega
              case rel => exact ⟨t81, wrap64 (x19 + 1), (by first | rfl | (simp; done) | (simp [*]; done)), (by first | rfl | (simp; done) | (simp [*]; done)), HH, ⟨by have := HK0.out; omega⟩, ⟨(Kd.F_mono (ok := (fun k_ => (P_ k_ ∨ w.heap.size ≤ k_) ∧ k_ ≠ g1 ∧ k_ ≠ g38)) HF0_4.out (fun k_ hk_ => ⟨hk_.1, hk_.2.1⟩))⟩, ⟨BKg1.out⟩, ⟨HB.out⟩⟩
            · have H := HH.out
              rw [if_neg c104] at H
              replace HH := Aside0.mk H
              clear H
              have hk107 : (x18 < t81) = False := eq_false c104
              have hk108 : decide (x18 < t81) = false := decide_eq_false c104
              clear c104
              go_wp2
              go_roundg k20
              case measure => have := HK0.out; omega
              case rel => exact ⟨x18, wrap64 (x19 + 1), (by first | rfl | (simp; done) | (simp [*]; done)), (by first | rfl | (simp; done) | (simp [*]; done)), HH, ⟨by have := HK0.out; omega⟩, ⟨(Kd.F_mono (ok := (fun k_ => (P_ k_ ∨ w.heap.size ≤ k_) ∧ k_ ≠ g1 ∧ k_ ≠ g38)) HF0_4.out (fun k_ hk_ => ⟨hk_.1, hk_.2.1⟩))⟩, ⟨BKg1.out⟩, ⟨HB.out⟩⟩
          · exact absurd HH.out (by rw [if_neg c35]; simp)
        · have H := HH.out
          rw [if_neg c32] at H
          replace HH := Aside0.mk H
          clear H
          have hk110 : (x19 < (l0_4.length : Int)) = False := eq_false c32
          have hk111 : decide (x19 < (l0_4.length : Int)) = false := decide_eq_false c32
          clear c32
          have H := HH.out
          obtain rfl := Option.some.inj H
          clear HH
          go_wp2
          go_ret
          exact ⟨by first | rfl | (simp; done) | (simp [*]; done), HB.out⟩

end Go.Proofs.Ytliackbiljhioaa.GA
