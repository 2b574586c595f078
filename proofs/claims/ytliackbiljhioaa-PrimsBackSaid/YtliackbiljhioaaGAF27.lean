-- written by wip/gen.py, a program of this session
import Derived.Test.YtliackbiljhioaaGA0
import Derived.Test.YtliackbiljhioaaGAB
import Derived.Test.YtliackbiljhioaaGAF40
import Derived.Test.YtliackbiljhioaaGAF41
namespace Go.Proofs.Ytliackbiljhioaa.GA
open Go.RowKit Go.Proofs.Ytliackbiljhioaa Go.Proofs.Ytliackbiljhioaa.MW Go.Proofs.YtliackbiljhioaaW.PrintWords Go.Proofs.YtliackbiljhioaaW.PrintLast Go.Proofs.YtliackbiljhioaaW.PrintMore
attribute [local go_sem] max2_int min2_int max_two min_two
set_option linter.unusedVariables false
set_option linter.unusedSimpArgs false


/-! ### ber_Encode: function 27 -/
mutual
def ber_Encode.l0 : Nat → Int → (List (S28)) → Option (ByteArray × Int)
  | 0, _, _ => none
  | k + 1, x1, l0 => if x1 < (l0.length : Int) then (if 0 ≤ x1 then ((ber_Check.f k ((rd_T28 l0 x1).f0) ((rd_T28 l0 x1).f1) ((rd_T28 l0 x1).f2) ((rd_T28 l0 x1).f3) ((rd_T28 l0 x1).f4)).bind fun t33 => (if t33 = 0 then ((ber_Encode.l0 k (wrap64 (x1 + 1)) l0)) else (some ((⟨#[]⟩ : ByteArray), t33)))) else (none)) else ((ber_Encode.l1 k 0 ([] : List Int) false l0))
def ber_Encode.l1 : Nat → Int → (List Int) → Bool → (List (S28)) → Option (ByteArray × Int)
  | 0, _, _, _, _ => none
  | k + 1, x64, x65, x67, l0 => if x64 < (l0.length : Int) then (if 0 ≤ x64 then ((ber_sheaf_lay.f k x65 x67 ((rd_T28 l0 x64).f0) ((rd_T28 l0 x64).f1) ((rd_T28 l0 x64).f2) ((rd_T28 l0 x64).f3) ((rd_T28 l0 x64).f4)).bind fun bt119 => ((ber_Encode.l1 k (wrap64 (x64 + 1)) bt119.1 bt119.2 l0))) else (none)) else (if x67 = true then (some ((⟨#[]⟩ : ByteArray), 3)) else (some (strOfNums x65, 0)))
end
def ber_Encode.f (k : Nat) (l0 : List (S28)) : Option (ByteArray × Int) := (ber_Encode.l0 k 0 l0)
theorem ber_Encode.mono_l : ∀ k, (∀ y0 y1, LeO (ber_Encode.l0 k y0 y1) (ber_Encode.l0 (k + 1) y0 y1)) ∧ (∀ y0 y1 y2 y3, LeO (ber_Encode.l1 k y0 y1 y2 y3) (ber_Encode.l1 (k + 1) y0 y1 y2 y3))
  | 0 => ⟨fun _ _ r h => by simp [ber_Encode.l0] at h, fun _ _ _ _ r h => by simp [ber_Encode.l1] at h⟩
  | k + 1 => by
    obtain ⟨ih0, ih1⟩ := ber_Encode.mono_l k
    refine ⟨?_, ?_⟩
    · intro y0 y1
      unfold ber_Encode.l0
      repeat' first
      | (with_reducible exact ih0 _ _)
      | (with_reducible exact ih1 _ _ _ _)
      | (with_reducible exact ber_Check.mono _ _ _ _ _ _)
      | (with_reducible exact ber_sheaf_lay.mono _ _ _ _ _ _ _ _)
      | (with_reducible exact LeO.refl _)
      | (with_reducible exact LeO.none _)
      | (with_reducible refine LeO.ite ?_ ?_)
      | (with_reducible refine LeO.bind ?_ (fun _ => ?_))
      | exact ih0 _ _
      | exact ih1 _ _ _ _
      | exact ber_Check.mono _ _ _ _ _ _
      | exact ber_sheaf_lay.mono _ _ _ _ _ _ _ _
      | exact LeO.none _
      | refine LeO.ite ?_ ?_
      | refine LeO.bind ?_ (fun _ => ?_)
    · intro y0 y1 y2 y3
      unfold ber_Encode.l1
      repeat' first
      | (with_reducible exact ih0 _ _)
      | (with_reducible exact ih1 _ _ _ _)
      | (with_reducible exact ber_Check.mono _ _ _ _ _ _)
      | (with_reducible exact ber_sheaf_lay.mono _ _ _ _ _ _ _ _)
      | (with_reducible exact LeO.refl _)
      | (with_reducible exact LeO.none _)
      | (with_reducible refine LeO.ite ?_ ?_)
      | (with_reducible refine LeO.bind ?_ (fun _ => ?_))
      | exact ih0 _ _
      | exact ih1 _ _ _ _
      | exact ber_Check.mono _ _ _ _ _ _
      | exact ber_sheaf_lay.mono _ _ _ _ _ _ _ _
      | exact LeO.none _
      | refine LeO.ite ?_ ?_
      | refine LeO.bind ?_ (fun _ => ?_)
theorem ber_Encode.mono : ∀ a0_ k, LeO (ber_Encode.f k a0_) (ber_Encode.f (k + 1) a0_) := by
  intro a0_ k
  obtain ⟨ih0, ih1⟩ := ber_Encode.mono_l k
  unfold ber_Encode.f
  repeat' first
      | (with_reducible exact ih0 _ _)
      | (with_reducible exact ih1 _ _ _ _)
      | (with_reducible exact ber_Check.mono _ _ _ _ _ _)
      | (with_reducible exact ber_sheaf_lay.mono _ _ _ _ _ _ _ _)
      | (with_reducible exact LeO.refl _)
      | (with_reducible exact LeO.none _)
      | (with_reducible refine LeO.ite ?_ ?_)
      | (with_reducible refine LeO.bind ?_ (fun _ => ?_))
      | exact ih0 _ _
      | exact ih1 _ _ _ _
      | exact ber_Check.mono _ _ _ _ _ _
      | exact ber_sheaf_lay.mono _ _ _ _ _ _ _ _
      | exact LeO.none _
      | refine LeO.ite ?_ ?_
      | refine LeO.bind ?_ (fun _ => ?_)
set_option maxHeartbeats 8000000 in
set_option maxRecDepth 100000 in
theorem ber_Encode.calls (k : Nat) (P_ : Nat → Prop) (A0 : Option Addr) (c0 : Nat) (l0 : List (S28)) (r1 : ByteArray) (r2 : Int) (w : World) (hs0 : Kd.F k28 w P_ A0 l0.length l0) (hc0 : l0.length ≤ c0) (h : ber_Encode.f k l0 = some (r1, r2)) :
    Calls Try.prog 27 #[.slice A0 l0.length c0] w (fun e w' => e = .returned (.tuple #[.string r1, .int .i64 r2]) ∧ Below w.heap.size w w') := by
  have HH := Aside0.mk (show ((ber_Encode.l0 k 0 l0)) = some (r1, r2) from h)
  clear h
  have HF0 := Aside0.mk (Kd.F_mono hs0 (fun k_ hk_ => (.inl hk_ : P_ k_ ∨ w.heap.size ≤ k_)))
  have HL0 := Aside0.mk hc0
  clear hs0 hc0
  have HB := Aside0.mk (Below.refl w.heap.size w)
  have hu28 := Try.underlying28
  have hu81 := Try.underlying81
  go_enter Try.func27, Try.ntmps27
  go_wp2
  go_loopg [12] k (fun kq u12 w' => ∃ (x1 : Int), u12 = .int .i64 x1 ∧ Aside0 ((ber_Encode.l0 kq x1 l0) = some (r1, r2)) ∧ Aside0 (kq ≤ k) ∧ Aside0 (Kd.F k28 w' (fun k_ => (P_ k_ ∨ w.heap.size ≤ k_)) A0 l0.length l0) ∧ Aside0 (Below w.heap.size w w'))
  case atStart => exact ⟨0, (by first | rfl | (simp; done) | (simp [*]; done)), HH, ⟨Nat.le_refl _⟩, ⟨(Kd.F_mono (ok := (fun k_ => (P_ k_ ∨ w.heap.size ≤ k_))) HF0.out (fun k_ hk_ => hk_))⟩, ⟨HB.out⟩⟩
  case round =>
    clear HH
    clear HF0 HB
    obtain ⟨x1, rfl, HA, HK0, HF0, HB⟩ := hrel
    obtain ⟨w3, rfl⟩ : ∃ wo_ : World, wo_ = wr := ⟨_, rfl⟩
    cases gk with
    | zero => exact absurd HA.out (by simp [ber_Encode.l0])
    | succ k2 =>
      have H := HA.out
      clear HA
      simp only [ber_Encode.l0] at H
      have HH := Aside0.mk H
      clear H
      by_cases c4 : x1 < (l0.length : Int)
      · have H := HH.out
        rw [if_pos c4] at H
        replace HH := Aside0.mk H
        clear H
        have hk5 : (x1 < (l0.length : Int)) = True := eq_true c4
        have hk6 : decide (x1 < (l0.length : Int)) = true := decide_eq_true c4
        clear c4
        by_cases c7 : 0 ≤ x1
        · have H := HH.out
          rw [if_pos c7] at H
          replace HH := Aside0.mk H
          clear H
          have hk8 : decide (0 ≤ x1) = true := decide_eq_true c7
          clear c7
          have p9 : 0 ≤ (x1 : Int) := of_decide_eq_true (by first | (with_reducible assumption) | assumption)
          have q9 : x1 < (l0.length : Int) := of_decide_eq_true (by first | (with_reducible assumption) | assumption)
          obtain ⟨ad9, A9_4, c9_4, e9, hx9_0, hx9_1, hx9_2, hx9_3, hx9_4, hl9_4, hi9_4⟩ := atF_T28 HF0.out x1 p9 q9
          cases e9
          have HF9_4 := Aside0.mk hi9_4
          have HL9_4 := Aside0.mk hl9_4
          clear hi9_4 hl9_4
          replace p9 := eq_true p9
          replace q9 := eq_true q9
          go_wp2_with (((with_reducible refine gate_dst (N := 5) rfl ?_); (try (refine gate_guard (by rfl) ?_; dsimp only)); refine box_event ?hg (N := 5) ?hd (cs := #[.int .i64 0, .bool false, .int .i64 0, .string (⟨#[]⟩ : ByteArray), .slice none 0 0]) (t := 28) ?hr ?_; (case hd => rfl); (case hg => rfl); (case hr => first | (go_simp; done) | (go_simp; rfl)); intro g10 hg w11 hbox hb); replace hg := Aside0.mk hg; replace hbox := Aside0.mk hbox; refine stop_ ?_)
          refine Stop.go ?_
          replace hg := hg.out
          replace hbox := hbox.out
          have GEg10 := Aside0.mk (by rw [hg]; exact (below_size HB.out) : w.heap.size ≤ g10)
          replace HF0 := Aside0.mk (Kd.F_elderB HF0.out g10 (Nat.le_of_eq hg.symm))
          replace HF0 := Aside0.mk (Kd.F_mono HF0.out (fun k_ hk_ => ⟨hk_.1, hk_.2⟩) : Kd.F k28 _ (fun k_ => (P_ k_ ∨ w.heap.size ≤ k_) ∧ k_ ≠ g10) _ _ _)
          replace HF9_4 := Aside0.mk (Kd.F_elderB HF9_4.out g10 (Nat.le_of_eq hg.symm))
          replace HF9_4 := Aside0.mk (Kd.F_mono HF9_4.out (fun k_ hk_ => ⟨hk_.1, hk_.2⟩) : Kd.F k28 _ (fun k_ => (P_ k_ ∨ w.heap.size ≤ k_) ∧ k_ ≠ g10) _ _ _)
          replace HF0 := Aside0.mk (Kd.F_below HF0.out hb)
          replace HF9_4 := Aside0.mk (Kd.F_below HF9_4.out hb)
          replace HB := Aside0.mk (below_step HB.out hb)
          have BKg10 := Aside0.mk hbox
          clear hg hbox hb
          clear hx9_0 hx9_1 hx9_2 hx9_3 hx9_4 p9 q9
          obtain ⟨hz12, hz13, hz14, hz15, hz16, hf17, hf18, hf19, hf20, hf21⟩ := MB.lay5 BKg10.out
          go_wp2_with (((with_reducible refine gate_store (t := 28) (p := 5) rfl ?_); (try (refine gate_guard (by rfl) ?_; dsimp only)); refine MW.ev_store #[.int .i64 ((rd_T28 l0 x1).f0), .bool ((rd_T28 l0 x1).f1), .int .i64 ((rd_T28 l0 x1).f2), .string ((rd_T28 l0 x1).f3), .slice A9_4 ((rd_T28 l0 x1).f4).length c9_4] rfl rfl rfl rfl (cs := #[.int .i64 0, .bool false, .int .i64 0, .string (⟨#[]⟩ : ByteArray), .slice none 0 0]) (ty := 28) BKg10.out [.int .i64 ((rd_T28 l0 x1).f0), .bool ((rd_T28 l0 x1).f1), .int .i64 ((rd_T28 l0 x1).f2), .string ((rd_T28 l0 x1).f3), .slice A9_4 ((rd_T28 l0 x1).f4).length c9_4] rfl (by kernel_rfl) (by simp) (by simp [Value.oneCell']) rfl ?_; intro w22 hbk hg); replace hbk := Aside0.mk hbk; refine stop_ ?_)
          refine Stop.go ?_
          replace hbk := hbk.out
          replace HF0 := Aside0.mk (Kd.F_grown (ok := (fun k_ => (P_ k_ ∨ w.heap.size ≤ k_) ∧ k_ ≠ g10)) HF0.out hg (fun k_ hk_ he_ => hk_.2 (Option.some.inj he_)))
          replace HF9_4 := Aside0.mk (Kd.F_grown (ok := (fun k_ => (P_ k_ ∨ w.heap.size ≤ k_) ∧ k_ ≠ g10)) HF9_4.out hg (fun k_ hk_ he_ => hk_.2 (Option.some.inj he_)))
          replace HB := Aside0.mk (Below.grown HB.out hg (below_size HB.out) (fun k_ hk_ => by injection hk_ with hk_; rw [← hk_]; exact GEg10.out))
          replace BKg10 := Aside0.mk hbk
          clear hg hbk
          clear hz12 hz13 hz14 hz15 hz16 hf17 hf18 hf19 hf20 hf21
          obtain ⟨hz23, hz24, hz25, hz26, hz27, hf28, hf29, hf30, hf31, hf32⟩ := MB.lay5 BKg10.out
          have H := HH.out
          replace H := Option.bind_eq_some_iff.mp H
          obtain ⟨t33, at_, H⟩ := H
          have At34 := Aside0.mk at_
          clear at_
          replace HH := Aside0.mk (show (if t33 = 0 then ((ber_Encode.l0 k2 (wrap64 (x1 + 1)) l0)) else (some ((⟨#[]⟩ : ByteArray), t33))) = some (r1, r2) from H)
          clear H
          go_wp2_with (((with_reducible refine gate_callee (f := 40) rfl ?_); (try (refine gate_guard (by rfl) ?_; dsimp only)); refine goesL_ (some 17) rfl rfl Try.func40 (by kernel_rfl) rfl #[.agg #[.int .i64 ((rd_T28 l0 x1).f0), .bool ((rd_T28 l0 x1).f1), .int .i64 ((rd_T28 l0 x1).f2), .string ((rd_T28 l0 x1).f3), .slice A9_4 ((rd_T28 l0 x1).f4).length c9_4]] rfl (by (try simp only [List.map_toArray, List.map_cons, List.map_nil]); first | done | rfl | (simp only [List.length_drop, List.length_take]; rfl)) ?_; (with_reducible refine (ber_Check.calls k2 (fun k_ => (P_ k_ ∨ w.heap.size ≤ k_) ∧ k_ ≠ g10) ((rd_T28 l0 x1).f0) ((rd_T28 l0 x1).f1) ((rd_T28 l0 x1).f2) ((rd_T28 l0 x1).f3) _ _ ((rd_T28 l0 x1).f4) t33 _ (Kd.F_mono (ok := (fun k_ => (P_ k_ ∨ w.heap.size ≤ k_) ∧ k_ ≠ g10)) HF9_4.out (fun k_ hk_ => ⟨hk_.1, hk_.2⟩)) HL9_4.out At34.out).mono ?_); rintro e w35 ⟨rfl, hb⟩; refine ⟨_, rfl, ?_⟩); refine stop_ ?_)
          refine Stop.go ?_
          replace HF0 := Aside0.mk (Kd.F_below HF0.out hb)
          replace HF9_4 := Aside0.mk (Kd.F_below HF9_4.out hb)
          replace BKg10 := Aside0.mk (blk_below (o := .cells #[.int .i64 ((rd_T28 l0 x1).f0), .bool ((rd_T28 l0 x1).f1), .int .i64 ((rd_T28 l0 x1).f2), .string ((rd_T28 l0 x1).f3), .slice A9_4 ((rd_T28 l0 x1).f4).length c9_4] 28 (0, 0)) BKg10.out hb)
          replace HB := Aside0.mk (below_step HB.out hb)
          clear hb
          clear hz23 hz24 hz25 hz26 hz27 hf28 hf29 hf30 hf31 hf32
          obtain ⟨hz36, hz37, hz38, hz39, hz40, hf41, hf42, hf43, hf44, hf45⟩ := MB.lay5 BKg10.out
          by_cases c46 : t33 = 0
          · have H := HH.out
            rw [if_pos c46] at H
            replace HH := Aside0.mk H
            clear H
            have hk47 : (t33 == 0) = true := beq_iff_eq.mpr c46
            have hk48 : (t33 != 0) = false := bne_eq_false_iff_eq.mpr c46
            clear c46
            go_wp2
            go_roundg k2
            case measure => have := HK0.out; omega
            case rel => exact ⟨wrap64 (x1 + 1), (by first | rfl | (simp; done) | (simp [*]; done)), HH, ⟨by have := HK0.out; omega⟩, ⟨(Kd.F_mono (ok := (fun k_ => (P_ k_ ∨ w.heap.size ≤ k_) ∧ k_ ≠ g10)) HF0.out (fun k_ hk_ => hk_.1))⟩, ⟨HB.out⟩⟩
          · have H := HH.out
            rw [if_neg c46] at H
            replace HH := Aside0.mk H
            clear H
            have hk49 : (t33 == 0) = false := beq_eq_false_iff_ne.mpr c46
            have hk50 : (t33 != 0) = true := bne_iff_ne.mpr c46
            clear c46
            have H := HH.out
            simp only [Option.some.injEq, Prod.mk.injEq] at H
            obtain ⟨rfl, rfl⟩ := H
            clear HH
            go_wp2
            go_ret2
            exact ⟨by first | rfl | (simp; done) | (simp [*]; done), HB.out⟩
        · exact absurd HH.out (by rw [if_neg c7]; simp)
      · have H := HH.out
        rw [if_neg c4] at H
        replace HH := Aside0.mk H
        clear H
        have hk52 : (x1 < (l0.length : Int)) = False := eq_false c4
        have hk53 : decide (x1 < (l0.length : Int)) = false := decide_eq_false c4
        clear c4
        go_wp2_with (((with_reducible refine gate_dst (N := 7) rfl ?_); (try (refine gate_guard (by rfl) ?_; dsimp only)); refine box_event ?hg (N := 7) ?hd (cs := #[.pointer none, .slice none 0 0, .bool false]) (t := 81) ?hr ?_; (case hd => rfl); (case hg => rfl); (case hr => first | (go_simp; done) | (go_simp; rfl)); intro g54 hg w55 hbox hb); replace hg := Aside0.mk hg; replace hbox := Aside0.mk hbox; refine stop_ ?_)
        refine Stop.go ?_
        replace hg := hg.out
        replace hbox := hbox.out
        have GEg54 := Aside0.mk (by rw [hg]; exact (below_size HB.out) : w.heap.size ≤ g54)
        replace HF0 := Aside0.mk (Kd.F_elderB HF0.out g54 (Nat.le_of_eq hg.symm))
        replace HF0 := Aside0.mk (Kd.F_mono HF0.out (fun k_ hk_ => ⟨hk_.1, hk_.2⟩) : Kd.F k28 _ (fun k_ => (P_ k_ ∨ w.heap.size ≤ k_) ∧ k_ ≠ g54) _ _ _)
        replace HF0 := Aside0.mk (Kd.F_below HF0.out hb)
        replace HB := Aside0.mk (below_step HB.out hb)
        have BKg54 := Aside0.mk hbox
        clear hg hbox hb
        obtain ⟨hz56, hz57, hz58, hf59, hf60, hf61⟩ := MB.lay3 BKg54.out
        go_wp2
        go_loopg [24] k2 (fun kq u24 w' => ∃ (x64 : Int) (x65 : List Int) (x67 : Bool) (v62 : Value) (p63 : Value), u24 = .int .i64 x64 ∧ Aside0 ((ber_Encode.l1 kq x64 x65 x67 l0) = some (r1, r2)) ∧ Aside0 (kq ≤ k2) ∧ Aside0 (Kd.F k28 w' (fun k_ => (P_ k_ ∨ w.heap.size ≤ k_) ∧ some k_ ≠ (v62 : Value).ownBlock ∧ k_ ≠ g54) A0 l0.length l0) ∧ Aside0 (Kd.N (Kd.int .u8) 5 w' w.heap.size (fun k_ => (P_ k_ ∨ w.heap.size ≤ k_) ∧ k_ ≠ g54) v62 x65) ∧ Aside0 (p63 = .pointer none ∨ p63 = .pointer (some ⟨g54, 0, none⟩)) ∧ Aside0 (w'.heap[g54]? = some (.cells #[p63, v62, .bool x67] 81 (0, 0))) ∧ Aside0 (Below w.heap.size w w'))
        case atStart => exact ⟨0, ([] : List Int), false, .slice none 0 0, .pointer none, (by first | rfl | (simp; done) | (simp [*]; done)), HH, ⟨Nat.le_refl _⟩, ⟨(Kd.F_mono (ok := (fun k_ => (P_ k_ ∨ w.heap.size ≤ k_) ∧ k_ ≠ g54)) HF0.out (fun k_ hk_ => ⟨hk_.1, (by simp [Value.ownBlock]), hk_.2⟩))⟩, ⟨Kd.N_nil _ _ _ _ _⟩, ⟨(.inl rfl)⟩, ⟨BKg54.out⟩, ⟨HB.out⟩⟩
        case round =>
          clear hz56 hz57 hz58 hf59 hf60 hf61
          clear hk52
          clear hk53
          clear HH
          clear HF0 BKg54 HB
          obtain ⟨x64, x65, x67, v62, p63, rfl, HA, HK1, HF0, HN66, HPp63, BKg54, HB⟩ := hrel
          obtain ⟨w69, rfl⟩ : ∃ wo_ : World, wo_ = wr := ⟨_, rfl⟩
          cases gk with
          | zero => exact absurd HA.out (by simp [ber_Encode.l1])
          | succ k68 =>
            have H := HA.out
            clear HA
            simp only [ber_Encode.l1] at H
            have HH := Aside0.mk H
            clear H
            obtain ⟨hz70, hz71, hz72, hf73, hf74, hf75⟩ := MB.lay3 BKg54.out
            by_cases c76 : x64 < (l0.length : Int)
            · have H := HH.out
              rw [if_pos c76] at H
              replace HH := Aside0.mk H
              clear H
              have hk77 : (x64 < (l0.length : Int)) = True := eq_true c76
              have hk78 : decide (x64 < (l0.length : Int)) = true := decide_eq_true c76
              clear c76
              by_cases c79 : 0 ≤ x64
              · have H := HH.out
                rw [if_pos c79] at H
                replace HH := Aside0.mk H
                clear H
                have hk80 : decide (0 ≤ x64) = true := decide_eq_true c79
                clear c79
                have p81 : 0 ≤ (x64 : Int) := of_decide_eq_true (by first | (with_reducible assumption) | assumption)
                have q81 : x64 < (l0.length : Int) := of_decide_eq_true (by first | (with_reducible assumption) | assumption)
                obtain ⟨ad81, A81_4, c81_4, e81, hx81_0, hx81_1, hx81_2, hx81_3, hx81_4, hl81_4, hi81_4⟩ := atF_T28 HF0.out x64 p81 q81
                cases e81
                have HF81_4 := Aside0.mk hi81_4
                have HL81_4 := Aside0.mk hl81_4
                clear hi81_4 hl81_4
                replace p81 := eq_true p81
                replace q81 := eq_true q81
                go_wp2_with (((with_reducible refine gate_dst (N := 9) rfl ?_); (try (refine gate_guard (by rfl) ?_; dsimp only)); refine box_event ?hg (N := 9) ?hd (cs := #[.int .i64 0, .bool false, .int .i64 0, .string (⟨#[]⟩ : ByteArray), .slice none 0 0]) (t := 28) ?hr ?_; (case hd => rfl); (case hg => rfl); (case hr => first | (go_simp; done) | (go_simp; rfl)); intro g82 hg w83 hbox hb); replace hg := Aside0.mk hg; replace hbox := Aside0.mk hbox; refine stop_ ?_)
                refine Stop.go ?_
                replace hg := hg.out
                replace hbox := hbox.out
                have GEg82 := Aside0.mk (by rw [hg]; exact (below_size HB.out) : w.heap.size ≤ g82)
                replace HF0 := Aside0.mk (Kd.F_elderB HF0.out g82 (Nat.le_of_eq hg.symm))
                replace HF0 := Aside0.mk (Kd.F_mono HF0.out (fun k_ hk_ => ⟨hk_.1.1, hk_.1.2.1, hk_.1.2.2, hk_.2⟩) : Kd.F k28 _ (fun k_ => (P_ k_ ∨ w.heap.size ≤ k_) ∧ some k_ ≠ (v62 : Value).ownBlock ∧ k_ ≠ g54 ∧ k_ ≠ g82) _ _ _)
                replace HF81_4 := Aside0.mk (Kd.F_elderB HF81_4.out g82 (Nat.le_of_eq hg.symm))
                replace HF81_4 := Aside0.mk (Kd.F_mono HF81_4.out (fun k_ hk_ => ⟨hk_.1.1, hk_.1.2.1, hk_.1.2.2, hk_.2⟩) : Kd.F k28 _ (fun k_ => (P_ k_ ∨ w.heap.size ≤ k_) ∧ some k_ ≠ (v62 : Value).ownBlock ∧ k_ ≠ g54 ∧ k_ ≠ g82) _ _ _)
                replace HN66 := Aside0.mk (Kd.N_elderB HN66.out g82 (Nat.le_of_eq hg.symm))
                replace HN66 := Aside0.mk (Kd.N_mono HN66.out (fun k_ hk_ => ⟨hk_.1.1, hk_.1.2, hk_.2⟩) : Kd.N (Kd.int .u8) _ _ _ (fun k_ => (P_ k_ ∨ w.heap.size ≤ k_) ∧ k_ ≠ g54 ∧ k_ ≠ g82) _ _)
                have NEg54_g82 := Aside0.mk (by rw [hg]; exact Nat.ne_of_lt (blk_lt (o := .cells #[p63, v62, .bool x67] 81 (0, 0)) BKg54.out) : g54 ≠ g82)
                have NEg82_g54 := Aside0.mk (Ne.symm NEg54_g82.out)
                replace HF0 := Aside0.mk (Kd.F_below HF0.out hb)
                replace HF81_4 := Aside0.mk (Kd.F_below HF81_4.out hb)
                replace HN66 := Aside0.mk (Kd.N_below HN66.out hb)
                replace BKg54 := Aside0.mk (blk_below (o := .cells #[p63, v62, .bool x67] 81 (0, 0)) BKg54.out hb)
                replace HB := Aside0.mk (below_step HB.out hb)
                have BKg82 := Aside0.mk hbox
                clear hg hbox hb
                clear hz70 hz71 hz72 hf73 hf74 hf75 hx81_0 hx81_1 hx81_2 hx81_3 hx81_4 p81 q81
                obtain ⟨hz84, hz85, hz86, hf87, hf88, hf89⟩ := MB.lay3 BKg54.out
                obtain ⟨hz90, hz91, hz92, hz93, hz94, hf95, hf96, hf97, hf98, hf99⟩ := MB.lay5 BKg82.out
                go_wp2_with (((with_reducible refine gate_store (t := 28) (p := 9) rfl ?_); (try (refine gate_guard (by rfl) ?_; dsimp only)); refine MW.ev_store #[.int .i64 ((rd_T28 l0 x64).f0), .bool ((rd_T28 l0 x64).f1), .int .i64 ((rd_T28 l0 x64).f2), .string ((rd_T28 l0 x64).f3), .slice A81_4 ((rd_T28 l0 x64).f4).length c81_4] rfl rfl rfl rfl (cs := #[.int .i64 0, .bool false, .int .i64 0, .string (⟨#[]⟩ : ByteArray), .slice none 0 0]) (ty := 28) BKg82.out [.int .i64 ((rd_T28 l0 x64).f0), .bool ((rd_T28 l0 x64).f1), .int .i64 ((rd_T28 l0 x64).f2), .string ((rd_T28 l0 x64).f3), .slice A81_4 ((rd_T28 l0 x64).f4).length c81_4] rfl (by kernel_rfl) (by simp) (by simp [Value.oneCell']) rfl ?_; intro w100 hbk hg); replace hbk := Aside0.mk hbk; refine stop_ ?_)
                refine Stop.go ?_
                replace hbk := hbk.out
                replace HF0 := Aside0.mk (Kd.F_grown (ok := (fun k_ => (P_ k_ ∨ w.heap.size ≤ k_) ∧ some k_ ≠ (v62 : Value).ownBlock ∧ k_ ≠ g54 ∧ k_ ≠ g82)) HF0.out hg (fun k_ hk_ he_ => hk_.2.2.2 (Option.some.inj he_)))
                replace HF81_4 := Aside0.mk (Kd.F_grown (ok := (fun k_ => (P_ k_ ∨ w.heap.size ≤ k_) ∧ some k_ ≠ (v62 : Value).ownBlock ∧ k_ ≠ g54 ∧ k_ ≠ g82)) HF81_4.out hg (fun k_ hk_ he_ => hk_.2.2.2 (Option.some.inj he_)))
                replace HN66 := Aside0.mk (Kd.N_grown (ok := (fun k_ => (P_ k_ ∨ w.heap.size ≤ k_) ∧ k_ ≠ g54 ∧ k_ ≠ g82)) HN66.out hg (fun k_ hk_ he_ => hk_.2.2 (Option.some.inj he_)))
                replace BKg54 := Aside0.mk (blk_grown (o := .cells #[p63, v62, .bool x67] 81 (0, 0)) BKg54.out hg (fun he_ => NEg54_g82.out (Option.some.inj he_)))
                replace HB := Aside0.mk (Below.grown HB.out hg (below_size HB.out) (fun k_ hk_ => by injection hk_ with hk_; rw [← hk_]; exact GEg82.out))
                replace BKg82 := Aside0.mk hbk
                clear hg hbk
                clear hz84 hz85 hz86 hf87 hf88 hf89 hz90 hz91 hz92 hz93 hz94 hf95 hf96 hf97 hf98 hf99
                obtain ⟨hz101, hz102, hz103, hf104, hf105, hf106⟩ := MB.lay3 BKg54.out
                obtain ⟨hz107, hz108, hz109, hz110, hz111, hf112, hf113, hf114, hf115, hf116⟩ := MB.lay5 BKg82.out
                obtain ⟨A117, cp118, he_⟩ := Kd.N_slice HN66.out
                subst he_
                have H := HH.out
                replace H := Option.bind_eq_some_iff.mp H
                obtain ⟨⟨t119, t120⟩, at_, H⟩ := H
                have At121 := Aside0.mk at_
                clear at_
                replace HH := Aside0.mk (show ((ber_Encode.l1 k68 (wrap64 (x64 + 1)) t119 t120 l0)) = some (r1, r2) from H)
                clear H
                go_wp2_with (((with_reducible refine gate_callee (f := 41) rfl ?_); (try (refine gate_guard (by rfl) ?_; dsimp only)); refine goesL_ (some 29) rfl rfl Try.func41 (by kernel_rfl) rfl #[.pointer (some ⟨g54, 0, none⟩), .agg #[.int .i64 ((rd_T28 l0 x64).f0), .bool ((rd_T28 l0 x64).f1), .int .i64 ((rd_T28 l0 x64).f2), .string ((rd_T28 l0 x64).f3), .slice A81_4 ((rd_T28 l0 x64).f4).length c81_4]] rfl (by (try simp only [List.map_toArray, List.map_cons, List.map_nil]); first | done | rfl) ?_; refine (ber_sheaf_lay.calls k68 (fun k_ => (P_ k_ ∨ w.heap.size ≤ k_) ∧ some k_ ≠ ((.slice A117 x65.length cp118) : Value).ownBlock ∧ k_ ≠ g54 ∧ k_ ≠ g82) w.heap.size g54 (p63) ((.slice A117 x65.length cp118)) x65 x67 ((rd_T28 l0 x64).f0) ((rd_T28 l0 x64).f1) ((rd_T28 l0 x64).f2) ((rd_T28 l0 x64).f3) _ _ ((rd_T28 l0 x64).f4) t119 t120 _ (below_size HB.out) (fun k_ hk_ => hk_.2.2.1) (fun k_ hk_ => hk_.2.1) BKg54.out GEg54.out HPp63.out (Kd.N_mono (MB.N_only HN66.out) (fun k_ hk_ => ⟨trivial, .inl hk_, (fun hk_ => hk_.2.1) (HN66.out.1 k_ hk_.symm)⟩)) (Kd.F_mono (ok := (fun k_ => (P_ k_ ∨ w.heap.size ≤ k_) ∧ some k_ ≠ ((.slice A117 x65.length cp118) : Value).ownBlock ∧ k_ ≠ g54 ∧ k_ ≠ g82)) HF81_4.out (fun k_ hk_ => ⟨hk_.1, hk_.2.1, hk_.2.2.1, hk_.2.2.2⟩)) HL81_4.out At121.out).mono ?_; rintro e w122 ⟨v123, p124, rfl, hn1, hp1, hbk, hfr, hb⟩; refine ⟨_, rfl, ?_⟩); replace hbk := Aside0.mk hbk; replace hfr := Aside0.mk hfr; replace hp1 := Aside0.mk hp1; refine stop_ ?_)
                refine Stop.go ?_
                replace hbk := hbk.out
                replace hfr := hfr.out
                replace hp1 := hp1.out
                have hat1 : ∀ k_ : Nat, (v123 : Value).ownBlock = some k_ → some k_ = ((.slice A117 x65.length cp118) : Value).ownBlock ∨ w100.heap.size ≤ k_ := fun k_ h_ => (hn1.1 k_ h_).2.1
                have HN125 := Aside0.mk (Kd.N_mono hn1 (fun k_ hk_ => hk_.2.1.elim (fun h_ => HN66.out.1 k_ h_.symm) (fun h_ => ⟨.inr (Nat.le_trans (below_size HB.out) h_), Kd.freshB (o := .cells #[p63, (.slice A117 x65.length cp118), .bool x67] 81 (0, 0)) BKg54.out k_ h_, Kd.freshB (o := .cells #[.int .i64 ((rd_T28 l0 x64).f0), .bool ((rd_T28 l0 x64).f1), .int .i64 ((rd_T28 l0 x64).f2), .string ((rd_T28 l0 x64).f3), .slice A81_4 ((rd_T28 l0 x64).f4).length c81_4] 28 (0, 0)) BKg82.out k_ h_⟩)) : Kd.N (Kd.int .u8) 5 w122 w.heap.size (fun k_ => (P_ k_ ∨ w.heap.size ≤ k_) ∧ k_ ≠ g54 ∧ k_ ≠ g82) v123 t119)
                replace HF0 := Aside0.mk (Kd.F_mono (MB.F_ptr (ok := (fun k_ => (P_ k_ ∨ w.heap.size ≤ k_) ∧ some k_ ≠ ((.slice A117 x65.length cp118) : Value).ownBlock ∧ k_ ≠ g54 ∧ k_ ≠ g82)) HF0.out hfr (fun k_ hk_ => hk_.2.2.1) (fun k_ hk_ => hk_.2.1)) (fun k_ hk_ => ⟨hk_.1.1, hk_.1.2.2.1, hk_.1.2.2.2, (fun he_ => (hat1 k_ he_.symm).elim (fun h_ => absurd h_ (hk_.1.2.1)) (fun h_ => absurd hk_.2 (Nat.not_lt.2 h_)))⟩) : Kd.F k28 _ (fun k_ => (P_ k_ ∨ w.heap.size ≤ k_) ∧ k_ ≠ g54 ∧ k_ ≠ g82 ∧ some k_ ≠ (v123 : Value).ownBlock) _ _ _)
                replace HF81_4 := Aside0.mk (Kd.F_mono (MB.F_ptr (ok := (fun k_ => (P_ k_ ∨ w.heap.size ≤ k_) ∧ some k_ ≠ ((.slice A117 x65.length cp118) : Value).ownBlock ∧ k_ ≠ g54 ∧ k_ ≠ g82)) HF81_4.out hfr (fun k_ hk_ => hk_.2.2.1) (fun k_ hk_ => hk_.2.1)) (fun k_ hk_ => ⟨hk_.1.1, hk_.1.2.2.1, hk_.1.2.2.2, (fun he_ => (hat1 k_ he_.symm).elim (fun h_ => absurd h_ (hk_.1.2.1)) (fun h_ => absurd hk_.2 (Nat.not_lt.2 h_)))⟩) : Kd.F k28 _ (fun k_ => (P_ k_ ∨ w.heap.size ≤ k_) ∧ k_ ≠ g54 ∧ k_ ≠ g82 ∧ some k_ ≠ (v123 : Value).ownBlock) _ _ _)
                replace BKg82 := Aside0.mk (MB.blk_ptr (o := .cells #[.int .i64 ((rd_T28 l0 x64).f0), .bool ((rd_T28 l0 x64).f1), .int .i64 ((rd_T28 l0 x64).f2), .string ((rd_T28 l0 x64).f3), .slice A81_4 ((rd_T28 l0 x64).f4).length c81_4] 28 (0, 0)) BKg82.out hfr NEg82_g54.out (Kd.N_away (ok := (fun k_ => (P_ k_ ∨ w.heap.size ≤ k_) ∧ k_ ≠ g54 ∧ k_ ≠ g82)) HN66.out (fun k_ hk_ => hk_.2.2)))
                replace HB := Aside0.mk (Below.trans HB.out hb)
                replace BKg54 := Aside0.mk hbk
                have HPp124 := Aside0.mk hp1
                clear hbk hfr hb hp1 hn1 hat1
                clear HN66
                clear hz101 hz102 hz103 hf104 hf105 hf106 hz107 hz108 hz109 hz110 hz111 hf112 hf113 hf114 hf115 hf116
                obtain ⟨hz126, hz127, hz128, hf129, hf130, hf131⟩ := MB.lay3 BKg54.out
                obtain ⟨hz132, hz133, hz134, hz135, hz136, hf137, hf138, hf139, hf140, hf141⟩ := MB.lay5 BKg82.out
                go_wp2
                go_roundg k68
                case measure => have := HK0.out; have := HK1.out; omega
                case rel => exact ⟨wrap64 (x64 + 1), t119, t120, v123, p124, (by first | rfl | (simp; done) | (simp [*]; done)), HH, ⟨by have := HK0.out; have := HK1.out; omega⟩, ⟨(Kd.F_mono (ok := (fun k_ => (P_ k_ ∨ w.heap.size ≤ k_) ∧ k_ ≠ g54 ∧ k_ ≠ g82 ∧ some k_ ≠ (v123 : Value).ownBlock)) HF0.out (fun k_ hk_ => ⟨hk_.1, hk_.2.2.2, hk_.2.1⟩))⟩, ⟨(Kd.N_mono (ok := (fun k_ => (P_ k_ ∨ w.heap.size ≤ k_) ∧ k_ ≠ g54 ∧ k_ ≠ g82)) HN125.out (fun k_ hk_ => ⟨hk_.1, hk_.2.1⟩))⟩, ⟨HPp124.out⟩, ⟨BKg54.out⟩, ⟨HB.out⟩⟩
              · exact absurd HH.out (by rw [if_neg c79]; simp)
            · have H := HH.out
              rw [if_neg c76] at H
              replace HH := Aside0.mk H
              clear H
              have hk143 : (x64 < (l0.length : Int)) = False := eq_false c76
              have hk144 : decide (x64 < (l0.length : Int)) = false := decide_eq_false c76
              clear c76
              by_cases c145 : x67 = true
              · have H := HH.out
                rw [if_pos c145] at H
                replace HH := Aside0.mk H
                clear H
                subst c145
                have H := HH.out
                simp only [Option.some.injEq, Prod.mk.injEq] at H
                obtain ⟨rfl, rfl⟩ := H
                clear HH
                go_wp2
                go_ret2
                exact ⟨by first | rfl | (simp; done) | (simp [*]; done), HB.out⟩
              · have H := HH.out
                rw [if_neg c145] at H
                replace HH := Aside0.mk H
                clear H
                replace c145 := Bool.eq_false_iff.mpr c145
                subst c145
                obtain ⟨A146, cp147, he_⟩ := Kd.N_slice HN66.out
                subst he_
                go_wp2_with (((with_reducible refine gate_callee (f := 42) rfl ?_); (try (refine gate_guard (by rfl) ?_; dsimp only)); refine goesL_ (some 34) rfl rfl Try.func42 (by kernel_rfl) rfl #[.pointer (some ⟨g54, 0, none⟩)] rfl (by (try simp only [List.map_toArray, List.map_cons, List.map_nil]); first | done | rfl) ?_; refine (bString42 g54 81 (p63) ((.slice A146 x65.length cp147)) [.bool false] w.heap.size (fun k_ => (P_ k_ ∨ w.heap.size ≤ k_) ∧ k_ ≠ g54) x65 _ BKg54.out HN66.out).mono ?_; rintro e w148 ⟨rfl, hg⟩; refine ⟨_, rfl, ?_⟩); refine stop_ ?_)
                refine Stop.go ?_
                replace HF0 := Aside0.mk (Kd.F_mono (Kd.F_grown (ok := (fun k_ => (P_ k_ ∨ w.heap.size ≤ k_) ∧ some k_ ≠ ((.slice A146 x65.length cp147) : Value).ownBlock ∧ k_ ≠ g54)) HF0.out hg (fun k_ hk_ => hk_.2.1)) (fun k_ hk_ => ⟨hk_.1, hk_.2.2⟩) : Kd.F k28 _ (fun k_ => (P_ k_ ∨ w.heap.size ≤ k_) ∧ k_ ≠ g54) _ _ _)
                replace BKg54 := Aside0.mk (blk_grown (o := .cells #[p63, (.slice A146 x65.length cp147), .bool false] 81 (0, 0)) BKg54.out hg (Kd.N_away (ok := (fun k_ => (P_ k_ ∨ w.heap.size ≤ k_) ∧ k_ ≠ g54)) HN66.out (fun k_ hk_ => hk_.2)))
                replace HB := Aside0.mk (Below.grown HB.out hg (below_size HB.out) (Kd.N_base HN66.out))
                clear hg HN66
                clear hz70 hz71 hz72 hf73 hf74 hf75
                obtain ⟨hz149, hz150, hz151, hf152, hf153, hf154⟩ := MB.lay3 BKg54.out
                have H := HH.out
                simp only [Option.some.injEq, Prod.mk.injEq] at H
                obtain ⟨rfl, rfl⟩ := H
                clear HH
                go_wp2
                go_ret2
                exact ⟨by first | rfl | (simp; done) | (simp [*]; done), HB.out⟩

end Go.Proofs.Ytliackbiljhioaa.GA
