-- written by wip/gen.py, a program of this session
import Derived.Test.YtliackbiljhioaaGA0
import Derived.Test.YtliackbiljhioaaGAF31
namespace Go.Proofs.Ytliackbiljhioaa.GA
open Go.RowKit Go.Proofs.Ytliackbiljhioaa Go.Proofs.Ytliackbiljhioaa.MW Go.Proofs.YtliackbiljhioaaW.PrintWords Go.Proofs.YtliackbiljhioaaW.PrintLast Go.Proofs.YtliackbiljhioaaW.PrintMore
attribute [local go_sem] max2_int min2_int max_two min_two
set_option linter.unusedVariables false
set_option linter.unusedSimpArgs false

/-! ### prims_Group: function 10 -/
def prims_Group.f (a0 : Int) (a1 : Int) (l2 : List (S28)) : Option (Int × Bool × Int × ByteArray × (List (S28)) × Int) := if a0 < 0 then (some (0, false, 0, (⟨#[]⟩ : ByteArray), ([] : List (S28)), 2)) else (if a0 > 3 then (some (0, false, 0, (⟨#[]⟩ : ByteArray), ([] : List (S28)), 2)) else (if a1 < 0 then (some (0, false, 0, (⟨#[]⟩ : ByteArray), ([] : List (S28)), 2)) else (if a1 > 30 then (some (0, false, 0, (⟨#[]⟩ : ByteArray), ([] : List (S28)), 2)) else ((Clone_31.f l2).bind fun t310 => (some (a0, true, a1, (⟨#[]⟩ : ByteArray), t310, 0))))))
set_option maxHeartbeats 8000000 in
set_option maxRecDepth 100000 in
theorem prims_Group.calls (P_ : Nat → Prop) (a0 : Int) (a1 : Int) (A2 : Option Addr) (c2 : Nat) (l2 : List (S28)) (r1 : Int) (r2 : Bool) (r3 : Int) (r4 : ByteArray) (r5 : List (S28)) (r6 : Int) (w : World) (hs2 : Kd.F k28 w P_ A2 l2.length l2) (hc2 : l2.length ≤ c2) (h : prims_Group.f a0 a1 l2 = some (r1, r2, r3, r4, r5, r6)) :
    Calls Try.prog 10 #[.int .i64 a0, .int .i64 a1, .slice A2 l2.length c2] w (fun e w' => ∃ (A4_ : Option Addr) (c4_ : Nat), e = .returned (.tuple #[.agg #[.int .i64 r1, .bool r2, .int .i64 r3, .string r4, .slice A4_ r5.length c4_], .int .i64 r6]) ∧ r5.length ≤ c4_ ∧ Kd.F k28 w' (fun k_ => P_ k_ ∨ w.heap.size ≤ k_) A4_ r5.length r5 ∧ Below w.heap.size w w') := by
  have HH := Aside0.mk (show (if a0 < 0 then (some (0, false, 0, (⟨#[]⟩ : ByteArray), ([] : List (S28)), 2)) else (if a0 > 3 then (some (0, false, 0, (⟨#[]⟩ : ByteArray), ([] : List (S28)), 2)) else (if a1 < 0 then (some (0, false, 0, (⟨#[]⟩ : ByteArray), ([] : List (S28)), 2)) else (if a1 > 30 then (some (0, false, 0, (⟨#[]⟩ : ByteArray), ([] : List (S28)), 2)) else ((Clone_31.f l2).bind fun t310 => (some (a0, true, a1, (⟨#[]⟩ : ByteArray), t310, 0))))))) = some (r1, r2, r3, r4, r5, r6) from h)
  clear h
  have HF2 := Aside0.mk (Kd.F_mono hs2 (fun k_ hk_ => (.inl hk_ : P_ k_ ∨ w.heap.size ≤ k_)))
  have HL2 := Aside0.mk hc2
  clear hs2 hc2
  have HB := Aside0.mk (Below.refl w.heap.size w)
  have hu28 := Try.underlying28
  go_enter Try.func10, Try.ntmps10
  go_wp2_with (((with_reducible refine gate_dst (N := 5) rfl ?_); (try (refine gate_guard (by rfl) ?_; dsimp only)); refine box_event ?hg (N := 5) ?hd (cs := #[.slice A2 l2.length c2]) (t := 24) ?hr ?_; (case hd => rfl); (case hg => rfl); (case hr => first | (go_simp; done) | (go_simp; rfl)); intro g1 hg w2 hbox hb); replace hg := Aside0.mk hg; replace hbox := Aside0.mk hbox; refine stop_ ?_)
  refine Stop.go ?_
  replace hg := hg.out
  replace hbox := hbox.out
  have GEg1 := Aside0.mk (by rw [hg]; exact (below_size HB.out) : w.heap.size ≤ g1)
  replace HF2 := Aside0.mk (Kd.F_elderB HF2.out g1 (Nat.le_of_eq hg.symm))
  replace HF2 := Aside0.mk (Kd.F_mono HF2.out (fun k_ hk_ => ⟨hk_.1, hk_.2⟩) : Kd.F k28 _ (fun k_ => (P_ k_ ∨ w.heap.size ≤ k_) ∧ k_ ≠ g1) _ _ _)
  replace HF2 := Aside0.mk (Kd.F_below HF2.out hb)
  replace HB := Aside0.mk (below_step HB.out hb)
  have BKg1 := Aside0.mk hbox
  clear hg hbox hb
  have hz3 : w2.cell? ⟨g1, 0, none⟩ = some (.slice A2 l2.length c2) := (blk_cell BKg1.out 0).trans rfl
  have hf4 := blk_frozen BKg1.out 0
  go_wp2_with (((with_reducible refine gate_dst (N := 6) rfl ?_); (try (refine gate_guard (by rfl) ?_; dsimp only)); refine box_event ?hg (N := 6) ?hd (cs := #[.int .i64 0, .bool false, .int .i64 0, .string (⟨#[]⟩ : ByteArray), .slice none 0 0]) (t := 28) ?hr ?_; (case hd => rfl); (case hg => rfl); (case hr => first | (go_simp; done) | (go_simp; rfl)); intro g5 hg w6 hbox hb); replace hg := Aside0.mk hg; replace hbox := Aside0.mk hbox; refine stop_ ?_)
  refine Stop.go ?_
  replace hg := hg.out
  replace hbox := hbox.out
  have GEg5 := Aside0.mk (by rw [hg]; exact (below_size HB.out) : w.heap.size ≤ g5)
  replace HF2 := Aside0.mk (Kd.F_elderB HF2.out g5 (Nat.le_of_eq hg.symm))
  replace HF2 := Aside0.mk (Kd.F_mono HF2.out (fun k_ hk_ => ⟨hk_.1.1, hk_.1.2, hk_.2⟩) : Kd.F k28 _ (fun k_ => (P_ k_ ∨ w.heap.size ≤ k_) ∧ k_ ≠ g1 ∧ k_ ≠ g5) _ _ _)
  have NEg1_g5 := Aside0.mk (by rw [hg]; exact Nat.ne_of_lt (blk_lt (o := .cells #[.slice A2 l2.length c2] 24 (0, 0)) BKg1.out) : g1 ≠ g5)
  have NEg5_g1 := Aside0.mk (Ne.symm NEg1_g5.out)
  replace HF2 := Aside0.mk (Kd.F_below HF2.out hb)
  replace BKg1 := Aside0.mk (blk_below (o := .cells #[.slice A2 l2.length c2] 24 (0, 0)) BKg1.out hb)
  replace HB := Aside0.mk (below_step HB.out hb)
  have BKg5 := Aside0.mk hbox
  clear hg hbox hb
  clear hz3 hf4
  have hz7 : w6.cell? ⟨g1, 0, none⟩ = some (.slice A2 l2.length c2) := (blk_cell BKg1.out 0).trans rfl
  have hf8 := blk_frozen BKg1.out 0
  have hz9 : w6.cell? ⟨g5, 0, none⟩ = some (.int .i64 0) := (blk_cell BKg5.out 0).trans rfl
  have hz10 : w6.cell? ⟨g5, 1, none⟩ = some (.bool false) := (blk_cell BKg5.out 1).trans rfl
  have hz11 : w6.cell? ⟨g5, 2, none⟩ = some (.int .i64 0) := (blk_cell BKg5.out 2).trans rfl
  have hz12 : w6.cell? ⟨g5, 3, none⟩ = some (.string (⟨#[]⟩ : ByteArray)) := (blk_cell BKg5.out 3).trans rfl
  have hz13 : w6.cell? ⟨g5, 4, none⟩ = some (.slice none 0 0) := (blk_cell BKg5.out 4).trans rfl
  have hf14 := blk_frozen BKg5.out 0
  have hf15 := blk_frozen BKg5.out 1
  have hf16 := blk_frozen BKg5.out 2
  have hf17 := blk_frozen BKg5.out 3
  have hf18 := blk_frozen BKg5.out 4
  go_wp2_with (((with_reducible refine gate_callee (f := 29) rfl ?_); (try (refine gate_guard (by rfl) ?_; dsimp only)); refine goesL_ (some 11) rfl rfl Try.func29 (by kernel_rfl) rfl #[.int .i64 a0, .int .i64 a1, .func (.func 30) #[] #[.pointer (some ⟨g1, 0, none⟩)]] rfl (by (try simp only [List.map_toArray, List.map_cons, List.map_nil]); first | done | rfl) ?_); refine stop_ ?_)
  refine Stop.go ?_
  go_enter Try.func29, Try.ntmps29
  go_wp2_with (((with_reducible refine gate_dst (N := 6) rfl ?_); (try (refine gate_guard (by rfl) ?_; dsimp only)); refine box_event ?hg (N := 6) ?hd (cs := #[.int .i64 0, .bool false, .int .i64 0, .string (⟨#[]⟩ : ByteArray), .slice none 0 0]) (t := 28) ?hr ?_; (case hd => rfl); (case hg => rfl); (case hr => first | (go_simp; done) | (go_simp; rfl)); intro g19 hg w20 hbox hb); replace hg := Aside0.mk hg; replace hbox := Aside0.mk hbox; refine stop_ ?_)
  refine Stop.go ?_
  replace hg := hg.out
  replace hbox := hbox.out
  have GEg19 := Aside0.mk (by rw [hg]; exact (below_size HB.out) : w.heap.size ≤ g19)
  replace HF2 := Aside0.mk (Kd.F_elderB HF2.out g19 (Nat.le_of_eq hg.symm))
  replace HF2 := Aside0.mk (Kd.F_mono HF2.out (fun k_ hk_ => ⟨hk_.1.1, hk_.1.2.1, hk_.1.2.2, hk_.2⟩) : Kd.F k28 _ (fun k_ => (P_ k_ ∨ w.heap.size ≤ k_) ∧ k_ ≠ g1 ∧ k_ ≠ g5 ∧ k_ ≠ g19) _ _ _)
  have NEg1_g19 := Aside0.mk (by rw [hg]; exact Nat.ne_of_lt (blk_lt (o := .cells #[.slice A2 l2.length c2] 24 (0, 0)) BKg1.out) : g1 ≠ g19)
  have NEg19_g1 := Aside0.mk (Ne.symm NEg1_g19.out)
  have NEg5_g19 := Aside0.mk (by rw [hg]; exact Nat.ne_of_lt (blk_lt (o := .cells #[.int .i64 0, .bool false, .int .i64 0, .string (⟨#[]⟩ : ByteArray), .slice none 0 0] 28 (0, 0)) BKg5.out) : g5 ≠ g19)
  have NEg19_g5 := Aside0.mk (Ne.symm NEg5_g19.out)
  replace HF2 := Aside0.mk (Kd.F_below HF2.out hb)
  replace BKg1 := Aside0.mk (blk_below (o := .cells #[.slice A2 l2.length c2] 24 (0, 0)) BKg1.out hb)
  replace BKg5 := Aside0.mk (blk_below (o := .cells #[.int .i64 0, .bool false, .int .i64 0, .string (⟨#[]⟩ : ByteArray), .slice none 0 0] 28 (0, 0)) BKg5.out hb)
  replace HB := Aside0.mk (below_step HB.out hb)
  have BKg19 := Aside0.mk hbox
  clear hg hbox hb
  clear hz7 hf8 hz9 hz10 hz11 hz12 hz13 hf14 hf15 hf16 hf17 hf18
  have hz21 : w20.cell? ⟨g1, 0, none⟩ = some (.slice A2 l2.length c2) := (blk_cell BKg1.out 0).trans rfl
  have hf22 := blk_frozen BKg1.out 0
  have hz23 : w20.cell? ⟨g5, 0, none⟩ = some (.int .i64 0) := (blk_cell BKg5.out 0).trans rfl
  have hz24 : w20.cell? ⟨g5, 1, none⟩ = some (.bool false) := (blk_cell BKg5.out 1).trans rfl
  have hz25 : w20.cell? ⟨g5, 2, none⟩ = some (.int .i64 0) := (blk_cell BKg5.out 2).trans rfl
  have hz26 : w20.cell? ⟨g5, 3, none⟩ = some (.string (⟨#[]⟩ : ByteArray)) := (blk_cell BKg5.out 3).trans rfl
  have hz27 : w20.cell? ⟨g5, 4, none⟩ = some (.slice none 0 0) := (blk_cell BKg5.out 4).trans rfl
  have hf28 := blk_frozen BKg5.out 0
  have hf29 := blk_frozen BKg5.out 1
  have hf30 := blk_frozen BKg5.out 2
  have hf31 := blk_frozen BKg5.out 3
  have hf32 := blk_frozen BKg5.out 4
  have hz33 : w20.cell? ⟨g19, 0, none⟩ = some (.int .i64 0) := (blk_cell BKg19.out 0).trans rfl
  have hz34 : w20.cell? ⟨g19, 1, none⟩ = some (.bool false) := (blk_cell BKg19.out 1).trans rfl
  have hz35 : w20.cell? ⟨g19, 2, none⟩ = some (.int .i64 0) := (blk_cell BKg19.out 2).trans rfl
  have hz36 : w20.cell? ⟨g19, 3, none⟩ = some (.string (⟨#[]⟩ : ByteArray)) := (blk_cell BKg19.out 3).trans rfl
  have hz37 : w20.cell? ⟨g19, 4, none⟩ = some (.slice none 0 0) := (blk_cell BKg19.out 4).trans rfl
  have hf38 := blk_frozen BKg19.out 0
  have hf39 := blk_frozen BKg19.out 1
  have hf40 := blk_frozen BKg19.out 2
  have hf41 := blk_frozen BKg19.out 3
  have hf42 := blk_frozen BKg19.out 4
  by_cases c43 : a0 < 0
  · have H := HH.out
    rw [if_pos c43] at H
    replace HH := Aside0.mk H
    clear H
    have hk44 : (a0 < 0) = True := eq_true c43
    have hk45 : decide (a0 < 0) = true := decide_eq_true c43
    clear c43
    go_wp2_with (((with_reducible refine gate_store (t := 28) (p := 6) rfl ?_); (try (refine gate_guard (by rfl) ?_; dsimp only)); refine MW.ev_store #[.int .i64 0, .bool false, .int .i64 0, .string (⟨#[]⟩ : ByteArray), .slice none 0 0] rfl rfl rfl rfl (cs := #[.int .i64 0, .bool false, .int .i64 0, .string (⟨#[]⟩ : ByteArray), .slice none 0 0]) (ty := 28) BKg19.out [.int .i64 0, .bool false, .int .i64 0, .string (⟨#[]⟩ : ByteArray), .slice none 0 0] rfl (by kernel_rfl) (by simp) (by simp [Value.oneCell']) rfl ?_; intro w46 hbk hg); replace hbk := Aside0.mk hbk; refine stop_ ?_)
    refine Stop.go ?_
    replace hbk := hbk.out
    replace HF2 := Aside0.mk (Kd.F_grown (ok := (fun k_ => (P_ k_ ∨ w.heap.size ≤ k_) ∧ k_ ≠ g1 ∧ k_ ≠ g5 ∧ k_ ≠ g19)) HF2.out hg (fun k_ hk_ he_ => hk_.2.2.2 (Option.some.inj he_)))
    replace BKg1 := Aside0.mk (blk_grown (o := .cells #[.slice A2 l2.length c2] 24 (0, 0)) BKg1.out hg (fun he_ => NEg1_g19.out (Option.some.inj he_)))
    replace BKg5 := Aside0.mk (blk_grown (o := .cells #[.int .i64 0, .bool false, .int .i64 0, .string (⟨#[]⟩ : ByteArray), .slice none 0 0] 28 (0, 0)) BKg5.out hg (fun he_ => NEg5_g19.out (Option.some.inj he_)))
    replace HB := Aside0.mk (Below.grown HB.out hg (below_size HB.out) (fun k_ hk_ => by injection hk_ with hk_; rw [← hk_]; exact GEg19.out))
    replace BKg19 := Aside0.mk hbk
    clear hg hbk
    clear hz21 hf22 hz23 hz24 hz25 hz26 hz27 hf28 hf29 hf30 hf31 hf32 hz33 hz34 hz35 hz36 hz37 hf38 hf39 hf40 hf41 hf42
    have hz47 : w46.cell? ⟨g1, 0, none⟩ = some (.slice A2 l2.length c2) := (blk_cell BKg1.out 0).trans rfl
    have hf48 := blk_frozen BKg1.out 0
    have hz49 : w46.cell? ⟨g5, 0, none⟩ = some (.int .i64 0) := (blk_cell BKg5.out 0).trans rfl
    have hz50 : w46.cell? ⟨g5, 1, none⟩ = some (.bool false) := (blk_cell BKg5.out 1).trans rfl
    have hz51 : w46.cell? ⟨g5, 2, none⟩ = some (.int .i64 0) := (blk_cell BKg5.out 2).trans rfl
    have hz52 : w46.cell? ⟨g5, 3, none⟩ = some (.string (⟨#[]⟩ : ByteArray)) := (blk_cell BKg5.out 3).trans rfl
    have hz53 : w46.cell? ⟨g5, 4, none⟩ = some (.slice none 0 0) := (blk_cell BKg5.out 4).trans rfl
    have hf54 := blk_frozen BKg5.out 0
    have hf55 := blk_frozen BKg5.out 1
    have hf56 := blk_frozen BKg5.out 2
    have hf57 := blk_frozen BKg5.out 3
    have hf58 := blk_frozen BKg5.out 4
    have hz59 : w46.cell? ⟨g19, 0, none⟩ = some (.int .i64 0) := (blk_cell BKg19.out 0).trans rfl
    have hz60 : w46.cell? ⟨g19, 1, none⟩ = some (.bool false) := (blk_cell BKg19.out 1).trans rfl
    have hz61 : w46.cell? ⟨g19, 2, none⟩ = some (.int .i64 0) := (blk_cell BKg19.out 2).trans rfl
    have hz62 : w46.cell? ⟨g19, 3, none⟩ = some (.string (⟨#[]⟩ : ByteArray)) := (blk_cell BKg19.out 3).trans rfl
    have hz63 : w46.cell? ⟨g19, 4, none⟩ = some (.slice none 0 0) := (blk_cell BKg19.out 4).trans rfl
    have hf64 := blk_frozen BKg19.out 0
    have hf65 := blk_frozen BKg19.out 1
    have hf66 := blk_frozen BKg19.out 2
    have hf67 := blk_frozen BKg19.out 3
    have hf68 := blk_frozen BKg19.out 4
    go_wp2
    refine bodyPost_ret (results_ct rfl _ _ g19 28 #[.int .i64 0, .bool false, .int .i64 0, .string (⟨#[]⟩ : ByteArray), .slice none 0 0] (0, 0) _ rfl BKg19.out Try.underlying28 rfl (by kernel_rfl)) rfl ?_
    refine ⟨_, rfl, ?_⟩
    go_wp2_with (((with_reducible refine gate_store (t := 28) (p := 6) rfl ?_); (try (refine gate_guard (by rfl) ?_; dsimp only)); refine MW.ev_store #[.int .i64 0, .bool false, .int .i64 0, .string (⟨#[]⟩ : ByteArray), .slice none 0 0] rfl rfl rfl rfl (cs := #[.int .i64 0, .bool false, .int .i64 0, .string (⟨#[]⟩ : ByteArray), .slice none 0 0]) (ty := 28) BKg5.out [.int .i64 0, .bool false, .int .i64 0, .string (⟨#[]⟩ : ByteArray), .slice none 0 0] rfl (by kernel_rfl) (by simp) (by simp [Value.oneCell']) rfl ?_; intro w69 hbk hg); replace hbk := Aside0.mk hbk; refine stop_ ?_)
    refine Stop.go ?_
    replace hbk := hbk.out
    replace HF2 := Aside0.mk (Kd.F_grown (ok := (fun k_ => (P_ k_ ∨ w.heap.size ≤ k_) ∧ k_ ≠ g1 ∧ k_ ≠ g5 ∧ k_ ≠ g19)) HF2.out hg (fun k_ hk_ he_ => hk_.2.2.1 (Option.some.inj he_)))
    replace BKg1 := Aside0.mk (blk_grown (o := .cells #[.slice A2 l2.length c2] 24 (0, 0)) BKg1.out hg (fun he_ => NEg1_g5.out (Option.some.inj he_)))
    replace BKg19 := Aside0.mk (blk_grown (o := .cells #[.int .i64 0, .bool false, .int .i64 0, .string (⟨#[]⟩ : ByteArray), .slice none 0 0] 28 (0, 0)) BKg19.out hg (fun he_ => NEg19_g5.out (Option.some.inj he_)))
    replace HB := Aside0.mk (Below.grown HB.out hg (below_size HB.out) (fun k_ hk_ => by injection hk_ with hk_; rw [← hk_]; exact GEg5.out))
    replace BKg5 := Aside0.mk hbk
    clear hg hbk
    clear hz47 hf48 hz49 hz50 hz51 hz52 hz53 hf54 hf55 hf56 hf57 hf58 hz59 hz60 hz61 hz62 hz63 hf64 hf65 hf66 hf67 hf68
    have hz70 : w69.cell? ⟨g1, 0, none⟩ = some (.slice A2 l2.length c2) := (blk_cell BKg1.out 0).trans rfl
    have hf71 := blk_frozen BKg1.out 0
    have hz72 : w69.cell? ⟨g5, 0, none⟩ = some (.int .i64 0) := (blk_cell BKg5.out 0).trans rfl
    have hz73 : w69.cell? ⟨g5, 1, none⟩ = some (.bool false) := (blk_cell BKg5.out 1).trans rfl
    have hz74 : w69.cell? ⟨g5, 2, none⟩ = some (.int .i64 0) := (blk_cell BKg5.out 2).trans rfl
    have hz75 : w69.cell? ⟨g5, 3, none⟩ = some (.string (⟨#[]⟩ : ByteArray)) := (blk_cell BKg5.out 3).trans rfl
    have hz76 : w69.cell? ⟨g5, 4, none⟩ = some (.slice none 0 0) := (blk_cell BKg5.out 4).trans rfl
    have hf77 := blk_frozen BKg5.out 0
    have hf78 := blk_frozen BKg5.out 1
    have hf79 := blk_frozen BKg5.out 2
    have hf80 := blk_frozen BKg5.out 3
    have hf81 := blk_frozen BKg5.out 4
    have hz82 : w69.cell? ⟨g19, 0, none⟩ = some (.int .i64 0) := (blk_cell BKg19.out 0).trans rfl
    have hz83 : w69.cell? ⟨g19, 1, none⟩ = some (.bool false) := (blk_cell BKg19.out 1).trans rfl
    have hz84 : w69.cell? ⟨g19, 2, none⟩ = some (.int .i64 0) := (blk_cell BKg19.out 2).trans rfl
    have hz85 : w69.cell? ⟨g19, 3, none⟩ = some (.string (⟨#[]⟩ : ByteArray)) := (blk_cell BKg19.out 3).trans rfl
    have hz86 : w69.cell? ⟨g19, 4, none⟩ = some (.slice none 0 0) := (blk_cell BKg19.out 4).trans rfl
    have hf87 := blk_frozen BKg19.out 0
    have hf88 := blk_frozen BKg19.out 1
    have hf89 := blk_frozen BKg19.out 2
    have hf90 := blk_frozen BKg19.out 3
    have hf91 := blk_frozen BKg19.out 4
    have H := HH.out
    simp only [Option.some.injEq, Prod.mk.injEq] at H
    obtain ⟨rfl, rfl, rfl, rfl, rfl, rfl⟩ := H
    clear HH
    go_wp2
    refine bodyPost_ret (results_ct rfl _ _ g5 28 #[.int .i64 0, .bool false, .int .i64 0, .string (⟨#[]⟩ : ByteArray), .slice none 0 0] (0, 0) _ rfl BKg5.out Try.underlying28 rfl (by kernel_rfl)) rfl ?_
    exact ⟨none, 0, by first | rfl | (simp; done) | (simp [*]; done), (Nat.le_refl _), (Kd.F_nil _ _ _), HB.out⟩
  · have H := HH.out
    rw [if_neg c43] at H
    replace HH := Aside0.mk H
    clear H
    have hk92 : (a0 < 0) = False := eq_false c43
    have hk93 : decide (a0 < 0) = false := decide_eq_false c43
    clear c43
    by_cases c94 : a0 > 3
    · have H := HH.out
      rw [if_pos c94] at H
      replace HH := Aside0.mk H
      clear H
      have hk95 : decide (3 < a0) = true := decide_eq_true c94
      clear c94
      go_wp2_with (((with_reducible refine gate_store (t := 28) (p := 6) rfl ?_); (try (refine gate_guard (by rfl) ?_; dsimp only)); refine MW.ev_store #[.int .i64 0, .bool false, .int .i64 0, .string (⟨#[]⟩ : ByteArray), .slice none 0 0] rfl rfl rfl rfl (cs := #[.int .i64 0, .bool false, .int .i64 0, .string (⟨#[]⟩ : ByteArray), .slice none 0 0]) (ty := 28) BKg19.out [.int .i64 0, .bool false, .int .i64 0, .string (⟨#[]⟩ : ByteArray), .slice none 0 0] rfl (by kernel_rfl) (by simp) (by simp [Value.oneCell']) rfl ?_; intro w96 hbk hg); replace hbk := Aside0.mk hbk; refine stop_ ?_)
      refine Stop.go ?_
      replace hbk := hbk.out
      replace HF2 := Aside0.mk (Kd.F_grown (ok := (fun k_ => (P_ k_ ∨ w.heap.size ≤ k_) ∧ k_ ≠ g1 ∧ k_ ≠ g5 ∧ k_ ≠ g19)) HF2.out hg (fun k_ hk_ he_ => hk_.2.2.2 (Option.some.inj he_)))
      replace BKg1 := Aside0.mk (blk_grown (o := .cells #[.slice A2 l2.length c2] 24 (0, 0)) BKg1.out hg (fun he_ => NEg1_g19.out (Option.some.inj he_)))
      replace BKg5 := Aside0.mk (blk_grown (o := .cells #[.int .i64 0, .bool false, .int .i64 0, .string (⟨#[]⟩ : ByteArray), .slice none 0 0] 28 (0, 0)) BKg5.out hg (fun he_ => NEg5_g19.out (Option.some.inj he_)))
      replace HB := Aside0.mk (Below.grown HB.out hg (below_size HB.out) (fun k_ hk_ => by injection hk_ with hk_; rw [← hk_]; exact GEg19.out))
      replace BKg19 := Aside0.mk hbk
      clear hg hbk
      clear hz21 hf22 hz23 hz24 hz25 hz26 hz27 hf28 hf29 hf30 hf31 hf32 hz33 hz34 hz35 hz36 hz37 hf38 hf39 hf40 hf41 hf42
      have hz97 : w96.cell? ⟨g1, 0, none⟩ = some (.slice A2 l2.length c2) := (blk_cell BKg1.out 0).trans rfl
      have hf98 := blk_frozen BKg1.out 0
      have hz99 : w96.cell? ⟨g5, 0, none⟩ = some (.int .i64 0) := (blk_cell BKg5.out 0).trans rfl
      have hz100 : w96.cell? ⟨g5, 1, none⟩ = some (.bool false) := (blk_cell BKg5.out 1).trans rfl
      have hz101 : w96.cell? ⟨g5, 2, none⟩ = some (.int .i64 0) := (blk_cell BKg5.out 2).trans rfl
      have hz102 : w96.cell? ⟨g5, 3, none⟩ = some (.string (⟨#[]⟩ : ByteArray)) := (blk_cell BKg5.out 3).trans rfl
      have hz103 : w96.cell? ⟨g5, 4, none⟩ = some (.slice none 0 0) := (blk_cell BKg5.out 4).trans rfl
      have hf104 := blk_frozen BKg5.out 0
      have hf105 := blk_frozen BKg5.out 1
      have hf106 := blk_frozen BKg5.out 2
      have hf107 := blk_frozen BKg5.out 3
      have hf108 := blk_frozen BKg5.out 4
      have hz109 : w96.cell? ⟨g19, 0, none⟩ = some (.int .i64 0) := (blk_cell BKg19.out 0).trans rfl
      have hz110 : w96.cell? ⟨g19, 1, none⟩ = some (.bool false) := (blk_cell BKg19.out 1).trans rfl
      have hz111 : w96.cell? ⟨g19, 2, none⟩ = some (.int .i64 0) := (blk_cell BKg19.out 2).trans rfl
      have hz112 : w96.cell? ⟨g19, 3, none⟩ = some (.string (⟨#[]⟩ : ByteArray)) := (blk_cell BKg19.out 3).trans rfl
      have hz113 : w96.cell? ⟨g19, 4, none⟩ = some (.slice none 0 0) := (blk_cell BKg19.out 4).trans rfl
      have hf114 := blk_frozen BKg19.out 0
      have hf115 := blk_frozen BKg19.out 1
      have hf116 := blk_frozen BKg19.out 2
      have hf117 := blk_frozen BKg19.out 3
      have hf118 := blk_frozen BKg19.out 4
      go_wp2
      refine bodyPost_ret (results_ct rfl _ _ g19 28 #[.int .i64 0, .bool false, .int .i64 0, .string (⟨#[]⟩ : ByteArray), .slice none 0 0] (0, 0) _ rfl BKg19.out Try.underlying28 rfl (by kernel_rfl)) rfl ?_
      refine ⟨_, rfl, ?_⟩
      go_wp2_with (((with_reducible refine gate_store (t := 28) (p := 6) rfl ?_); (try (refine gate_guard (by rfl) ?_; dsimp only)); refine MW.ev_store #[.int .i64 0, .bool false, .int .i64 0, .string (⟨#[]⟩ : ByteArray), .slice none 0 0] rfl rfl rfl rfl (cs := #[.int .i64 0, .bool false, .int .i64 0, .string (⟨#[]⟩ : ByteArray), .slice none 0 0]) (ty := 28) BKg5.out [.int .i64 0, .bool false, .int .i64 0, .string (⟨#[]⟩ : ByteArray), .slice none 0 0] rfl (by kernel_rfl) (by simp) (by simp [Value.oneCell']) rfl ?_; intro w119 hbk hg); replace hbk := Aside0.mk hbk; refine stop_ ?_)
      refine Stop.go ?_
      replace hbk := hbk.out
      replace HF2 := Aside0.mk (Kd.F_grown (ok := (fun k_ => (P_ k_ ∨ w.heap.size ≤ k_) ∧ k_ ≠ g1 ∧ k_ ≠ g5 ∧ k_ ≠ g19)) HF2.out hg (fun k_ hk_ he_ => hk_.2.2.1 (Option.some.inj he_)))
      replace BKg1 := Aside0.mk (blk_grown (o := .cells #[.slice A2 l2.length c2] 24 (0, 0)) BKg1.out hg (fun he_ => NEg1_g5.out (Option.some.inj he_)))
      replace BKg19 := Aside0.mk (blk_grown (o := .cells #[.int .i64 0, .bool false, .int .i64 0, .string (⟨#[]⟩ : ByteArray), .slice none 0 0] 28 (0, 0)) BKg19.out hg (fun he_ => NEg19_g5.out (Option.some.inj he_)))
      replace HB := Aside0.mk (Below.grown HB.out hg (below_size HB.out) (fun k_ hk_ => by injection hk_ with hk_; rw [← hk_]; exact GEg5.out))
      replace BKg5 := Aside0.mk hbk
      clear hg hbk
      clear hz97 hf98 hz99 hz100 hz101 hz102 hz103 hf104 hf105 hf106 hf107 hf108 hz109 hz110 hz111 hz112 hz113 hf114 hf115 hf116 hf117 hf118
      have hz120 : w119.cell? ⟨g1, 0, none⟩ = some (.slice A2 l2.length c2) := (blk_cell BKg1.out 0).trans rfl
      have hf121 := blk_frozen BKg1.out 0
      have hz122 : w119.cell? ⟨g5, 0, none⟩ = some (.int .i64 0) := (blk_cell BKg5.out 0).trans rfl
      have hz123 : w119.cell? ⟨g5, 1, none⟩ = some (.bool false) := (blk_cell BKg5.out 1).trans rfl
      have hz124 : w119.cell? ⟨g5, 2, none⟩ = some (.int .i64 0) := (blk_cell BKg5.out 2).trans rfl
      have hz125 : w119.cell? ⟨g5, 3, none⟩ = some (.string (⟨#[]⟩ : ByteArray)) := (blk_cell BKg5.out 3).trans rfl
      have hz126 : w119.cell? ⟨g5, 4, none⟩ = some (.slice none 0 0) := (blk_cell BKg5.out 4).trans rfl
      have hf127 := blk_frozen BKg5.out 0
      have hf128 := blk_frozen BKg5.out 1
      have hf129 := blk_frozen BKg5.out 2
      have hf130 := blk_frozen BKg5.out 3
      have hf131 := blk_frozen BKg5.out 4
      have hz132 : w119.cell? ⟨g19, 0, none⟩ = some (.int .i64 0) := (blk_cell BKg19.out 0).trans rfl
      have hz133 : w119.cell? ⟨g19, 1, none⟩ = some (.bool false) := (blk_cell BKg19.out 1).trans rfl
      have hz134 : w119.cell? ⟨g19, 2, none⟩ = some (.int .i64 0) := (blk_cell BKg19.out 2).trans rfl
      have hz135 : w119.cell? ⟨g19, 3, none⟩ = some (.string (⟨#[]⟩ : ByteArray)) := (blk_cell BKg19.out 3).trans rfl
      have hz136 : w119.cell? ⟨g19, 4, none⟩ = some (.slice none 0 0) := (blk_cell BKg19.out 4).trans rfl
      have hf137 := blk_frozen BKg19.out 0
      have hf138 := blk_frozen BKg19.out 1
      have hf139 := blk_frozen BKg19.out 2
      have hf140 := blk_frozen BKg19.out 3
      have hf141 := blk_frozen BKg19.out 4
      have H := HH.out
      simp only [Option.some.injEq, Prod.mk.injEq] at H
      obtain ⟨rfl, rfl, rfl, rfl, rfl, rfl⟩ := H
      clear HH
      go_wp2
      refine bodyPost_ret (results_ct rfl _ _ g5 28 #[.int .i64 0, .bool false, .int .i64 0, .string (⟨#[]⟩ : ByteArray), .slice none 0 0] (0, 0) _ rfl BKg5.out Try.underlying28 rfl (by kernel_rfl)) rfl ?_
      exact ⟨none, 0, by first | rfl | (simp; done) | (simp [*]; done), (Nat.le_refl _), (Kd.F_nil _ _ _), HB.out⟩
    · have H := HH.out
      rw [if_neg c94] at H
      replace HH := Aside0.mk H
      clear H
      have hk142 : decide (3 < a0) = false := decide_eq_false c94
      clear c94
      by_cases c143 : a1 < 0
      · have H := HH.out
        rw [if_pos c143] at H
        replace HH := Aside0.mk H
        clear H
        have hk144 : (a1 < 0) = True := eq_true c143
        have hk145 : decide (a1 < 0) = true := decide_eq_true c143
        clear c143
        go_wp2_with (((with_reducible refine gate_store (t := 28) (p := 6) rfl ?_); (try (refine gate_guard (by rfl) ?_; dsimp only)); refine MW.ev_store #[.int .i64 0, .bool false, .int .i64 0, .string (⟨#[]⟩ : ByteArray), .slice none 0 0] rfl rfl rfl rfl (cs := #[.int .i64 0, .bool false, .int .i64 0, .string (⟨#[]⟩ : ByteArray), .slice none 0 0]) (ty := 28) BKg19.out [.int .i64 0, .bool false, .int .i64 0, .string (⟨#[]⟩ : ByteArray), .slice none 0 0] rfl (by kernel_rfl) (by simp) (by simp [Value.oneCell']) rfl ?_; intro w146 hbk hg); replace hbk := Aside0.mk hbk; refine stop_ ?_)
        refine Stop.go ?_
        replace hbk := hbk.out
        replace HF2 := Aside0.mk (Kd.F_grown (ok := (fun k_ => (P_ k_ ∨ w.heap.size ≤ k_) ∧ k_ ≠ g1 ∧ k_ ≠ g5 ∧ k_ ≠ g19)) HF2.out hg (fun k_ hk_ he_ => hk_.2.2.2 (Option.some.inj he_)))
        replace BKg1 := Aside0.mk (blk_grown (o := .cells #[.slice A2 l2.length c2] 24 (0, 0)) BKg1.out hg (fun he_ => NEg1_g19.out (Option.some.inj he_)))
        replace BKg5 := Aside0.mk (blk_grown (o := .cells #[.int .i64 0, .bool false, .int .i64 0, .string (⟨#[]⟩ : ByteArray), .slice none 0 0] 28 (0, 0)) BKg5.out hg (fun he_ => NEg5_g19.out (Option.some.inj he_)))
        replace HB := Aside0.mk (Below.grown HB.out hg (below_size HB.out) (fun k_ hk_ => by injection hk_ with hk_; rw [← hk_]; exact GEg19.out))
        replace BKg19 := Aside0.mk hbk
        clear hg hbk
        clear hz21 hf22 hz23 hz24 hz25 hz26 hz27 hf28 hf29 hf30 hf31 hf32 hz33 hz34 hz35 hz36 hz37 hf38 hf39 hf40 hf41 hf42
        have hz147 : w146.cell? ⟨g1, 0, none⟩ = some (.slice A2 l2.length c2) := (blk_cell BKg1.out 0).trans rfl
        have hf148 := blk_frozen BKg1.out 0
        have hz149 : w146.cell? ⟨g5, 0, none⟩ = some (.int .i64 0) := (blk_cell BKg5.out 0).trans rfl
        have hz150 : w146.cell? ⟨g5, 1, none⟩ = some (.bool false) := (blk_cell BKg5.out 1).trans rfl
        have hz151 : w146.cell? ⟨g5, 2, none⟩ = some (.int .i64 0) := (blk_cell BKg5.out 2).trans rfl
        have hz152 : w146.cell? ⟨g5, 3, none⟩ = some (.string (⟨#[]⟩ : ByteArray)) := (blk_cell BKg5.out 3).trans rfl
        have hz153 : w146.cell? ⟨g5, 4, none⟩ = some (.slice none 0 0) := (blk_cell BKg5.out 4).trans rfl
        have hf154 := blk_frozen BKg5.out 0
        have hf155 := blk_frozen BKg5.out 1
        have hf156 := blk_frozen BKg5.out 2
        have hf157 := blk_frozen BKg5.out 3
        have hf158 := blk_frozen BKg5.out 4
        have hz159 : w146.cell? ⟨g19, 0, none⟩ = some (.int .i64 0) := (blk_cell BKg19.out 0).trans rfl
        have hz160 : w146.cell? ⟨g19, 1, none⟩ = some (.bool false) := (blk_cell BKg19.out 1).trans rfl
        have hz161 : w146.cell? ⟨g19, 2, none⟩ = some (.int .i64 0) := (blk_cell BKg19.out 2).trans rfl
        have hz162 : w146.cell? ⟨g19, 3, none⟩ = some (.string (⟨#[]⟩ : ByteArray)) := (blk_cell BKg19.out 3).trans rfl
        have hz163 : w146.cell? ⟨g19, 4, none⟩ = some (.slice none 0 0) := (blk_cell BKg19.out 4).trans rfl
        have hf164 := blk_frozen BKg19.out 0
        have hf165 := blk_frozen BKg19.out 1
        have hf166 := blk_frozen BKg19.out 2
        have hf167 := blk_frozen BKg19.out 3
        have hf168 := blk_frozen BKg19.out 4
        go_wp2
        refine bodyPost_ret (results_ct rfl _ _ g19 28 #[.int .i64 0, .bool false, .int .i64 0, .string (⟨#[]⟩ : ByteArray), .slice none 0 0] (0, 0) _ rfl BKg19.out Try.underlying28 rfl (by kernel_rfl)) rfl ?_
        refine ⟨_, rfl, ?_⟩
        go_wp2_with (((with_reducible refine gate_store (t := 28) (p := 6) rfl ?_); (try (refine gate_guard (by rfl) ?_; dsimp only)); refine MW.ev_store #[.int .i64 0, .bool false, .int .i64 0, .string (⟨#[]⟩ : ByteArray), .slice none 0 0] rfl rfl rfl rfl (cs := #[.int .i64 0, .bool false, .int .i64 0, .string (⟨#[]⟩ : ByteArray), .slice none 0 0]) (ty := 28) BKg5.out [.int .i64 0, .bool false, .int .i64 0, .string (⟨#[]⟩ : ByteArray), .slice none 0 0] rfl (by kernel_rfl) (by simp) (by simp [Value.oneCell']) rfl ?_; intro w169 hbk hg); replace hbk := Aside0.mk hbk; refine stop_ ?_)
        refine Stop.go ?_
        replace hbk := hbk.out
        replace HF2 := Aside0.mk (Kd.F_grown (ok := (fun k_ => (P_ k_ ∨ w.heap.size ≤ k_) ∧ k_ ≠ g1 ∧ k_ ≠ g5 ∧ k_ ≠ g19)) HF2.out hg (fun k_ hk_ he_ => hk_.2.2.1 (Option.some.inj he_)))
        replace BKg1 := Aside0.mk (blk_grown (o := .cells #[.slice A2 l2.length c2] 24 (0, 0)) BKg1.out hg (fun he_ => NEg1_g5.out (Option.some.inj he_)))
        replace BKg19 := Aside0.mk (blk_grown (o := .cells #[.int .i64 0, .bool false, .int .i64 0, .string (⟨#[]⟩ : ByteArray), .slice none 0 0] 28 (0, 0)) BKg19.out hg (fun he_ => NEg19_g5.out (Option.some.inj he_)))
        replace HB := Aside0.mk (Below.grown HB.out hg (below_size HB.out) (fun k_ hk_ => by injection hk_ with hk_; rw [← hk_]; exact GEg5.out))
        replace BKg5 := Aside0.mk hbk
        clear hg hbk
        clear hz147 hf148 hz149 hz150 hz151 hz152 hz153 hf154 hf155 hf156 hf157 hf158 hz159 hz160 hz161 hz162 hz163 hf164 hf165 hf166 hf167 hf168
        have hz170 : w169.cell? ⟨g1, 0, none⟩ = some (.slice A2 l2.length c2) := (blk_cell BKg1.out 0).trans rfl
        have hf171 := blk_frozen BKg1.out 0
        have hz172 : w169.cell? ⟨g5, 0, none⟩ = some (.int .i64 0) := (blk_cell BKg5.out 0).trans rfl
        have hz173 : w169.cell? ⟨g5, 1, none⟩ = some (.bool false) := (blk_cell BKg5.out 1).trans rfl
        have hz174 : w169.cell? ⟨g5, 2, none⟩ = some (.int .i64 0) := (blk_cell BKg5.out 2).trans rfl
        have hz175 : w169.cell? ⟨g5, 3, none⟩ = some (.string (⟨#[]⟩ : ByteArray)) := (blk_cell BKg5.out 3).trans rfl
        have hz176 : w169.cell? ⟨g5, 4, none⟩ = some (.slice none 0 0) := (blk_cell BKg5.out 4).trans rfl
        have hf177 := blk_frozen BKg5.out 0
        have hf178 := blk_frozen BKg5.out 1
        have hf179 := blk_frozen BKg5.out 2
        have hf180 := blk_frozen BKg5.out 3
        have hf181 := blk_frozen BKg5.out 4
        have hz182 : w169.cell? ⟨g19, 0, none⟩ = some (.int .i64 0) := (blk_cell BKg19.out 0).trans rfl
        have hz183 : w169.cell? ⟨g19, 1, none⟩ = some (.bool false) := (blk_cell BKg19.out 1).trans rfl
        have hz184 : w169.cell? ⟨g19, 2, none⟩ = some (.int .i64 0) := (blk_cell BKg19.out 2).trans rfl
        have hz185 : w169.cell? ⟨g19, 3, none⟩ = some (.string (⟨#[]⟩ : ByteArray)) := (blk_cell BKg19.out 3).trans rfl
        have hz186 : w169.cell? ⟨g19, 4, none⟩ = some (.slice none 0 0) := (blk_cell BKg19.out 4).trans rfl
        have hf187 := blk_frozen BKg19.out 0
        have hf188 := blk_frozen BKg19.out 1
        have hf189 := blk_frozen BKg19.out 2
        have hf190 := blk_frozen BKg19.out 3
        have hf191 := blk_frozen BKg19.out 4
        have H := HH.out
        simp only [Option.some.injEq, Prod.mk.injEq] at H
        obtain ⟨rfl, rfl, rfl, rfl, rfl, rfl⟩ := H
        clear HH
        go_wp2
        refine bodyPost_ret (results_ct rfl _ _ g5 28 #[.int .i64 0, .bool false, .int .i64 0, .string (⟨#[]⟩ : ByteArray), .slice none 0 0] (0, 0) _ rfl BKg5.out Try.underlying28 rfl (by kernel_rfl)) rfl ?_
        exact ⟨none, 0, by first | rfl | (simp; done) | (simp [*]; done), (Nat.le_refl _), (Kd.F_nil _ _ _), HB.out⟩
      · have H := HH.out
        rw [if_neg c143] at H
        replace HH := Aside0.mk H
        clear H
        have hk192 : (a1 < 0) = False := eq_false c143
        have hk193 : decide (a1 < 0) = false := decide_eq_false c143
        clear c143
        by_cases c194 : a1 > 30
        · have H := HH.out
          rw [if_pos c194] at H
          replace HH := Aside0.mk H
          clear H
          have hk195 : decide (30 < a1) = true := decide_eq_true c194
          clear c194
          go_wp2_with (((with_reducible refine gate_store (t := 28) (p := 6) rfl ?_); (try (refine gate_guard (by rfl) ?_; dsimp only)); refine MW.ev_store #[.int .i64 0, .bool false, .int .i64 0, .string (⟨#[]⟩ : ByteArray), .slice none 0 0] rfl rfl rfl rfl (cs := #[.int .i64 0, .bool false, .int .i64 0, .string (⟨#[]⟩ : ByteArray), .slice none 0 0]) (ty := 28) BKg19.out [.int .i64 0, .bool false, .int .i64 0, .string (⟨#[]⟩ : ByteArray), .slice none 0 0] rfl (by kernel_rfl) (by simp) (by simp [Value.oneCell']) rfl ?_; intro w196 hbk hg); replace hbk := Aside0.mk hbk; refine stop_ ?_)
          refine Stop.go ?_
          replace hbk := hbk.out
          replace HF2 := Aside0.mk (Kd.F_grown (ok := (fun k_ => (P_ k_ ∨ w.heap.size ≤ k_) ∧ k_ ≠ g1 ∧ k_ ≠ g5 ∧ k_ ≠ g19)) HF2.out hg (fun k_ hk_ he_ => hk_.2.2.2 (Option.some.inj he_)))
          replace BKg1 := Aside0.mk (blk_grown (o := .cells #[.slice A2 l2.length c2] 24 (0, 0)) BKg1.out hg (fun he_ => NEg1_g19.out (Option.some.inj he_)))
          replace BKg5 := Aside0.mk (blk_grown (o := .cells #[.int .i64 0, .bool false, .int .i64 0, .string (⟨#[]⟩ : ByteArray), .slice none 0 0] 28 (0, 0)) BKg5.out hg (fun he_ => NEg5_g19.out (Option.some.inj he_)))
          replace HB := Aside0.mk (Below.grown HB.out hg (below_size HB.out) (fun k_ hk_ => by injection hk_ with hk_; rw [← hk_]; exact GEg19.out))
          replace BKg19 := Aside0.mk hbk
          clear hg hbk
          clear hz21 hf22 hz23 hz24 hz25 hz26 hz27 hf28 hf29 hf30 hf31 hf32 hz33 hz34 hz35 hz36 hz37 hf38 hf39 hf40 hf41 hf42
          have hz197 : w196.cell? ⟨g1, 0, none⟩ = some (.slice A2 l2.length c2) := (blk_cell BKg1.out 0).trans rfl
          have hf198 := blk_frozen BKg1.out 0
          have hz199 : w196.cell? ⟨g5, 0, none⟩ = some (.int .i64 0) := (blk_cell BKg5.out 0).trans rfl
          have hz200 : w196.cell? ⟨g5, 1, none⟩ = some (.bool false) := (blk_cell BKg5.out 1).trans rfl
          have hz201 : w196.cell? ⟨g5, 2, none⟩ = some (.int .i64 0) := (blk_cell BKg5.out 2).trans rfl
          have hz202 : w196.cell? ⟨g5, 3, none⟩ = some (.string (⟨#[]⟩ : ByteArray)) := (blk_cell BKg5.out 3).trans rfl
          have hz203 : w196.cell? ⟨g5, 4, none⟩ = some (.slice none 0 0) := (blk_cell BKg5.out 4).trans rfl
          have hf204 := blk_frozen BKg5.out 0
          have hf205 := blk_frozen BKg5.out 1
          have hf206 := blk_frozen BKg5.out 2
          have hf207 := blk_frozen BKg5.out 3
          have hf208 := blk_frozen BKg5.out 4
          have hz209 : w196.cell? ⟨g19, 0, none⟩ = some (.int .i64 0) := (blk_cell BKg19.out 0).trans rfl
          have hz210 : w196.cell? ⟨g19, 1, none⟩ = some (.bool false) := (blk_cell BKg19.out 1).trans rfl
          have hz211 : w196.cell? ⟨g19, 2, none⟩ = some (.int .i64 0) := (blk_cell BKg19.out 2).trans rfl
          have hz212 : w196.cell? ⟨g19, 3, none⟩ = some (.string (⟨#[]⟩ : ByteArray)) := (blk_cell BKg19.out 3).trans rfl
          have hz213 : w196.cell? ⟨g19, 4, none⟩ = some (.slice none 0 0) := (blk_cell BKg19.out 4).trans rfl
          have hf214 := blk_frozen BKg19.out 0
          have hf215 := blk_frozen BKg19.out 1
          have hf216 := blk_frozen BKg19.out 2
          have hf217 := blk_frozen BKg19.out 3
          have hf218 := blk_frozen BKg19.out 4
          go_wp2
          refine bodyPost_ret (results_ct rfl _ _ g19 28 #[.int .i64 0, .bool false, .int .i64 0, .string (⟨#[]⟩ : ByteArray), .slice none 0 0] (0, 0) _ rfl BKg19.out Try.underlying28 rfl (by kernel_rfl)) rfl ?_
          refine ⟨_, rfl, ?_⟩
          go_wp2_with (((with_reducible refine gate_store (t := 28) (p := 6) rfl ?_); (try (refine gate_guard (by rfl) ?_; dsimp only)); refine MW.ev_store #[.int .i64 0, .bool false, .int .i64 0, .string (⟨#[]⟩ : ByteArray), .slice none 0 0] rfl rfl rfl rfl (cs := #[.int .i64 0, .bool false, .int .i64 0, .string (⟨#[]⟩ : ByteArray), .slice none 0 0]) (ty := 28) BKg5.out [.int .i64 0, .bool false, .int .i64 0, .string (⟨#[]⟩ : ByteArray), .slice none 0 0] rfl (by kernel_rfl) (by simp) (by simp [Value.oneCell']) rfl ?_; intro w219 hbk hg); replace hbk := Aside0.mk hbk; refine stop_ ?_)
          refine Stop.go ?_
          replace hbk := hbk.out
          replace HF2 := Aside0.mk (Kd.F_grown (ok := (fun k_ => (P_ k_ ∨ w.heap.size ≤ k_) ∧ k_ ≠ g1 ∧ k_ ≠ g5 ∧ k_ ≠ g19)) HF2.out hg (fun k_ hk_ he_ => hk_.2.2.1 (Option.some.inj he_)))
          replace BKg1 := Aside0.mk (blk_grown (o := .cells #[.slice A2 l2.length c2] 24 (0, 0)) BKg1.out hg (fun he_ => NEg1_g5.out (Option.some.inj he_)))
          replace BKg19 := Aside0.mk (blk_grown (o := .cells #[.int .i64 0, .bool false, .int .i64 0, .string (⟨#[]⟩ : ByteArray), .slice none 0 0] 28 (0, 0)) BKg19.out hg (fun he_ => NEg19_g5.out (Option.some.inj he_)))
          replace HB := Aside0.mk (Below.grown HB.out hg (below_size HB.out) (fun k_ hk_ => by injection hk_ with hk_; rw [← hk_]; exact GEg5.out))
          replace BKg5 := Aside0.mk hbk
          clear hg hbk
          clear hz197 hf198 hz199 hz200 hz201 hz202 hz203 hf204 hf205 hf206 hf207 hf208 hz209 hz210 hz211 hz212 hz213 hf214 hf215 hf216 hf217 hf218
          have hz220 : w219.cell? ⟨g1, 0, none⟩ = some (.slice A2 l2.length c2) := (blk_cell BKg1.out 0).trans rfl
          have hf221 := blk_frozen BKg1.out 0
          have hz222 : w219.cell? ⟨g5, 0, none⟩ = some (.int .i64 0) := (blk_cell BKg5.out 0).trans rfl
          have hz223 : w219.cell? ⟨g5, 1, none⟩ = some (.bool false) := (blk_cell BKg5.out 1).trans rfl
          have hz224 : w219.cell? ⟨g5, 2, none⟩ = some (.int .i64 0) := (blk_cell BKg5.out 2).trans rfl
          have hz225 : w219.cell? ⟨g5, 3, none⟩ = some (.string (⟨#[]⟩ : ByteArray)) := (blk_cell BKg5.out 3).trans rfl
          have hz226 : w219.cell? ⟨g5, 4, none⟩ = some (.slice none 0 0) := (blk_cell BKg5.out 4).trans rfl
          have hf227 := blk_frozen BKg5.out 0
          have hf228 := blk_frozen BKg5.out 1
          have hf229 := blk_frozen BKg5.out 2
          have hf230 := blk_frozen BKg5.out 3
          have hf231 := blk_frozen BKg5.out 4
          have hz232 : w219.cell? ⟨g19, 0, none⟩ = some (.int .i64 0) := (blk_cell BKg19.out 0).trans rfl
          have hz233 : w219.cell? ⟨g19, 1, none⟩ = some (.bool false) := (blk_cell BKg19.out 1).trans rfl
          have hz234 : w219.cell? ⟨g19, 2, none⟩ = some (.int .i64 0) := (blk_cell BKg19.out 2).trans rfl
          have hz235 : w219.cell? ⟨g19, 3, none⟩ = some (.string (⟨#[]⟩ : ByteArray)) := (blk_cell BKg19.out 3).trans rfl
          have hz236 : w219.cell? ⟨g19, 4, none⟩ = some (.slice none 0 0) := (blk_cell BKg19.out 4).trans rfl
          have hf237 := blk_frozen BKg19.out 0
          have hf238 := blk_frozen BKg19.out 1
          have hf239 := blk_frozen BKg19.out 2
          have hf240 := blk_frozen BKg19.out 3
          have hf241 := blk_frozen BKg19.out 4
          have H := HH.out
          simp only [Option.some.injEq, Prod.mk.injEq] at H
          obtain ⟨rfl, rfl, rfl, rfl, rfl, rfl⟩ := H
          clear HH
          go_wp2
          refine bodyPost_ret (results_ct rfl _ _ g5 28 #[.int .i64 0, .bool false, .int .i64 0, .string (⟨#[]⟩ : ByteArray), .slice none 0 0] (0, 0) _ rfl BKg5.out Try.underlying28 rfl (by kernel_rfl)) rfl ?_
          exact ⟨none, 0, by first | rfl | (simp; done) | (simp [*]; done), (Nat.le_refl _), (Kd.F_nil _ _ _), HB.out⟩
        · have H := HH.out
          rw [if_neg c194] at H
          replace HH := Aside0.mk H
          clear H
          have hk242 : decide (30 < a1) = false := decide_eq_false c194
          clear c194
          go_wp2_with (((with_reducible refine gate_dst (N := 8) rfl ?_); (try (refine gate_guard (by rfl) ?_; dsimp only)); refine box_event ?hg (N := 8) ?hd (cs := #[.int .i64 0, .bool false, .int .i64 0, .string (⟨#[]⟩ : ByteArray), .slice none 0 0]) (t := 28) ?hr ?_; (case hd => rfl); (case hg => rfl); (case hr => first | (go_simp; done) | (go_simp; rfl)); intro g243 hg w244 hbox hb); replace hg := Aside0.mk hg; replace hbox := Aside0.mk hbox; refine stop_ ?_)
          refine Stop.go ?_
          replace hg := hg.out
          replace hbox := hbox.out
          have GEg243 := Aside0.mk (by rw [hg]; exact (below_size HB.out) : w.heap.size ≤ g243)
          replace HF2 := Aside0.mk (Kd.F_elderB HF2.out g243 (Nat.le_of_eq hg.symm))
          replace HF2 := Aside0.mk (Kd.F_mono HF2.out (fun k_ hk_ => ⟨hk_.1.1, hk_.1.2.1, hk_.1.2.2.1, hk_.1.2.2.2, hk_.2⟩) : Kd.F k28 _ (fun k_ => (P_ k_ ∨ w.heap.size ≤ k_) ∧ k_ ≠ g1 ∧ k_ ≠ g5 ∧ k_ ≠ g19 ∧ k_ ≠ g243) _ _ _)
          have NEg1_g243 := Aside0.mk (by rw [hg]; exact Nat.ne_of_lt (blk_lt (o := .cells #[.slice A2 l2.length c2] 24 (0, 0)) BKg1.out) : g1 ≠ g243)
          have NEg243_g1 := Aside0.mk (Ne.symm NEg1_g243.out)
          have NEg5_g243 := Aside0.mk (by rw [hg]; exact Nat.ne_of_lt (blk_lt (o := .cells #[.int .i64 0, .bool false, .int .i64 0, .string (⟨#[]⟩ : ByteArray), .slice none 0 0] 28 (0, 0)) BKg5.out) : g5 ≠ g243)
          have NEg243_g5 := Aside0.mk (Ne.symm NEg5_g243.out)
          have NEg19_g243 := Aside0.mk (by rw [hg]; exact Nat.ne_of_lt (blk_lt (o := .cells #[.int .i64 0, .bool false, .int .i64 0, .string (⟨#[]⟩ : ByteArray), .slice none 0 0] 28 (0, 0)) BKg19.out) : g19 ≠ g243)
          have NEg243_g19 := Aside0.mk (Ne.symm NEg19_g243.out)
          replace HF2 := Aside0.mk (Kd.F_below HF2.out hb)
          replace BKg1 := Aside0.mk (blk_below (o := .cells #[.slice A2 l2.length c2] 24 (0, 0)) BKg1.out hb)
          replace BKg5 := Aside0.mk (blk_below (o := .cells #[.int .i64 0, .bool false, .int .i64 0, .string (⟨#[]⟩ : ByteArray), .slice none 0 0] 28 (0, 0)) BKg5.out hb)
          replace BKg19 := Aside0.mk (blk_below (o := .cells #[.int .i64 0, .bool false, .int .i64 0, .string (⟨#[]⟩ : ByteArray), .slice none 0 0] 28 (0, 0)) BKg19.out hb)
          replace HB := Aside0.mk (below_step HB.out hb)
          have BKg243 := Aside0.mk hbox
          clear hg hbox hb
          clear hz21 hf22 hz23 hz24 hz25 hz26 hz27 hf28 hf29 hf30 hf31 hf32 hz33 hz34 hz35 hz36 hz37 hf38 hf39 hf40 hf41 hf42
          have hz245 : w244.cell? ⟨g1, 0, none⟩ = some (.slice A2 l2.length c2) := (blk_cell BKg1.out 0).trans rfl
          have hf246 := blk_frozen BKg1.out 0
          have hz247 : w244.cell? ⟨g5, 0, none⟩ = some (.int .i64 0) := (blk_cell BKg5.out 0).trans rfl
          have hz248 : w244.cell? ⟨g5, 1, none⟩ = some (.bool false) := (blk_cell BKg5.out 1).trans rfl
          have hz249 : w244.cell? ⟨g5, 2, none⟩ = some (.int .i64 0) := (blk_cell BKg5.out 2).trans rfl
          have hz250 : w244.cell? ⟨g5, 3, none⟩ = some (.string (⟨#[]⟩ : ByteArray)) := (blk_cell BKg5.out 3).trans rfl
          have hz251 : w244.cell? ⟨g5, 4, none⟩ = some (.slice none 0 0) := (blk_cell BKg5.out 4).trans rfl
          have hf252 := blk_frozen BKg5.out 0
          have hf253 := blk_frozen BKg5.out 1
          have hf254 := blk_frozen BKg5.out 2
          have hf255 := blk_frozen BKg5.out 3
          have hf256 := blk_frozen BKg5.out 4
          have hz257 : w244.cell? ⟨g19, 0, none⟩ = some (.int .i64 0) := (blk_cell BKg19.out 0).trans rfl
          have hz258 : w244.cell? ⟨g19, 1, none⟩ = some (.bool false) := (blk_cell BKg19.out 1).trans rfl
          have hz259 : w244.cell? ⟨g19, 2, none⟩ = some (.int .i64 0) := (blk_cell BKg19.out 2).trans rfl
          have hz260 : w244.cell? ⟨g19, 3, none⟩ = some (.string (⟨#[]⟩ : ByteArray)) := (blk_cell BKg19.out 3).trans rfl
          have hz261 : w244.cell? ⟨g19, 4, none⟩ = some (.slice none 0 0) := (blk_cell BKg19.out 4).trans rfl
          have hf262 := blk_frozen BKg19.out 0
          have hf263 := blk_frozen BKg19.out 1
          have hf264 := blk_frozen BKg19.out 2
          have hf265 := blk_frozen BKg19.out 3
          have hf266 := blk_frozen BKg19.out 4
          have hz267 : w244.cell? ⟨g243, 0, none⟩ = some (.int .i64 0) := (blk_cell BKg243.out 0).trans rfl
          have hz268 : w244.cell? ⟨g243, 1, none⟩ = some (.bool false) := (blk_cell BKg243.out 1).trans rfl
          have hz269 : w244.cell? ⟨g243, 2, none⟩ = some (.int .i64 0) := (blk_cell BKg243.out 2).trans rfl
          have hz270 : w244.cell? ⟨g243, 3, none⟩ = some (.string (⟨#[]⟩ : ByteArray)) := (blk_cell BKg243.out 3).trans rfl
          have hz271 : w244.cell? ⟨g243, 4, none⟩ = some (.slice none 0 0) := (blk_cell BKg243.out 4).trans rfl
          have hf272 := blk_frozen BKg243.out 0
          have hf273 := blk_frozen BKg243.out 1
          have hf274 := blk_frozen BKg243.out 2
          have hf275 := blk_frozen BKg243.out 3
          have hf276 := blk_frozen BKg243.out 4
          go_wp2_with (((with_reducible refine gate_store (t := 28) (p := 8) rfl ?_); (try (refine gate_guard (by rfl) ?_; dsimp only)); refine MW.ev_store #[.int .i64 a0, .bool false, .int .i64 a1, .string (⟨#[]⟩ : ByteArray), .slice none 0 0] rfl rfl rfl rfl (cs := #[.int .i64 0, .bool false, .int .i64 0, .string (⟨#[]⟩ : ByteArray), .slice none 0 0]) (ty := 28) BKg243.out [.int .i64 a0, .bool false, .int .i64 a1, .string (⟨#[]⟩ : ByteArray), .slice none 0 0] rfl (by kernel_rfl) (by simp) (by simp [Value.oneCell']) rfl ?_; intro w277 hbk hg); replace hbk := Aside0.mk hbk; refine stop_ ?_)
          refine Stop.go ?_
          replace hbk := hbk.out
          replace HF2 := Aside0.mk (Kd.F_grown (ok := (fun k_ => (P_ k_ ∨ w.heap.size ≤ k_) ∧ k_ ≠ g1 ∧ k_ ≠ g5 ∧ k_ ≠ g19 ∧ k_ ≠ g243)) HF2.out hg (fun k_ hk_ he_ => hk_.2.2.2.2 (Option.some.inj he_)))
          replace BKg1 := Aside0.mk (blk_grown (o := .cells #[.slice A2 l2.length c2] 24 (0, 0)) BKg1.out hg (fun he_ => NEg1_g243.out (Option.some.inj he_)))
          replace BKg5 := Aside0.mk (blk_grown (o := .cells #[.int .i64 0, .bool false, .int .i64 0, .string (⟨#[]⟩ : ByteArray), .slice none 0 0] 28 (0, 0)) BKg5.out hg (fun he_ => NEg5_g243.out (Option.some.inj he_)))
          replace BKg19 := Aside0.mk (blk_grown (o := .cells #[.int .i64 0, .bool false, .int .i64 0, .string (⟨#[]⟩ : ByteArray), .slice none 0 0] 28 (0, 0)) BKg19.out hg (fun he_ => NEg19_g243.out (Option.some.inj he_)))
          replace HB := Aside0.mk (Below.grown HB.out hg (below_size HB.out) (fun k_ hk_ => by injection hk_ with hk_; rw [← hk_]; exact GEg243.out))
          replace BKg243 := Aside0.mk hbk
          clear hg hbk
          clear hz245 hf246 hz247 hz248 hz249 hz250 hz251 hf252 hf253 hf254 hf255 hf256 hz257 hz258 hz259 hz260 hz261 hf262 hf263 hf264 hf265 hf266 hz267 hz268 hz269 hz270 hz271 hf272 hf273 hf274 hf275 hf276
          have hz278 : w277.cell? ⟨g1, 0, none⟩ = some (.slice A2 l2.length c2) := (blk_cell BKg1.out 0).trans rfl
          have hf279 := blk_frozen BKg1.out 0
          have hz280 : w277.cell? ⟨g5, 0, none⟩ = some (.int .i64 0) := (blk_cell BKg5.out 0).trans rfl
          have hz281 : w277.cell? ⟨g5, 1, none⟩ = some (.bool false) := (blk_cell BKg5.out 1).trans rfl
          have hz282 : w277.cell? ⟨g5, 2, none⟩ = some (.int .i64 0) := (blk_cell BKg5.out 2).trans rfl
          have hz283 : w277.cell? ⟨g5, 3, none⟩ = some (.string (⟨#[]⟩ : ByteArray)) := (blk_cell BKg5.out 3).trans rfl
          have hz284 : w277.cell? ⟨g5, 4, none⟩ = some (.slice none 0 0) := (blk_cell BKg5.out 4).trans rfl
          have hf285 := blk_frozen BKg5.out 0
          have hf286 := blk_frozen BKg5.out 1
          have hf287 := blk_frozen BKg5.out 2
          have hf288 := blk_frozen BKg5.out 3
          have hf289 := blk_frozen BKg5.out 4
          have hz290 : w277.cell? ⟨g19, 0, none⟩ = some (.int .i64 0) := (blk_cell BKg19.out 0).trans rfl
          have hz291 : w277.cell? ⟨g19, 1, none⟩ = some (.bool false) := (blk_cell BKg19.out 1).trans rfl
          have hz292 : w277.cell? ⟨g19, 2, none⟩ = some (.int .i64 0) := (blk_cell BKg19.out 2).trans rfl
          have hz293 : w277.cell? ⟨g19, 3, none⟩ = some (.string (⟨#[]⟩ : ByteArray)) := (blk_cell BKg19.out 3).trans rfl
          have hz294 : w277.cell? ⟨g19, 4, none⟩ = some (.slice none 0 0) := (blk_cell BKg19.out 4).trans rfl
          have hf295 := blk_frozen BKg19.out 0
          have hf296 := blk_frozen BKg19.out 1
          have hf297 := blk_frozen BKg19.out 2
          have hf298 := blk_frozen BKg19.out 3
          have hf299 := blk_frozen BKg19.out 4
          have hz300 : w277.cell? ⟨g243, 0, none⟩ = some (.int .i64 a0) := (blk_cell BKg243.out 0).trans rfl
          have hz301 : w277.cell? ⟨g243, 1, none⟩ = some (.bool false) := (blk_cell BKg243.out 1).trans rfl
          have hz302 : w277.cell? ⟨g243, 2, none⟩ = some (.int .i64 a1) := (blk_cell BKg243.out 2).trans rfl
          have hz303 : w277.cell? ⟨g243, 3, none⟩ = some (.string (⟨#[]⟩ : ByteArray)) := (blk_cell BKg243.out 3).trans rfl
          have hz304 : w277.cell? ⟨g243, 4, none⟩ = some (.slice none 0 0) := (blk_cell BKg243.out 4).trans rfl
          have hf305 := blk_frozen BKg243.out 0
          have hf306 := blk_frozen BKg243.out 1
          have hf307 := blk_frozen BKg243.out 2
          have hf308 := blk_frozen BKg243.out 3
          have hf309 := blk_frozen BKg243.out 4
          go_wp2_with (((with_reducible refine gate_dst (N := 28) rfl ?_); (try (refine gate_guard (by rfl) ?_; dsimp only)); refine MW.goesV_ (some 28) rfl rfl Try.func30 (by kernel_rfl) rfl #[.pointer (some ⟨g243, 0, none⟩), .pointer (some ⟨g1, 0, none⟩)] rfl #[.pointer (some ⟨g1, 0, none⟩)] rfl (by simp only [List.map_toArray, List.map_cons, List.map_nil, List.append_toArray, List.cons_append, List.nil_append]; first | done | rfl) ?_); refine stop_ ?_)
          refine Stop.go ?_
          go_enter Try.func30, Try.ntmps30
          have H := HH.out
          replace H := Option.bind_eq_some_iff.mp H
          obtain ⟨t310, at_, H⟩ := H
          have At311 := Aside0.mk at_
          clear at_
          replace HH := Aside0.mk (show (some (a0, true, a1, (⟨#[]⟩ : ByteArray), t310, 0)) = some (r1, r2, r3, r4, r5, r6) from H)
          clear H
          go_wp2_with (((with_reducible refine gate_callee (f := 31) rfl ?_); (try (refine gate_guard (by rfl) ?_; dsimp only)); refine goesL_ (some 6) rfl rfl Try.func31 (by kernel_rfl) rfl #[.slice A2 l2.length c2] rfl (by (try simp only [List.map_toArray, List.map_cons, List.map_nil]); first | done | rfl | (simp only [List.length_drop, List.length_take]; rfl)) ?_; (with_reducible refine (Clone_31.calls (fun k_ => (P_ k_ ∨ w.heap.size ≤ k_) ∧ k_ ≠ g1 ∧ k_ ≠ g5 ∧ k_ ≠ g19 ∧ k_ ≠ g243) _ _ l2 t310 _ (Kd.F_mono (ok := (fun k_ => (P_ k_ ∨ w.heap.size ≤ k_) ∧ k_ ≠ g1 ∧ k_ ≠ g5 ∧ k_ ≠ g19 ∧ k_ ≠ g243)) HF2.out (fun k_ hk_ => ⟨hk_.1, hk_.2.1, hk_.2.2.1, hk_.2.2.2.1, hk_.2.2.2.2⟩)) HL2.out At311.out).mono ?_); rintro e w312 ⟨v313, rfl, hn313, hb⟩; refine ⟨_, rfl, ?_⟩); refine stop_ ?_)
          refine Stop.go ?_
          obtain ⟨A313, cp313, he_⟩ := Kd.N_slice hn313
          subst he_
          have HL313 := Aside0.mk (Kd.N_reads' hn313).2.1
          have HF313 := Aside0.mk (Kd.F_mono (Kd.N_F hn313) (fun k_ hk_ => hk_.elim (fun h_ => h_) (fun h_ => ⟨.inr (Nat.le_trans (below_size HB.out) h_), Kd.freshB (o := .cells #[.slice A2 l2.length c2] 24 (0, 0)) BKg1.out k_ h_, Kd.freshB (o := .cells #[.int .i64 0, .bool false, .int .i64 0, .string (⟨#[]⟩ : ByteArray), .slice none 0 0] 28 (0, 0)) BKg5.out k_ h_, Kd.freshB (o := .cells #[.int .i64 0, .bool false, .int .i64 0, .string (⟨#[]⟩ : ByteArray), .slice none 0 0] 28 (0, 0)) BKg19.out k_ h_, Kd.freshB (o := .cells #[.int .i64 a0, .bool false, .int .i64 a1, .string (⟨#[]⟩ : ByteArray), .slice none 0 0] 28 (0, 0)) BKg243.out k_ h_⟩)) : Kd.F k28 _ (fun k_ => (P_ k_ ∨ w.heap.size ≤ k_) ∧ k_ ≠ g1 ∧ k_ ≠ g5 ∧ k_ ≠ g19 ∧ k_ ≠ g243) _ _ _)
          clear hn313
          replace HF2 := Aside0.mk (Kd.F_below HF2.out hb)
          replace BKg1 := Aside0.mk (blk_below (o := .cells #[.slice A2 l2.length c2] 24 (0, 0)) BKg1.out hb)
          replace BKg5 := Aside0.mk (blk_below (o := .cells #[.int .i64 0, .bool false, .int .i64 0, .string (⟨#[]⟩ : ByteArray), .slice none 0 0] 28 (0, 0)) BKg5.out hb)
          replace BKg19 := Aside0.mk (blk_below (o := .cells #[.int .i64 0, .bool false, .int .i64 0, .string (⟨#[]⟩ : ByteArray), .slice none 0 0] 28 (0, 0)) BKg19.out hb)
          replace BKg243 := Aside0.mk (blk_below (o := .cells #[.int .i64 a0, .bool false, .int .i64 a1, .string (⟨#[]⟩ : ByteArray), .slice none 0 0] 28 (0, 0)) BKg243.out hb)
          replace HB := Aside0.mk (below_step HB.out hb)
          clear hb
          clear hz278 hf279 hz280 hz281 hz282 hz283 hz284 hf285 hf286 hf287 hf288 hf289 hz290 hz291 hz292 hz293 hz294 hf295 hf296 hf297 hf298 hf299 hz300 hz301 hz302 hz303 hz304 hf305 hf306 hf307 hf308 hf309
          have hz314 : w312.cell? ⟨g1, 0, none⟩ = some (.slice A2 l2.length c2) := (blk_cell BKg1.out 0).trans rfl
          have hf315 := blk_frozen BKg1.out 0
          have hz316 : w312.cell? ⟨g5, 0, none⟩ = some (.int .i64 0) := (blk_cell BKg5.out 0).trans rfl
          have hz317 : w312.cell? ⟨g5, 1, none⟩ = some (.bool false) := (blk_cell BKg5.out 1).trans rfl
          have hz318 : w312.cell? ⟨g5, 2, none⟩ = some (.int .i64 0) := (blk_cell BKg5.out 2).trans rfl
          have hz319 : w312.cell? ⟨g5, 3, none⟩ = some (.string (⟨#[]⟩ : ByteArray)) := (blk_cell BKg5.out 3).trans rfl
          have hz320 : w312.cell? ⟨g5, 4, none⟩ = some (.slice none 0 0) := (blk_cell BKg5.out 4).trans rfl
          have hf321 := blk_frozen BKg5.out 0
          have hf322 := blk_frozen BKg5.out 1
          have hf323 := blk_frozen BKg5.out 2
          have hf324 := blk_frozen BKg5.out 3
          have hf325 := blk_frozen BKg5.out 4
          have hz326 : w312.cell? ⟨g19, 0, none⟩ = some (.int .i64 0) := (blk_cell BKg19.out 0).trans rfl
          have hz327 : w312.cell? ⟨g19, 1, none⟩ = some (.bool false) := (blk_cell BKg19.out 1).trans rfl
          have hz328 : w312.cell? ⟨g19, 2, none⟩ = some (.int .i64 0) := (blk_cell BKg19.out 2).trans rfl
          have hz329 : w312.cell? ⟨g19, 3, none⟩ = some (.string (⟨#[]⟩ : ByteArray)) := (blk_cell BKg19.out 3).trans rfl
          have hz330 : w312.cell? ⟨g19, 4, none⟩ = some (.slice none 0 0) := (blk_cell BKg19.out 4).trans rfl
          have hf331 := blk_frozen BKg19.out 0
          have hf332 := blk_frozen BKg19.out 1
          have hf333 := blk_frozen BKg19.out 2
          have hf334 := blk_frozen BKg19.out 3
          have hf335 := blk_frozen BKg19.out 4
          have hz336 : w312.cell? ⟨g243, 0, none⟩ = some (.int .i64 a0) := (blk_cell BKg243.out 0).trans rfl
          have hz337 : w312.cell? ⟨g243, 1, none⟩ = some (.bool false) := (blk_cell BKg243.out 1).trans rfl
          have hz338 : w312.cell? ⟨g243, 2, none⟩ = some (.int .i64 a1) := (blk_cell BKg243.out 2).trans rfl
          have hz339 : w312.cell? ⟨g243, 3, none⟩ = some (.string (⟨#[]⟩ : ByteArray)) := (blk_cell BKg243.out 3).trans rfl
          have hz340 : w312.cell? ⟨g243, 4, none⟩ = some (.slice none 0 0) := (blk_cell BKg243.out 4).trans rfl
          have hf341 := blk_frozen BKg243.out 0
          have hf342 := blk_frozen BKg243.out 1
          have hf343 := blk_frozen BKg243.out 2
          have hf344 := blk_frozen BKg243.out 3
          have hf345 := blk_frozen BKg243.out 4
          go_wp2_with (((with_reducible refine gate_store (t := 4) (p := 8) rfl ?_); (try (refine gate_guard (by rfl) ?_; dsimp only)); refine MW.ev_store #[.int .i64 a0, .bool true, .int .i64 a1, .string (⟨#[]⟩ : ByteArray), .slice none 0 0] rfl rfl rfl rfl (cs := #[.int .i64 a0, .bool false, .int .i64 a1, .string (⟨#[]⟩ : ByteArray), .slice none 0 0]) (ty := 28) BKg243.out [.bool true] rfl (by kernel_rfl) (by simp) (by simp [Value.oneCell']) rfl ?_; intro w346 hbk hg); replace hbk := Aside0.mk hbk; refine stop_ ?_)
          refine Stop.go ?_
          replace hbk := hbk.out
          replace HF2 := Aside0.mk (Kd.F_grown (ok := (fun k_ => (P_ k_ ∨ w.heap.size ≤ k_) ∧ k_ ≠ g1 ∧ k_ ≠ g5 ∧ k_ ≠ g19 ∧ k_ ≠ g243)) HF2.out hg (fun k_ hk_ he_ => hk_.2.2.2.2 (Option.some.inj he_)))
          replace HF313 := Aside0.mk (Kd.F_grown (ok := (fun k_ => (P_ k_ ∨ w.heap.size ≤ k_) ∧ k_ ≠ g1 ∧ k_ ≠ g5 ∧ k_ ≠ g19 ∧ k_ ≠ g243)) HF313.out hg (fun k_ hk_ he_ => hk_.2.2.2.2 (Option.some.inj he_)))
          replace BKg1 := Aside0.mk (blk_grown (o := .cells #[.slice A2 l2.length c2] 24 (0, 0)) BKg1.out hg (fun he_ => NEg1_g243.out (Option.some.inj he_)))
          replace BKg5 := Aside0.mk (blk_grown (o := .cells #[.int .i64 0, .bool false, .int .i64 0, .string (⟨#[]⟩ : ByteArray), .slice none 0 0] 28 (0, 0)) BKg5.out hg (fun he_ => NEg5_g243.out (Option.some.inj he_)))
          replace BKg19 := Aside0.mk (blk_grown (o := .cells #[.int .i64 0, .bool false, .int .i64 0, .string (⟨#[]⟩ : ByteArray), .slice none 0 0] 28 (0, 0)) BKg19.out hg (fun he_ => NEg19_g243.out (Option.some.inj he_)))
          replace HB := Aside0.mk (Below.grown HB.out hg (below_size HB.out) (fun k_ hk_ => by injection hk_ with hk_; rw [← hk_]; exact GEg243.out))
          replace BKg243 := Aside0.mk hbk
          clear hg hbk
          clear hz314 hf315 hz316 hz317 hz318 hz319 hz320 hf321 hf322 hf323 hf324 hf325 hz326 hz327 hz328 hz329 hz330 hf331 hf332 hf333 hf334 hf335 hz336 hz337 hz338 hz339 hz340 hf341 hf342 hf343 hf344 hf345
          have hz347 : w346.cell? ⟨g1, 0, none⟩ = some (.slice A2 l2.length c2) := (blk_cell BKg1.out 0).trans rfl
          have hf348 := blk_frozen BKg1.out 0
          have hz349 : w346.cell? ⟨g5, 0, none⟩ = some (.int .i64 0) := (blk_cell BKg5.out 0).trans rfl
          have hz350 : w346.cell? ⟨g5, 1, none⟩ = some (.bool false) := (blk_cell BKg5.out 1).trans rfl
          have hz351 : w346.cell? ⟨g5, 2, none⟩ = some (.int .i64 0) := (blk_cell BKg5.out 2).trans rfl
          have hz352 : w346.cell? ⟨g5, 3, none⟩ = some (.string (⟨#[]⟩ : ByteArray)) := (blk_cell BKg5.out 3).trans rfl
          have hz353 : w346.cell? ⟨g5, 4, none⟩ = some (.slice none 0 0) := (blk_cell BKg5.out 4).trans rfl
          have hf354 := blk_frozen BKg5.out 0
          have hf355 := blk_frozen BKg5.out 1
          have hf356 := blk_frozen BKg5.out 2
          have hf357 := blk_frozen BKg5.out 3
          have hf358 := blk_frozen BKg5.out 4
          have hz359 : w346.cell? ⟨g19, 0, none⟩ = some (.int .i64 0) := (blk_cell BKg19.out 0).trans rfl
          have hz360 : w346.cell? ⟨g19, 1, none⟩ = some (.bool false) := (blk_cell BKg19.out 1).trans rfl
          have hz361 : w346.cell? ⟨g19, 2, none⟩ = some (.int .i64 0) := (blk_cell BKg19.out 2).trans rfl
          have hz362 : w346.cell? ⟨g19, 3, none⟩ = some (.string (⟨#[]⟩ : ByteArray)) := (blk_cell BKg19.out 3).trans rfl
          have hz363 : w346.cell? ⟨g19, 4, none⟩ = some (.slice none 0 0) := (blk_cell BKg19.out 4).trans rfl
          have hf364 := blk_frozen BKg19.out 0
          have hf365 := blk_frozen BKg19.out 1
          have hf366 := blk_frozen BKg19.out 2
          have hf367 := blk_frozen BKg19.out 3
          have hf368 := blk_frozen BKg19.out 4
          have hz369 : w346.cell? ⟨g243, 0, none⟩ = some (.int .i64 a0) := (blk_cell BKg243.out 0).trans rfl
          have hz370 : w346.cell? ⟨g243, 1, none⟩ = some (.bool true) := (blk_cell BKg243.out 1).trans rfl
          have hz371 : w346.cell? ⟨g243, 2, none⟩ = some (.int .i64 a1) := (blk_cell BKg243.out 2).trans rfl
          have hz372 : w346.cell? ⟨g243, 3, none⟩ = some (.string (⟨#[]⟩ : ByteArray)) := (blk_cell BKg243.out 3).trans rfl
          have hz373 : w346.cell? ⟨g243, 4, none⟩ = some (.slice none 0 0) := (blk_cell BKg243.out 4).trans rfl
          have hf374 := blk_frozen BKg243.out 0
          have hf375 := blk_frozen BKg243.out 1
          have hf376 := blk_frozen BKg243.out 2
          have hf377 := blk_frozen BKg243.out 3
          have hf378 := blk_frozen BKg243.out 4
          go_wp2_with (((with_reducible refine gate_store (t := 24) (p := 10) rfl ?_); (try (refine gate_guard (by rfl) ?_; dsimp only)); refine MW.ev_store #[.int .i64 a0, .bool true, .int .i64 a1, .string (⟨#[]⟩ : ByteArray), .slice A313 t310.length cp313] rfl rfl rfl rfl (cs := #[.int .i64 a0, .bool true, .int .i64 a1, .string (⟨#[]⟩ : ByteArray), .slice none 0 0]) (ty := 28) BKg243.out [.slice A313 t310.length cp313] rfl (by kernel_rfl) (by simp) (by simp [Value.oneCell']) rfl ?_; intro w379 hbk hg); replace hbk := Aside0.mk hbk; refine stop_ ?_)
          refine Stop.go ?_
          replace hbk := hbk.out
          replace HF2 := Aside0.mk (Kd.F_grown (ok := (fun k_ => (P_ k_ ∨ w.heap.size ≤ k_) ∧ k_ ≠ g1 ∧ k_ ≠ g5 ∧ k_ ≠ g19 ∧ k_ ≠ g243)) HF2.out hg (fun k_ hk_ he_ => hk_.2.2.2.2 (Option.some.inj he_)))
          replace HF313 := Aside0.mk (Kd.F_grown (ok := (fun k_ => (P_ k_ ∨ w.heap.size ≤ k_) ∧ k_ ≠ g1 ∧ k_ ≠ g5 ∧ k_ ≠ g19 ∧ k_ ≠ g243)) HF313.out hg (fun k_ hk_ he_ => hk_.2.2.2.2 (Option.some.inj he_)))
          replace BKg1 := Aside0.mk (blk_grown (o := .cells #[.slice A2 l2.length c2] 24 (0, 0)) BKg1.out hg (fun he_ => NEg1_g243.out (Option.some.inj he_)))
          replace BKg5 := Aside0.mk (blk_grown (o := .cells #[.int .i64 0, .bool false, .int .i64 0, .string (⟨#[]⟩ : ByteArray), .slice none 0 0] 28 (0, 0)) BKg5.out hg (fun he_ => NEg5_g243.out (Option.some.inj he_)))
          replace BKg19 := Aside0.mk (blk_grown (o := .cells #[.int .i64 0, .bool false, .int .i64 0, .string (⟨#[]⟩ : ByteArray), .slice none 0 0] 28 (0, 0)) BKg19.out hg (fun he_ => NEg19_g243.out (Option.some.inj he_)))
          replace HB := Aside0.mk (Below.grown HB.out hg (below_size HB.out) (fun k_ hk_ => by injection hk_ with hk_; rw [← hk_]; exact GEg243.out))
          replace BKg243 := Aside0.mk hbk
          clear hg hbk
          clear hz347 hf348 hz349 hz350 hz351 hz352 hz353 hf354 hf355 hf356 hf357 hf358 hz359 hz360 hz361 hz362 hz363 hf364 hf365 hf366 hf367 hf368 hz369 hz370 hz371 hz372 hz373 hf374 hf375 hf376 hf377 hf378
          have hz380 : w379.cell? ⟨g1, 0, none⟩ = some (.slice A2 l2.length c2) := (blk_cell BKg1.out 0).trans rfl
          have hf381 := blk_frozen BKg1.out 0
          have hz382 : w379.cell? ⟨g5, 0, none⟩ = some (.int .i64 0) := (blk_cell BKg5.out 0).trans rfl
          have hz383 : w379.cell? ⟨g5, 1, none⟩ = some (.bool false) := (blk_cell BKg5.out 1).trans rfl
          have hz384 : w379.cell? ⟨g5, 2, none⟩ = some (.int .i64 0) := (blk_cell BKg5.out 2).trans rfl
          have hz385 : w379.cell? ⟨g5, 3, none⟩ = some (.string (⟨#[]⟩ : ByteArray)) := (blk_cell BKg5.out 3).trans rfl
          have hz386 : w379.cell? ⟨g5, 4, none⟩ = some (.slice none 0 0) := (blk_cell BKg5.out 4).trans rfl
          have hf387 := blk_frozen BKg5.out 0
          have hf388 := blk_frozen BKg5.out 1
          have hf389 := blk_frozen BKg5.out 2
          have hf390 := blk_frozen BKg5.out 3
          have hf391 := blk_frozen BKg5.out 4
          have hz392 : w379.cell? ⟨g19, 0, none⟩ = some (.int .i64 0) := (blk_cell BKg19.out 0).trans rfl
          have hz393 : w379.cell? ⟨g19, 1, none⟩ = some (.bool false) := (blk_cell BKg19.out 1).trans rfl
          have hz394 : w379.cell? ⟨g19, 2, none⟩ = some (.int .i64 0) := (blk_cell BKg19.out 2).trans rfl
          have hz395 : w379.cell? ⟨g19, 3, none⟩ = some (.string (⟨#[]⟩ : ByteArray)) := (blk_cell BKg19.out 3).trans rfl
          have hz396 : w379.cell? ⟨g19, 4, none⟩ = some (.slice none 0 0) := (blk_cell BKg19.out 4).trans rfl
          have hf397 := blk_frozen BKg19.out 0
          have hf398 := blk_frozen BKg19.out 1
          have hf399 := blk_frozen BKg19.out 2
          have hf400 := blk_frozen BKg19.out 3
          have hf401 := blk_frozen BKg19.out 4
          have hz402 : w379.cell? ⟨g243, 0, none⟩ = some (.int .i64 a0) := (blk_cell BKg243.out 0).trans rfl
          have hz403 : w379.cell? ⟨g243, 1, none⟩ = some (.bool true) := (blk_cell BKg243.out 1).trans rfl
          have hz404 : w379.cell? ⟨g243, 2, none⟩ = some (.int .i64 a1) := (blk_cell BKg243.out 2).trans rfl
          have hz405 : w379.cell? ⟨g243, 3, none⟩ = some (.string (⟨#[]⟩ : ByteArray)) := (blk_cell BKg243.out 3).trans rfl
          have hz406 : w379.cell? ⟨g243, 4, none⟩ = some (.slice A313 t310.length cp313) := (blk_cell BKg243.out 4).trans rfl
          have hf407 := blk_frozen BKg243.out 0
          have hf408 := blk_frozen BKg243.out 1
          have hf409 := blk_frozen BKg243.out 2
          have hf410 := blk_frozen BKg243.out 3
          have hf411 := blk_frozen BKg243.out 4
          go_wp2
          go_end0
          refine ⟨_, rfl, ?_⟩
          go_wp2_with (((with_reducible refine gate_store (t := 28) (p := 6) rfl ?_); (try (refine gate_guard (by rfl) ?_; dsimp only)); refine MW.ev_store #[.int .i64 a0, .bool true, .int .i64 a1, .string (⟨#[]⟩ : ByteArray), .slice A313 t310.length cp313] rfl rfl rfl rfl (cs := #[.int .i64 0, .bool false, .int .i64 0, .string (⟨#[]⟩ : ByteArray), .slice none 0 0]) (ty := 28) BKg19.out [.int .i64 a0, .bool true, .int .i64 a1, .string (⟨#[]⟩ : ByteArray), .slice A313 t310.length cp313] rfl (by kernel_rfl) (by simp) (by simp [Value.oneCell']) rfl ?_; intro w412 hbk hg); replace hbk := Aside0.mk hbk; refine stop_ ?_)
          refine Stop.go ?_
          replace hbk := hbk.out
          replace HF2 := Aside0.mk (Kd.F_grown (ok := (fun k_ => (P_ k_ ∨ w.heap.size ≤ k_) ∧ k_ ≠ g1 ∧ k_ ≠ g5 ∧ k_ ≠ g19 ∧ k_ ≠ g243)) HF2.out hg (fun k_ hk_ he_ => hk_.2.2.2.1 (Option.some.inj he_)))
          replace HF313 := Aside0.mk (Kd.F_grown (ok := (fun k_ => (P_ k_ ∨ w.heap.size ≤ k_) ∧ k_ ≠ g1 ∧ k_ ≠ g5 ∧ k_ ≠ g19 ∧ k_ ≠ g243)) HF313.out hg (fun k_ hk_ he_ => hk_.2.2.2.1 (Option.some.inj he_)))
          replace BKg1 := Aside0.mk (blk_grown (o := .cells #[.slice A2 l2.length c2] 24 (0, 0)) BKg1.out hg (fun he_ => NEg1_g19.out (Option.some.inj he_)))
          replace BKg5 := Aside0.mk (blk_grown (o := .cells #[.int .i64 0, .bool false, .int .i64 0, .string (⟨#[]⟩ : ByteArray), .slice none 0 0] 28 (0, 0)) BKg5.out hg (fun he_ => NEg5_g19.out (Option.some.inj he_)))
          replace BKg243 := Aside0.mk (blk_grown (o := .cells #[.int .i64 a0, .bool true, .int .i64 a1, .string (⟨#[]⟩ : ByteArray), .slice A313 t310.length cp313] 28 (0, 0)) BKg243.out hg (fun he_ => NEg243_g19.out (Option.some.inj he_)))
          replace HB := Aside0.mk (Below.grown HB.out hg (below_size HB.out) (fun k_ hk_ => by injection hk_ with hk_; rw [← hk_]; exact GEg19.out))
          replace BKg19 := Aside0.mk hbk
          clear hg hbk
          clear hz380 hf381 hz382 hz383 hz384 hz385 hz386 hf387 hf388 hf389 hf390 hf391 hz392 hz393 hz394 hz395 hz396 hf397 hf398 hf399 hf400 hf401 hz402 hz403 hz404 hz405 hz406 hf407 hf408 hf409 hf410 hf411
          have hz413 : w412.cell? ⟨g1, 0, none⟩ = some (.slice A2 l2.length c2) := (blk_cell BKg1.out 0).trans rfl
          have hf414 := blk_frozen BKg1.out 0
          have hz415 : w412.cell? ⟨g5, 0, none⟩ = some (.int .i64 0) := (blk_cell BKg5.out 0).trans rfl
          have hz416 : w412.cell? ⟨g5, 1, none⟩ = some (.bool false) := (blk_cell BKg5.out 1).trans rfl
          have hz417 : w412.cell? ⟨g5, 2, none⟩ = some (.int .i64 0) := (blk_cell BKg5.out 2).trans rfl
          have hz418 : w412.cell? ⟨g5, 3, none⟩ = some (.string (⟨#[]⟩ : ByteArray)) := (blk_cell BKg5.out 3).trans rfl
          have hz419 : w412.cell? ⟨g5, 4, none⟩ = some (.slice none 0 0) := (blk_cell BKg5.out 4).trans rfl
          have hf420 := blk_frozen BKg5.out 0
          have hf421 := blk_frozen BKg5.out 1
          have hf422 := blk_frozen BKg5.out 2
          have hf423 := blk_frozen BKg5.out 3
          have hf424 := blk_frozen BKg5.out 4
          have hz425 : w412.cell? ⟨g19, 0, none⟩ = some (.int .i64 a0) := (blk_cell BKg19.out 0).trans rfl
          have hz426 : w412.cell? ⟨g19, 1, none⟩ = some (.bool true) := (blk_cell BKg19.out 1).trans rfl
          have hz427 : w412.cell? ⟨g19, 2, none⟩ = some (.int .i64 a1) := (blk_cell BKg19.out 2).trans rfl
          have hz428 : w412.cell? ⟨g19, 3, none⟩ = some (.string (⟨#[]⟩ : ByteArray)) := (blk_cell BKg19.out 3).trans rfl
          have hz429 : w412.cell? ⟨g19, 4, none⟩ = some (.slice A313 t310.length cp313) := (blk_cell BKg19.out 4).trans rfl
          have hf430 := blk_frozen BKg19.out 0
          have hf431 := blk_frozen BKg19.out 1
          have hf432 := blk_frozen BKg19.out 2
          have hf433 := blk_frozen BKg19.out 3
          have hf434 := blk_frozen BKg19.out 4
          have hz435 : w412.cell? ⟨g243, 0, none⟩ = some (.int .i64 a0) := (blk_cell BKg243.out 0).trans rfl
          have hz436 : w412.cell? ⟨g243, 1, none⟩ = some (.bool true) := (blk_cell BKg243.out 1).trans rfl
          have hz437 : w412.cell? ⟨g243, 2, none⟩ = some (.int .i64 a1) := (blk_cell BKg243.out 2).trans rfl
          have hz438 : w412.cell? ⟨g243, 3, none⟩ = some (.string (⟨#[]⟩ : ByteArray)) := (blk_cell BKg243.out 3).trans rfl
          have hz439 : w412.cell? ⟨g243, 4, none⟩ = some (.slice A313 t310.length cp313) := (blk_cell BKg243.out 4).trans rfl
          have hf440 := blk_frozen BKg243.out 0
          have hf441 := blk_frozen BKg243.out 1
          have hf442 := blk_frozen BKg243.out 2
          have hf443 := blk_frozen BKg243.out 3
          have hf444 := blk_frozen BKg243.out 4
          go_wp2
          refine bodyPost_ret (results_ct rfl _ _ g19 28 #[.int .i64 a0, .bool true, .int .i64 a1, .string (⟨#[]⟩ : ByteArray), .slice A313 t310.length cp313] (0, 0) _ rfl BKg19.out Try.underlying28 rfl (by kernel_rfl)) rfl ?_
          refine ⟨_, rfl, ?_⟩
          go_wp2_with (((with_reducible refine gate_store (t := 28) (p := 6) rfl ?_); (try (refine gate_guard (by rfl) ?_; dsimp only)); refine MW.ev_store #[.int .i64 a0, .bool true, .int .i64 a1, .string (⟨#[]⟩ : ByteArray), .slice A313 t310.length cp313] rfl rfl rfl rfl (cs := #[.int .i64 0, .bool false, .int .i64 0, .string (⟨#[]⟩ : ByteArray), .slice none 0 0]) (ty := 28) BKg5.out [.int .i64 a0, .bool true, .int .i64 a1, .string (⟨#[]⟩ : ByteArray), .slice A313 t310.length cp313] rfl (by kernel_rfl) (by simp) (by simp [Value.oneCell']) rfl ?_; intro w445 hbk hg); replace hbk := Aside0.mk hbk; refine stop_ ?_)
          refine Stop.go ?_
          replace hbk := hbk.out
          replace HF2 := Aside0.mk (Kd.F_grown (ok := (fun k_ => (P_ k_ ∨ w.heap.size ≤ k_) ∧ k_ ≠ g1 ∧ k_ ≠ g5 ∧ k_ ≠ g19 ∧ k_ ≠ g243)) HF2.out hg (fun k_ hk_ he_ => hk_.2.2.1 (Option.some.inj he_)))
          replace HF313 := Aside0.mk (Kd.F_grown (ok := (fun k_ => (P_ k_ ∨ w.heap.size ≤ k_) ∧ k_ ≠ g1 ∧ k_ ≠ g5 ∧ k_ ≠ g19 ∧ k_ ≠ g243)) HF313.out hg (fun k_ hk_ he_ => hk_.2.2.1 (Option.some.inj he_)))
          replace BKg1 := Aside0.mk (blk_grown (o := .cells #[.slice A2 l2.length c2] 24 (0, 0)) BKg1.out hg (fun he_ => NEg1_g5.out (Option.some.inj he_)))
          replace BKg19 := Aside0.mk (blk_grown (o := .cells #[.int .i64 a0, .bool true, .int .i64 a1, .string (⟨#[]⟩ : ByteArray), .slice A313 t310.length cp313] 28 (0, 0)) BKg19.out hg (fun he_ => NEg19_g5.out (Option.some.inj he_)))
          replace BKg243 := Aside0.mk (blk_grown (o := .cells #[.int .i64 a0, .bool true, .int .i64 a1, .string (⟨#[]⟩ : ByteArray), .slice A313 t310.length cp313] 28 (0, 0)) BKg243.out hg (fun he_ => NEg243_g5.out (Option.some.inj he_)))
          replace HB := Aside0.mk (Below.grown HB.out hg (below_size HB.out) (fun k_ hk_ => by injection hk_ with hk_; rw [← hk_]; exact GEg5.out))
          replace BKg5 := Aside0.mk hbk
          clear hg hbk
          clear hz413 hf414 hz415 hz416 hz417 hz418 hz419 hf420 hf421 hf422 hf423 hf424 hz425 hz426 hz427 hz428 hz429 hf430 hf431 hf432 hf433 hf434 hz435 hz436 hz437 hz438 hz439 hf440 hf441 hf442 hf443 hf444
          have hz446 : w445.cell? ⟨g1, 0, none⟩ = some (.slice A2 l2.length c2) := (blk_cell BKg1.out 0).trans rfl
          have hf447 := blk_frozen BKg1.out 0
          have hz448 : w445.cell? ⟨g5, 0, none⟩ = some (.int .i64 a0) := (blk_cell BKg5.out 0).trans rfl
          have hz449 : w445.cell? ⟨g5, 1, none⟩ = some (.bool true) := (blk_cell BKg5.out 1).trans rfl
          have hz450 : w445.cell? ⟨g5, 2, none⟩ = some (.int .i64 a1) := (blk_cell BKg5.out 2).trans rfl
          have hz451 : w445.cell? ⟨g5, 3, none⟩ = some (.string (⟨#[]⟩ : ByteArray)) := (blk_cell BKg5.out 3).trans rfl
          have hz452 : w445.cell? ⟨g5, 4, none⟩ = some (.slice A313 t310.length cp313) := (blk_cell BKg5.out 4).trans rfl
          have hf453 := blk_frozen BKg5.out 0
          have hf454 := blk_frozen BKg5.out 1
          have hf455 := blk_frozen BKg5.out 2
          have hf456 := blk_frozen BKg5.out 3
          have hf457 := blk_frozen BKg5.out 4
          have hz458 : w445.cell? ⟨g19, 0, none⟩ = some (.int .i64 a0) := (blk_cell BKg19.out 0).trans rfl
          have hz459 : w445.cell? ⟨g19, 1, none⟩ = some (.bool true) := (blk_cell BKg19.out 1).trans rfl
          have hz460 : w445.cell? ⟨g19, 2, none⟩ = some (.int .i64 a1) := (blk_cell BKg19.out 2).trans rfl
          have hz461 : w445.cell? ⟨g19, 3, none⟩ = some (.string (⟨#[]⟩ : ByteArray)) := (blk_cell BKg19.out 3).trans rfl
          have hz462 : w445.cell? ⟨g19, 4, none⟩ = some (.slice A313 t310.length cp313) := (blk_cell BKg19.out 4).trans rfl
          have hf463 := blk_frozen BKg19.out 0
          have hf464 := blk_frozen BKg19.out 1
          have hf465 := blk_frozen BKg19.out 2
          have hf466 := blk_frozen BKg19.out 3
          have hf467 := blk_frozen BKg19.out 4
          have hz468 : w445.cell? ⟨g243, 0, none⟩ = some (.int .i64 a0) := (blk_cell BKg243.out 0).trans rfl
          have hz469 : w445.cell? ⟨g243, 1, none⟩ = some (.bool true) := (blk_cell BKg243.out 1).trans rfl
          have hz470 : w445.cell? ⟨g243, 2, none⟩ = some (.int .i64 a1) := (blk_cell BKg243.out 2).trans rfl
          have hz471 : w445.cell? ⟨g243, 3, none⟩ = some (.string (⟨#[]⟩ : ByteArray)) := (blk_cell BKg243.out 3).trans rfl
          have hz472 : w445.cell? ⟨g243, 4, none⟩ = some (.slice A313 t310.length cp313) := (blk_cell BKg243.out 4).trans rfl
          have hf473 := blk_frozen BKg243.out 0
          have hf474 := blk_frozen BKg243.out 1
          have hf475 := blk_frozen BKg243.out 2
          have hf476 := blk_frozen BKg243.out 3
          have hf477 := blk_frozen BKg243.out 4
          have H := HH.out
          simp only [Option.some.injEq, Prod.mk.injEq] at H
          obtain ⟨rfl, rfl, rfl, rfl, rfl, rfl⟩ := H
          clear HH
          go_wp2
          refine bodyPost_ret (results_ct rfl _ _ g5 28 #[.int .i64 a0, .bool true, .int .i64 a1, .string (⟨#[]⟩ : ByteArray), .slice A313 t310.length cp313] (0, 0) _ rfl BKg5.out Try.underlying28 rfl (by kernel_rfl)) rfl ?_
          exact ⟨_, _, by first | rfl | (simp; done) | (simp [*]; done), HL313.out, (Kd.F_mono (ok := (fun k_ => (P_ k_ ∨ w.heap.size ≤ k_) ∧ k_ ≠ g1 ∧ k_ ≠ g5 ∧ k_ ≠ g19 ∧ k_ ≠ g243)) HF313.out (fun k_ hk_ => hk_.1)), HB.out⟩

end Go.Proofs.Ytliackbiljhioaa.GA
