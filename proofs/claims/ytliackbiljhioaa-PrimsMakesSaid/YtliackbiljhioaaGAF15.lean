-- written by wip/gen.py, a program of this session
import Derived.Test.YtliackbiljhioaaGA0
import Derived.Test.YtliackbiljhioaaGAF35
namespace Go.Proofs.Ytliackbiljhioaa.GA
open Go.RowKit Go.Proofs.Ytliackbiljhioaa Go.Proofs.Ytliackbiljhioaa.MW Go.Proofs.YtliackbiljhioaaW.PrintWords Go.Proofs.YtliackbiljhioaaW.PrintLast Go.Proofs.YtliackbiljhioaaW.PrintMore
attribute [local go_sem] max2_int min2_int max_two min_two
set_option linter.unusedVariables false
set_option linter.unusedSimpArgs false

/-! ### prims_Int: function 15 -/
def prims_Int.f (k : Nat) (a0 : Int) (a1 : Int) (a2 : Int) : Option (Int × Bool × Int × ByteArray × (List (S28)) × Int) := if a2 < (-2147483648) then (some (0, false, 0, (⟨#[]⟩ : ByteArray), ([] : List (S28)), 2)) else (if a2 > 2147483647 then (some (0, false, 0, (⟨#[]⟩ : ByteArray), ([] : List (S28)), 2)) else (if a0 < 0 then (some (0, false, 0, (⟨#[]⟩ : ByteArray), ([] : List (S28)), 2)) else (if a0 > 3 then (some (0, false, 0, (⟨#[]⟩ : ByteArray), ([] : List (S28)), 2)) else (if a1 < 0 then (some (0, false, 0, (⟨#[]⟩ : ByteArray), ([] : List (S28)), 2)) else (if a1 > 30 then (some (0, false, 0, (⟨#[]⟩ : ByteArray), ([] : List (S28)), 2)) else ((prims_signed.f k (wrap32 (a2))).bind fun t344 => (some (a0, false, a1, t344, ([] : List (S28)), 0))))))))
theorem prims_Int.mono : ∀ a0_ a1_ a2_ k, LeO (prims_Int.f k a0_ a1_ a2_) (prims_Int.f (k + 1) a0_ a1_ a2_) := by
  intro a0_ a1_ a2_ k
  unfold prims_Int.f
  repeat' first
      | (with_reducible exact prims_signed.mono _ _)
      | (with_reducible exact LeO.refl _)
      | (with_reducible exact LeO.none _)
      | (with_reducible refine LeO.ite ?_ ?_)
      | (with_reducible refine LeO.bind ?_ (fun _ => ?_))
      | exact prims_signed.mono _ _
      | exact LeO.none _
      | refine LeO.ite ?_ ?_
      | refine LeO.bind ?_ (fun _ => ?_)
set_option maxHeartbeats 8000000 in
set_option maxRecDepth 100000 in
theorem prims_Int.calls (k : Nat) (a0 : Int) (a1 : Int) (a2 : Int) (r1 : Int) (r2 : Bool) (r3 : Int) (r4 : ByteArray) (r5 : List (S28)) (r6 : Int) (w : World) (h : prims_Int.f k a0 a1 a2 = some (r1, r2, r3, r4, r5, r6)) :
    Calls Try.prog 15 #[.int .i64 a0, .int .i64 a1, .int .i64 a2] w (fun e w' => ∃ v4_ : Value, e = .returned (.tuple #[.agg #[.int .i64 r1, .bool r2, .int .i64 r3, .string r4, v4_], .int .i64 r6]) ∧ Kd.N k28 28 w' w.heap.size (fun k_ => w.heap.size ≤ k_) v4_ r5 ∧ Below w.heap.size w w') := by
  have HH := Aside0.mk (show (if a2 < (-2147483648) then (some (0, false, 0, (⟨#[]⟩ : ByteArray), ([] : List (S28)), 2)) else (if a2 > 2147483647 then (some (0, false, 0, (⟨#[]⟩ : ByteArray), ([] : List (S28)), 2)) else (if a0 < 0 then (some (0, false, 0, (⟨#[]⟩ : ByteArray), ([] : List (S28)), 2)) else (if a0 > 3 then (some (0, false, 0, (⟨#[]⟩ : ByteArray), ([] : List (S28)), 2)) else (if a1 < 0 then (some (0, false, 0, (⟨#[]⟩ : ByteArray), ([] : List (S28)), 2)) else (if a1 > 30 then (some (0, false, 0, (⟨#[]⟩ : ByteArray), ([] : List (S28)), 2)) else ((prims_signed.f k (wrap32 (a2))).bind fun t344 => (some (a0, false, a1, t344, ([] : List (S28)), 0))))))))) = some (r1, r2, r3, r4, r5, r6) from h)
  clear h
  have HB := Aside0.mk (Below.refl w.heap.size w)
  have hu28 := Try.underlying28
  go_enter Try.func15, Try.ntmps15
  go_wp2_with (((with_reducible refine gate_dst (N := 5) rfl ?_); (try (refine gate_guard (by rfl) ?_; dsimp only)); refine box_event ?hg (N := 5) ?hd (cs := #[.int .i64 a2]) (t := 3) ?hr ?_; (case hd => rfl); (case hg => rfl); (case hr => first | (go_simp; done) | (go_simp; rfl)); intro g1 hg w2 hbox hb); replace hg := Aside0.mk hg; replace hbox := Aside0.mk hbox; refine stop_ ?_)
  refine Stop.go ?_
  replace hg := hg.out
  replace hbox := hbox.out
  have GEg1 := Aside0.mk (by rw [hg]; exact (below_size HB.out) : w.heap.size ≤ g1)
  replace HB := Aside0.mk (below_step HB.out hb)
  have BKg1 := Aside0.mk hbox
  clear hg hbox hb
  have hz3 : w2.cell? ⟨g1, 0, none⟩ = some (.int .i64 a2) := (blk_cell BKg1.out 0).trans rfl
  have hf4 := blk_frozen BKg1.out 0
  go_wp2_with (((with_reducible refine gate_dst (N := 6) rfl ?_); (try (refine gate_guard (by rfl) ?_; dsimp only)); refine box_event ?hg (N := 6) ?hd (cs := #[.int .i64 0, .bool false, .int .i64 0, .string (⟨#[]⟩ : ByteArray), .slice none 0 0]) (t := 28) ?hr ?_; (case hd => rfl); (case hg => rfl); (case hr => first | (go_simp; done) | (go_simp; rfl)); intro g5 hg w6 hbox hb); replace hg := Aside0.mk hg; replace hbox := Aside0.mk hbox; refine stop_ ?_)
  refine Stop.go ?_
  replace hg := hg.out
  replace hbox := hbox.out
  have GEg5 := Aside0.mk (by rw [hg]; exact (below_size HB.out) : w.heap.size ≤ g5)
  have NEg1_g5 := Aside0.mk (by rw [hg]; exact Nat.ne_of_lt (blk_lt (o := .cells #[.int .i64 a2] 3 (0, 0)) BKg1.out) : g1 ≠ g5)
  have NEg5_g1 := Aside0.mk (Ne.symm NEg1_g5.out)
  replace BKg1 := Aside0.mk (blk_below (o := .cells #[.int .i64 a2] 3 (0, 0)) BKg1.out hb)
  replace HB := Aside0.mk (below_step HB.out hb)
  have BKg5 := Aside0.mk hbox
  clear hg hbox hb
  clear hz3 hf4
  have hz7 : w6.cell? ⟨g1, 0, none⟩ = some (.int .i64 a2) := (blk_cell BKg1.out 0).trans rfl
  have hf8 := blk_frozen BKg1.out 0
  have hz9 : w6.cell? ⟨g5, 0, none⟩ = some (.int .i64 0) := (blk_cell BKg5.out 0).trans rfl
  have hz10 : w6.cell? ⟨g5, 1, none⟩ = some (.bool false) := (blk_cell BKg5.out 1).trans rfl
  have hz11 : w6.cell? ⟨g5, 2, none⟩ = some (.int .i64 0) := (blk_cell BKg5.out 2).trans rfl
  have hz12 : w6.cell? ⟨g5, 3, none⟩ = some (.string (⟨#[]⟩ : ByteArray)) := (blk_cell BKg5.out 3).trans rfl
  have hz13 : w6.cell? ⟨g5, 4, none⟩ = some (.slice none 0 0) := (blk_cell BKg5.out 4).trans rfl
  have hf14 := blk_frozen BKg5.out 0
  have hf15 := blk_frozen BKg5.out 1
  have hf16 := blk_frozen BKg5.out 2
  have hf17 := blk_frozen BKg5.out 3
  have hf18 := blk_frozen BKg5.out 4
  by_cases c19 : a2 < (-2147483648)
  · have H := HH.out
    rw [if_pos c19] at H
    replace HH := Aside0.mk H
    clear H
    have hk20 : (a2 < (-2147483648)) = True := eq_true c19
    have hk21 : decide (a2 < (-2147483648)) = true := decide_eq_true c19
    clear c19
    go_wp2_with (((with_reducible refine gate_store (t := 28) (p := 6) rfl ?_); (try (refine gate_guard (by rfl) ?_; dsimp only)); refine MW.ev_store #[.int .i64 0, .bool false, .int .i64 0, .string (⟨#[]⟩ : ByteArray), .slice none 0 0] rfl rfl rfl rfl (cs := #[.int .i64 0, .bool false, .int .i64 0, .string (⟨#[]⟩ : ByteArray), .slice none 0 0]) (ty := 28) BKg5.out [.int .i64 0, .bool false, .int .i64 0, .string (⟨#[]⟩ : ByteArray), .slice none 0 0] rfl (by kernel_rfl) (by simp) (by simp [Value.oneCell']) rfl ?_; intro w22 hbk hg); replace hbk := Aside0.mk hbk; refine stop_ ?_)
    refine Stop.go ?_
    replace hbk := hbk.out
    replace BKg1 := Aside0.mk (blk_grown (o := .cells #[.int .i64 a2] 3 (0, 0)) BKg1.out hg (fun he_ => NEg1_g5.out (Option.some.inj he_)))
    replace HB := Aside0.mk (Below.grown HB.out hg (below_size HB.out) (fun k_ hk_ => by injection hk_ with hk_; rw [← hk_]; exact GEg5.out))
    replace BKg5 := Aside0.mk hbk
    clear hg hbk
    clear hz7 hf8 hz9 hz10 hz11 hz12 hz13 hf14 hf15 hf16 hf17 hf18
    have hz23 : w22.cell? ⟨g1, 0, none⟩ = some (.int .i64 a2) := (blk_cell BKg1.out 0).trans rfl
    have hf24 := blk_frozen BKg1.out 0
    have hz25 : w22.cell? ⟨g5, 0, none⟩ = some (.int .i64 0) := (blk_cell BKg5.out 0).trans rfl
    have hz26 : w22.cell? ⟨g5, 1, none⟩ = some (.bool false) := (blk_cell BKg5.out 1).trans rfl
    have hz27 : w22.cell? ⟨g5, 2, none⟩ = some (.int .i64 0) := (blk_cell BKg5.out 2).trans rfl
    have hz28 : w22.cell? ⟨g5, 3, none⟩ = some (.string (⟨#[]⟩ : ByteArray)) := (blk_cell BKg5.out 3).trans rfl
    have hz29 : w22.cell? ⟨g5, 4, none⟩ = some (.slice none 0 0) := (blk_cell BKg5.out 4).trans rfl
    have hf30 := blk_frozen BKg5.out 0
    have hf31 := blk_frozen BKg5.out 1
    have hf32 := blk_frozen BKg5.out 2
    have hf33 := blk_frozen BKg5.out 3
    have hf34 := blk_frozen BKg5.out 4
    have H := HH.out
    simp only [Option.some.injEq, Prod.mk.injEq] at H
    obtain ⟨rfl, rfl, rfl, rfl, rfl, rfl⟩ := H
    clear HH
    go_wp2
    refine bodyPost_ret (results_ct rfl _ _ g5 28 #[.int .i64 0, .bool false, .int .i64 0, .string (⟨#[]⟩ : ByteArray), .slice none 0 0] (0, 0) _ rfl BKg5.out Try.underlying28 rfl (by kernel_rfl)) rfl ?_
    exact ⟨_, by first | rfl | (simp; done) | (simp [*]; done), (Kd.N_nil _ _ _ _ _), HB.out⟩
  · have H := HH.out
    rw [if_neg c19] at H
    replace HH := Aside0.mk H
    clear H
    have hk35 : (a2 < (-2147483648)) = False := eq_false c19
    have hk36 : decide (a2 < (-2147483648)) = false := decide_eq_false c19
    clear c19
    by_cases c37 : a2 > 2147483647
    · have H := HH.out
      rw [if_pos c37] at H
      replace HH := Aside0.mk H
      clear H
      have hk38 : decide (2147483647 < a2) = true := decide_eq_true c37
      clear c37
      go_wp2_with (((with_reducible refine gate_store (t := 28) (p := 6) rfl ?_); (try (refine gate_guard (by rfl) ?_; dsimp only)); refine MW.ev_store #[.int .i64 0, .bool false, .int .i64 0, .string (⟨#[]⟩ : ByteArray), .slice none 0 0] rfl rfl rfl rfl (cs := #[.int .i64 0, .bool false, .int .i64 0, .string (⟨#[]⟩ : ByteArray), .slice none 0 0]) (ty := 28) BKg5.out [.int .i64 0, .bool false, .int .i64 0, .string (⟨#[]⟩ : ByteArray), .slice none 0 0] rfl (by kernel_rfl) (by simp) (by simp [Value.oneCell']) rfl ?_; intro w39 hbk hg); replace hbk := Aside0.mk hbk; refine stop_ ?_)
      refine Stop.go ?_
      replace hbk := hbk.out
      replace BKg1 := Aside0.mk (blk_grown (o := .cells #[.int .i64 a2] 3 (0, 0)) BKg1.out hg (fun he_ => NEg1_g5.out (Option.some.inj he_)))
      replace HB := Aside0.mk (Below.grown HB.out hg (below_size HB.out) (fun k_ hk_ => by injection hk_ with hk_; rw [← hk_]; exact GEg5.out))
      replace BKg5 := Aside0.mk hbk
      clear hg hbk
      clear hz7 hf8 hz9 hz10 hz11 hz12 hz13 hf14 hf15 hf16 hf17 hf18
      have hz40 : w39.cell? ⟨g1, 0, none⟩ = some (.int .i64 a2) := (blk_cell BKg1.out 0).trans rfl
      have hf41 := blk_frozen BKg1.out 0
      have hz42 : w39.cell? ⟨g5, 0, none⟩ = some (.int .i64 0) := (blk_cell BKg5.out 0).trans rfl
      have hz43 : w39.cell? ⟨g5, 1, none⟩ = some (.bool false) := (blk_cell BKg5.out 1).trans rfl
      have hz44 : w39.cell? ⟨g5, 2, none⟩ = some (.int .i64 0) := (blk_cell BKg5.out 2).trans rfl
      have hz45 : w39.cell? ⟨g5, 3, none⟩ = some (.string (⟨#[]⟩ : ByteArray)) := (blk_cell BKg5.out 3).trans rfl
      have hz46 : w39.cell? ⟨g5, 4, none⟩ = some (.slice none 0 0) := (blk_cell BKg5.out 4).trans rfl
      have hf47 := blk_frozen BKg5.out 0
      have hf48 := blk_frozen BKg5.out 1
      have hf49 := blk_frozen BKg5.out 2
      have hf50 := blk_frozen BKg5.out 3
      have hf51 := blk_frozen BKg5.out 4
      have H := HH.out
      simp only [Option.some.injEq, Prod.mk.injEq] at H
      obtain ⟨rfl, rfl, rfl, rfl, rfl, rfl⟩ := H
      clear HH
      go_wp2
      refine bodyPost_ret (results_ct rfl _ _ g5 28 #[.int .i64 0, .bool false, .int .i64 0, .string (⟨#[]⟩ : ByteArray), .slice none 0 0] (0, 0) _ rfl BKg5.out Try.underlying28 rfl (by kernel_rfl)) rfl ?_
      exact ⟨_, by first | rfl | (simp; done) | (simp [*]; done), (Kd.N_nil _ _ _ _ _), HB.out⟩
    · have H := HH.out
      rw [if_neg c37] at H
      replace HH := Aside0.mk H
      clear H
      have hk52 : decide (2147483647 < a2) = false := decide_eq_false c37
      clear c37
      go_wp2_with (((with_reducible refine gate_callee (f := 29) rfl ?_); (try (refine gate_guard (by rfl) ?_; dsimp only)); refine goesL_ (some 18) rfl rfl Try.func29 (by kernel_rfl) rfl #[.int .i64 a0, .int .i64 a1, .func (.func 36) #[] #[.pointer (some ⟨g1, 0, none⟩)]] rfl (by (try simp only [List.map_toArray, List.map_cons, List.map_nil]); first | done | rfl) ?_); refine stop_ ?_)
      refine Stop.go ?_
      go_enter Try.func29, Try.ntmps29
      go_wp2_with (((with_reducible refine gate_dst (N := 6) rfl ?_); (try (refine gate_guard (by rfl) ?_; dsimp only)); refine box_event ?hg (N := 6) ?hd (cs := #[.int .i64 0, .bool false, .int .i64 0, .string (⟨#[]⟩ : ByteArray), .slice none 0 0]) (t := 28) ?hr ?_; (case hd => rfl); (case hg => rfl); (case hr => first | (go_simp; done) | (go_simp; rfl)); intro g53 hg w54 hbox hb); replace hg := Aside0.mk hg; replace hbox := Aside0.mk hbox; refine stop_ ?_)
      refine Stop.go ?_
      replace hg := hg.out
      replace hbox := hbox.out
      have GEg53 := Aside0.mk (by rw [hg]; exact (below_size HB.out) : w.heap.size ≤ g53)
      have NEg1_g53 := Aside0.mk (by rw [hg]; exact Nat.ne_of_lt (blk_lt (o := .cells #[.int .i64 a2] 3 (0, 0)) BKg1.out) : g1 ≠ g53)
      have NEg53_g1 := Aside0.mk (Ne.symm NEg1_g53.out)
      have NEg5_g53 := Aside0.mk (by rw [hg]; exact Nat.ne_of_lt (blk_lt (o := .cells #[.int .i64 0, .bool false, .int .i64 0, .string (⟨#[]⟩ : ByteArray), .slice none 0 0] 28 (0, 0)) BKg5.out) : g5 ≠ g53)
      have NEg53_g5 := Aside0.mk (Ne.symm NEg5_g53.out)
      replace BKg1 := Aside0.mk (blk_below (o := .cells #[.int .i64 a2] 3 (0, 0)) BKg1.out hb)
      replace BKg5 := Aside0.mk (blk_below (o := .cells #[.int .i64 0, .bool false, .int .i64 0, .string (⟨#[]⟩ : ByteArray), .slice none 0 0] 28 (0, 0)) BKg5.out hb)
      replace HB := Aside0.mk (below_step HB.out hb)
      have BKg53 := Aside0.mk hbox
      clear hg hbox hb
      clear hz7 hf8 hz9 hz10 hz11 hz12 hz13 hf14 hf15 hf16 hf17 hf18
      have hz55 : w54.cell? ⟨g1, 0, none⟩ = some (.int .i64 a2) := (blk_cell BKg1.out 0).trans rfl
      have hf56 := blk_frozen BKg1.out 0
      have hz57 : w54.cell? ⟨g5, 0, none⟩ = some (.int .i64 0) := (blk_cell BKg5.out 0).trans rfl
      have hz58 : w54.cell? ⟨g5, 1, none⟩ = some (.bool false) := (blk_cell BKg5.out 1).trans rfl
      have hz59 : w54.cell? ⟨g5, 2, none⟩ = some (.int .i64 0) := (blk_cell BKg5.out 2).trans rfl
      have hz60 : w54.cell? ⟨g5, 3, none⟩ = some (.string (⟨#[]⟩ : ByteArray)) := (blk_cell BKg5.out 3).trans rfl
      have hz61 : w54.cell? ⟨g5, 4, none⟩ = some (.slice none 0 0) := (blk_cell BKg5.out 4).trans rfl
      have hf62 := blk_frozen BKg5.out 0
      have hf63 := blk_frozen BKg5.out 1
      have hf64 := blk_frozen BKg5.out 2
      have hf65 := blk_frozen BKg5.out 3
      have hf66 := blk_frozen BKg5.out 4
      have hz67 : w54.cell? ⟨g53, 0, none⟩ = some (.int .i64 0) := (blk_cell BKg53.out 0).trans rfl
      have hz68 : w54.cell? ⟨g53, 1, none⟩ = some (.bool false) := (blk_cell BKg53.out 1).trans rfl
      have hz69 : w54.cell? ⟨g53, 2, none⟩ = some (.int .i64 0) := (blk_cell BKg53.out 2).trans rfl
      have hz70 : w54.cell? ⟨g53, 3, none⟩ = some (.string (⟨#[]⟩ : ByteArray)) := (blk_cell BKg53.out 3).trans rfl
      have hz71 : w54.cell? ⟨g53, 4, none⟩ = some (.slice none 0 0) := (blk_cell BKg53.out 4).trans rfl
      have hf72 := blk_frozen BKg53.out 0
      have hf73 := blk_frozen BKg53.out 1
      have hf74 := blk_frozen BKg53.out 2
      have hf75 := blk_frozen BKg53.out 3
      have hf76 := blk_frozen BKg53.out 4
      by_cases c77 : a0 < 0
      · have H := HH.out
        rw [if_pos c77] at H
        replace HH := Aside0.mk H
        clear H
        have hk78 : (a0 < 0) = True := eq_true c77
        have hk79 : decide (a0 < 0) = true := decide_eq_true c77
        clear c77
        go_wp2_with (((with_reducible refine gate_store (t := 28) (p := 6) rfl ?_); (try (refine gate_guard (by rfl) ?_; dsimp only)); refine MW.ev_store #[.int .i64 0, .bool false, .int .i64 0, .string (⟨#[]⟩ : ByteArray), .slice none 0 0] rfl rfl rfl rfl (cs := #[.int .i64 0, .bool false, .int .i64 0, .string (⟨#[]⟩ : ByteArray), .slice none 0 0]) (ty := 28) BKg53.out [.int .i64 0, .bool false, .int .i64 0, .string (⟨#[]⟩ : ByteArray), .slice none 0 0] rfl (by kernel_rfl) (by simp) (by simp [Value.oneCell']) rfl ?_; intro w80 hbk hg); replace hbk := Aside0.mk hbk; refine stop_ ?_)
        refine Stop.go ?_
        replace hbk := hbk.out
        replace BKg1 := Aside0.mk (blk_grown (o := .cells #[.int .i64 a2] 3 (0, 0)) BKg1.out hg (fun he_ => NEg1_g53.out (Option.some.inj he_)))
        replace BKg5 := Aside0.mk (blk_grown (o := .cells #[.int .i64 0, .bool false, .int .i64 0, .string (⟨#[]⟩ : ByteArray), .slice none 0 0] 28 (0, 0)) BKg5.out hg (fun he_ => NEg5_g53.out (Option.some.inj he_)))
        replace HB := Aside0.mk (Below.grown HB.out hg (below_size HB.out) (fun k_ hk_ => by injection hk_ with hk_; rw [← hk_]; exact GEg53.out))
        replace BKg53 := Aside0.mk hbk
        clear hg hbk
        clear hz55 hf56 hz57 hz58 hz59 hz60 hz61 hf62 hf63 hf64 hf65 hf66 hz67 hz68 hz69 hz70 hz71 hf72 hf73 hf74 hf75 hf76
        have hz81 : w80.cell? ⟨g1, 0, none⟩ = some (.int .i64 a2) := (blk_cell BKg1.out 0).trans rfl
        have hf82 := blk_frozen BKg1.out 0
        have hz83 : w80.cell? ⟨g5, 0, none⟩ = some (.int .i64 0) := (blk_cell BKg5.out 0).trans rfl
        have hz84 : w80.cell? ⟨g5, 1, none⟩ = some (.bool false) := (blk_cell BKg5.out 1).trans rfl
        have hz85 : w80.cell? ⟨g5, 2, none⟩ = some (.int .i64 0) := (blk_cell BKg5.out 2).trans rfl
        have hz86 : w80.cell? ⟨g5, 3, none⟩ = some (.string (⟨#[]⟩ : ByteArray)) := (blk_cell BKg5.out 3).trans rfl
        have hz87 : w80.cell? ⟨g5, 4, none⟩ = some (.slice none 0 0) := (blk_cell BKg5.out 4).trans rfl
        have hf88 := blk_frozen BKg5.out 0
        have hf89 := blk_frozen BKg5.out 1
        have hf90 := blk_frozen BKg5.out 2
        have hf91 := blk_frozen BKg5.out 3
        have hf92 := blk_frozen BKg5.out 4
        have hz93 : w80.cell? ⟨g53, 0, none⟩ = some (.int .i64 0) := (blk_cell BKg53.out 0).trans rfl
        have hz94 : w80.cell? ⟨g53, 1, none⟩ = some (.bool false) := (blk_cell BKg53.out 1).trans rfl
        have hz95 : w80.cell? ⟨g53, 2, none⟩ = some (.int .i64 0) := (blk_cell BKg53.out 2).trans rfl
        have hz96 : w80.cell? ⟨g53, 3, none⟩ = some (.string (⟨#[]⟩ : ByteArray)) := (blk_cell BKg53.out 3).trans rfl
        have hz97 : w80.cell? ⟨g53, 4, none⟩ = some (.slice none 0 0) := (blk_cell BKg53.out 4).trans rfl
        have hf98 := blk_frozen BKg53.out 0
        have hf99 := blk_frozen BKg53.out 1
        have hf100 := blk_frozen BKg53.out 2
        have hf101 := blk_frozen BKg53.out 3
        have hf102 := blk_frozen BKg53.out 4
        go_wp2
        refine bodyPost_ret (results_ct rfl _ _ g53 28 #[.int .i64 0, .bool false, .int .i64 0, .string (⟨#[]⟩ : ByteArray), .slice none 0 0] (0, 0) _ rfl BKg53.out Try.underlying28 rfl (by kernel_rfl)) rfl ?_
        refine ⟨_, rfl, ?_⟩
        go_wp2_with (((with_reducible refine gate_store (t := 28) (p := 6) rfl ?_); (try (refine gate_guard (by rfl) ?_; dsimp only)); refine MW.ev_store #[.int .i64 0, .bool false, .int .i64 0, .string (⟨#[]⟩ : ByteArray), .slice none 0 0] rfl rfl rfl rfl (cs := #[.int .i64 0, .bool false, .int .i64 0, .string (⟨#[]⟩ : ByteArray), .slice none 0 0]) (ty := 28) BKg5.out [.int .i64 0, .bool false, .int .i64 0, .string (⟨#[]⟩ : ByteArray), .slice none 0 0] rfl (by kernel_rfl) (by simp) (by simp [Value.oneCell']) rfl ?_; intro w103 hbk hg); replace hbk := Aside0.mk hbk; refine stop_ ?_)
        refine Stop.go ?_
        replace hbk := hbk.out
        replace BKg1 := Aside0.mk (blk_grown (o := .cells #[.int .i64 a2] 3 (0, 0)) BKg1.out hg (fun he_ => NEg1_g5.out (Option.some.inj he_)))
        replace BKg53 := Aside0.mk (blk_grown (o := .cells #[.int .i64 0, .bool false, .int .i64 0, .string (⟨#[]⟩ : ByteArray), .slice none 0 0] 28 (0, 0)) BKg53.out hg (fun he_ => NEg53_g5.out (Option.some.inj he_)))
        replace HB := Aside0.mk (Below.grown HB.out hg (below_size HB.out) (fun k_ hk_ => by injection hk_ with hk_; rw [← hk_]; exact GEg5.out))
        replace BKg5 := Aside0.mk hbk
        clear hg hbk
        clear hz81 hf82 hz83 hz84 hz85 hz86 hz87 hf88 hf89 hf90 hf91 hf92 hz93 hz94 hz95 hz96 hz97 hf98 hf99 hf100 hf101 hf102
        have hz104 : w103.cell? ⟨g1, 0, none⟩ = some (.int .i64 a2) := (blk_cell BKg1.out 0).trans rfl
        have hf105 := blk_frozen BKg1.out 0
        have hz106 : w103.cell? ⟨g5, 0, none⟩ = some (.int .i64 0) := (blk_cell BKg5.out 0).trans rfl
        have hz107 : w103.cell? ⟨g5, 1, none⟩ = some (.bool false) := (blk_cell BKg5.out 1).trans rfl
        have hz108 : w103.cell? ⟨g5, 2, none⟩ = some (.int .i64 0) := (blk_cell BKg5.out 2).trans rfl
        have hz109 : w103.cell? ⟨g5, 3, none⟩ = some (.string (⟨#[]⟩ : ByteArray)) := (blk_cell BKg5.out 3).trans rfl
        have hz110 : w103.cell? ⟨g5, 4, none⟩ = some (.slice none 0 0) := (blk_cell BKg5.out 4).trans rfl
        have hf111 := blk_frozen BKg5.out 0
        have hf112 := blk_frozen BKg5.out 1
        have hf113 := blk_frozen BKg5.out 2
        have hf114 := blk_frozen BKg5.out 3
        have hf115 := blk_frozen BKg5.out 4
        have hz116 : w103.cell? ⟨g53, 0, none⟩ = some (.int .i64 0) := (blk_cell BKg53.out 0).trans rfl
        have hz117 : w103.cell? ⟨g53, 1, none⟩ = some (.bool false) := (blk_cell BKg53.out 1).trans rfl
        have hz118 : w103.cell? ⟨g53, 2, none⟩ = some (.int .i64 0) := (blk_cell BKg53.out 2).trans rfl
        have hz119 : w103.cell? ⟨g53, 3, none⟩ = some (.string (⟨#[]⟩ : ByteArray)) := (blk_cell BKg53.out 3).trans rfl
        have hz120 : w103.cell? ⟨g53, 4, none⟩ = some (.slice none 0 0) := (blk_cell BKg53.out 4).trans rfl
        have hf121 := blk_frozen BKg53.out 0
        have hf122 := blk_frozen BKg53.out 1
        have hf123 := blk_frozen BKg53.out 2
        have hf124 := blk_frozen BKg53.out 3
        have hf125 := blk_frozen BKg53.out 4
        have H := HH.out
        simp only [Option.some.injEq, Prod.mk.injEq] at H
        obtain ⟨rfl, rfl, rfl, rfl, rfl, rfl⟩ := H
        clear HH
        go_wp2
        refine bodyPost_ret (results_ct rfl _ _ g5 28 #[.int .i64 0, .bool false, .int .i64 0, .string (⟨#[]⟩ : ByteArray), .slice none 0 0] (0, 0) _ rfl BKg5.out Try.underlying28 rfl (by kernel_rfl)) rfl ?_
        exact ⟨_, by first | rfl | (simp; done) | (simp [*]; done), (Kd.N_nil _ _ _ _ _), HB.out⟩
      · have H := HH.out
        rw [if_neg c77] at H
        replace HH := Aside0.mk H
        clear H
        have hk126 : (a0 < 0) = False := eq_false c77
        have hk127 : decide (a0 < 0) = false := decide_eq_false c77
        clear c77
        by_cases c128 : a0 > 3
        · have H := HH.out
          rw [if_pos c128] at H
          replace HH := Aside0.mk H
          clear H
          have hk129 : decide (3 < a0) = true := decide_eq_true c128
          clear c128
          go_wp2_with (((with_reducible refine gate_store (t := 28) (p := 6) rfl ?_); (try (refine gate_guard (by rfl) ?_; dsimp only)); refine MW.ev_store #[.int .i64 0, .bool false, .int .i64 0, .string (⟨#[]⟩ : ByteArray), .slice none 0 0] rfl rfl rfl rfl (cs := #[.int .i64 0, .bool false, .int .i64 0, .string (⟨#[]⟩ : ByteArray), .slice none 0 0]) (ty := 28) BKg53.out [.int .i64 0, .bool false, .int .i64 0, .string (⟨#[]⟩ : ByteArray), .slice none 0 0] rfl (by kernel_rfl) (by simp) (by simp [Value.oneCell']) rfl ?_; intro w130 hbk hg); replace hbk := Aside0.mk hbk; refine stop_ ?_)
          refine Stop.go ?_
          replace hbk := hbk.out
          replace BKg1 := Aside0.mk (blk_grown (o := .cells #[.int .i64 a2] 3 (0, 0)) BKg1.out hg (fun he_ => NEg1_g53.out (Option.some.inj he_)))
          replace BKg5 := Aside0.mk (blk_grown (o := .cells #[.int .i64 0, .bool false, .int .i64 0, .string (⟨#[]⟩ : ByteArray), .slice none 0 0] 28 (0, 0)) BKg5.out hg (fun he_ => NEg5_g53.out (Option.some.inj he_)))
          replace HB := Aside0.mk (Below.grown HB.out hg (below_size HB.out) (fun k_ hk_ => by injection hk_ with hk_; rw [← hk_]; exact GEg53.out))
          replace BKg53 := Aside0.mk hbk
          clear hg hbk
          clear hz55 hf56 hz57 hz58 hz59 hz60 hz61 hf62 hf63 hf64 hf65 hf66 hz67 hz68 hz69 hz70 hz71 hf72 hf73 hf74 hf75 hf76
          have hz131 : w130.cell? ⟨g1, 0, none⟩ = some (.int .i64 a2) := (blk_cell BKg1.out 0).trans rfl
          have hf132 := blk_frozen BKg1.out 0
          have hz133 : w130.cell? ⟨g5, 0, none⟩ = some (.int .i64 0) := (blk_cell BKg5.out 0).trans rfl
          have hz134 : w130.cell? ⟨g5, 1, none⟩ = some (.bool false) := (blk_cell BKg5.out 1).trans rfl
          have hz135 : w130.cell? ⟨g5, 2, none⟩ = some (.int .i64 0) := (blk_cell BKg5.out 2).trans rfl
          have hz136 : w130.cell? ⟨g5, 3, none⟩ = some (.string (⟨#[]⟩ : ByteArray)) := (blk_cell BKg5.out 3).trans rfl
          have hz137 : w130.cell? ⟨g5, 4, none⟩ = some (.slice none 0 0) := (blk_cell BKg5.out 4).trans rfl
          have hf138 := blk_frozen BKg5.out 0
          have hf139 := blk_frozen BKg5.out 1
          have hf140 := blk_frozen BKg5.out 2
          have hf141 := blk_frozen BKg5.out 3
          have hf142 := blk_frozen BKg5.out 4
          have hz143 : w130.cell? ⟨g53, 0, none⟩ = some (.int .i64 0) := (blk_cell BKg53.out 0).trans rfl
          have hz144 : w130.cell? ⟨g53, 1, none⟩ = some (.bool false) := (blk_cell BKg53.out 1).trans rfl
          have hz145 : w130.cell? ⟨g53, 2, none⟩ = some (.int .i64 0) := (blk_cell BKg53.out 2).trans rfl
          have hz146 : w130.cell? ⟨g53, 3, none⟩ = some (.string (⟨#[]⟩ : ByteArray)) := (blk_cell BKg53.out 3).trans rfl
          have hz147 : w130.cell? ⟨g53, 4, none⟩ = some (.slice none 0 0) := (blk_cell BKg53.out 4).trans rfl
          have hf148 := blk_frozen BKg53.out 0
          have hf149 := blk_frozen BKg53.out 1
          have hf150 := blk_frozen BKg53.out 2
          have hf151 := blk_frozen BKg53.out 3
          have hf152 := blk_frozen BKg53.out 4
          go_wp2
          refine bodyPost_ret (results_ct rfl _ _ g53 28 #[.int .i64 0, .bool false, .int .i64 0, .string (⟨#[]⟩ : ByteArray), .slice none 0 0] (0, 0) _ rfl BKg53.out Try.underlying28 rfl (by kernel_rfl)) rfl ?_
          refine ⟨_, rfl, ?_⟩
          go_wp2_with (((with_reducible refine gate_store (t := 28) (p := 6) rfl ?_); (try (refine gate_guard (by rfl) ?_; dsimp only)); refine MW.ev_store #[.int .i64 0, .bool false, .int .i64 0, .string (⟨#[]⟩ : ByteArray), .slice none 0 0] rfl rfl rfl rfl (cs := #[.int .i64 0, .bool false, .int .i64 0, .string (⟨#[]⟩ : ByteArray), .slice none 0 0]) (ty := 28) BKg5.out [.int .i64 0, .bool false, .int .i64 0, .string (⟨#[]⟩ : ByteArray), .slice none 0 0] rfl (by kernel_rfl) (by simp) (by simp [Value.oneCell']) rfl ?_; intro w153 hbk hg); replace hbk := Aside0.mk hbk; refine stop_ ?_)
          refine Stop.go ?_
          replace hbk := hbk.out
          replace BKg1 := Aside0.mk (blk_grown (o := .cells #[.int .i64 a2] 3 (0, 0)) BKg1.out hg (fun he_ => NEg1_g5.out (Option.some.inj he_)))
          replace BKg53 := Aside0.mk (blk_grown (o := .cells #[.int .i64 0, .bool false, .int .i64 0, .string (⟨#[]⟩ : ByteArray), .slice none 0 0] 28 (0, 0)) BKg53.out hg (fun he_ => NEg53_g5.out (Option.some.inj he_)))
          replace HB := Aside0.mk (Below.grown HB.out hg (below_size HB.out) (fun k_ hk_ => by injection hk_ with hk_; rw [← hk_]; exact GEg5.out))
          replace BKg5 := Aside0.mk hbk
          clear hg hbk
          clear hz131 hf132 hz133 hz134 hz135 hz136 hz137 hf138 hf139 hf140 hf141 hf142 hz143 hz144 hz145 hz146 hz147 hf148 hf149 hf150 hf151 hf152
          have hz154 : w153.cell? ⟨g1, 0, none⟩ = some (.int .i64 a2) := (blk_cell BKg1.out 0).trans rfl
          have hf155 := blk_frozen BKg1.out 0
          have hz156 : w153.cell? ⟨g5, 0, none⟩ = some (.int .i64 0) := (blk_cell BKg5.out 0).trans rfl
          have hz157 : w153.cell? ⟨g5, 1, none⟩ = some (.bool false) := (blk_cell BKg5.out 1).trans rfl
          have hz158 : w153.cell? ⟨g5, 2, none⟩ = some (.int .i64 0) := (blk_cell BKg5.out 2).trans rfl
          have hz159 : w153.cell? ⟨g5, 3, none⟩ = some (.string (⟨#[]⟩ : ByteArray)) := (blk_cell BKg5.out 3).trans rfl
          have hz160 : w153.cell? ⟨g5, 4, none⟩ = some (.slice none 0 0) := (blk_cell BKg5.out 4).trans rfl
          have hf161 := blk_frozen BKg5.out 0
          have hf162 := blk_frozen BKg5.out 1
          have hf163 := blk_frozen BKg5.out 2
          have hf164 := blk_frozen BKg5.out 3
          have hf165 := blk_frozen BKg5.out 4
          have hz166 : w153.cell? ⟨g53, 0, none⟩ = some (.int .i64 0) := (blk_cell BKg53.out 0).trans rfl
          have hz167 : w153.cell? ⟨g53, 1, none⟩ = some (.bool false) := (blk_cell BKg53.out 1).trans rfl
          have hz168 : w153.cell? ⟨g53, 2, none⟩ = some (.int .i64 0) := (blk_cell BKg53.out 2).trans rfl
          have hz169 : w153.cell? ⟨g53, 3, none⟩ = some (.string (⟨#[]⟩ : ByteArray)) := (blk_cell BKg53.out 3).trans rfl
          have hz170 : w153.cell? ⟨g53, 4, none⟩ = some (.slice none 0 0) := (blk_cell BKg53.out 4).trans rfl
          have hf171 := blk_frozen BKg53.out 0
          have hf172 := blk_frozen BKg53.out 1
          have hf173 := blk_frozen BKg53.out 2
          have hf174 := blk_frozen BKg53.out 3
          have hf175 := blk_frozen BKg53.out 4
          have H := HH.out
          simp only [Option.some.injEq, Prod.mk.injEq] at H
          obtain ⟨rfl, rfl, rfl, rfl, rfl, rfl⟩ := H
          clear HH
          go_wp2
          refine bodyPost_ret (results_ct rfl _ _ g5 28 #[.int .i64 0, .bool false, .int .i64 0, .string (⟨#[]⟩ : ByteArray), .slice none 0 0] (0, 0) _ rfl BKg5.out Try.underlying28 rfl (by kernel_rfl)) rfl ?_
          exact ⟨_, by first | rfl | (simp; done) | (simp [*]; done), (Kd.N_nil _ _ _ _ _), HB.out⟩
        · have H := HH.out
          rw [if_neg c128] at H
          replace HH := Aside0.mk H
          clear H
          have hk176 : decide (3 < a0) = false := decide_eq_false c128
          clear c128
          by_cases c177 : a1 < 0
          · have H := HH.out
            rw [if_pos c177] at H
            replace HH := Aside0.mk H
            clear H
            have hk178 : (a1 < 0) = True := eq_true c177
            have hk179 : decide (a1 < 0) = true := decide_eq_true c177
            clear c177
            go_wp2_with (((with_reducible refine gate_store (t := 28) (p := 6) rfl ?_); (try (refine gate_guard (by rfl) ?_; dsimp only)); refine MW.ev_store #[.int .i64 0, .bool false, .int .i64 0, .string (⟨#[]⟩ : ByteArray), .slice none 0 0] rfl rfl rfl rfl (cs := #[.int .i64 0, .bool false, .int .i64 0, .string (⟨#[]⟩ : ByteArray), .slice none 0 0]) (ty := 28) BKg53.out [.int .i64 0, .bool false, .int .i64 0, .string (⟨#[]⟩ : ByteArray), .slice none 0 0] rfl (by kernel_rfl) (by simp) (by simp [Value.oneCell']) rfl ?_; intro w180 hbk hg); replace hbk := Aside0.mk hbk; refine stop_ ?_)
            refine Stop.go ?_
            replace hbk := hbk.out
            replace BKg1 := Aside0.mk (blk_grown (o := .cells #[.int .i64 a2] 3 (0, 0)) BKg1.out hg (fun he_ => NEg1_g53.out (Option.some.inj he_)))
            replace BKg5 := Aside0.mk (blk_grown (o := .cells #[.int .i64 0, .bool false, .int .i64 0, .string (⟨#[]⟩ : ByteArray), .slice none 0 0] 28 (0, 0)) BKg5.out hg (fun he_ => NEg5_g53.out (Option.some.inj he_)))
            replace HB := Aside0.mk (Below.grown HB.out hg (below_size HB.out) (fun k_ hk_ => by injection hk_ with hk_; rw [← hk_]; exact GEg53.out))
            replace BKg53 := Aside0.mk hbk
            clear hg hbk
            clear hz55 hf56 hz57 hz58 hz59 hz60 hz61 hf62 hf63 hf64 hf65 hf66 hz67 hz68 hz69 hz70 hz71 hf72 hf73 hf74 hf75 hf76
            have hz181 : w180.cell? ⟨g1, 0, none⟩ = some (.int .i64 a2) := (blk_cell BKg1.out 0).trans rfl
            have hf182 := blk_frozen BKg1.out 0
            have hz183 : w180.cell? ⟨g5, 0, none⟩ = some (.int .i64 0) := (blk_cell BKg5.out 0).trans rfl
            have hz184 : w180.cell? ⟨g5, 1, none⟩ = some (.bool false) := (blk_cell BKg5.out 1).trans rfl
            have hz185 : w180.cell? ⟨g5, 2, none⟩ = some (.int .i64 0) := (blk_cell BKg5.out 2).trans rfl
            have hz186 : w180.cell? ⟨g5, 3, none⟩ = some (.string (⟨#[]⟩ : ByteArray)) := (blk_cell BKg5.out 3).trans rfl
            have hz187 : w180.cell? ⟨g5, 4, none⟩ = some (.slice none 0 0) := (blk_cell BKg5.out 4).trans rfl
            have hf188 := blk_frozen BKg5.out 0
            have hf189 := blk_frozen BKg5.out 1
            have hf190 := blk_frozen BKg5.out 2
            have hf191 := blk_frozen BKg5.out 3
            have hf192 := blk_frozen BKg5.out 4
            have hz193 : w180.cell? ⟨g53, 0, none⟩ = some (.int .i64 0) := (blk_cell BKg53.out 0).trans rfl
            have hz194 : w180.cell? ⟨g53, 1, none⟩ = some (.bool false) := (blk_cell BKg53.out 1).trans rfl
            have hz195 : w180.cell? ⟨g53, 2, none⟩ = some (.int .i64 0) := (blk_cell BKg53.out 2).trans rfl
            have hz196 : w180.cell? ⟨g53, 3, none⟩ = some (.string (⟨#[]⟩ : ByteArray)) := (blk_cell BKg53.out 3).trans rfl
            have hz197 : w180.cell? ⟨g53, 4, none⟩ = some (.slice none 0 0) := (blk_cell BKg53.out 4).trans rfl
            have hf198 := blk_frozen BKg53.out 0
            have hf199 := blk_frozen BKg53.out 1
            have hf200 := blk_frozen BKg53.out 2
            have hf201 := blk_frozen BKg53.out 3
            have hf202 := blk_frozen BKg53.out 4
            go_wp2
            refine bodyPost_ret (results_ct rfl _ _ g53 28 #[.int .i64 0, .bool false, .int .i64 0, .string (⟨#[]⟩ : ByteArray), .slice none 0 0] (0, 0) _ rfl BKg53.out Try.underlying28 rfl (by kernel_rfl)) rfl ?_
            refine ⟨_, rfl, ?_⟩
            go_wp2_with (((with_reducible refine gate_store (t := 28) (p := 6) rfl ?_); (try (refine gate_guard (by rfl) ?_; dsimp only)); refine MW.ev_store #[.int .i64 0, .bool false, .int .i64 0, .string (⟨#[]⟩ : ByteArray), .slice none 0 0] rfl rfl rfl rfl (cs := #[.int .i64 0, .bool false, .int .i64 0, .string (⟨#[]⟩ : ByteArray), .slice none 0 0]) (ty := 28) BKg5.out [.int .i64 0, .bool false, .int .i64 0, .string (⟨#[]⟩ : ByteArray), .slice none 0 0] rfl (by kernel_rfl) (by simp) (by simp [Value.oneCell']) rfl ?_; intro w203 hbk hg); replace hbk := Aside0.mk hbk; refine stop_ ?_)
            refine Stop.go ?_
            replace hbk := hbk.out
            replace BKg1 := Aside0.mk (blk_grown (o := .cells #[.int .i64 a2] 3 (0, 0)) BKg1.out hg (fun he_ => NEg1_g5.out (Option.some.inj he_)))
            replace BKg53 := Aside0.mk (blk_grown (o := .cells #[.int .i64 0, .bool false, .int .i64 0, .string (⟨#[]⟩ : ByteArray), .slice none 0 0] 28 (0, 0)) BKg53.out hg (fun he_ => NEg53_g5.out (Option.some.inj he_)))
            replace HB := Aside0.mk (Below.grown HB.out hg (below_size HB.out) (fun k_ hk_ => by injection hk_ with hk_; rw [← hk_]; exact GEg5.out))
            replace BKg5 := Aside0.mk hbk
            clear hg hbk
            clear hz181 hf182 hz183 hz184 hz185 hz186 hz187 hf188 hf189 hf190 hf191 hf192 hz193 hz194 hz195 hz196 hz197 hf198 hf199 hf200 hf201 hf202
            have hz204 : w203.cell? ⟨g1, 0, none⟩ = some (.int .i64 a2) := (blk_cell BKg1.out 0).trans rfl
            have hf205 := blk_frozen BKg1.out 0
            have hz206 : w203.cell? ⟨g5, 0, none⟩ = some (.int .i64 0) := (blk_cell BKg5.out 0).trans rfl
            have hz207 : w203.cell? ⟨g5, 1, none⟩ = some (.bool false) := (blk_cell BKg5.out 1).trans rfl
            have hz208 : w203.cell? ⟨g5, 2, none⟩ = some (.int .i64 0) := (blk_cell BKg5.out 2).trans rfl
            have hz209 : w203.cell? ⟨g5, 3, none⟩ = some (.string (⟨#[]⟩ : ByteArray)) := (blk_cell BKg5.out 3).trans rfl
            have hz210 : w203.cell? ⟨g5, 4, none⟩ = some (.slice none 0 0) := (blk_cell BKg5.out 4).trans rfl
            have hf211 := blk_frozen BKg5.out 0
            have hf212 := blk_frozen BKg5.out 1
            have hf213 := blk_frozen BKg5.out 2
            have hf214 := blk_frozen BKg5.out 3
            have hf215 := blk_frozen BKg5.out 4
            have hz216 : w203.cell? ⟨g53, 0, none⟩ = some (.int .i64 0) := (blk_cell BKg53.out 0).trans rfl
            have hz217 : w203.cell? ⟨g53, 1, none⟩ = some (.bool false) := (blk_cell BKg53.out 1).trans rfl
            have hz218 : w203.cell? ⟨g53, 2, none⟩ = some (.int .i64 0) := (blk_cell BKg53.out 2).trans rfl
            have hz219 : w203.cell? ⟨g53, 3, none⟩ = some (.string (⟨#[]⟩ : ByteArray)) := (blk_cell BKg53.out 3).trans rfl
            have hz220 : w203.cell? ⟨g53, 4, none⟩ = some (.slice none 0 0) := (blk_cell BKg53.out 4).trans rfl
            have hf221 := blk_frozen BKg53.out 0
            have hf222 := blk_frozen BKg53.out 1
            have hf223 := blk_frozen BKg53.out 2
            have hf224 := blk_frozen BKg53.out 3
            have hf225 := blk_frozen BKg53.out 4
            have H := HH.out
            simp only [Option.some.injEq, Prod.mk.injEq] at H
            obtain ⟨rfl, rfl, rfl, rfl, rfl, rfl⟩ := H
            clear HH
            go_wp2
            refine bodyPost_ret (results_ct rfl _ _ g5 28 #[.int .i64 0, .bool false, .int .i64 0, .string (⟨#[]⟩ : ByteArray), .slice none 0 0] (0, 0) _ rfl BKg5.out Try.underlying28 rfl (by kernel_rfl)) rfl ?_
            exact ⟨_, by first | rfl | (simp; done) | (simp [*]; done), (Kd.N_nil _ _ _ _ _), HB.out⟩
          · have H := HH.out
            rw [if_neg c177] at H
            replace HH := Aside0.mk H
            clear H
            have hk226 : (a1 < 0) = False := eq_false c177
            have hk227 : decide (a1 < 0) = false := decide_eq_false c177
            clear c177
            by_cases c228 : a1 > 30
            · have H := HH.out
              rw [if_pos c228] at H
              replace HH := Aside0.mk H
              clear H
              have hk229 : decide (30 < a1) = true := decide_eq_true c228
              clear c228
              go_wp2_with (((with_reducible refine gate_store (t := 28) (p := 6) rfl ?_); (try (refine gate_guard (by rfl) ?_; dsimp only)); refine MW.ev_store #[.int .i64 0, .bool false, .int .i64 0, .string (⟨#[]⟩ : ByteArray), .slice none 0 0] rfl rfl rfl rfl (cs := #[.int .i64 0, .bool false, .int .i64 0, .string (⟨#[]⟩ : ByteArray), .slice none 0 0]) (ty := 28) BKg53.out [.int .i64 0, .bool false, .int .i64 0, .string (⟨#[]⟩ : ByteArray), .slice none 0 0] rfl (by kernel_rfl) (by simp) (by simp [Value.oneCell']) rfl ?_; intro w230 hbk hg); replace hbk := Aside0.mk hbk; refine stop_ ?_)
              refine Stop.go ?_
              replace hbk := hbk.out
              replace BKg1 := Aside0.mk (blk_grown (o := .cells #[.int .i64 a2] 3 (0, 0)) BKg1.out hg (fun he_ => NEg1_g53.out (Option.some.inj he_)))
              replace BKg5 := Aside0.mk (blk_grown (o := .cells #[.int .i64 0, .bool false, .int .i64 0, .string (⟨#[]⟩ : ByteArray), .slice none 0 0] 28 (0, 0)) BKg5.out hg (fun he_ => NEg5_g53.out (Option.some.inj he_)))
              replace HB := Aside0.mk (Below.grown HB.out hg (below_size HB.out) (fun k_ hk_ => by injection hk_ with hk_; rw [← hk_]; exact GEg53.out))
              replace BKg53 := Aside0.mk hbk
              clear hg hbk
              clear hz55 hf56 hz57 hz58 hz59 hz60 hz61 hf62 hf63 hf64 hf65 hf66 hz67 hz68 hz69 hz70 hz71 hf72 hf73 hf74 hf75 hf76
              have hz231 : w230.cell? ⟨g1, 0, none⟩ = some (.int .i64 a2) := (blk_cell BKg1.out 0).trans rfl
              have hf232 := blk_frozen BKg1.out 0
              have hz233 : w230.cell? ⟨g5, 0, none⟩ = some (.int .i64 0) := (blk_cell BKg5.out 0).trans rfl
              have hz234 : w230.cell? ⟨g5, 1, none⟩ = some (.bool false) := (blk_cell BKg5.out 1).trans rfl
              have hz235 : w230.cell? ⟨g5, 2, none⟩ = some (.int .i64 0) := (blk_cell BKg5.out 2).trans rfl
              have hz236 : w230.cell? ⟨g5, 3, none⟩ = some (.string (⟨#[]⟩ : ByteArray)) := (blk_cell BKg5.out 3).trans rfl
              have hz237 : w230.cell? ⟨g5, 4, none⟩ = some (.slice none 0 0) := (blk_cell BKg5.out 4).trans rfl
              have hf238 := blk_frozen BKg5.out 0
              have hf239 := blk_frozen BKg5.out 1
              have hf240 := blk_frozen BKg5.out 2
              have hf241 := blk_frozen BKg5.out 3
              have hf242 := blk_frozen BKg5.out 4
              have hz243 : w230.cell? ⟨g53, 0, none⟩ = some (.int .i64 0) := (blk_cell BKg53.out 0).trans rfl
              have hz244 : w230.cell? ⟨g53, 1, none⟩ = some (.bool false) := (blk_cell BKg53.out 1).trans rfl
              have hz245 : w230.cell? ⟨g53, 2, none⟩ = some (.int .i64 0) := (blk_cell BKg53.out 2).trans rfl
              have hz246 : w230.cell? ⟨g53, 3, none⟩ = some (.string (⟨#[]⟩ : ByteArray)) := (blk_cell BKg53.out 3).trans rfl
              have hz247 : w230.cell? ⟨g53, 4, none⟩ = some (.slice none 0 0) := (blk_cell BKg53.out 4).trans rfl
              have hf248 := blk_frozen BKg53.out 0
              have hf249 := blk_frozen BKg53.out 1
              have hf250 := blk_frozen BKg53.out 2
              have hf251 := blk_frozen BKg53.out 3
              have hf252 := blk_frozen BKg53.out 4
              go_wp2
              refine bodyPost_ret (results_ct rfl _ _ g53 28 #[.int .i64 0, .bool false, .int .i64 0, .string (⟨#[]⟩ : ByteArray), .slice none 0 0] (0, 0) _ rfl BKg53.out Try.underlying28 rfl (by kernel_rfl)) rfl ?_
              refine ⟨_, rfl, ?_⟩
              go_wp2_with (((with_reducible refine gate_store (t := 28) (p := 6) rfl ?_); (try (refine gate_guard (by rfl) ?_; dsimp only)); refine MW.ev_store #[.int .i64 0, .bool false, .int .i64 0, .string (⟨#[]⟩ : ByteArray), .slice none 0 0] rfl rfl rfl rfl (cs := #[.int .i64 0, .bool false, .int .i64 0, .string (⟨#[]⟩ : ByteArray), .slice none 0 0]) (ty := 28) BKg5.out [.int .i64 0, .bool false, .int .i64 0, .string (⟨#[]⟩ : ByteArray), .slice none 0 0] rfl (by kernel_rfl) (by simp) (by simp [Value.oneCell']) rfl ?_; intro w253 hbk hg); replace hbk := Aside0.mk hbk; refine stop_ ?_)
              refine Stop.go ?_
              replace hbk := hbk.out
              replace BKg1 := Aside0.mk (blk_grown (o := .cells #[.int .i64 a2] 3 (0, 0)) BKg1.out hg (fun he_ => NEg1_g5.out (Option.some.inj he_)))
              replace BKg53 := Aside0.mk (blk_grown (o := .cells #[.int .i64 0, .bool false, .int .i64 0, .string (⟨#[]⟩ : ByteArray), .slice none 0 0] 28 (0, 0)) BKg53.out hg (fun he_ => NEg53_g5.out (Option.some.inj he_)))
              replace HB := Aside0.mk (Below.grown HB.out hg (below_size HB.out) (fun k_ hk_ => by injection hk_ with hk_; rw [← hk_]; exact GEg5.out))
              replace BKg5 := Aside0.mk hbk
              clear hg hbk
              clear hz231 hf232 hz233 hz234 hz235 hz236 hz237 hf238 hf239 hf240 hf241 hf242 hz243 hz244 hz245 hz246 hz247 hf248 hf249 hf250 hf251 hf252
              have hz254 : w253.cell? ⟨g1, 0, none⟩ = some (.int .i64 a2) := (blk_cell BKg1.out 0).trans rfl
              have hf255 := blk_frozen BKg1.out 0
              have hz256 : w253.cell? ⟨g5, 0, none⟩ = some (.int .i64 0) := (blk_cell BKg5.out 0).trans rfl
              have hz257 : w253.cell? ⟨g5, 1, none⟩ = some (.bool false) := (blk_cell BKg5.out 1).trans rfl
              have hz258 : w253.cell? ⟨g5, 2, none⟩ = some (.int .i64 0) := (blk_cell BKg5.out 2).trans rfl
              have hz259 : w253.cell? ⟨g5, 3, none⟩ = some (.string (⟨#[]⟩ : ByteArray)) := (blk_cell BKg5.out 3).trans rfl
              have hz260 : w253.cell? ⟨g5, 4, none⟩ = some (.slice none 0 0) := (blk_cell BKg5.out 4).trans rfl
              have hf261 := blk_frozen BKg5.out 0
              have hf262 := blk_frozen BKg5.out 1
              have hf263 := blk_frozen BKg5.out 2
              have hf264 := blk_frozen BKg5.out 3
              have hf265 := blk_frozen BKg5.out 4
              have hz266 : w253.cell? ⟨g53, 0, none⟩ = some (.int .i64 0) := (blk_cell BKg53.out 0).trans rfl
              have hz267 : w253.cell? ⟨g53, 1, none⟩ = some (.bool false) := (blk_cell BKg53.out 1).trans rfl
              have hz268 : w253.cell? ⟨g53, 2, none⟩ = some (.int .i64 0) := (blk_cell BKg53.out 2).trans rfl
              have hz269 : w253.cell? ⟨g53, 3, none⟩ = some (.string (⟨#[]⟩ : ByteArray)) := (blk_cell BKg53.out 3).trans rfl
              have hz270 : w253.cell? ⟨g53, 4, none⟩ = some (.slice none 0 0) := (blk_cell BKg53.out 4).trans rfl
              have hf271 := blk_frozen BKg53.out 0
              have hf272 := blk_frozen BKg53.out 1
              have hf273 := blk_frozen BKg53.out 2
              have hf274 := blk_frozen BKg53.out 3
              have hf275 := blk_frozen BKg53.out 4
              have H := HH.out
              simp only [Option.some.injEq, Prod.mk.injEq] at H
              obtain ⟨rfl, rfl, rfl, rfl, rfl, rfl⟩ := H
              clear HH
              go_wp2
              refine bodyPost_ret (results_ct rfl _ _ g5 28 #[.int .i64 0, .bool false, .int .i64 0, .string (⟨#[]⟩ : ByteArray), .slice none 0 0] (0, 0) _ rfl BKg5.out Try.underlying28 rfl (by kernel_rfl)) rfl ?_
              exact ⟨_, by first | rfl | (simp; done) | (simp [*]; done), (Kd.N_nil _ _ _ _ _), HB.out⟩
            · have H := HH.out
              rw [if_neg c228] at H
              replace HH := Aside0.mk H
              clear H
              have hk276 : decide (30 < a1) = false := decide_eq_false c228
              clear c228
              go_wp2_with (((with_reducible refine gate_dst (N := 8) rfl ?_); (try (refine gate_guard (by rfl) ?_; dsimp only)); refine box_event ?hg (N := 8) ?hd (cs := #[.int .i64 0, .bool false, .int .i64 0, .string (⟨#[]⟩ : ByteArray), .slice none 0 0]) (t := 28) ?hr ?_; (case hd => rfl); (case hg => rfl); (case hr => first | (go_simp; done) | (go_simp; rfl)); intro g277 hg w278 hbox hb); replace hg := Aside0.mk hg; replace hbox := Aside0.mk hbox; refine stop_ ?_)
              refine Stop.go ?_
              replace hg := hg.out
              replace hbox := hbox.out
              have GEg277 := Aside0.mk (by rw [hg]; exact (below_size HB.out) : w.heap.size ≤ g277)
              have NEg1_g277 := Aside0.mk (by rw [hg]; exact Nat.ne_of_lt (blk_lt (o := .cells #[.int .i64 a2] 3 (0, 0)) BKg1.out) : g1 ≠ g277)
              have NEg277_g1 := Aside0.mk (Ne.symm NEg1_g277.out)
              have NEg5_g277 := Aside0.mk (by rw [hg]; exact Nat.ne_of_lt (blk_lt (o := .cells #[.int .i64 0, .bool false, .int .i64 0, .string (⟨#[]⟩ : ByteArray), .slice none 0 0] 28 (0, 0)) BKg5.out) : g5 ≠ g277)
              have NEg277_g5 := Aside0.mk (Ne.symm NEg5_g277.out)
              have NEg53_g277 := Aside0.mk (by rw [hg]; exact Nat.ne_of_lt (blk_lt (o := .cells #[.int .i64 0, .bool false, .int .i64 0, .string (⟨#[]⟩ : ByteArray), .slice none 0 0] 28 (0, 0)) BKg53.out) : g53 ≠ g277)
              have NEg277_g53 := Aside0.mk (Ne.symm NEg53_g277.out)
              replace BKg1 := Aside0.mk (blk_below (o := .cells #[.int .i64 a2] 3 (0, 0)) BKg1.out hb)
              replace BKg5 := Aside0.mk (blk_below (o := .cells #[.int .i64 0, .bool false, .int .i64 0, .string (⟨#[]⟩ : ByteArray), .slice none 0 0] 28 (0, 0)) BKg5.out hb)
              replace BKg53 := Aside0.mk (blk_below (o := .cells #[.int .i64 0, .bool false, .int .i64 0, .string (⟨#[]⟩ : ByteArray), .slice none 0 0] 28 (0, 0)) BKg53.out hb)
              replace HB := Aside0.mk (below_step HB.out hb)
              have BKg277 := Aside0.mk hbox
              clear hg hbox hb
              clear hz55 hf56 hz57 hz58 hz59 hz60 hz61 hf62 hf63 hf64 hf65 hf66 hz67 hz68 hz69 hz70 hz71 hf72 hf73 hf74 hf75 hf76
              have hz279 : w278.cell? ⟨g1, 0, none⟩ = some (.int .i64 a2) := (blk_cell BKg1.out 0).trans rfl
              have hf280 := blk_frozen BKg1.out 0
              have hz281 : w278.cell? ⟨g5, 0, none⟩ = some (.int .i64 0) := (blk_cell BKg5.out 0).trans rfl
              have hz282 : w278.cell? ⟨g5, 1, none⟩ = some (.bool false) := (blk_cell BKg5.out 1).trans rfl
              have hz283 : w278.cell? ⟨g5, 2, none⟩ = some (.int .i64 0) := (blk_cell BKg5.out 2).trans rfl
              have hz284 : w278.cell? ⟨g5, 3, none⟩ = some (.string (⟨#[]⟩ : ByteArray)) := (blk_cell BKg5.out 3).trans rfl
              have hz285 : w278.cell? ⟨g5, 4, none⟩ = some (.slice none 0 0) := (blk_cell BKg5.out 4).trans rfl
              have hf286 := blk_frozen BKg5.out 0
              have hf287 := blk_frozen BKg5.out 1
              have hf288 := blk_frozen BKg5.out 2
              have hf289 := blk_frozen BKg5.out 3
              have hf290 := blk_frozen BKg5.out 4
              have hz291 : w278.cell? ⟨g53, 0, none⟩ = some (.int .i64 0) := (blk_cell BKg53.out 0).trans rfl
              have hz292 : w278.cell? ⟨g53, 1, none⟩ = some (.bool false) := (blk_cell BKg53.out 1).trans rfl
              have hz293 : w278.cell? ⟨g53, 2, none⟩ = some (.int .i64 0) := (blk_cell BKg53.out 2).trans rfl
              have hz294 : w278.cell? ⟨g53, 3, none⟩ = some (.string (⟨#[]⟩ : ByteArray)) := (blk_cell BKg53.out 3).trans rfl
              have hz295 : w278.cell? ⟨g53, 4, none⟩ = some (.slice none 0 0) := (blk_cell BKg53.out 4).trans rfl
              have hf296 := blk_frozen BKg53.out 0
              have hf297 := blk_frozen BKg53.out 1
              have hf298 := blk_frozen BKg53.out 2
              have hf299 := blk_frozen BKg53.out 3
              have hf300 := blk_frozen BKg53.out 4
              have hz301 : w278.cell? ⟨g277, 0, none⟩ = some (.int .i64 0) := (blk_cell BKg277.out 0).trans rfl
              have hz302 : w278.cell? ⟨g277, 1, none⟩ = some (.bool false) := (blk_cell BKg277.out 1).trans rfl
              have hz303 : w278.cell? ⟨g277, 2, none⟩ = some (.int .i64 0) := (blk_cell BKg277.out 2).trans rfl
              have hz304 : w278.cell? ⟨g277, 3, none⟩ = some (.string (⟨#[]⟩ : ByteArray)) := (blk_cell BKg277.out 3).trans rfl
              have hz305 : w278.cell? ⟨g277, 4, none⟩ = some (.slice none 0 0) := (blk_cell BKg277.out 4).trans rfl
              have hf306 := blk_frozen BKg277.out 0
              have hf307 := blk_frozen BKg277.out 1
              have hf308 := blk_frozen BKg277.out 2
              have hf309 := blk_frozen BKg277.out 3
              have hf310 := blk_frozen BKg277.out 4
              go_wp2_with (((with_reducible refine gate_store (t := 28) (p := 8) rfl ?_); (try (refine gate_guard (by rfl) ?_; dsimp only)); refine MW.ev_store #[.int .i64 a0, .bool false, .int .i64 a1, .string (⟨#[]⟩ : ByteArray), .slice none 0 0] rfl rfl rfl rfl (cs := #[.int .i64 0, .bool false, .int .i64 0, .string (⟨#[]⟩ : ByteArray), .slice none 0 0]) (ty := 28) BKg277.out [.int .i64 a0, .bool false, .int .i64 a1, .string (⟨#[]⟩ : ByteArray), .slice none 0 0] rfl (by kernel_rfl) (by simp) (by simp [Value.oneCell']) rfl ?_; intro w311 hbk hg); replace hbk := Aside0.mk hbk; refine stop_ ?_)
              refine Stop.go ?_
              replace hbk := hbk.out
              replace BKg1 := Aside0.mk (blk_grown (o := .cells #[.int .i64 a2] 3 (0, 0)) BKg1.out hg (fun he_ => NEg1_g277.out (Option.some.inj he_)))
              replace BKg5 := Aside0.mk (blk_grown (o := .cells #[.int .i64 0, .bool false, .int .i64 0, .string (⟨#[]⟩ : ByteArray), .slice none 0 0] 28 (0, 0)) BKg5.out hg (fun he_ => NEg5_g277.out (Option.some.inj he_)))
              replace BKg53 := Aside0.mk (blk_grown (o := .cells #[.int .i64 0, .bool false, .int .i64 0, .string (⟨#[]⟩ : ByteArray), .slice none 0 0] 28 (0, 0)) BKg53.out hg (fun he_ => NEg53_g277.out (Option.some.inj he_)))
              replace HB := Aside0.mk (Below.grown HB.out hg (below_size HB.out) (fun k_ hk_ => by injection hk_ with hk_; rw [← hk_]; exact GEg277.out))
              replace BKg277 := Aside0.mk hbk
              clear hg hbk
              clear hz279 hf280 hz281 hz282 hz283 hz284 hz285 hf286 hf287 hf288 hf289 hf290 hz291 hz292 hz293 hz294 hz295 hf296 hf297 hf298 hf299 hf300 hz301 hz302 hz303 hz304 hz305 hf306 hf307 hf308 hf309 hf310
              have hz312 : w311.cell? ⟨g1, 0, none⟩ = some (.int .i64 a2) := (blk_cell BKg1.out 0).trans rfl
              have hf313 := blk_frozen BKg1.out 0
              have hz314 : w311.cell? ⟨g5, 0, none⟩ = some (.int .i64 0) := (blk_cell BKg5.out 0).trans rfl
              have hz315 : w311.cell? ⟨g5, 1, none⟩ = some (.bool false) := (blk_cell BKg5.out 1).trans rfl
              have hz316 : w311.cell? ⟨g5, 2, none⟩ = some (.int .i64 0) := (blk_cell BKg5.out 2).trans rfl
              have hz317 : w311.cell? ⟨g5, 3, none⟩ = some (.string (⟨#[]⟩ : ByteArray)) := (blk_cell BKg5.out 3).trans rfl
              have hz318 : w311.cell? ⟨g5, 4, none⟩ = some (.slice none 0 0) := (blk_cell BKg5.out 4).trans rfl
              have hf319 := blk_frozen BKg5.out 0
              have hf320 := blk_frozen BKg5.out 1
              have hf321 := blk_frozen BKg5.out 2
              have hf322 := blk_frozen BKg5.out 3
              have hf323 := blk_frozen BKg5.out 4
              have hz324 : w311.cell? ⟨g53, 0, none⟩ = some (.int .i64 0) := (blk_cell BKg53.out 0).trans rfl
              have hz325 : w311.cell? ⟨g53, 1, none⟩ = some (.bool false) := (blk_cell BKg53.out 1).trans rfl
              have hz326 : w311.cell? ⟨g53, 2, none⟩ = some (.int .i64 0) := (blk_cell BKg53.out 2).trans rfl
              have hz327 : w311.cell? ⟨g53, 3, none⟩ = some (.string (⟨#[]⟩ : ByteArray)) := (blk_cell BKg53.out 3).trans rfl
              have hz328 : w311.cell? ⟨g53, 4, none⟩ = some (.slice none 0 0) := (blk_cell BKg53.out 4).trans rfl
              have hf329 := blk_frozen BKg53.out 0
              have hf330 := blk_frozen BKg53.out 1
              have hf331 := blk_frozen BKg53.out 2
              have hf332 := blk_frozen BKg53.out 3
              have hf333 := blk_frozen BKg53.out 4
              have hz334 : w311.cell? ⟨g277, 0, none⟩ = some (.int .i64 a0) := (blk_cell BKg277.out 0).trans rfl
              have hz335 : w311.cell? ⟨g277, 1, none⟩ = some (.bool false) := (blk_cell BKg277.out 1).trans rfl
              have hz336 : w311.cell? ⟨g277, 2, none⟩ = some (.int .i64 a1) := (blk_cell BKg277.out 2).trans rfl
              have hz337 : w311.cell? ⟨g277, 3, none⟩ = some (.string (⟨#[]⟩ : ByteArray)) := (blk_cell BKg277.out 3).trans rfl
              have hz338 : w311.cell? ⟨g277, 4, none⟩ = some (.slice none 0 0) := (blk_cell BKg277.out 4).trans rfl
              have hf339 := blk_frozen BKg277.out 0
              have hf340 := blk_frozen BKg277.out 1
              have hf341 := blk_frozen BKg277.out 2
              have hf342 := blk_frozen BKg277.out 3
              have hf343 := blk_frozen BKg277.out 4
              go_wp2_with (((with_reducible refine gate_dst (N := 28) rfl ?_); (try (refine gate_guard (by rfl) ?_; dsimp only)); refine MW.goesV_ (some 28) rfl rfl Try.func36 (by kernel_rfl) rfl #[.pointer (some ⟨g277, 0, none⟩), .pointer (some ⟨g1, 0, none⟩)] rfl #[.pointer (some ⟨g1, 0, none⟩)] rfl (by simp only [List.map_toArray, List.map_cons, List.map_nil, List.append_toArray, List.cons_append, List.nil_append]; first | done | rfl) ?_); refine stop_ ?_)
              refine Stop.go ?_
              go_enter Try.func36, Try.ntmps36
              have H := HH.out
              replace H := Option.bind_eq_some_iff.mp H
              obtain ⟨t344, at_, H⟩ := H
              have At345 := Aside0.mk at_
              clear at_
              replace HH := Aside0.mk (show (some (a0, false, a1, t344, ([] : List (S28)), 0)) = some (r1, r2, r3, r4, r5, r6) from H)
              clear H
              go_wp2_with (((with_reducible refine gate_callee (f := 35) rfl ?_); (try (refine gate_guard (by rfl) ?_; dsimp only)); refine goesL_ (some 6) rfl rfl Try.func35 (by kernel_rfl) rfl #[.int .i32 (wrap32 (a2))] rfl (by (try simp only [List.map_toArray, List.map_cons, List.map_nil]); first | done | rfl | (simp only [List.length_drop, List.length_take]; rfl)) ?_; (with_reducible refine (prims_signed.calls k  (wrap32 (a2)) t344 _  At345.out).mono ?_); rintro e w346 ⟨rfl, hb⟩; refine ⟨_, rfl, ?_⟩); refine stop_ ?_)
              refine Stop.go ?_
              replace BKg1 := Aside0.mk (blk_below (o := .cells #[.int .i64 a2] 3 (0, 0)) BKg1.out hb)
              replace BKg5 := Aside0.mk (blk_below (o := .cells #[.int .i64 0, .bool false, .int .i64 0, .string (⟨#[]⟩ : ByteArray), .slice none 0 0] 28 (0, 0)) BKg5.out hb)
              replace BKg53 := Aside0.mk (blk_below (o := .cells #[.int .i64 0, .bool false, .int .i64 0, .string (⟨#[]⟩ : ByteArray), .slice none 0 0] 28 (0, 0)) BKg53.out hb)
              replace BKg277 := Aside0.mk (blk_below (o := .cells #[.int .i64 a0, .bool false, .int .i64 a1, .string (⟨#[]⟩ : ByteArray), .slice none 0 0] 28 (0, 0)) BKg277.out hb)
              replace HB := Aside0.mk (below_step HB.out hb)
              clear hb
              clear hz312 hf313 hz314 hz315 hz316 hz317 hz318 hf319 hf320 hf321 hf322 hf323 hz324 hz325 hz326 hz327 hz328 hf329 hf330 hf331 hf332 hf333 hz334 hz335 hz336 hz337 hz338 hf339 hf340 hf341 hf342 hf343
              have hz347 : w346.cell? ⟨g1, 0, none⟩ = some (.int .i64 a2) := (blk_cell BKg1.out 0).trans rfl
              have hf348 := blk_frozen BKg1.out 0
              have hz349 : w346.cell? ⟨g5, 0, none⟩ = some (.int .i64 0) := (blk_cell BKg5.out 0).trans rfl
              have hz350 : w346.cell? ⟨g5, 1, none⟩ = some (.bool false) := (blk_cell BKg5.out 1).trans rfl
              have hz351 : w346.cell? ⟨g5, 2, none⟩ = some (.int .i64 0) := (blk_cell BKg5.out 2).trans rfl
              have hz352 : w346.cell? ⟨g5, 3, none⟩ = some (.string (⟨#[]⟩ : ByteArray)) := (blk_cell BKg5.out 3).trans rfl
              have hz353 : w346.cell? ⟨g5, 4, none⟩ = some (.slice none 0 0) := (blk_cell BKg5.out 4).trans rfl
              have hf354 := blk_frozen BKg5.out 0
              have hf355 := blk_frozen BKg5.out 1
              have hf356 := blk_frozen BKg5.out 2
              have hf357 := blk_frozen BKg5.out 3
              have hf358 := blk_frozen BKg5.out 4
              have hz359 : w346.cell? ⟨g53, 0, none⟩ = some (.int .i64 0) := (blk_cell BKg53.out 0).trans rfl
              have hz360 : w346.cell? ⟨g53, 1, none⟩ = some (.bool false) := (blk_cell BKg53.out 1).trans rfl
              have hz361 : w346.cell? ⟨g53, 2, none⟩ = some (.int .i64 0) := (blk_cell BKg53.out 2).trans rfl
              have hz362 : w346.cell? ⟨g53, 3, none⟩ = some (.string (⟨#[]⟩ : ByteArray)) := (blk_cell BKg53.out 3).trans rfl
              have hz363 : w346.cell? ⟨g53, 4, none⟩ = some (.slice none 0 0) := (blk_cell BKg53.out 4).trans rfl
              have hf364 := blk_frozen BKg53.out 0
              have hf365 := blk_frozen BKg53.out 1
              have hf366 := blk_frozen BKg53.out 2
              have hf367 := blk_frozen BKg53.out 3
              have hf368 := blk_frozen BKg53.out 4
              have hz369 : w346.cell? ⟨g277, 0, none⟩ = some (.int .i64 a0) := (blk_cell BKg277.out 0).trans rfl
              have hz370 : w346.cell? ⟨g277, 1, none⟩ = some (.bool false) := (blk_cell BKg277.out 1).trans rfl
              have hz371 : w346.cell? ⟨g277, 2, none⟩ = some (.int .i64 a1) := (blk_cell BKg277.out 2).trans rfl
              have hz372 : w346.cell? ⟨g277, 3, none⟩ = some (.string (⟨#[]⟩ : ByteArray)) := (blk_cell BKg277.out 3).trans rfl
              have hz373 : w346.cell? ⟨g277, 4, none⟩ = some (.slice none 0 0) := (blk_cell BKg277.out 4).trans rfl
              have hf374 := blk_frozen BKg277.out 0
              have hf375 := blk_frozen BKg277.out 1
              have hf376 := blk_frozen BKg277.out 2
              have hf377 := blk_frozen BKg277.out 3
              have hf378 := blk_frozen BKg277.out 4
              go_wp2_with (((with_reducible refine gate_store (t := 9) (p := 8) rfl ?_); (try (refine gate_guard (by rfl) ?_; dsimp only)); refine MW.ev_store #[.int .i64 a0, .bool false, .int .i64 a1, .string t344, .slice none 0 0] rfl rfl rfl rfl (cs := #[.int .i64 a0, .bool false, .int .i64 a1, .string (⟨#[]⟩ : ByteArray), .slice none 0 0]) (ty := 28) BKg277.out [.string t344] rfl (by kernel_rfl) (by simp) (by simp [Value.oneCell']) rfl ?_; intro w379 hbk hg); replace hbk := Aside0.mk hbk; refine stop_ ?_)
              refine Stop.go ?_
              replace hbk := hbk.out
              replace BKg1 := Aside0.mk (blk_grown (o := .cells #[.int .i64 a2] 3 (0, 0)) BKg1.out hg (fun he_ => NEg1_g277.out (Option.some.inj he_)))
              replace BKg5 := Aside0.mk (blk_grown (o := .cells #[.int .i64 0, .bool false, .int .i64 0, .string (⟨#[]⟩ : ByteArray), .slice none 0 0] 28 (0, 0)) BKg5.out hg (fun he_ => NEg5_g277.out (Option.some.inj he_)))
              replace BKg53 := Aside0.mk (blk_grown (o := .cells #[.int .i64 0, .bool false, .int .i64 0, .string (⟨#[]⟩ : ByteArray), .slice none 0 0] 28 (0, 0)) BKg53.out hg (fun he_ => NEg53_g277.out (Option.some.inj he_)))
              replace HB := Aside0.mk (Below.grown HB.out hg (below_size HB.out) (fun k_ hk_ => by injection hk_ with hk_; rw [← hk_]; exact GEg277.out))
              replace BKg277 := Aside0.mk hbk
              clear hg hbk
              clear hz347 hf348 hz349 hz350 hz351 hz352 hz353 hf354 hf355 hf356 hf357 hf358 hz359 hz360 hz361 hz362 hz363 hf364 hf365 hf366 hf367 hf368 hz369 hz370 hz371 hz372 hz373 hf374 hf375 hf376 hf377 hf378
              have hz380 : w379.cell? ⟨g1, 0, none⟩ = some (.int .i64 a2) := (blk_cell BKg1.out 0).trans rfl
              have hf381 := blk_frozen BKg1.out 0
              have hz382 : w379.cell? ⟨g5, 0, none⟩ = some (.int .i64 0) := (blk_cell BKg5.out 0).trans rfl
              have hz383 : w379.cell? ⟨g5, 1, none⟩ = some (.bool false) := (blk_cell BKg5.out 1).trans rfl
              have hz384 : w379.cell? ⟨g5, 2, none⟩ = some (.int .i64 0) := (blk_cell BKg5.out 2).trans rfl
              have hz385 : w379.cell? ⟨g5, 3, none⟩ = some (.string (⟨#[]⟩ : ByteArray)) := (blk_cell BKg5.out 3).trans rfl
              have hz386 : w379.cell? ⟨g5, 4, none⟩ = some (.slice none 0 0) := (blk_cell BKg5.out 4).trans rfl
              have hf387 := blk_frozen BKg5.out 0
              have hf388 := blk_frozen BKg5.out 1
              have hf389 := blk_frozen BKg5.out 2
              have hf390 := blk_frozen BKg5.out 3
              have hf391 := blk_frozen BKg5.out 4
              have hz392 : w379.cell? ⟨g53, 0, none⟩ = some (.int .i64 0) := (blk_cell BKg53.out 0).trans rfl
              have hz393 : w379.cell? ⟨g53, 1, none⟩ = some (.bool false) := (blk_cell BKg53.out 1).trans rfl
              have hz394 : w379.cell? ⟨g53, 2, none⟩ = some (.int .i64 0) := (blk_cell BKg53.out 2).trans rfl
              have hz395 : w379.cell? ⟨g53, 3, none⟩ = some (.string (⟨#[]⟩ : ByteArray)) := (blk_cell BKg53.out 3).trans rfl
              have hz396 : w379.cell? ⟨g53, 4, none⟩ = some (.slice none 0 0) := (blk_cell BKg53.out 4).trans rfl
              have hf397 := blk_frozen BKg53.out 0
              have hf398 := blk_frozen BKg53.out 1
              have hf399 := blk_frozen BKg53.out 2
              have hf400 := blk_frozen BKg53.out 3
              have hf401 := blk_frozen BKg53.out 4
              have hz402 : w379.cell? ⟨g277, 0, none⟩ = some (.int .i64 a0) := (blk_cell BKg277.out 0).trans rfl
              have hz403 : w379.cell? ⟨g277, 1, none⟩ = some (.bool false) := (blk_cell BKg277.out 1).trans rfl
              have hz404 : w379.cell? ⟨g277, 2, none⟩ = some (.int .i64 a1) := (blk_cell BKg277.out 2).trans rfl
              have hz405 : w379.cell? ⟨g277, 3, none⟩ = some (.string t344) := (blk_cell BKg277.out 3).trans rfl
              have hz406 : w379.cell? ⟨g277, 4, none⟩ = some (.slice none 0 0) := (blk_cell BKg277.out 4).trans rfl
              have hf407 := blk_frozen BKg277.out 0
              have hf408 := blk_frozen BKg277.out 1
              have hf409 := blk_frozen BKg277.out 2
              have hf410 := blk_frozen BKg277.out 3
              have hf411 := blk_frozen BKg277.out 4
              go_wp2
              go_end0
              refine ⟨_, rfl, ?_⟩
              go_wp2_with (((with_reducible refine gate_store (t := 28) (p := 6) rfl ?_); (try (refine gate_guard (by rfl) ?_; dsimp only)); refine MW.ev_store #[.int .i64 a0, .bool false, .int .i64 a1, .string t344, .slice none 0 0] rfl rfl rfl rfl (cs := #[.int .i64 0, .bool false, .int .i64 0, .string (⟨#[]⟩ : ByteArray), .slice none 0 0]) (ty := 28) BKg53.out [.int .i64 a0, .bool false, .int .i64 a1, .string t344, .slice none 0 0] rfl (by kernel_rfl) (by simp) (by simp [Value.oneCell']) rfl ?_; intro w412 hbk hg); replace hbk := Aside0.mk hbk; refine stop_ ?_)
              refine Stop.go ?_
              replace hbk := hbk.out
              replace BKg1 := Aside0.mk (blk_grown (o := .cells #[.int .i64 a2] 3 (0, 0)) BKg1.out hg (fun he_ => NEg1_g53.out (Option.some.inj he_)))
              replace BKg5 := Aside0.mk (blk_grown (o := .cells #[.int .i64 0, .bool false, .int .i64 0, .string (⟨#[]⟩ : ByteArray), .slice none 0 0] 28 (0, 0)) BKg5.out hg (fun he_ => NEg5_g53.out (Option.some.inj he_)))
              replace BKg277 := Aside0.mk (blk_grown (o := .cells #[.int .i64 a0, .bool false, .int .i64 a1, .string t344, .slice none 0 0] 28 (0, 0)) BKg277.out hg (fun he_ => NEg277_g53.out (Option.some.inj he_)))
              replace HB := Aside0.mk (Below.grown HB.out hg (below_size HB.out) (fun k_ hk_ => by injection hk_ with hk_; rw [← hk_]; exact GEg53.out))
              replace BKg53 := Aside0.mk hbk
              clear hg hbk
              clear hz380 hf381 hz382 hz383 hz384 hz385 hz386 hf387 hf388 hf389 hf390 hf391 hz392 hz393 hz394 hz395 hz396 hf397 hf398 hf399 hf400 hf401 hz402 hz403 hz404 hz405 hz406 hf407 hf408 hf409 hf410 hf411
              have hz413 : w412.cell? ⟨g1, 0, none⟩ = some (.int .i64 a2) := (blk_cell BKg1.out 0).trans rfl
              have hf414 := blk_frozen BKg1.out 0
              have hz415 : w412.cell? ⟨g5, 0, none⟩ = some (.int .i64 0) := (blk_cell BKg5.out 0).trans rfl
              have hz416 : w412.cell? ⟨g5, 1, none⟩ = some (.bool false) := (blk_cell BKg5.out 1).trans rfl
              have hz417 : w412.cell? ⟨g5, 2, none⟩ = some (.int .i64 0) := (blk_cell BKg5.out 2).trans rfl
              have hz418 : w412.cell? ⟨g5, 3, none⟩ = some (.string (⟨#[]⟩ : ByteArray)) := (blk_cell BKg5.out 3).trans rfl
              have hz419 : w412.cell? ⟨g5, 4, none⟩ = some (.slice none 0 0) := (blk_cell BKg5.out 4).trans rfl
              have hf420 := blk_frozen BKg5.out 0
              have hf421 := blk_frozen BKg5.out 1
              have hf422 := blk_frozen BKg5.out 2
              have hf423 := blk_frozen BKg5.out 3
              have hf424 := blk_frozen BKg5.out 4
              have hz425 : w412.cell? ⟨g53, 0, none⟩ = some (.int .i64 a0) := (blk_cell BKg53.out 0).trans rfl
              have hz426 : w412.cell? ⟨g53, 1, none⟩ = some (.bool false) := (blk_cell BKg53.out 1).trans rfl
              have hz427 : w412.cell? ⟨g53, 2, none⟩ = some (.int .i64 a1) := (blk_cell BKg53.out 2).trans rfl
              have hz428 : w412.cell? ⟨g53, 3, none⟩ = some (.string t344) := (blk_cell BKg53.out 3).trans rfl
              have hz429 : w412.cell? ⟨g53, 4, none⟩ = some (.slice none 0 0) := (blk_cell BKg53.out 4).trans rfl
              have hf430 := blk_frozen BKg53.out 0
              have hf431 := blk_frozen BKg53.out 1
              have hf432 := blk_frozen BKg53.out 2
              have hf433 := blk_frozen BKg53.out 3
              have hf434 := blk_frozen BKg53.out 4
              have hz435 : w412.cell? ⟨g277, 0, none⟩ = some (.int .i64 a0) := (blk_cell BKg277.out 0).trans rfl
              have hz436 : w412.cell? ⟨g277, 1, none⟩ = some (.bool false) := (blk_cell BKg277.out 1).trans rfl
              have hz437 : w412.cell? ⟨g277, 2, none⟩ = some (.int .i64 a1) := (blk_cell BKg277.out 2).trans rfl
              have hz438 : w412.cell? ⟨g277, 3, none⟩ = some (.string t344) := (blk_cell BKg277.out 3).trans rfl
              have hz439 : w412.cell? ⟨g277, 4, none⟩ = some (.slice none 0 0) := (blk_cell BKg277.out 4).trans rfl
              have hf440 := blk_frozen BKg277.out 0
              have hf441 := blk_frozen BKg277.out 1
              have hf442 := blk_frozen BKg277.out 2
              have hf443 := blk_frozen BKg277.out 3
              have hf444 := blk_frozen BKg277.out 4
              go_wp2
              refine bodyPost_ret (results_ct rfl _ _ g53 28 #[.int .i64 a0, .bool false, .int .i64 a1, .string t344, .slice none 0 0] (0, 0) _ rfl BKg53.out Try.underlying28 rfl (by kernel_rfl)) rfl ?_
              refine ⟨_, rfl, ?_⟩
              go_wp2_with (((with_reducible refine gate_store (t := 28) (p := 6) rfl ?_); (try (refine gate_guard (by rfl) ?_; dsimp only)); refine MW.ev_store #[.int .i64 a0, .bool false, .int .i64 a1, .string t344, .slice none 0 0] rfl rfl rfl rfl (cs := #[.int .i64 0, .bool false, .int .i64 0, .string (⟨#[]⟩ : ByteArray), .slice none 0 0]) (ty := 28) BKg5.out [.int .i64 a0, .bool false, .int .i64 a1, .string t344, .slice none 0 0] rfl (by kernel_rfl) (by simp) (by simp [Value.oneCell']) rfl ?_; intro w445 hbk hg); replace hbk := Aside0.mk hbk; refine stop_ ?_)
              refine Stop.go ?_
              replace hbk := hbk.out
              replace BKg1 := Aside0.mk (blk_grown (o := .cells #[.int .i64 a2] 3 (0, 0)) BKg1.out hg (fun he_ => NEg1_g5.out (Option.some.inj he_)))
              replace BKg53 := Aside0.mk (blk_grown (o := .cells #[.int .i64 a0, .bool false, .int .i64 a1, .string t344, .slice none 0 0] 28 (0, 0)) BKg53.out hg (fun he_ => NEg53_g5.out (Option.some.inj he_)))
              replace BKg277 := Aside0.mk (blk_grown (o := .cells #[.int .i64 a0, .bool false, .int .i64 a1, .string t344, .slice none 0 0] 28 (0, 0)) BKg277.out hg (fun he_ => NEg277_g5.out (Option.some.inj he_)))
              replace HB := Aside0.mk (Below.grown HB.out hg (below_size HB.out) (fun k_ hk_ => by injection hk_ with hk_; rw [← hk_]; exact GEg5.out))
              replace BKg5 := Aside0.mk hbk
              clear hg hbk
              clear hz413 hf414 hz415 hz416 hz417 hz418 hz419 hf420 hf421 hf422 hf423 hf424 hz425 hz426 hz427 hz428 hz429 hf430 hf431 hf432 hf433 hf434 hz435 hz436 hz437 hz438 hz439 hf440 hf441 hf442 hf443 hf444
              have hz446 : w445.cell? ⟨g1, 0, none⟩ = some (.int .i64 a2) := (blk_cell BKg1.out 0).trans rfl
              have hf447 := blk_frozen BKg1.out 0
              have hz448 : w445.cell? ⟨g5, 0, none⟩ = some (.int .i64 a0) := (blk_cell BKg5.out 0).trans rfl
              have hz449 : w445.cell? ⟨g5, 1, none⟩ = some (.bool false) := (blk_cell BKg5.out 1).trans rfl
              have hz450 : w445.cell? ⟨g5, 2, none⟩ = some (.int .i64 a1) := (blk_cell BKg5.out 2).trans rfl
              have hz451 : w445.cell? ⟨g5, 3, none⟩ = some (.string t344) := (blk_cell BKg5.out 3).trans rfl
              have hz452 : w445.cell? ⟨g5, 4, none⟩ = some (.slice none 0 0) := (blk_cell BKg5.out 4).trans rfl
              have hf453 := blk_frozen BKg5.out 0
              have hf454 := blk_frozen BKg5.out 1
              have hf455 := blk_frozen BKg5.out 2
              have hf456 := blk_frozen BKg5.out 3
              have hf457 := blk_frozen BKg5.out 4
              have hz458 : w445.cell? ⟨g53, 0, none⟩ = some (.int .i64 a0) := (blk_cell BKg53.out 0).trans rfl
              have hz459 : w445.cell? ⟨g53, 1, none⟩ = some (.bool false) := (blk_cell BKg53.out 1).trans rfl
              have hz460 : w445.cell? ⟨g53, 2, none⟩ = some (.int .i64 a1) := (blk_cell BKg53.out 2).trans rfl
              have hz461 : w445.cell? ⟨g53, 3, none⟩ = some (.string t344) := (blk_cell BKg53.out 3).trans rfl
              have hz462 : w445.cell? ⟨g53, 4, none⟩ = some (.slice none 0 0) := (blk_cell BKg53.out 4).trans rfl
              have hf463 := blk_frozen BKg53.out 0
              have hf464 := blk_frozen BKg53.out 1
              have hf465 := blk_frozen BKg53.out 2
              have hf466 := blk_frozen BKg53.out 3
              have hf467 := blk_frozen BKg53.out 4
              have hz468 : w445.cell? ⟨g277, 0, none⟩ = some (.int .i64 a0) := (blk_cell BKg277.out 0).trans rfl
              have hz469 : w445.cell? ⟨g277, 1, none⟩ = some (.bool false) := (blk_cell BKg277.out 1).trans rfl
              have hz470 : w445.cell? ⟨g277, 2, none⟩ = some (.int .i64 a1) := (blk_cell BKg277.out 2).trans rfl
              have hz471 : w445.cell? ⟨g277, 3, none⟩ = some (.string t344) := (blk_cell BKg277.out 3).trans rfl
              have hz472 : w445.cell? ⟨g277, 4, none⟩ = some (.slice none 0 0) := (blk_cell BKg277.out 4).trans rfl
              have hf473 := blk_frozen BKg277.out 0
              have hf474 := blk_frozen BKg277.out 1
              have hf475 := blk_frozen BKg277.out 2
              have hf476 := blk_frozen BKg277.out 3
              have hf477 := blk_frozen BKg277.out 4
              have H := HH.out
              simp only [Option.some.injEq, Prod.mk.injEq] at H
              obtain ⟨rfl, rfl, rfl, rfl, rfl, rfl⟩ := H
              clear HH
              go_wp2
              refine bodyPost_ret (results_ct rfl _ _ g5 28 #[.int .i64 a0, .bool false, .int .i64 a1, .string t344, .slice none 0 0] (0, 0) _ rfl BKg5.out Try.underlying28 rfl (by kernel_rfl)) rfl ?_
              exact ⟨_, by first | rfl | (simp; done) | (simp [*]; done), (Kd.N_nil _ _ _ _ _), HB.out⟩

end Go.Proofs.Ytliackbiljhioaa.GA
