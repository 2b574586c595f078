-- written by wip/gen.py, a program of this session
import Derived.Test.YtliackbiljhioaaGA0
namespace Go.Proofs.Ytliackbiljhioaa.GA
open Go.RowKit Go.Proofs.Ytliackbiljhioaa Go.Proofs.Ytliackbiljhioaa.MW Go.Proofs.YtliackbiljhioaaW.PrintWords Go.Proofs.YtliackbiljhioaaW.PrintLast Go.Proofs.YtliackbiljhioaaW.PrintMore
attribute [local go_sem] max2_int min2_int max_two min_two
set_option linter.unusedVariables false
set_option linter.unusedSimpArgs false

/-! ### toponymref16_sort: function 32 -/
def toponymref16_sort.f (a0 : Int) (a1 : Int) : Option (Int × Bool × Int × ByteArray × (List (S28)) × Int) := if a0 < 0 then (some (0, false, 0, (⟨#[]⟩ : ByteArray), ([] : List (S28)), 2)) else (if a0 > 3 then (some (0, false, 0, (⟨#[]⟩ : ByteArray), ([] : List (S28)), 2)) else (if a1 < 0 then (some (0, false, 0, (⟨#[]⟩ : ByteArray), ([] : List (S28)), 2)) else (if a1 > 30 then (some (0, false, 0, (⟨#[]⟩ : ByteArray), ([] : List (S28)), 2)) else (some (a0, false, a1, (⟨#[]⟩ : ByteArray), ([] : List (S28)), 0)))))
set_option maxHeartbeats 8000000 in
set_option maxRecDepth 100000 in
theorem toponymref16_sort.calls (a0 : Int) (a1 : Int) (r1 : Int) (r2 : Bool) (r3 : Int) (r4 : ByteArray) (r5 : List (S28)) (r6 : Int) (w : World) (h : toponymref16_sort.f a0 a1 = some (r1, r2, r3, r4, r5, r6)) :
    Calls Try.prog 32 #[.int .i64 a0, .int .i64 a1] w (fun e w' => ∃ v4_ : Value, e = .returned (.tuple #[.agg #[.int .i64 r1, .bool r2, .int .i64 r3, .string r4, v4_], .int .i64 r6]) ∧ Kd.N k28 28 w' w.heap.size (fun k_ => w.heap.size ≤ k_) v4_ r5 ∧ Below w.heap.size w w') := by
  have HH := Aside0.mk (show (if a0 < 0 then (some (0, false, 0, (⟨#[]⟩ : ByteArray), ([] : List (S28)), 2)) else (if a0 > 3 then (some (0, false, 0, (⟨#[]⟩ : ByteArray), ([] : List (S28)), 2)) else (if a1 < 0 then (some (0, false, 0, (⟨#[]⟩ : ByteArray), ([] : List (S28)), 2)) else (if a1 > 30 then (some (0, false, 0, (⟨#[]⟩ : ByteArray), ([] : List (S28)), 2)) else (some (a0, false, a1, (⟨#[]⟩ : ByteArray), ([] : List (S28)), 0)))))) = some (r1, r2, r3, r4, r5, r6) from h)
  clear h
  have HB := Aside0.mk (Below.refl w.heap.size w)
  have hu28 := Try.underlying28
  go_enter Try.func32, Try.ntmps32
  go_wp2_with (((with_reducible refine gate_dst (N := 4) rfl ?_); (try (refine gate_guard (by rfl) ?_; dsimp only)); refine box_event ?hg (N := 4) ?hd (cs := #[.int .i64 0, .bool false, .int .i64 0, .string (⟨#[]⟩ : ByteArray), .slice none 0 0]) (t := 28) ?hr ?_; (case hd => rfl); (case hg => rfl); (case hr => first | (go_simp; done) | (go_simp; rfl)); intro g1 hg w2 hbox hb); replace hg := Aside0.mk hg; replace hbox := Aside0.mk hbox; refine stop_ ?_)
  refine Stop.go ?_
  replace hg := hg.out
  replace hbox := hbox.out
  have GEg1 := Aside0.mk (by rw [hg]; exact (below_size HB.out) : w.heap.size ≤ g1)
  replace HB := Aside0.mk (below_step HB.out hb)
  have BKg1 := Aside0.mk hbox
  clear hg hbox hb
  have hz3 : w2.cell? ⟨g1, 0, none⟩ = some (.int .i64 0) := (blk_cell BKg1.out 0).trans rfl
  have hz4 : w2.cell? ⟨g1, 1, none⟩ = some (.bool false) := (blk_cell BKg1.out 1).trans rfl
  have hz5 : w2.cell? ⟨g1, 2, none⟩ = some (.int .i64 0) := (blk_cell BKg1.out 2).trans rfl
  have hz6 : w2.cell? ⟨g1, 3, none⟩ = some (.string (⟨#[]⟩ : ByteArray)) := (blk_cell BKg1.out 3).trans rfl
  have hz7 : w2.cell? ⟨g1, 4, none⟩ = some (.slice none 0 0) := (blk_cell BKg1.out 4).trans rfl
  have hf8 := blk_frozen BKg1.out 0
  have hf9 := blk_frozen BKg1.out 1
  have hf10 := blk_frozen BKg1.out 2
  have hf11 := blk_frozen BKg1.out 3
  have hf12 := blk_frozen BKg1.out 4
  by_cases c13 : a0 < 0
  · have H := HH.out
    rw [if_pos c13] at H
    replace HH := Aside0.mk H
    clear H
    have hk14 : (a0 < 0) = True := eq_true c13
    have hk15 : decide (a0 < 0) = true := decide_eq_true c13
    clear c13
    go_wp2_with (((with_reducible refine gate_store (t := 28) (p := 4) rfl ?_); (try (refine gate_guard (by rfl) ?_; dsimp only)); refine MW.ev_store #[.int .i64 0, .bool false, .int .i64 0, .string (⟨#[]⟩ : ByteArray), .slice none 0 0] rfl rfl rfl rfl (cs := #[.int .i64 0, .bool false, .int .i64 0, .string (⟨#[]⟩ : ByteArray), .slice none 0 0]) (ty := 28) BKg1.out [.int .i64 0, .bool false, .int .i64 0, .string (⟨#[]⟩ : ByteArray), .slice none 0 0] rfl (by kernel_rfl) (by simp) (by simp [Value.oneCell']) rfl ?_; intro w16 hbk hg); replace hbk := Aside0.mk hbk; refine stop_ ?_)
    refine Stop.go ?_
    replace hbk := hbk.out
    replace HB := Aside0.mk (Below.grown HB.out hg (below_size HB.out) (fun k_ hk_ => by injection hk_ with hk_; rw [← hk_]; exact GEg1.out))
    replace BKg1 := Aside0.mk hbk
    clear hg hbk
    clear hz3 hz4 hz5 hz6 hz7 hf8 hf9 hf10 hf11 hf12
    have hz17 : w16.cell? ⟨g1, 0, none⟩ = some (.int .i64 0) := (blk_cell BKg1.out 0).trans rfl
    have hz18 : w16.cell? ⟨g1, 1, none⟩ = some (.bool false) := (blk_cell BKg1.out 1).trans rfl
    have hz19 : w16.cell? ⟨g1, 2, none⟩ = some (.int .i64 0) := (blk_cell BKg1.out 2).trans rfl
    have hz20 : w16.cell? ⟨g1, 3, none⟩ = some (.string (⟨#[]⟩ : ByteArray)) := (blk_cell BKg1.out 3).trans rfl
    have hz21 : w16.cell? ⟨g1, 4, none⟩ = some (.slice none 0 0) := (blk_cell BKg1.out 4).trans rfl
    have hf22 := blk_frozen BKg1.out 0
    have hf23 := blk_frozen BKg1.out 1
    have hf24 := blk_frozen BKg1.out 2
    have hf25 := blk_frozen BKg1.out 3
    have hf26 := blk_frozen BKg1.out 4
    have H := HH.out
    simp only [Option.some.injEq, Prod.mk.injEq] at H
    obtain ⟨rfl, rfl, rfl, rfl, rfl, rfl⟩ := H
    clear HH
    go_wp2
    refine bodyPost_ret (results_ct rfl _ _ g1 28 #[.int .i64 0, .bool false, .int .i64 0, .string (⟨#[]⟩ : ByteArray), .slice none 0 0] (0, 0) _ rfl BKg1.out Try.underlying28 rfl (by kernel_rfl)) rfl ?_
    exact ⟨_, by first | rfl | (simp; done) | (simp [*]; done), (Kd.N_nil _ _ _ _ _), HB.out⟩
  · have H := HH.out
    rw [if_neg c13] at H
    replace HH := Aside0.mk H
    clear H
    have hk27 : (a0 < 0) = False := eq_false c13
    have hk28 : decide (a0 < 0) = false := decide_eq_false c13
    clear c13
    by_cases c29 : a0 > 3
    · have H := HH.out
      rw [if_pos c29] at H
      replace HH := Aside0.mk H
      clear H
      have hk30 : decide (3 < a0) = true := decide_eq_true c29
      clear c29
      go_wp2_with (((with_reducible refine gate_store (t := 28) (p := 4) rfl ?_); (try (refine gate_guard (by rfl) ?_; dsimp only)); refine MW.ev_store #[.int .i64 0, .bool false, .int .i64 0, .string (⟨#[]⟩ : ByteArray), .slice none 0 0] rfl rfl rfl rfl (cs := #[.int .i64 0, .bool false, .int .i64 0, .string (⟨#[]⟩ : ByteArray), .slice none 0 0]) (ty := 28) BKg1.out [.int .i64 0, .bool false, .int .i64 0, .string (⟨#[]⟩ : ByteArray), .slice none 0 0] rfl (by kernel_rfl) (by simp) (by simp [Value.oneCell']) rfl ?_; intro w31 hbk hg); replace hbk := Aside0.mk hbk; refine stop_ ?_)
      refine Stop.go ?_
      replace hbk := hbk.out
      replace HB := Aside0.mk (Below.grown HB.out hg (below_size HB.out) (fun k_ hk_ => by injection hk_ with hk_; rw [← hk_]; exact GEg1.out))
      replace BKg1 := Aside0.mk hbk
      clear hg hbk
      clear hz3 hz4 hz5 hz6 hz7 hf8 hf9 hf10 hf11 hf12
      have hz32 : w31.cell? ⟨g1, 0, none⟩ = some (.int .i64 0) := (blk_cell BKg1.out 0).trans rfl
      have hz33 : w31.cell? ⟨g1, 1, none⟩ = some (.bool false) := (blk_cell BKg1.out 1).trans rfl
      have hz34 : w31.cell? ⟨g1, 2, none⟩ = some (.int .i64 0) := (blk_cell BKg1.out 2).trans rfl
      have hz35 : w31.cell? ⟨g1, 3, none⟩ = some (.string (⟨#[]⟩ : ByteArray)) := (blk_cell BKg1.out 3).trans rfl
      have hz36 : w31.cell? ⟨g1, 4, none⟩ = some (.slice none 0 0) := (blk_cell BKg1.out 4).trans rfl
      have hf37 := blk_frozen BKg1.out 0
      have hf38 := blk_frozen BKg1.out 1
      have hf39 := blk_frozen BKg1.out 2
      have hf40 := blk_frozen BKg1.out 3
      have hf41 := blk_frozen BKg1.out 4
      have H := HH.out
      simp only [Option.some.injEq, Prod.mk.injEq] at H
      obtain ⟨rfl, rfl, rfl, rfl, rfl, rfl⟩ := H
      clear HH
      go_wp2
      refine bodyPost_ret (results_ct rfl _ _ g1 28 #[.int .i64 0, .bool false, .int .i64 0, .string (⟨#[]⟩ : ByteArray), .slice none 0 0] (0, 0) _ rfl BKg1.out Try.underlying28 rfl (by kernel_rfl)) rfl ?_
      exact ⟨_, by first | rfl | (simp; done) | (simp [*]; done), (Kd.N_nil _ _ _ _ _), HB.out⟩
    · have H := HH.out
      rw [if_neg c29] at H
      replace HH := Aside0.mk H
      clear H
      have hk42 : decide (3 < a0) = false := decide_eq_false c29
      clear c29
      by_cases c43 : a1 < 0
      · have H := HH.out
        rw [if_pos c43] at H
        replace HH := Aside0.mk H
        clear H
        have hk44 : (a1 < 0) = True := eq_true c43
        have hk45 : decide (a1 < 0) = true := decide_eq_true c43
        clear c43
        go_wp2_with (((with_reducible refine gate_store (t := 28) (p := 4) rfl ?_); (try (refine gate_guard (by rfl) ?_; dsimp only)); refine MW.ev_store #[.int .i64 0, .bool false, .int .i64 0, .string (⟨#[]⟩ : ByteArray), .slice none 0 0] rfl rfl rfl rfl (cs := #[.int .i64 0, .bool false, .int .i64 0, .string (⟨#[]⟩ : ByteArray), .slice none 0 0]) (ty := 28) BKg1.out [.int .i64 0, .bool false, .int .i64 0, .string (⟨#[]⟩ : ByteArray), .slice none 0 0] rfl (by kernel_rfl) (by simp) (by simp [Value.oneCell']) rfl ?_; intro w46 hbk hg); replace hbk := Aside0.mk hbk; refine stop_ ?_)
        refine Stop.go ?_
        replace hbk := hbk.out
        replace HB := Aside0.mk (Below.grown HB.out hg (below_size HB.out) (fun k_ hk_ => by injection hk_ with hk_; rw [← hk_]; exact GEg1.out))
        replace BKg1 := Aside0.mk hbk
        clear hg hbk
        clear hz3 hz4 hz5 hz6 hz7 hf8 hf9 hf10 hf11 hf12
        have hz47 : w46.cell? ⟨g1, 0, none⟩ = some (.int .i64 0) := (blk_cell BKg1.out 0).trans rfl
        have hz48 : w46.cell? ⟨g1, 1, none⟩ = some (.bool false) := (blk_cell BKg1.out 1).trans rfl
        have hz49 : w46.cell? ⟨g1, 2, none⟩ = some (.int .i64 0) := (blk_cell BKg1.out 2).trans rfl
        have hz50 : w46.cell? ⟨g1, 3, none⟩ = some (.string (⟨#[]⟩ : ByteArray)) := (blk_cell BKg1.out 3).trans rfl
        have hz51 : w46.cell? ⟨g1, 4, none⟩ = some (.slice none 0 0) := (blk_cell BKg1.out 4).trans rfl
        have hf52 := blk_frozen BKg1.out 0
        have hf53 := blk_frozen BKg1.out 1
        have hf54 := blk_frozen BKg1.out 2
        have hf55 := blk_frozen BKg1.out 3
        have hf56 := blk_frozen BKg1.out 4
        have H := HH.out
        simp only [Option.some.injEq, Prod.mk.injEq] at H
        obtain ⟨rfl, rfl, rfl, rfl, rfl, rfl⟩ := H
        clear HH
        go_wp2
        refine bodyPost_ret (results_ct rfl _ _ g1 28 #[.int .i64 0, .bool false, .int .i64 0, .string (⟨#[]⟩ : ByteArray), .slice none 0 0] (0, 0) _ rfl BKg1.out Try.underlying28 rfl (by kernel_rfl)) rfl ?_
        exact ⟨_, by first | rfl | (simp; done) | (simp [*]; done), (Kd.N_nil _ _ _ _ _), HB.out⟩
      · have H := HH.out
        rw [if_neg c43] at H
        replace HH := Aside0.mk H
        clear H
        have hk57 : (a1 < 0) = False := eq_false c43
        have hk58 : decide (a1 < 0) = false := decide_eq_false c43
        clear c43
        by_cases c59 : a1 > 30
        · have H := HH.out
          rw [if_pos c59] at H
          replace HH := Aside0.mk H
          clear H
          have hk60 : decide (30 < a1) = true := decide_eq_true c59
          clear c59
          go_wp2_with (((with_reducible refine gate_store (t := 28) (p := 4) rfl ?_); (try (refine gate_guard (by rfl) ?_; dsimp only)); refine MW.ev_store #[.int .i64 0, .bool false, .int .i64 0, .string (⟨#[]⟩ : ByteArray), .slice none 0 0] rfl rfl rfl rfl (cs := #[.int .i64 0, .bool false, .int .i64 0, .string (⟨#[]⟩ : ByteArray), .slice none 0 0]) (ty := 28) BKg1.out [.int .i64 0, .bool false, .int .i64 0, .string (⟨#[]⟩ : ByteArray), .slice none 0 0] rfl (by kernel_rfl) (by simp) (by simp [Value.oneCell']) rfl ?_; intro w61 hbk hg); replace hbk := Aside0.mk hbk; refine stop_ ?_)
          refine Stop.go ?_
          replace hbk := hbk.out
          replace HB := Aside0.mk (Below.grown HB.out hg (below_size HB.out) (fun k_ hk_ => by injection hk_ with hk_; rw [← hk_]; exact GEg1.out))
          replace BKg1 := Aside0.mk hbk
          clear hg hbk
          clear hz3 hz4 hz5 hz6 hz7 hf8 hf9 hf10 hf11 hf12
          have hz62 : w61.cell? ⟨g1, 0, none⟩ = some (.int .i64 0) := (blk_cell BKg1.out 0).trans rfl
          have hz63 : w61.cell? ⟨g1, 1, none⟩ = some (.bool false) := (blk_cell BKg1.out 1).trans rfl
          have hz64 : w61.cell? ⟨g1, 2, none⟩ = some (.int .i64 0) := (blk_cell BKg1.out 2).trans rfl
          have hz65 : w61.cell? ⟨g1, 3, none⟩ = some (.string (⟨#[]⟩ : ByteArray)) := (blk_cell BKg1.out 3).trans rfl
          have hz66 : w61.cell? ⟨g1, 4, none⟩ = some (.slice none 0 0) := (blk_cell BKg1.out 4).trans rfl
          have hf67 := blk_frozen BKg1.out 0
          have hf68 := blk_frozen BKg1.out 1
          have hf69 := blk_frozen BKg1.out 2
          have hf70 := blk_frozen BKg1.out 3
          have hf71 := blk_frozen BKg1.out 4
          have H := HH.out
          simp only [Option.some.injEq, Prod.mk.injEq] at H
          obtain ⟨rfl, rfl, rfl, rfl, rfl, rfl⟩ := H
          clear HH
          go_wp2
          refine bodyPost_ret (results_ct rfl _ _ g1 28 #[.int .i64 0, .bool false, .int .i64 0, .string (⟨#[]⟩ : ByteArray), .slice none 0 0] (0, 0) _ rfl BKg1.out Try.underlying28 rfl (by kernel_rfl)) rfl ?_
          exact ⟨_, by first | rfl | (simp; done) | (simp [*]; done), (Kd.N_nil _ _ _ _ _), HB.out⟩
        · have H := HH.out
          rw [if_neg c59] at H
          replace HH := Aside0.mk H
          clear H
          have hk72 : decide (30 < a1) = false := decide_eq_false c59
          clear c59
          go_wp2_with (((with_reducible refine gate_store (t := 28) (p := 4) rfl ?_); (try (refine gate_guard (by rfl) ?_; dsimp only)); refine MW.ev_store #[.int .i64 a0, .bool false, .int .i64 a1, .string (⟨#[]⟩ : ByteArray), .slice none 0 0] rfl rfl rfl rfl (cs := #[.int .i64 0, .bool false, .int .i64 0, .string (⟨#[]⟩ : ByteArray), .slice none 0 0]) (ty := 28) BKg1.out [.int .i64 a0, .bool false, .int .i64 a1, .string (⟨#[]⟩ : ByteArray), .slice none 0 0] rfl (by kernel_rfl) (by simp) (by simp [Value.oneCell']) rfl ?_; intro w73 hbk hg); replace hbk := Aside0.mk hbk; refine stop_ ?_)
          refine Stop.go ?_
          replace hbk := hbk.out
          replace HB := Aside0.mk (Below.grown HB.out hg (below_size HB.out) (fun k_ hk_ => by injection hk_ with hk_; rw [← hk_]; exact GEg1.out))
          replace BKg1 := Aside0.mk hbk
          clear hg hbk
          clear hz3 hz4 hz5 hz6 hz7 hf8 hf9 hf10 hf11 hf12
          have hz74 : w73.cell? ⟨g1, 0, none⟩ = some (.int .i64 a0) := (blk_cell BKg1.out 0).trans rfl
          have hz75 : w73.cell? ⟨g1, 1, none⟩ = some (.bool false) := (blk_cell BKg1.out 1).trans rfl
          have hz76 : w73.cell? ⟨g1, 2, none⟩ = some (.int .i64 a1) := (blk_cell BKg1.out 2).trans rfl
          have hz77 : w73.cell? ⟨g1, 3, none⟩ = some (.string (⟨#[]⟩ : ByteArray)) := (blk_cell BKg1.out 3).trans rfl
          have hz78 : w73.cell? ⟨g1, 4, none⟩ = some (.slice none 0 0) := (blk_cell BKg1.out 4).trans rfl
          have hf79 := blk_frozen BKg1.out 0
          have hf80 := blk_frozen BKg1.out 1
          have hf81 := blk_frozen BKg1.out 2
          have hf82 := blk_frozen BKg1.out 3
          have hf83 := blk_frozen BKg1.out 4
          have H := HH.out
          simp only [Option.some.injEq, Prod.mk.injEq] at H
          obtain ⟨rfl, rfl, rfl, rfl, rfl, rfl⟩ := H
          clear HH
          go_wp2
          refine bodyPost_ret (results_ct rfl _ _ g1 28 #[.int .i64 a0, .bool false, .int .i64 a1, .string (⟨#[]⟩ : ByteArray), .slice none 0 0] (0, 0) _ rfl BKg1.out Try.underlying28 rfl (by kernel_rfl)) rfl ?_
          exact ⟨_, by first | rfl | (simp; done) | (simp [*]; done), (Kd.N_nil _ _ _ _ _), HB.out⟩

end Go.Proofs.Ytliackbiljhioaa.GA
