-- written by wip/gen.py, a program of this session
import Derived.Test.YtliackbiljhioaaGA0
namespace Go.Proofs.Ytliackbiljhioaa.GA
open Go.RowKit Go.Proofs.Ytliackbiljhioaa Go.Proofs.Ytliackbiljhioaa.MW Go.Proofs.YtliackbiljhioaaW.PrintWords Go.Proofs.YtliackbiljhioaaW.PrintLast Go.Proofs.YtliackbiljhioaaW.PrintMore
attribute [local go_sem] max2_int min2_int max_two min_two
set_option linter.unusedVariables false
set_option linter.unusedSimpArgs false


/-! ### prims_Bool: function 17 -/
def prims_Bool.f (a0 : Int) (a1 : Int) (a2 : Bool) : Option (Int × Bool × Int × ByteArray × (List (S28)) × Int) := if a0 < 0 then (some (0, false, 0, (⟨#[]⟩ : ByteArray), ([] : List (S28)), 2)) else (if a0 > 3 then (some (0, false, 0, (⟨#[]⟩ : ByteArray), ([] : List (S28)), 2)) else (if a1 < 0 then (some (0, false, 0, (⟨#[]⟩ : ByteArray), ([] : List (S28)), 2)) else (if a1 > 30 then (some (0, false, 0, (⟨#[]⟩ : ByteArray), ([] : List (S28)), 2)) else (if a2 = true then (some (a0, false, a1, (⟨#[255]⟩ : ByteArray), ([] : List (S28)), 0)) else (some (a0, false, a1, (⟨#[0]⟩ : ByteArray), ([] : List (S28)), 0))))))
set_option maxHeartbeats 8000000 in
set_option maxRecDepth 100000 in
theorem prims_Bool.calls (a0 : Int) (a1 : Int) (a2 : Bool) (r1 : Int) (r2 : Bool) (r3 : Int) (r4 : ByteArray) (r5 : List (S28)) (r6 : Int) (w : World) (h : prims_Bool.f a0 a1 a2 = some (r1, r2, r3, r4, r5, r6)) :
    Calls Try.prog 17 #[.int .i64 a0, .int .i64 a1, .bool a2] w (fun e w' => ∃ v4_ : Value, e = .returned (.tuple #[.agg #[.int .i64 r1, .bool r2, .int .i64 r3, .string r4, v4_], .int .i64 r6]) ∧ Kd.N k28 28 w' w.heap.size (fun k_ => w.heap.size ≤ k_) v4_ r5 ∧ Below w.heap.size w w') := by
  have HH := Aside0.mk (show (if a0 < 0 then (some (0, false, 0, (⟨#[]⟩ : ByteArray), ([] : List (S28)), 2)) else (if a0 > 3 then (some (0, false, 0, (⟨#[]⟩ : ByteArray), ([] : List (S28)), 2)) else (if a1 < 0 then (some (0, false, 0, (⟨#[]⟩ : ByteArray), ([] : List (S28)), 2)) else (if a1 > 30 then (some (0, false, 0, (⟨#[]⟩ : ByteArray), ([] : List (S28)), 2)) else (if a2 = true then (some (a0, false, a1, (⟨#[255]⟩ : ByteArray), ([] : List (S28)), 0)) else (some (a0, false, a1, (⟨#[0]⟩ : ByteArray), ([] : List (S28)), 0))))))) = some (r1, r2, r3, r4, r5, r6) from h)
  clear h
  have HB := Aside0.mk (Below.refl w.heap.size w)
  have hu28 := Try.underlying28
  go_enter Try.func17, Try.ntmps17
  go_wp2_with (((with_reducible refine gate_dst (N := 5) rfl ?_); (try (refine gate_guard (by rfl) ?_; dsimp only)); refine box_event ?hg (N := 5) ?hd (cs := #[.bool a2]) (t := 4) ?hr ?_; (case hd => rfl); (case hg => rfl); (case hr => first | (go_simp; done) | (go_simp; rfl)); intro g1 hg w2 hbox hb); replace hg := Aside0.mk hg; replace hbox := Aside0.mk hbox; refine stop_ ?_)
  refine Stop.go ?_
  replace hg := hg.out
  replace hbox := hbox.out
  have GEg1 := Aside0.mk (by rw [hg]; exact (below_size HB.out) : w.heap.size ≤ g1)
  replace HB := Aside0.mk (below_step HB.out hb)
  have BKg1 := Aside0.mk hbox
  clear hg hbox hb
  obtain ⟨hz3, hf4⟩ := MB.lay1 BKg1.out
  go_wp2_with (((with_reducible refine gate_dst (N := 6) rfl ?_); (try (refine gate_guard (by rfl) ?_; dsimp only)); refine box_event ?hg (N := 6) ?hd (cs := #[.int .i64 0, .bool false, .int .i64 0, .string (⟨#[]⟩ : ByteArray), .slice none 0 0]) (t := 28) ?hr ?_; (case hd => rfl); (case hg => rfl); (case hr => first | (go_simp; done) | (go_simp; rfl)); intro g5 hg w6 hbox hb); replace hg := Aside0.mk hg; replace hbox := Aside0.mk hbox; refine stop_ ?_)
  refine Stop.go ?_
  replace hg := hg.out
  replace hbox := hbox.out
  have GEg5 := Aside0.mk (by rw [hg]; exact (below_size HB.out) : w.heap.size ≤ g5)
  have NEg1_g5 := Aside0.mk (by rw [hg]; exact Nat.ne_of_lt (blk_lt (o := .cells #[.bool a2] 4 (0, 0)) BKg1.out) : g1 ≠ g5)
  have NEg5_g1 := Aside0.mk (Ne.symm NEg1_g5.out)
  replace BKg1 := Aside0.mk (blk_below (o := .cells #[.bool a2] 4 (0, 0)) BKg1.out hb)
  replace HB := Aside0.mk (below_step HB.out hb)
  have BKg5 := Aside0.mk hbox
  clear hg hbox hb
  clear hz3 hf4
  obtain ⟨hz7, hf8⟩ := MB.lay1 BKg1.out
  obtain ⟨hz9, hz10, hz11, hz12, hz13, hf14, hf15, hf16, hf17, hf18⟩ := MB.lay5 BKg5.out
  go_wp2_with (((with_reducible refine gate_callee (f := 29) rfl ?_); (try (refine gate_guard (by rfl) ?_; dsimp only)); refine goesL_ (some 11) rfl rfl Try.func29 (by kernel_rfl) rfl #[.int .i64 a0, .int .i64 a1, .func (.func 38) #[] #[.pointer (some ⟨g1, 0, none⟩)]] rfl (by (try simp only [List.map_toArray, List.map_cons, List.map_nil]); first | done | rfl) ?_); refine stop_ ?_)
  refine Stop.go ?_
  go_enter Try.func29, Try.ntmps29
  go_wp2_with (((with_reducible refine gate_dst (N := 6) rfl ?_); (try (refine gate_guard (by rfl) ?_; dsimp only)); refine box_event ?hg (N := 6) ?hd (cs := #[.int .i64 0, .bool false, .int .i64 0, .string (⟨#[]⟩ : ByteArray), .slice none 0 0]) (t := 28) ?hr ?_; (case hd => rfl); (case hg => rfl); (case hr => first | (go_simp; done) | (go_simp; rfl)); intro g19 hg w20 hbox hb); replace hg := Aside0.mk hg; replace hbox := Aside0.mk hbox; refine stop_ ?_)
  refine Stop.go ?_
  replace hg := hg.out
  replace hbox := hbox.out
  have GEg19 := Aside0.mk (by rw [hg]; exact (below_size HB.out) : w.heap.size ≤ g19)
  have NEg1_g19 := Aside0.mk (by rw [hg]; exact Nat.ne_of_lt (blk_lt (o := .cells #[.bool a2] 4 (0, 0)) BKg1.out) : g1 ≠ g19)
  have NEg19_g1 := Aside0.mk (Ne.symm NEg1_g19.out)
  have NEg5_g19 := Aside0.mk (by rw [hg]; exact Nat.ne_of_lt (blk_lt (o := .cells #[.int .i64 0, .bool false, .int .i64 0, .string (⟨#[]⟩ : ByteArray), .slice none 0 0] 28 (0, 0)) BKg5.out) : g5 ≠ g19)
  have NEg19_g5 := Aside0.mk (Ne.symm NEg5_g19.out)
  replace BKg1 := Aside0.mk (blk_below (o := .cells #[.bool a2] 4 (0, 0)) BKg1.out hb)
  replace BKg5 := Aside0.mk (blk_below (o := .cells #[.int .i64 0, .bool false, .int .i64 0, .string (⟨#[]⟩ : ByteArray), .slice none 0 0] 28 (0, 0)) BKg5.out hb)
  replace HB := Aside0.mk (below_step HB.out hb)
  have BKg19 := Aside0.mk hbox
  clear hg hbox hb
  clear hz7 hf8 hz9 hz10 hz11 hz12 hz13 hf14 hf15 hf16 hf17 hf18
  obtain ⟨hz21, hf22⟩ := MB.lay1 BKg1.out
  obtain ⟨hz23, hz24, hz25, hz26, hz27, hf28, hf29, hf30, hf31, hf32⟩ := MB.lay5 BKg5.out
  obtain ⟨hz33, hz34, hz35, hz36, hz37, hf38, hf39, hf40, hf41, hf42⟩ := MB.lay5 BKg19.out
  by_cases c43 : a0 < 0
  · have H := HH.out
    rw [if_pos c43] at H
    replace HH := Aside0.mk H
    clear H
    have hk44 : (a0 < 0) = True := eq_true c43
    have hk45 : decide (a0 < 0) = true := decide_eq_true c43
    clear c43
    go_wp2_with (((with_reducible refine gate_store (t := 28) (p := 6) rfl ?_); (try (refine gate_guard (by rfl) ?_; dsimp only)); refine MW.ev_store #[.int .i64 0, .bool false, .int .i64 0, .string (⟨#[]⟩ : ByteArray), .slice none 0 0] rfl rfl rfl rfl (cs := #[.int .i64 0, .bool false, .int .i64 0, .string (⟨#[]⟩ : ByteArray), .slice none 0 0]) (ty := 28) BKg19.out [.int .i64 0, .bool false, .int .i64 0, .string (⟨#[]⟩ : ByteArray), .slice none 0 0] rfl (by kernel_rfl) (by simp) (by simp [Value.oneCell']) rfl ?_; intro w46 hbk hg); replace hbk := Aside0.mk hbk; refine stop_ ?_)
    refine Stop.go ?_
    replace hbk := hbk.out
    replace BKg1 := Aside0.mk (blk_grown (o := .cells #[.bool a2] 4 (0, 0)) BKg1.out hg (fun he_ => NEg1_g19.out (Option.some.inj he_)))
    replace BKg5 := Aside0.mk (blk_grown (o := .cells #[.int .i64 0, .bool false, .int .i64 0, .string (⟨#[]⟩ : ByteArray), .slice none 0 0] 28 (0, 0)) BKg5.out hg (fun he_ => NEg5_g19.out (Option.some.inj he_)))
    replace HB := Aside0.mk (Below.grown HB.out hg (below_size HB.out) (fun k_ hk_ => by injection hk_ with hk_; rw [← hk_]; exact GEg19.out))
    replace BKg19 := Aside0.mk hbk
    clear hg hbk
    clear hz21 hf22 hz23 hz24 hz25 hz26 hz27 hf28 hf29 hf30 hf31 hf32 hz33 hz34 hz35 hz36 hz37 hf38 hf39 hf40 hf41 hf42
    obtain ⟨hz47, hf48⟩ := MB.lay1 BKg1.out
    obtain ⟨hz49, hz50, hz51, hz52, hz53, hf54, hf55, hf56, hf57, hf58⟩ := MB.lay5 BKg5.out
    obtain ⟨hz59, hz60, hz61, hz62, hz63, hf64, hf65, hf66, hf67, hf68⟩ := MB.lay5 BKg19.out
    go_wp2
    refine bodyPost_ret (results_ct rfl _ _ g19 28 #[.int .i64 0, .bool false, .int .i64 0, .string (⟨#[]⟩ : ByteArray), .slice none 0 0] (0, 0) _ rfl BKg19.out Try.underlying28 rfl (by kernel_rfl)) rfl ?_
    refine ⟨_, rfl, ?_⟩
    go_wp2_with (((with_reducible refine gate_store (t := 28) (p := 6) rfl ?_); (try (refine gate_guard (by rfl) ?_; dsimp only)); refine MW.ev_store #[.int .i64 0, .bool false, .int .i64 0, .string (⟨#[]⟩ : ByteArray), .slice none 0 0] rfl rfl rfl rfl (cs := #[.int .i64 0, .bool false, .int .i64 0, .string (⟨#[]⟩ : ByteArray), .slice none 0 0]) (ty := 28) BKg5.out [.int .i64 0, .bool false, .int .i64 0, .string (⟨#[]⟩ : ByteArray), .slice none 0 0] rfl (by kernel_rfl) (by simp) (by simp [Value.oneCell']) rfl ?_; intro w69 hbk hg); replace hbk := Aside0.mk hbk; refine stop_ ?_)
    refine Stop.go ?_
    replace hbk := hbk.out
    replace BKg1 := Aside0.mk (blk_grown (o := .cells #[.bool a2] 4 (0, 0)) BKg1.out hg (fun he_ => NEg1_g5.out (Option.some.inj he_)))
    replace BKg19 := Aside0.mk (blk_grown (o := .cells #[.int .i64 0, .bool false, .int .i64 0, .string (⟨#[]⟩ : ByteArray), .slice none 0 0] 28 (0, 0)) BKg19.out hg (fun he_ => NEg19_g5.out (Option.some.inj he_)))
    replace HB := Aside0.mk (Below.grown HB.out hg (below_size HB.out) (fun k_ hk_ => by injection hk_ with hk_; rw [← hk_]; exact GEg5.out))
    replace BKg5 := Aside0.mk hbk
    clear hg hbk
    clear hz47 hf48 hz49 hz50 hz51 hz52 hz53 hf54 hf55 hf56 hf57 hf58 hz59 hz60 hz61 hz62 hz63 hf64 hf65 hf66 hf67 hf68
    obtain ⟨hz70, hf71⟩ := MB.lay1 BKg1.out
    obtain ⟨hz72, hz73, hz74, hz75, hz76, hf77, hf78, hf79, hf80, hf81⟩ := MB.lay5 BKg5.out
    obtain ⟨hz82, hz83, hz84, hz85, hz86, hf87, hf88, hf89, hf90, hf91⟩ := MB.lay5 BKg19.out
    have H := HH.out
    simp only [Option.some.injEq, Prod.mk.injEq] at H
    obtain ⟨rfl, rfl, rfl, rfl, rfl, rfl⟩ := H
    clear HH
    go_wp2
    refine bodyPost_ret (results_ct rfl _ _ g5 28 #[.int .i64 0, .bool false, .int .i64 0, .string (⟨#[]⟩ : ByteArray), .slice none 0 0] (0, 0) _ rfl BKg5.out Try.underlying28 rfl (by kernel_rfl)) rfl ?_
    exact ⟨_, by first | rfl | (simp; done) | (simp [*]; done), (Kd.N_nil _ _ _ _ _), HB.out⟩
  · have H := HH.out
    rw [if_neg c43] at H
    replace HH := Aside0.mk H
    clear H
    have hk92 : (a0 < 0) = False := eq_false c43
    have hk93 : decide (a0 < 0) = false := decide_eq_false c43
    clear c43
    by_cases c94 : a0 > 3
    · have H := HH.out
      rw [if_pos c94] at H
      replace HH := Aside0.mk H
      clear H
      have hk95 : decide (3 < a0) = true := decide_eq_true c94
      clear c94
      go_wp2_with (((with_reducible refine gate_store (t := 28) (p := 6) rfl ?_); (try (refine gate_guard (by rfl) ?_; dsimp only)); refine MW.ev_store #[.int .i64 0, .bool false, .int .i64 0, .string (⟨#[]⟩ : ByteArray), .slice none 0 0] rfl rfl rfl rfl (cs := #[.int .i64 0, .bool false, .int .i64 0, .string (⟨#[]⟩ : ByteArray), .slice none 0 0]) (ty := 28) BKg19.out [.int .i64 0, .bool false, .int .i64 0, .string (⟨#[]⟩ : ByteArray), .slice none 0 0] rfl (by kernel_rfl) (by simp) (by simp [Value.oneCell']) rfl ?_; intro w96 hbk hg); replace hbk := Aside0.mk hbk; refine stop_ ?_)
      refine Stop.go ?_
      replace hbk := hbk.out
      replace BKg1 := Aside0.mk (blk_grown (o := .cells #[.bool a2] 4 (0, 0)) BKg1.out hg (fun he_ => NEg1_g19.out (Option.some.inj he_)))
      replace BKg5 := Aside0.mk (blk_grown (o := .cells #[.int .i64 0, .bool false, .int .i64 0, .string (⟨#[]⟩ : ByteArray), .slice none 0 0] 28 (0, 0)) BKg5.out hg (fun he_ => NEg5_g19.out (Option.some.inj he_)))
      replace HB := Aside0.mk (Below.grown HB.out hg (below_size HB.out) (fun k_ hk_ => by injection hk_ with hk_; rw [← hk_]; exact GEg19.out))
      replace BKg19 := Aside0.mk hbk
      clear hg hbk
      clear hz21 hf22 hz23 hz24 hz25 hz26 hz27 hf28 hf29 hf30 hf31 hf32 hz33 hz34 hz35 hz36 hz37 hf38 hf39 hf40 hf41 hf42
      obtain ⟨hz97, hf98⟩ := MB.lay1 BKg1.out
      obtain ⟨hz99, hz100, hz101, hz102, hz103, hf104, hf105, hf106, hf107, hf108⟩ := MB.lay5 BKg5.out
      obtain ⟨hz109, hz110, hz111, hz112, hz113, hf114, hf115, hf116, hf117, hf118⟩ := MB.lay5 BKg19.out
      go_wp2
      refine bodyPost_ret (results_ct rfl _ _ g19 28 #[.int .i64 0, .bool false, .int .i64 0, .string (⟨#[]⟩ : ByteArray), .slice none 0 0] (0, 0) _ rfl BKg19.out Try.underlying28 rfl (by kernel_rfl)) rfl ?_
      refine ⟨_, rfl, ?_⟩
      go_wp2_with (((with_reducible refine gate_store (t := 28) (p := 6) rfl ?_); (try (refine gate_guard (by rfl) ?_; dsimp only)); refine MW.ev_store #[.int .i64 0, .bool false, .int .i64 0, .string (⟨#[]⟩ : ByteArray), .slice none 0 0] rfl rfl rfl rfl (cs := #[.int .i64 0, .bool false, .int .i64 0, .string (⟨#[]⟩ : ByteArray), .slice none 0 0]) (ty := 28) BKg5.out [.int .i64 0, .bool false, .int .i64 0, .string (⟨#[]⟩ : ByteArray), .slice none 0 0] rfl (by kernel_rfl) (by simp) (by simp [Value.oneCell']) rfl ?_; intro w119 hbk hg); replace hbk := Aside0.mk hbk; refine stop_ ?_)
      refine Stop.go ?_
      replace hbk := hbk.out
      replace BKg1 := Aside0.mk (blk_grown (o := .cells #[.bool a2] 4 (0, 0)) BKg1.out hg (fun he_ => NEg1_g5.out (Option.some.inj he_)))
      replace BKg19 := Aside0.mk (blk_grown (o := .cells #[.int .i64 0, .bool false, .int .i64 0, .string (⟨#[]⟩ : ByteArray), .slice none 0 0] 28 (0, 0)) BKg19.out hg (fun he_ => NEg19_g5.out (Option.some.inj he_)))
      replace HB := Aside0.mk (Below.grown HB.out hg (below_size HB.out) (fun k_ hk_ => by injection hk_ with hk_; rw [← hk_]; exact GEg5.out))
      replace BKg5 := Aside0.mk hbk
      clear hg hbk
      clear hz97 hf98 hz99 hz100 hz101 hz102 hz103 hf104 hf105 hf106 hf107 hf108 hz109 hz110 hz111 hz112 hz113 hf114 hf115 hf116 hf117 hf118
      obtain ⟨hz120, hf121⟩ := MB.lay1 BKg1.out
      obtain ⟨hz122, hz123, hz124, hz125, hz126, hf127, hf128, hf129, hf130, hf131⟩ := MB.lay5 BKg5.out
      obtain ⟨hz132, hz133, hz134, hz135, hz136, hf137, hf138, hf139, hf140, hf141⟩ := MB.lay5 BKg19.out
      have H := HH.out
      simp only [Option.some.injEq, Prod.mk.injEq] at H
      obtain ⟨rfl, rfl, rfl, rfl, rfl, rfl⟩ := H
      clear HH
      go_wp2
      refine bodyPost_ret (results_ct rfl _ _ g5 28 #[.int .i64 0, .bool false, .int .i64 0, .string (⟨#[]⟩ : ByteArray), .slice none 0 0] (0, 0) _ rfl BKg5.out Try.underlying28 rfl (by kernel_rfl)) rfl ?_
      exact ⟨_, by first | rfl | (simp; done) | (simp [*]; done), (Kd.N_nil _ _ _ _ _), HB.out⟩
    · have H := HH.out
      rw [if_neg c94] at H
      replace HH := Aside0.mk H
      clear H
      have hk142 : decide (3 < a0) = false := decide_eq_false c94
      clear c94
      by_cases c143 : a1 < 0
      · have H := HH.out
        rw [if_pos c143] at H
        replace HH := Aside0.mk H
        clear H
        have hk144 : (a1 < 0) = True := eq_true c143
        have hk145 : decide (a1 < 0) = true := decide_eq_true c143
        clear c143
        go_wp2_with (((with_reducible refine gate_store (t := 28) (p := 6) rfl ?_); (try (refine gate_guard (by rfl) ?_; dsimp only)); refine MW.ev_store #[.int .i64 0, .bool false, .int .i64 0, .string (⟨#[]⟩ : ByteArray), .slice none 0 0] rfl rfl rfl rfl (cs := #[.int .i64 0, .bool false, .int .i64 0, .string (⟨#[]⟩ : ByteArray), .slice none 0 0]) (ty := 28) BKg19.out [.int .i64 0, .bool false, .int .i64 0, .string (⟨#[]⟩ : ByteArray), .slice none 0 0] rfl (by kernel_rfl) (by simp) (by simp [Value.oneCell']) rfl ?_; intro w146 hbk hg); replace hbk := Aside0.mk hbk; refine stop_ ?_)
        refine Stop.go ?_
        replace hbk := hbk.out
        replace BKg1 := Aside0.mk (blk_grown (o := .cells #[.bool a2] 4 (0, 0)) BKg1.out hg (fun he_ => NEg1_g19.out (Option.some.inj he_)))
        replace BKg5 := Aside0.mk (blk_grown (o := .cells #[.int .i64 0, .bool false, .int .i64 0, .string (⟨#[]⟩ : ByteArray), .slice none 0 0] 28 (0, 0)) BKg5.out hg (fun he_ => NEg5_g19.out (Option.some.inj he_)))
        replace HB := Aside0.mk (Below.grown HB.out hg (below_size HB.out) (fun k_ hk_ => by injection hk_ with hk_; rw [← hk_]; exact GEg19.out))
        replace BKg19 := Aside0.mk hbk
        clear hg hbk
        clear hz21 hf22 hz23 hz24 hz25 hz26 hz27 hf28 hf29 hf30 hf31 hf32 hz33 hz34 hz35 hz36 hz37 hf38 hf39 hf40 hf41 hf42
        obtain ⟨hz147, hf148⟩ := MB.lay1 BKg1.out
        obtain ⟨hz149, hz150, hz151, hz152, hz153, hf154, hf155, hf156, hf157, hf158⟩ := MB.lay5 BKg5.out
        obtain ⟨hz159, hz160, hz161, hz162, hz163, hf164, hf165, hf166, hf167, hf168⟩ := MB.lay5 BKg19.out
        go_wp2
        refine bodyPost_ret (results_ct rfl _ _ g19 28 #[.int .i64 0, .bool false, .int .i64 0, .string (⟨#[]⟩ : ByteArray), .slice none 0 0] (0, 0) _ rfl BKg19.out Try.underlying28 rfl (by kernel_rfl)) rfl ?_
        refine ⟨_, rfl, ?_⟩
        go_wp2_with (((with_reducible refine gate_store (t := 28) (p := 6) rfl ?_); (try (refine gate_guard (by rfl) ?_; dsimp only)); refine MW.ev_store #[.int .i64 0, .bool false, .int .i64 0, .string (⟨#[]⟩ : ByteArray), .slice none 0 0] rfl rfl rfl rfl (cs := #[.int .i64 0, .bool false, .int .i64 0, .string (⟨#[]⟩ : ByteArray), .slice none 0 0]) (ty := 28) BKg5.out [.int .i64 0, .bool false, .int .i64 0, .string (⟨#[]⟩ : ByteArray), .slice none 0 0] rfl (by kernel_rfl) (by simp) (by simp [Value.oneCell']) rfl ?_; intro w169 hbk hg); replace hbk := Aside0.mk hbk; refine stop_ ?_)
        refine Stop.go ?_
        replace hbk := hbk.out
        replace BKg1 := Aside0.mk (blk_grown (o := .cells #[.bool a2] 4 (0, 0)) BKg1.out hg (fun he_ => NEg1_g5.out (Option.some.inj he_)))
        replace BKg19 := Aside0.mk (blk_grown (o := .cells #[.int .i64 0, .bool false, .int .i64 0, .string (⟨#[]⟩ : ByteArray), .slice none 0 0] 28 (0, 0)) BKg19.out hg (fun he_ => NEg19_g5.out (Option.some.inj he_)))
        replace HB := Aside0.mk (Below.grown HB.out hg (below_size HB.out) (fun k_ hk_ => by injection hk_ with hk_; rw [← hk_]; exact GEg5.out))
        replace BKg5 := Aside0.mk hbk
        clear hg hbk
        clear hz147 hf148 hz149 hz150 hz151 hz152 hz153 hf154 hf155 hf156 hf157 hf158 hz159 hz160 hz161 hz162 hz163 hf164 hf165 hf166 hf167 hf168
        obtain ⟨hz170, hf171⟩ := MB.lay1 BKg1.out
        obtain ⟨hz172, hz173, hz174, hz175, hz176, hf177, hf178, hf179, hf180, hf181⟩ := MB.lay5 BKg5.out
        obtain ⟨hz182, hz183, hz184, hz185, hz186, hf187, hf188, hf189, hf190, hf191⟩ := MB.lay5 BKg19.out
        have H := HH.out
        simp only [Option.some.injEq, Prod.mk.injEq] at H
        obtain ⟨rfl, rfl, rfl, rfl, rfl, rfl⟩ := H
        clear HH
        go_wp2
        refine bodyPost_ret (results_ct rfl _ _ g5 28 #[.int .i64 0, .bool false, .int .i64 0, .string (⟨#[]⟩ : ByteArray), .slice none 0 0] (0, 0) _ rfl BKg5.out Try.underlying28 rfl (by kernel_rfl)) rfl ?_
        exact ⟨_, by first | rfl | (simp; done) | (simp [*]; done), (Kd.N_nil _ _ _ _ _), HB.out⟩
      · have H := HH.out
        rw [if_neg c143] at H
        replace HH := Aside0.mk H
        clear H
        have hk192 : (a1 < 0) = False := eq_false c143
        have hk193 : decide (a1 < 0) = false := decide_eq_false c143
        clear c143
        by_cases c194 : a1 > 30
        · have H := HH.out
          rw [if_pos c194] at H
          replace HH := Aside0.mk H
          clear H
          have hk195 : decide (30 < a1) = true := decide_eq_true c194
          clear c194
          go_wp2_with (((with_reducible refine gate_store (t := 28) (p := 6) rfl ?_); (try (refine gate_guard (by rfl) ?_; dsimp only)); refine MW.ev_store #[.int .i64 0, .bool false, .int .i64 0, .string (⟨#[]⟩ : ByteArray), .slice none 0 0] rfl rfl rfl rfl (cs := #[.int .i64 0, .bool false, .int .i64 0, .string (⟨#[]⟩ : ByteArray), .slice none 0 0]) (ty := 28) BKg19.out [.int .i64 0, .bool false, .int .i64 0, .string (⟨#[]⟩ : ByteArray), .slice none 0 0] rfl (by kernel_rfl) (by simp) (by simp [Value.oneCell']) rfl ?_; intro w196 hbk hg); replace hbk := Aside0.mk hbk; refine stop_ ?_)
          refine Stop.go ?_
          replace hbk := hbk.out
          replace BKg1 := Aside0.mk (blk_grown (o := .cells #[.bool a2] 4 (0, 0)) BKg1.out hg (fun he_ => NEg1_g19.out (Option.some.inj he_)))
          replace BKg5 := Aside0.mk (blk_grown (o := .cells #[.int .i64 0, .bool false, .int .i64 0, .string (⟨#[]⟩ : ByteArray), .slice none 0 0] 28 (0, 0)) BKg5.out hg (fun he_ => NEg5_g19.out (Option.some.inj he_)))
          replace HB := Aside0.mk (Below.grown HB.out hg (below_size HB.out) (fun k_ hk_ => by injection hk_ with hk_; rw [← hk_]; exact GEg19.out))
          replace BKg19 := Aside0.mk hbk
          clear hg hbk
          clear hz21 hf22 hz23 hz24 hz25 hz26 hz27 hf28 hf29 hf30 hf31 hf32 hz33 hz34 hz35 hz36 hz37 hf38 hf39 hf40 hf41 hf42
          obtain ⟨hz197, hf198⟩ := MB.lay1 BKg1.out
          obtain ⟨hz199, hz200, hz201, hz202, hz203, hf204, hf205, hf206, hf207, hf208⟩ := MB.lay5 BKg5.out
          obtain ⟨hz209, hz210, hz211, hz212, hz213, hf214, hf215, hf216, hf217, hf218⟩ := MB.lay5 BKg19.out
          go_wp2
          refine bodyPost_ret (results_ct rfl _ _ g19 28 #[.int .i64 0, .bool false, .int .i64 0, .string (⟨#[]⟩ : ByteArray), .slice none 0 0] (0, 0) _ rfl BKg19.out Try.underlying28 rfl (by kernel_rfl)) rfl ?_
          refine ⟨_, rfl, ?_⟩
          go_wp2_with (((with_reducible refine gate_store (t := 28) (p := 6) rfl ?_); (try (refine gate_guard (by rfl) ?_; dsimp only)); refine MW.ev_store #[.int .i64 0, .bool false, .int .i64 0, .string (⟨#[]⟩ : ByteArray), .slice none 0 0] rfl rfl rfl rfl (cs := #[.int .i64 0, .bool false, .int .i64 0, .string (⟨#[]⟩ : ByteArray), .slice none 0 0]) (ty := 28) BKg5.out [.int .i64 0, .bool false, .int .i64 0, .string (⟨#[]⟩ : ByteArray), .slice none 0 0] rfl (by kernel_rfl) (by simp) (by simp [Value.oneCell']) rfl ?_; intro w219 hbk hg); replace hbk := Aside0.mk hbk; refine stop_ ?_)
          refine Stop.go ?_
          replace hbk := hbk.out
          replace BKg1 := Aside0.mk (blk_grown (o := .cells #[.bool a2] 4 (0, 0)) BKg1.out hg (fun he_ => NEg1_g5.out (Option.some.inj he_)))
          replace BKg19 := Aside0.mk (blk_grown (o := .cells #[.int .i64 0, .bool false, .int .i64 0, .string (⟨#[]⟩ : ByteArray), .slice none 0 0] 28 (0, 0)) BKg19.out hg (fun he_ => NEg19_g5.out (Option.some.inj he_)))
          replace HB := Aside0.mk (Below.grown HB.out hg (below_size HB.out) (fun k_ hk_ => by injection hk_ with hk_; rw [← hk_]; exact GEg5.out))
          replace BKg5 := Aside0.mk hbk
          clear hg hbk
          clear hz197 hf198 hz199 hz200 hz201 hz202 hz203 hf204 hf205 hf206 hf207 hf208 hz209 hz210 hz211 hz212 hz213 hf214 hf215 hf216 hf217 hf218
          obtain ⟨hz220, hf221⟩ := MB.lay1 BKg1.out
          obtain ⟨hz222, hz223, hz224, hz225, hz226, hf227, hf228, hf229, hf230, hf231⟩ := MB.lay5 BKg5.out
          obtain ⟨hz232, hz233, hz234, hz235, hz236, hf237, hf238, hf239, hf240, hf241⟩ := MB.lay5 BKg19.out
          have H := HH.out
          simp only [Option.some.injEq, Prod.mk.injEq] at H
          obtain ⟨rfl, rfl, rfl, rfl, rfl, rfl⟩ := H
          clear HH
          go_wp2
          refine bodyPost_ret (results_ct rfl _ _ g5 28 #[.int .i64 0, .bool false, .int .i64 0, .string (⟨#[]⟩ : ByteArray), .slice none 0 0] (0, 0) _ rfl BKg5.out Try.underlying28 rfl (by kernel_rfl)) rfl ?_
          exact ⟨_, by first | rfl | (simp; done) | (simp [*]; done), (Kd.N_nil _ _ _ _ _), HB.out⟩
        · have H := HH.out
          rw [if_neg c194] at H
          replace HH := Aside0.mk H
          clear H
          have hk242 : decide (30 < a1) = false := decide_eq_false c194
          clear c194
          go_wp2_with (((with_reducible refine gate_dst (N := 8) rfl ?_); (try (refine gate_guard (by rfl) ?_; dsimp only)); refine box_event ?hg (N := 8) ?hd (cs := #[.int .i64 0, .bool false, .int .i64 0, .string (⟨#[]⟩ : ByteArray), .slice none 0 0]) (t := 28) ?hr ?_; (case hd => rfl); (case hg => rfl); (case hr => first | (go_simp; done) | (go_simp; rfl)); intro g243 hg w244 hbox hb); replace hg := Aside0.mk hg; replace hbox := Aside0.mk hbox; refine stop_ ?_)
          refine Stop.go ?_
          replace hg := hg.out
          replace hbox := hbox.out
          have GEg243 := Aside0.mk (by rw [hg]; exact (below_size HB.out) : w.heap.size ≤ g243)
          have NEg1_g243 := Aside0.mk (by rw [hg]; exact Nat.ne_of_lt (blk_lt (o := .cells #[.bool a2] 4 (0, 0)) BKg1.out) : g1 ≠ g243)
          have NEg243_g1 := Aside0.mk (Ne.symm NEg1_g243.out)
          have NEg5_g243 := Aside0.mk (by rw [hg]; exact Nat.ne_of_lt (blk_lt (o := .cells #[.int .i64 0, .bool false, .int .i64 0, .string (⟨#[]⟩ : ByteArray), .slice none 0 0] 28 (0, 0)) BKg5.out) : g5 ≠ g243)
          have NEg243_g5 := Aside0.mk (Ne.symm NEg5_g243.out)
          have NEg19_g243 := Aside0.mk (by rw [hg]; exact Nat.ne_of_lt (blk_lt (o := .cells #[.int .i64 0, .bool false, .int .i64 0, .string (⟨#[]⟩ : ByteArray), .slice none 0 0] 28 (0, 0)) BKg19.out) : g19 ≠ g243)
          have NEg243_g19 := Aside0.mk (Ne.symm NEg19_g243.out)
          replace BKg1 := Aside0.mk (blk_below (o := .cells #[.bool a2] 4 (0, 0)) BKg1.out hb)
          replace BKg5 := Aside0.mk (blk_below (o := .cells #[.int .i64 0, .bool false, .int .i64 0, .string (⟨#[]⟩ : ByteArray), .slice none 0 0] 28 (0, 0)) BKg5.out hb)
          replace BKg19 := Aside0.mk (blk_below (o := .cells #[.int .i64 0, .bool false, .int .i64 0, .string (⟨#[]⟩ : ByteArray), .slice none 0 0] 28 (0, 0)) BKg19.out hb)
          replace HB := Aside0.mk (below_step HB.out hb)
          have BKg243 := Aside0.mk hbox
          clear hg hbox hb
          clear hz21 hf22 hz23 hz24 hz25 hz26 hz27 hf28 hf29 hf30 hf31 hf32 hz33 hz34 hz35 hz36 hz37 hf38 hf39 hf40 hf41 hf42
          obtain ⟨hz245, hf246⟩ := MB.lay1 BKg1.out
          obtain ⟨hz247, hz248, hz249, hz250, hz251, hf252, hf253, hf254, hf255, hf256⟩ := MB.lay5 BKg5.out
          obtain ⟨hz257, hz258, hz259, hz260, hz261, hf262, hf263, hf264, hf265, hf266⟩ := MB.lay5 BKg19.out
          obtain ⟨hz267, hz268, hz269, hz270, hz271, hf272, hf273, hf274, hf275, hf276⟩ := MB.lay5 BKg243.out
          go_wp2_with (((with_reducible refine gate_store (t := 28) (p := 8) rfl ?_); (try (refine gate_guard (by rfl) ?_; dsimp only)); refine MW.ev_store #[.int .i64 a0, .bool false, .int .i64 a1, .string (⟨#[]⟩ : ByteArray), .slice none 0 0] rfl rfl rfl rfl (cs := #[.int .i64 0, .bool false, .int .i64 0, .string (⟨#[]⟩ : ByteArray), .slice none 0 0]) (ty := 28) BKg243.out [.int .i64 a0, .bool false, .int .i64 a1, .string (⟨#[]⟩ : ByteArray), .slice none 0 0] rfl (by kernel_rfl) (by simp) (by simp [Value.oneCell']) rfl ?_; intro w277 hbk hg); replace hbk := Aside0.mk hbk; refine stop_ ?_)
          refine Stop.go ?_
          replace hbk := hbk.out
          replace BKg1 := Aside0.mk (blk_grown (o := .cells #[.bool a2] 4 (0, 0)) BKg1.out hg (fun he_ => NEg1_g243.out (Option.some.inj he_)))
          replace BKg5 := Aside0.mk (blk_grown (o := .cells #[.int .i64 0, .bool false, .int .i64 0, .string (⟨#[]⟩ : ByteArray), .slice none 0 0] 28 (0, 0)) BKg5.out hg (fun he_ => NEg5_g243.out (Option.some.inj he_)))
          replace BKg19 := Aside0.mk (blk_grown (o := .cells #[.int .i64 0, .bool false, .int .i64 0, .string (⟨#[]⟩ : ByteArray), .slice none 0 0] 28 (0, 0)) BKg19.out hg (fun he_ => NEg19_g243.out (Option.some.inj he_)))
          replace HB := Aside0.mk (Below.grown HB.out hg (below_size HB.out) (fun k_ hk_ => by injection hk_ with hk_; rw [← hk_]; exact GEg243.out))
          replace BKg243 := Aside0.mk hbk
          clear hg hbk
          clear hz245 hf246 hz247 hz248 hz249 hz250 hz251 hf252 hf253 hf254 hf255 hf256 hz257 hz258 hz259 hz260 hz261 hf262 hf263 hf264 hf265 hf266 hz267 hz268 hz269 hz270 hz271 hf272 hf273 hf274 hf275 hf276
          obtain ⟨hz278, hf279⟩ := MB.lay1 BKg1.out
          obtain ⟨hz280, hz281, hz282, hz283, hz284, hf285, hf286, hf287, hf288, hf289⟩ := MB.lay5 BKg5.out
          obtain ⟨hz290, hz291, hz292, hz293, hz294, hf295, hf296, hf297, hf298, hf299⟩ := MB.lay5 BKg19.out
          obtain ⟨hz300, hz301, hz302, hz303, hz304, hf305, hf306, hf307, hf308, hf309⟩ := MB.lay5 BKg243.out
          go_wp2_with (((with_reducible refine gate_dst (N := 28) rfl ?_); (try (refine gate_guard (by rfl) ?_; dsimp only)); refine MW.goesV_ (some 28) rfl rfl Try.func38 (by kernel_rfl) rfl #[.pointer (some ⟨g243, 0, none⟩), .pointer (some ⟨g1, 0, none⟩)] rfl #[.pointer (some ⟨g1, 0, none⟩)] rfl (by simp only [List.map_toArray, List.map_cons, List.map_nil, List.append_toArray, List.cons_append, List.nil_append]; first | done | rfl) ?_); refine stop_ ?_)
          refine Stop.go ?_
          go_enter Try.func38, Try.ntmps38
          go_wp2_with (((with_reducible refine gate_store (t := 9) (p := 5) rfl ?_); (try (refine gate_guard (by rfl) ?_; dsimp only)); refine MW.ev_store #[.int .i64 a0, .bool false, .int .i64 a1, .string (⟨#[0]⟩ : ByteArray), .slice none 0 0] rfl rfl rfl rfl (cs := #[.int .i64 a0, .bool false, .int .i64 a1, .string (⟨#[]⟩ : ByteArray), .slice none 0 0]) (ty := 28) BKg243.out [.string (⟨#[0]⟩ : ByteArray)] rfl (by kernel_rfl) (by simp) (by simp [Value.oneCell']) rfl ?_; intro w310 hbk hg); replace hbk := Aside0.mk hbk; refine stop_ ?_)
          refine Stop.go ?_
          replace hbk := hbk.out
          replace BKg1 := Aside0.mk (blk_grown (o := .cells #[.bool a2] 4 (0, 0)) BKg1.out hg (fun he_ => NEg1_g243.out (Option.some.inj he_)))
          replace BKg5 := Aside0.mk (blk_grown (o := .cells #[.int .i64 0, .bool false, .int .i64 0, .string (⟨#[]⟩ : ByteArray), .slice none 0 0] 28 (0, 0)) BKg5.out hg (fun he_ => NEg5_g243.out (Option.some.inj he_)))
          replace BKg19 := Aside0.mk (blk_grown (o := .cells #[.int .i64 0, .bool false, .int .i64 0, .string (⟨#[]⟩ : ByteArray), .slice none 0 0] 28 (0, 0)) BKg19.out hg (fun he_ => NEg19_g243.out (Option.some.inj he_)))
          replace HB := Aside0.mk (Below.grown HB.out hg (below_size HB.out) (fun k_ hk_ => by injection hk_ with hk_; rw [← hk_]; exact GEg243.out))
          replace BKg243 := Aside0.mk hbk
          clear hg hbk
          clear hz278 hf279 hz280 hz281 hz282 hz283 hz284 hf285 hf286 hf287 hf288 hf289 hz290 hz291 hz292 hz293 hz294 hf295 hf296 hf297 hf298 hf299 hz300 hz301 hz302 hz303 hz304 hf305 hf306 hf307 hf308 hf309
          obtain ⟨hz311, hf312⟩ := MB.lay1 BKg1.out
          obtain ⟨hz313, hz314, hz315, hz316, hz317, hf318, hf319, hf320, hf321, hf322⟩ := MB.lay5 BKg5.out
          obtain ⟨hz323, hz324, hz325, hz326, hz327, hf328, hf329, hf330, hf331, hf332⟩ := MB.lay5 BKg19.out
          obtain ⟨hz333, hz334, hz335, hz336, hz337, hf338, hf339, hf340, hf341, hf342⟩ := MB.lay5 BKg243.out
          by_cases c343 : a2 = true
          · have H := HH.out
            rw [if_pos c343] at H
            replace HH := Aside0.mk H
            clear H
            subst c343
            go_wp2_with (((with_reducible refine gate_store (t := 9) (p := 9) rfl ?_); (try (refine gate_guard (by rfl) ?_; dsimp only)); refine MW.ev_store #[.int .i64 a0, .bool false, .int .i64 a1, .string (⟨#[255]⟩ : ByteArray), .slice none 0 0] rfl rfl rfl rfl (cs := #[.int .i64 a0, .bool false, .int .i64 a1, .string (⟨#[0]⟩ : ByteArray), .slice none 0 0]) (ty := 28) BKg243.out [.string (⟨#[255]⟩ : ByteArray)] rfl (by kernel_rfl) (by simp) (by simp [Value.oneCell']) rfl ?_; intro w344 hbk hg); replace hbk := Aside0.mk hbk; refine stop_ ?_)
            refine Stop.go ?_
            replace hbk := hbk.out
            replace BKg1 := Aside0.mk (blk_grown (o := .cells #[.bool true] 4 (0, 0)) BKg1.out hg (fun he_ => NEg1_g243.out (Option.some.inj he_)))
            replace BKg5 := Aside0.mk (blk_grown (o := .cells #[.int .i64 0, .bool false, .int .i64 0, .string (⟨#[]⟩ : ByteArray), .slice none 0 0] 28 (0, 0)) BKg5.out hg (fun he_ => NEg5_g243.out (Option.some.inj he_)))
            replace BKg19 := Aside0.mk (blk_grown (o := .cells #[.int .i64 0, .bool false, .int .i64 0, .string (⟨#[]⟩ : ByteArray), .slice none 0 0] 28 (0, 0)) BKg19.out hg (fun he_ => NEg19_g243.out (Option.some.inj he_)))
            replace HB := Aside0.mk (Below.grown HB.out hg (below_size HB.out) (fun k_ hk_ => by injection hk_ with hk_; rw [← hk_]; exact GEg243.out))
            replace BKg243 := Aside0.mk hbk
            clear hg hbk
            clear hz311 hf312 hz313 hz314 hz315 hz316 hz317 hf318 hf319 hf320 hf321 hf322 hz323 hz324 hz325 hz326 hz327 hf328 hf329 hf330 hf331 hf332 hz333 hz334 hz335 hz336 hz337 hf338 hf339 hf340 hf341 hf342
            obtain ⟨hz345, hf346⟩ := MB.lay1 BKg1.out
            obtain ⟨hz347, hz348, hz349, hz350, hz351, hf352, hf353, hf354, hf355, hf356⟩ := MB.lay5 BKg5.out
            obtain ⟨hz357, hz358, hz359, hz360, hz361, hf362, hf363, hf364, hf365, hf366⟩ := MB.lay5 BKg19.out
            obtain ⟨hz367, hz368, hz369, hz370, hz371, hf372, hf373, hf374, hf375, hf376⟩ := MB.lay5 BKg243.out
            go_wp2
            go_end0
            refine ⟨_, rfl, ?_⟩
            go_wp2_with (((with_reducible refine gate_store (t := 28) (p := 6) rfl ?_); (try (refine gate_guard (by rfl) ?_; dsimp only)); refine MW.ev_store #[.int .i64 a0, .bool false, .int .i64 a1, .string (⟨#[255]⟩ : ByteArray), .slice none 0 0] rfl rfl rfl rfl (cs := #[.int .i64 0, .bool false, .int .i64 0, .string (⟨#[]⟩ : ByteArray), .slice none 0 0]) (ty := 28) BKg19.out [.int .i64 a0, .bool false, .int .i64 a1, .string (⟨#[255]⟩ : ByteArray), .slice none 0 0] rfl (by kernel_rfl) (by simp) (by simp [Value.oneCell']) rfl ?_; intro w377 hbk hg); replace hbk := Aside0.mk hbk; refine stop_ ?_)
            refine Stop.go ?_
            replace hbk := hbk.out
            replace BKg1 := Aside0.mk (blk_grown (o := .cells #[.bool true] 4 (0, 0)) BKg1.out hg (fun he_ => NEg1_g19.out (Option.some.inj he_)))
            replace BKg5 := Aside0.mk (blk_grown (o := .cells #[.int .i64 0, .bool false, .int .i64 0, .string (⟨#[]⟩ : ByteArray), .slice none 0 0] 28 (0, 0)) BKg5.out hg (fun he_ => NEg5_g19.out (Option.some.inj he_)))
            replace BKg243 := Aside0.mk (blk_grown (o := .cells #[.int .i64 a0, .bool false, .int .i64 a1, .string (⟨#[255]⟩ : ByteArray), .slice none 0 0] 28 (0, 0)) BKg243.out hg (fun he_ => NEg243_g19.out (Option.some.inj he_)))
            replace HB := Aside0.mk (Below.grown HB.out hg (below_size HB.out) (fun k_ hk_ => by injection hk_ with hk_; rw [← hk_]; exact GEg19.out))
            replace BKg19 := Aside0.mk hbk
            clear hg hbk
            clear hz345 hf346 hz347 hz348 hz349 hz350 hz351 hf352 hf353 hf354 hf355 hf356 hz357 hz358 hz359 hz360 hz361 hf362 hf363 hf364 hf365 hf366 hz367 hz368 hz369 hz370 hz371 hf372 hf373 hf374 hf375 hf376
            obtain ⟨hz378, hf379⟩ := MB.lay1 BKg1.out
            obtain ⟨hz380, hz381, hz382, hz383, hz384, hf385, hf386, hf387, hf388, hf389⟩ := MB.lay5 BKg5.out
            obtain ⟨hz390, hz391, hz392, hz393, hz394, hf395, hf396, hf397, hf398, hf399⟩ := MB.lay5 BKg19.out
            obtain ⟨hz400, hz401, hz402, hz403, hz404, hf405, hf406, hf407, hf408, hf409⟩ := MB.lay5 BKg243.out
            go_wp2
            refine bodyPost_ret (results_ct rfl _ _ g19 28 #[.int .i64 a0, .bool false, .int .i64 a1, .string (⟨#[255]⟩ : ByteArray), .slice none 0 0] (0, 0) _ rfl BKg19.out Try.underlying28 rfl (by kernel_rfl)) rfl ?_
            refine ⟨_, rfl, ?_⟩
            go_wp2_with (((with_reducible refine gate_store (t := 28) (p := 6) rfl ?_); (try (refine gate_guard (by rfl) ?_; dsimp only)); refine MW.ev_store #[.int .i64 a0, .bool false, .int .i64 a1, .string (⟨#[255]⟩ : ByteArray), .slice none 0 0] rfl rfl rfl rfl (cs := #[.int .i64 0, .bool false, .int .i64 0, .string (⟨#[]⟩ : ByteArray), .slice none 0 0]) (ty := 28) BKg5.out [.int .i64 a0, .bool false, .int .i64 a1, .string (⟨#[255]⟩ : ByteArray), .slice none 0 0] rfl (by kernel_rfl) (by simp) (by simp [Value.oneCell']) rfl ?_; intro w410 hbk hg); replace hbk := Aside0.mk hbk; refine stop_ ?_)
            refine Stop.go ?_
            replace hbk := hbk.out
            replace BKg1 := Aside0.mk (blk_grown (o := .cells #[.bool true] 4 (0, 0)) BKg1.out hg (fun he_ => NEg1_g5.out (Option.some.inj he_)))
            replace BKg19 := Aside0.mk (blk_grown (o := .cells #[.int .i64 a0, .bool false, .int .i64 a1, .string (⟨#[255]⟩ : ByteArray), .slice none 0 0] 28 (0, 0)) BKg19.out hg (fun he_ => NEg19_g5.out (Option.some.inj he_)))
            replace BKg243 := Aside0.mk (blk_grown (o := .cells #[.int .i64 a0, .bool false, .int .i64 a1, .string (⟨#[255]⟩ : ByteArray), .slice none 0 0] 28 (0, 0)) BKg243.out hg (fun he_ => NEg243_g5.out (Option.some.inj he_)))
            replace HB := Aside0.mk (Below.grown HB.out hg (below_size HB.out) (fun k_ hk_ => by injection hk_ with hk_; rw [← hk_]; exact GEg5.out))
            replace BKg5 := Aside0.mk hbk
            clear hg hbk
            clear hz378 hf379 hz380 hz381 hz382 hz383 hz384 hf385 hf386 hf387 hf388 hf389 hz390 hz391 hz392 hz393 hz394 hf395 hf396 hf397 hf398 hf399 hz400 hz401 hz402 hz403 hz404 hf405 hf406 hf407 hf408 hf409
            obtain ⟨hz411, hf412⟩ := MB.lay1 BKg1.out
            obtain ⟨hz413, hz414, hz415, hz416, hz417, hf418, hf419, hf420, hf421, hf422⟩ := MB.lay5 BKg5.out
            obtain ⟨hz423, hz424, hz425, hz426, hz427, hf428, hf429, hf430, hf431, hf432⟩ := MB.lay5 BKg19.out
            obtain ⟨hz433, hz434, hz435, hz436, hz437, hf438, hf439, hf440, hf441, hf442⟩ := MB.lay5 BKg243.out
            have H := HH.out
            simp only [Option.some.injEq, Prod.mk.injEq] at H
            obtain ⟨rfl, rfl, rfl, rfl, rfl, rfl⟩ := H
            clear HH
            go_wp2
            refine bodyPost_ret (results_ct rfl _ _ g5 28 #[.int .i64 a0, .bool false, .int .i64 a1, .string (⟨#[255]⟩ : ByteArray), .slice none 0 0] (0, 0) _ rfl BKg5.out Try.underlying28 rfl (by kernel_rfl)) rfl ?_
            exact ⟨_, by first | rfl | (simp; done) | (simp [*]; done), (Kd.N_nil _ _ _ _ _), HB.out⟩
          · have H := HH.out
            rw [if_neg c343] at H
            replace HH := Aside0.mk H
            clear H
            replace c343 := Bool.eq_false_iff.mpr c343
            subst c343
            go_wp2
            go_end0
            refine ⟨_, rfl, ?_⟩
            go_wp2_with (((with_reducible refine gate_store (t := 28) (p := 6) rfl ?_); (try (refine gate_guard (by rfl) ?_; dsimp only)); refine MW.ev_store #[.int .i64 a0, .bool false, .int .i64 a1, .string (⟨#[0]⟩ : ByteArray), .slice none 0 0] rfl rfl rfl rfl (cs := #[.int .i64 0, .bool false, .int .i64 0, .string (⟨#[]⟩ : ByteArray), .slice none 0 0]) (ty := 28) BKg19.out [.int .i64 a0, .bool false, .int .i64 a1, .string (⟨#[0]⟩ : ByteArray), .slice none 0 0] rfl (by kernel_rfl) (by simp) (by simp [Value.oneCell']) rfl ?_; intro w443 hbk hg); replace hbk := Aside0.mk hbk; refine stop_ ?_)
            refine Stop.go ?_
            replace hbk := hbk.out
            replace BKg1 := Aside0.mk (blk_grown (o := .cells #[.bool false] 4 (0, 0)) BKg1.out hg (fun he_ => NEg1_g19.out (Option.some.inj he_)))
            replace BKg5 := Aside0.mk (blk_grown (o := .cells #[.int .i64 0, .bool false, .int .i64 0, .string (⟨#[]⟩ : ByteArray), .slice none 0 0] 28 (0, 0)) BKg5.out hg (fun he_ => NEg5_g19.out (Option.some.inj he_)))
            replace BKg243 := Aside0.mk (blk_grown (o := .cells #[.int .i64 a0, .bool false, .int .i64 a1, .string (⟨#[0]⟩ : ByteArray), .slice none 0 0] 28 (0, 0)) BKg243.out hg (fun he_ => NEg243_g19.out (Option.some.inj he_)))
            replace HB := Aside0.mk (Below.grown HB.out hg (below_size HB.out) (fun k_ hk_ => by injection hk_ with hk_; rw [← hk_]; exact GEg19.out))
            replace BKg19 := Aside0.mk hbk
            clear hg hbk
            clear hz311 hf312 hz313 hz314 hz315 hz316 hz317 hf318 hf319 hf320 hf321 hf322 hz323 hz324 hz325 hz326 hz327 hf328 hf329 hf330 hf331 hf332 hz333 hz334 hz335 hz336 hz337 hf338 hf339 hf340 hf341 hf342
            obtain ⟨hz444, hf445⟩ := MB.lay1 BKg1.out
            obtain ⟨hz446, hz447, hz448, hz449, hz450, hf451, hf452, hf453, hf454, hf455⟩ := MB.lay5 BKg5.out
            obtain ⟨hz456, hz457, hz458, hz459, hz460, hf461, hf462, hf463, hf464, hf465⟩ := MB.lay5 BKg19.out
            obtain ⟨hz466, hz467, hz468, hz469, hz470, hf471, hf472, hf473, hf474, hf475⟩ := MB.lay5 BKg243.out
            go_wp2
            refine bodyPost_ret (results_ct rfl _ _ g19 28 #[.int .i64 a0, .bool false, .int .i64 a1, .string (⟨#[0]⟩ : ByteArray), .slice none 0 0] (0, 0) _ rfl BKg19.out Try.underlying28 rfl (by kernel_rfl)) rfl ?_
            refine ⟨_, rfl, ?_⟩
            go_wp2_with (((with_reducible refine gate_store (t := 28) (p := 6) rfl ?_); (try (refine gate_guard (by rfl) ?_; dsimp only)); refine MW.ev_store #[.int .i64 a0, .bool false, .int .i64 a1, .string (⟨#[0]⟩ : ByteArray), .slice none 0 0] rfl rfl rfl rfl (cs := #[.int .i64 0, .bool false, .int .i64 0, .string (⟨#[]⟩ : ByteArray), .slice none 0 0]) (ty := 28) BKg5.out [.int .i64 a0, .bool false, .int .i64 a1, .string (⟨#[0]⟩ : ByteArray), .slice none 0 0] rfl (by kernel_rfl) (by simp) (by simp [Value.oneCell']) rfl ?_; intro w476 hbk hg); replace hbk := Aside0.mk hbk; refine stop_ ?_)
            refine Stop.go ?_
            replace hbk := hbk.out
            replace BKg1 := Aside0.mk (blk_grown (o := .cells #[.bool false] 4 (0, 0)) BKg1.out hg (fun he_ => NEg1_g5.out (Option.some.inj he_)))
            replace BKg19 := Aside0.mk (blk_grown (o := .cells #[.int .i64 a0, .bool false, .int .i64 a1, .string (⟨#[0]⟩ : ByteArray), .slice none 0 0] 28 (0, 0)) BKg19.out hg (fun he_ => NEg19_g5.out (Option.some.inj he_)))
            replace BKg243 := Aside0.mk (blk_grown (o := .cells #[.int .i64 a0, .bool false, .int .i64 a1, .string (⟨#[0]⟩ : ByteArray), .slice none 0 0] 28 (0, 0)) BKg243.out hg (fun he_ => NEg243_g5.out (Option.some.inj he_)))
            replace HB := Aside0.mk (Below.grown HB.out hg (below_size HB.out) (fun k_ hk_ => by injection hk_ with hk_; rw [← hk_]; exact GEg5.out))
            replace BKg5 := Aside0.mk hbk
            clear hg hbk
            clear hz444 hf445 hz446 hz447 hz448 hz449 hz450 hf451 hf452 hf453 hf454 hf455 hz456 hz457 hz458 hz459 hz460 hf461 hf462 hf463 hf464 hf465 hz466 hz467 hz468 hz469 hz470 hf471 hf472 hf473 hf474 hf475
            obtain ⟨hz477, hf478⟩ := MB.lay1 BKg1.out
            obtain ⟨hz479, hz480, hz481, hz482, hz483, hf484, hf485, hf486, hf487, hf488⟩ := MB.lay5 BKg5.out
            obtain ⟨hz489, hz490, hz491, hz492, hz493, hf494, hf495, hf496, hf497, hf498⟩ := MB.lay5 BKg19.out
            obtain ⟨hz499, hz500, hz501, hz502, hz503, hf504, hf505, hf506, hf507, hf508⟩ := MB.lay5 BKg243.out
            have H := HH.out
            simp only [Option.some.injEq, Prod.mk.injEq] at H
            obtain ⟨rfl, rfl, rfl, rfl, rfl, rfl⟩ := H
            clear HH
            go_wp2
            refine bodyPost_ret (results_ct rfl _ _ g5 28 #[.int .i64 a0, .bool false, .int .i64 a1, .string (⟨#[0]⟩ : ByteArray), .slice none 0 0] (0, 0) _ rfl BKg5.out Try.underlying28 rfl (by kernel_rfl)) rfl ?_
            exact ⟨_, by first | rfl | (simp; done) | (simp [*]; done), (Kd.N_nil _ _ _ _ _), HB.out⟩

end Go.Proofs.Ytliackbiljhioaa.GA
