-- written by wip/gen.py, a program of this session
import Derived.Test.YtliackbiljhioaaGA0
import Derived.Test.YtliackbiljhioaaGAF35
namespace Go.Proofs.Ytliackbiljhioaa.GA
open Go.RowKit Go.Proofs.Ytliackbiljhioaa Go.Proofs.Ytliackbiljhioaa.MW Go.Proofs.YtliackbiljhioaaW.PrintWords Go.Proofs.YtliackbiljhioaaW.PrintLast Go.Proofs.YtliackbiljhioaaW.PrintMore
attribute [local go_sem] max2_int min2_int max_two min_two
set_option linter.unusedVariables false
set_option linter.unusedSimpArgs false


/-! ### prims_Int: function 15 -/
def prims_Int.f (k : Nat) (a0 : Int) (a1 : Int) (a2 : Int) : Option (Int × Bool × Int × ByteArray × (List (S28)) × Int) := if a2 < (-2147483648) then (some (0, false, 0, (⟨#[]⟩ : ByteArray), ([] : List (S28)), 2)) else (if a2 > 2147483647 then (some (0, false, 0, (⟨#[]⟩ : ByteArray), ([] : List (S28)), 2)) else (if a0 < 0 then (some (0, false, 0, (⟨#[]⟩ : ByteArray), ([] : List (S28)), 2)) else (if a0 > 3 then (some (0, false, 0, (⟨#[]⟩ : ByteArray), ([] : List (S28)), 2)) else (if a1 < 0 then (some (0, false, 0, (⟨#[]⟩ : ByteArray), ([] : List (S28)), 2)) else (if a1 > 30 then (some (0, false, 0, (⟨#[]⟩ : ByteArray), ([] : List (S28)), 2)) else ((prims_signed.f k (wrap32 (a2))).bind fun t344 => (some (a0, false, a1, t344, ([] : List (S28)), 0))))))))
theorem prims_Int.mono : ∀ a0_ a1_ a2_ k, LeO (prims_Int.f k a0_ a1_ a2_) (prims_Int.f (k + 1) a0_ a1_ a2_) := by
  intro a0_ a1_ a2_ k
  unfold prims_Int.f
  repeat' first
      | (with_reducible exact prims_signed.mono _ _)
      | (with_reducible exact LeO.refl _)
      | (with_reducible exact LeO.none _)
      | (with_reducible refine LeO.ite ?_ ?_)
      | (with_reducible refine LeO.bind ?_ (fun _ => ?_))
      | exact prims_signed.mono _ _
      | exact LeO.none _
      | refine LeO.ite ?_ ?_
      | refine LeO.bind ?_ (fun _ => ?_)
set_option maxHeartbeats 8000000 in
set_option maxRecDepth 100000 in
theorem prims_Int.calls (k : Nat) (a0 : Int) (a1 : Int) (a2 : Int) (r1 : Int) (r2 : Bool) (r3 : Int) (r4 : ByteArray) (r5 : List (S28)) (r6 : Int) (w : World) (h : prims_Int.f k a0 a1 a2 = some (r1, r2, r3, r4, r5, r6)) :
    Calls Try.prog 15 #[.int .i64 a0, .int .i64 a1, .int .i64 a2] w (fun e w' => ∃ v4_ : Value, e = .returned (.tuple #[.agg #[.int .i64 r1, .bool r2, .int .i64 r3, .string r4, v4_], .int .i64 r6]) ∧ Kd.N k28 28 w' w.heap.size (fun k_ => w.heap.size ≤ k_) v4_ r5 ∧ Below w.heap.size w w') := by
  have HH := Aside0.mk (show (if a2 < (-2147483648) then (some (0, false, 0, (⟨#[]⟩ : ByteArray), ([] : List (S28)), 2)) else (if a2 > 2147483647 then (some (0, false, 0, (⟨#[]⟩ : ByteArray), ([] : List (S28)), 2)) else (if a0 < 0 then (some (0, false, 0, (⟨#[]⟩ : ByteArray), ([] : List (S28)), 2)) else (if a0 > 3 then (some (0, false, 0, (⟨#[]⟩ : ByteArray), ([] : List (S28)), 2)) else (if a1 < 0 then (some (0, false, 0, (⟨#[]⟩ : ByteArray), ([] : List (S28)), 2)) else (if a1 > 30 then (some (0, false, 0, (⟨#[]⟩ : ByteArray), ([] : List (S28)), 2)) else ((prims_signed.f k (wrap32 (a2))).bind fun t344 => (some (a0, false, a1, t344, ([] : List (S28)), 0))))))))) = some (r1, r2, r3, r4, r5, r6) from h)
  clear h
  have HB := Aside0.mk (Below.refl w.heap.size w)
  have hu28 := Try.underlying28
  go_enter Try.func15, Try.ntmps15
  go_wp2_with (((with_reducible refine gate_dst (N := 5) rfl ?_); (try (refine gate_guard (by rfl) ?_; dsimp only)); refine box_event ?hg (N := 5) ?hd (cs := #[.int .i64 a2]) (t := 3) ?hr ?_; (case hd => rfl); (case hg => rfl); (case hr => first | (go_simp; done) | (go_simp; rfl)); intro g1 hg w2 hbox hb); replace hg := Aside0.mk hg; replace hbox := Aside0.mk hbox; refine stop_ ?_)
  refine Stop.go ?_
  replace hg := hg.out
  replace hbox := hbox.out
  have GEg1 := Aside0.mk (by rw [hg]; exact (below_size HB.out) : w.heap.size ≤ g1)
  replace HB := Aside0.mk (below_step HB.out hb)
  have BKg1 := Aside0.mk hbox
  clear hg hbox hb
  obtain ⟨hz3, hf4⟩ := MB.lay1 BKg1.out
  go_wp2_with (((with_reducible refine gate_dst (N := 6) rfl ?_); (try (refine gate_guard (by rfl) ?_; dsimp only)); refine box_event ?hg (N := 6) ?hd (cs := #[.int .i64 0, .bool false, .int .i64 0, .string (⟨#[]⟩ : ByteArray), .slice none 0 0]) (t := 28) ?hr ?_; (case hd => rfl); (case hg => rfl); (case hr => first | (go_simp; done) | (go_simp; rfl)); intro g5 hg w6 hbox hb); replace hg := Aside0.mk hg; replace hbox := Aside0.mk hbox; refine stop_ ?_)
  refine Stop.go ?_
  replace hg := hg.out
  replace hbox := hbox.out
  have GEg5 := Aside0.mk (by rw [hg]; exact (below_size HB.out) : w.heap.size ≤ g5)
  have NEg1_g5 := Aside0.mk (by rw [hg]; exact Nat.ne_of_lt (blk_lt (o := .cells #[.int .i64 a2] 3 (0, 0)) BKg1.out) : g1 ≠ g5)
  have NEg5_g1 := Aside0.mk (Ne.symm NEg1_g5.out)
  replace BKg1 := Aside0.mk (blk_below (o := .cells #[.int .i64 a2] 3 (0, 0)) BKg1.out hb)
  replace HB := Aside0.mk (below_step HB.out hb)
  have BKg5 := Aside0.mk hbox
  clear hg hbox hb
  clear hz3 hf4
  obtain ⟨hz7, hf8⟩ := MB.lay1 BKg1.out
  obtain ⟨hz9, hz10, hz11, hz12, hz13, hf14, hf15, hf16, hf17, hf18⟩ := MB.lay5 BKg5.out
  by_cases c19 : a2 < (-2147483648)
  · have H := HH.out
    rw [if_pos c19] at H
    replace HH := Aside0.mk H
    clear H
    have hk20 : (a2 < (-2147483648)) = True := eq_true c19
    have hk21 : decide (a2 < (-2147483648)) = true := decide_eq_true c19
    clear c19
    go_wp2_with (((with_reducible refine gate_store (t := 28) (p := 6) rfl ?_); (try (refine gate_guard (by rfl) ?_; dsimp only)); refine MW.ev_store #[.int .i64 0, .bool false, .int .i64 0, .string (⟨#[]⟩ : ByteArray), .slice none 0 0] rfl rfl rfl rfl (cs := #[.int .i64 0, .bool false, .int .i64 0, .string (⟨#[]⟩ : ByteArray), .slice none 0 0]) (ty := 28) BKg5.out [.int .i64 0, .bool false, .int .i64 0, .string (⟨#[]⟩ : ByteArray), .slice none 0 0] rfl (by kernel_rfl) (by simp) (by simp [Value.oneCell']) rfl ?_; intro w22 hbk hg); replace hbk := Aside0.mk hbk; refine stop_ ?_)
    refine Stop.go ?_
    replace hbk := hbk.out
    replace BKg1 := Aside0.mk (blk_grown (o := .cells #[.int .i64 a2] 3 (0, 0)) BKg1.out hg (fun he_ => NEg1_g5.out (Option.some.inj he_)))
    replace HB := Aside0.mk (Below.grown HB.out hg (below_size HB.out) (fun k_ hk_ => by injection hk_ with hk_; rw [← hk_]; exact GEg5.out))
    replace BKg5 := Aside0.mk hbk
    clear hg hbk
    clear hz7 hf8 hz9 hz10 hz11 hz12 hz13 hf14 hf15 hf16 hf17 hf18
    obtain ⟨hz23, hf24⟩ := MB.lay1 BKg1.out
    obtain ⟨hz25, hz26, hz27, hz28, hz29, hf30, hf31, hf32, hf33, hf34⟩ := MB.lay5 BKg5.out
    have H := HH.out
    simp only [Option.some.injEq, Prod.mk.injEq] at H
    obtain ⟨rfl, rfl, rfl, rfl, rfl, rfl⟩ := H
    clear HH
    go_wp2
    refine bodyPost_ret (results_ct rfl _ _ g5 28 #[.int .i64 0, .bool false, .int .i64 0, .string (⟨#[]⟩ : ByteArray), .slice none 0 0] (0, 0) _ rfl BKg5.out Try.underlying28 rfl (by kernel_rfl)) rfl ?_
    exact ⟨_, by first | rfl | (simp; done) | (simp [*]; done), (Kd.N_nil _ _ _ _ _), HB.out⟩
  · have H := HH.out
    rw [if_neg c19] at H
    replace HH := Aside0.mk H
    clear H
    have hk35 : (a2 < (-2147483648)) = False := eq_false c19
    have hk36 : decide (a2 < (-2147483648)) = false := decide_eq_false c19
    clear c19
    by_cases c37 : a2 > 2147483647
    · have H := HH.out
      rw [if_pos c37] at H
      replace HH := Aside0.mk H
      clear H
      have hk38 : decide (2147483647 < a2) = true := decide_eq_true c37
      clear c37
      go_wp2_with (((with_reducible refine gate_store (t := 28) (p := 6) rfl ?_); (try (refine gate_guard (by rfl) ?_; dsimp only)); refine MW.ev_store #[.int .i64 0, .bool false, .int .i64 0, .string (⟨#[]⟩ : ByteArray), .slice none 0 0] rfl rfl rfl rfl (cs := #[.int .i64 0, .bool false, .int .i64 0, .string (⟨#[]⟩ : ByteArray), .slice none 0 0]) (ty := 28) BKg5.out [.int .i64 0, .bool false, .int .i64 0, .string (⟨#[]⟩ : ByteArray), .slice none 0 0] rfl (by kernel_rfl) (by simp) (by simp [Value.oneCell']) rfl ?_; intro w39 hbk hg); replace hbk := Aside0.mk hbk; refine stop_ ?_)
      refine Stop.go ?_
      replace hbk := hbk.out
      replace BKg1 := Aside0.mk (blk_grown (o := .cells #[.int .i64 a2] 3 (0, 0)) BKg1.out hg (fun he_ => NEg1_g5.out (Option.some.inj he_)))
      replace HB := Aside0.mk (Below.grown HB.out hg (below_size HB.out) (fun k_ hk_ => by injection hk_ with hk_; rw [← hk_]; exact GEg5.out))
      replace BKg5 := Aside0.mk hbk
      clear hg hbk
      clear hz7 hf8 hz9 hz10 hz11 hz12 hz13 hf14 hf15 hf16 hf17 hf18
      obtain ⟨hz40, hf41⟩ := MB.lay1 BKg1.out
      obtain ⟨hz42, hz43, hz44, hz45, hz46, hf47, hf48, hf49, hf50, hf51⟩ := MB.lay5 BKg5.out
      have H := HH.out
      simp only [Option.some.injEq, Prod.mk.injEq] at H
      obtain ⟨rfl, rfl, rfl, rfl, rfl, rfl⟩ := H
      clear HH
      go_wp2
      refine bodyPost_ret (results_ct rfl _ _ g5 28 #[.int .i64 0, .bool false, .int .i64 0, .string (⟨#[]⟩ : ByteArray), .slice none 0 0] (0, 0) _ rfl BKg5.out Try.underlying28 rfl (by kernel_rfl)) rfl ?_
      exact ⟨_, by first | rfl | (simp; done) | (simp [*]; done), (Kd.N_nil _ _ _ _ _), HB.out⟩
    · have H := HH.out
      rw [if_neg c37] at H
      replace HH := Aside0.mk H
      clear H
      have hk52 : decide (2147483647 < a2) = false := decide_eq_false c37
      clear c37
      go_wp2_with (((with_reducible refine gate_callee (f := 29) rfl ?_); (try (refine gate_guard (by rfl) ?_; dsimp only)); refine goesL_ (some 18) rfl rfl Try.func29 (by kernel_rfl) rfl #[.int .i64 a0, .int .i64 a1, .func (.func 36) #[] #[.pointer (some ⟨g1, 0, none⟩)]] rfl (by (try simp only [List.map_toArray, List.map_cons, List.map_nil]); first | done | rfl) ?_); refine stop_ ?_)
      refine Stop.go ?_
      go_enter Try.func29, Try.ntmps29
      go_wp2_with (((with_reducible refine gate_dst (N := 6) rfl ?_); (try (refine gate_guard (by rfl) ?_; dsimp only)); refine box_event ?hg (N := 6) ?hd (cs := #[.int .i64 0, .bool false, .int .i64 0, .string (⟨#[]⟩ : ByteArray), .slice none 0 0]) (t := 28) ?hr ?_; (case hd => rfl); (case hg => rfl); (case hr => first | (go_simp; done) | (go_simp; rfl)); intro g53 hg w54 hbox hb); replace hg := Aside0.mk hg; replace hbox := Aside0.mk hbox; refine stop_ ?_)
      refine Stop.go ?_
      replace hg := hg.out
      replace hbox := hbox.out
      have GEg53 := Aside0.mk (by rw [hg]; exact (below_size HB.out) : w.heap.size ≤ g53)
      have NEg1_g53 := Aside0.mk (by rw [hg]; exact Nat.ne_of_lt (blk_lt (o := .cells #[.int .i64 a2] 3 (0, 0)) BKg1.out) : g1 ≠ g53)
      have NEg53_g1 := Aside0.mk (Ne.symm NEg1_g53.out)
      have NEg5_g53 := Aside0.mk (by rw [hg]; exact Nat.ne_of_lt (blk_lt (o := .cells #[.int .i64 0, .bool false, .int .i64 0, .string (⟨#[]⟩ : ByteArray), .slice none 0 0] 28 (0, 0)) BKg5.out) : g5 ≠ g53)
      have NEg53_g5 := Aside0.mk (Ne.symm NEg5_g53.out)
      replace BKg1 := Aside0.mk (blk_below (o := .cells #[.int .i64 a2] 3 (0, 0)) BKg1.out hb)
      replace BKg5 := Aside0.mk (blk_below (o := .cells #[.int .i64 0, .bool false, .int .i64 0, .string (⟨#[]⟩ : ByteArray), .slice none 0 0] 28 (0, 0)) BKg5.out hb)
      replace HB := Aside0.mk (below_step HB.out hb)
      have BKg53 := Aside0.mk hbox
      clear hg hbox hb
      clear hz7 hf8 hz9 hz10 hz11 hz12 hz13 hf14 hf15 hf16 hf17 hf18
      obtain ⟨hz55, hf56⟩ := MB.lay1 BKg1.out
      obtain ⟨hz57, hz58, hz59, hz60, hz61, hf62, hf63, hf64, hf65, hf66⟩ := MB.lay5 BKg5.out
      obtain ⟨hz67, hz68, hz69, hz70, hz71, hf72, hf73, hf74, hf75, hf76⟩ := MB.lay5 BKg53.out
      by_cases c77 : a0 < 0
      · have H := HH.out
        rw [if_pos c77] at H
        replace HH := Aside0.mk H
        clear H
        have hk78 : (a0 < 0) = True := eq_true c77
        have hk79 : decide (a0 < 0) = true := decide_eq_true c77
        clear c77
        go_wp2_with (((with_reducible refine gate_store (t := 28) (p := 6) rfl ?_); (try (refine gate_guard (by rfl) ?_; dsimp only)); refine MW.ev_store #[.int .i64 0, .bool false, .int .i64 0, .string (⟨#[]⟩ : ByteArray), .slice none 0 0] rfl rfl rfl rfl (cs := #[.int .i64 0, .bool false, .int .i64 0, .string (⟨#[]⟩ : ByteArray), .slice none 0 0]) (ty := 28) BKg53.out [.int .i64 0, .bool false, .int .i64 0, .string (⟨#[]⟩ : ByteArray), .slice none 0 0] rfl (by kernel_rfl) (by simp) (by simp [Value.oneCell']) rfl ?_; intro w80 hbk hg); replace hbk := Aside0.mk hbk; refine stop_ ?_)
        refine Stop.go ?_
        replace hbk := hbk.out
        replace BKg1 := Aside0.mk (blk_grown (o := .cells #[.int .i64 a2] 3 (0, 0)) BKg1.out hg (fun he_ => NEg1_g53.out (Option.some.inj he_)))
        replace BKg5 := Aside0.mk (blk_grown (o := .cells #[.int .i64 0, .bool false, .int .i64 0, .string (⟨#[]⟩ : ByteArray), .slice none 0 0] 28 (0, 0)) BKg5.out hg (fun he_ => NEg5_g53.out (Option.some.inj he_)))
        replace HB := Aside0.mk (Below.grown HB.out hg (below_size HB.out) (fun k_ hk_ => by injection hk_ with hk_; rw [← hk_]; exact GEg53.out))
        replace BKg53 := Aside0.mk hbk
        clear hg hbk
        clear hz55 hf56 hz57 hz58 hz59 hz60 hz61 hf62 hf63 hf64 hf65 hf66 hz67 hz68 hz69 hz70 hz71 hf72 hf73 hf74 hf75 hf76
        obtain ⟨hz81, hf82⟩ := MB.lay1 BKg1.out
        obtain ⟨hz83, hz84, hz85, hz86, hz87, hf88, hf89, hf90, hf91, hf92⟩ := MB.lay5 BKg5.out
        obtain ⟨hz93, hz94, hz95, hz96, hz97, hf98, hf99, hf100, hf101, hf102⟩ := MB.lay5 BKg53.out
        go_wp2
        refine bodyPost_ret (results_ct rfl _ _ g53 28 #[.int .i64 0, .bool false, .int .i64 0, .string (⟨#[]⟩ : ByteArray), .slice none 0 0] (0, 0) _ rfl BKg53.out Try.underlying28 rfl (by kernel_rfl)) rfl ?_
        refine ⟨_, rfl, ?_⟩
        go_wp2_with (((with_reducible refine gate_store (t := 28) (p := 6) rfl ?_); (try (refine gate_guard (by rfl) ?_; dsimp only)); refine MW.ev_store #[.int .i64 0, .bool false, .int .i64 0, .string (⟨#[]⟩ : ByteArray), .slice none 0 0] rfl rfl rfl rfl (cs := #[.int .i64 0, .bool false, .int .i64 0, .string (⟨#[]⟩ : ByteArray), .slice none 0 0]) (ty := 28) BKg5.out [.int .i64 0, .bool false, .int .i64 0, .string (⟨#[]⟩ : ByteArray), .slice none 0 0] rfl (by kernel_rfl) (by simp) (by simp [Value.oneCell']) rfl ?_; intro w103 hbk hg); replace hbk := Aside0.mk hbk; refine stop_ ?_)
        refine Stop.go ?_
        replace hbk := hbk.out
        replace BKg1 := Aside0.mk (blk_grown (o := .cells #[.int .i64 a2] 3 (0, 0)) BKg1.out hg (fun he_ => NEg1_g5.out (Option.some.inj he_)))
        replace BKg53 := Aside0.mk (blk_grown (o := .cells #[.int .i64 0, .bool false, .int .i64 0, .string (⟨#[]⟩ : ByteArray), .slice none 0 0] 28 (0, 0)) BKg53.out hg (fun he_ => NEg53_g5.out (Option.some.inj he_)))
        replace HB := Aside0.mk (Below.grown HB.out hg (below_size HB.out) (fun k_ hk_ => by injection hk_ with hk_; rw [← hk_]; exact GEg5.out))
        replace BKg5 := Aside0.mk hbk
        clear hg hbk
        clear hz81 hf82 hz83 hz84 hz85 hz86 hz87 hf88 hf89 hf90 hf91 hf92 hz93 hz94 hz95 hz96 hz97 hf98 hf99 hf100 hf101 hf102
        obtain ⟨hz104, hf105⟩ := MB.lay1 BKg1.out
        obtain ⟨hz106, hz107, hz108, hz109, hz110, hf111, hf112, hf113, hf114, hf115⟩ := MB.lay5 BKg5.out
        obtain ⟨hz116, hz117, hz118, hz119, hz120, hf121, hf122, hf123, hf124, hf125⟩ := MB.lay5 BKg53.out
        have H := HH.out
        simp only [Option.some.injEq, Prod.mk.injEq] at H
        obtain ⟨rfl, rfl, rfl, rfl, rfl, rfl⟩ := H
        clear HH
        go_wp2
        refine bodyPost_ret (results_ct rfl _ _ g5 28 #[.int .i64 0, .bool false, .int .i64 0, .string (⟨#[]⟩ : ByteArray), .slice none 0 0] (0, 0) _ rfl BKg5.out Try.underlying28 rfl (by kernel_rfl)) rfl ?_
        exact ⟨_, by first | rfl | (simp; done) | (simp [*]; done), (Kd.N_nil _ _ _ _ _), HB.out⟩
      · have H := HH.out
        rw [if_neg c77] at H
        replace HH := Aside0.mk H
        clear H
        have hk126 : (a0 < 0) = False := eq_false c77
        have hk127 : decide (a0 < 0) = false := decide_eq_false c77
        clear c77
        by_cases c128 : a0 > 3
        · have H := HH.out
          rw [if_pos c128] at H
          replace HH := Aside0.mk H
          clear H
          have hk129 : decide (3 < a0) = true := decide_eq_true c128
          clear c128
          go_wp2_with (((with_reducible refine gate_store (t := 28) (p := 6) rfl ?_); (try (refine gate_guard (by rfl) ?_; dsimp only)); refine MW.ev_store #[.int .i64 0, .bool false, .int .i64 0, .string (⟨#[]⟩ : ByteArray), .slice none 0 0] rfl rfl rfl rfl (cs := #[.int .i64 0, .bool false, .int .i64 0, .string (⟨#[]⟩ : ByteArray), .slice none 0 0]) (ty := 28) BKg53.out [.int .i64 0, .bool false, .int .i64 0, .string (⟨#[]⟩ : ByteArray), .slice none 0 0] rfl (by kernel_rfl) (by simp) (by simp [Value.oneCell']) rfl ?_; intro w130 hbk hg); replace hbk := Aside0.mk hbk; refine stop_ ?_)
          refine Stop.go ?_
          replace hbk := hbk.out
          replace BKg1 := Aside0.mk (blk_grown (o := .cells #[.int .i64 a2] 3 (0, 0)) BKg1.out hg (fun he_ => NEg1_g53.out (Option.some.inj he_)))
          replace BKg5 := Aside0.mk (blk_grown (o := .cells #[.int .i64 0, .bool false, .int .i64 0, .string (⟨#[]⟩ : ByteArray), .slice none 0 0] 28 (0, 0)) BKg5.out hg (fun he_ => NEg5_g53.out (Option.some.inj he_)))
          replace HB := Aside0.mk (Below.grown HB.out hg (below_size HB.out) (fun k_ hk_ => by injection hk_ with hk_; rw [← hk_]; exact GEg53.out))
          replace BKg53 := Aside0.mk hbk
          clear hg hbk
          clear hz55 hf56 hz57 hz58 hz59 hz60 hz61 hf62 hf63 hf64 hf65 hf66 hz67 hz68 hz69 hz70 hz71 hf72 hf73 hf74 hf75 hf76
          obtain ⟨hz131, hf132⟩ := MB.lay1 BKg1.out
          obtain ⟨hz133, hz134, hz135, hz136, hz137, hf138, hf139, hf140, hf141, hf142⟩ := MB.lay5 BKg5.out
          obtain ⟨hz143, hz144, hz145, hz146, hz147, hf148, hf149, hf150, hf151, hf152⟩ := MB.lay5 BKg53.out
          go_wp2
          refine bodyPost_ret (results_ct rfl _ _ g53 28 #[.int .i64 0, .bool false, .int .i64 0, .string (⟨#[]⟩ : ByteArray), .slice none 0 0] (0, 0) _ rfl BKg53.out Try.underlying28 rfl (by kernel_rfl)) rfl ?_
          refine ⟨_, rfl, ?_⟩
          go_wp2_with (((with_reducible refine gate_store (t := 28) (p := 6) rfl ?_); (try (refine gate_guard (by rfl) ?_; dsimp only)); refine MW.ev_store #[.int .i64 0, .bool false, .int .i64 0, .string (⟨#[]⟩ : ByteArray), .slice none 0 0] rfl rfl rfl rfl (cs := #[.int .i64 0, .bool false, .int .i64 0, .string (⟨#[]⟩ : ByteArray), .slice none 0 0]) (ty := 28) BKg5.out [.int .i64 0, .bool false, .int .i64 0, .string (⟨#[]⟩ : ByteArray), .slice none 0 0] rfl (by kernel_rfl) (by simp) (by simp [Value.oneCell']) rfl ?_; intro w153 hbk hg); replace hbk := Aside0.mk hbk; refine stop_ ?_)
          refine Stop.go ?_
          replace hbk := hbk.out
          replace BKg1 := Aside0.mk (blk_grown (o := .cells #[.int .i64 a2] 3 (0, 0)) BKg1.out hg (fun he_ => NEg1_g5.out (Option.some.inj he_)))
          replace BKg53 := Aside0.mk (blk_grown (o := .cells #[.int .i64 0, .bool false, .int .i64 0, .string (⟨#[]⟩ : ByteArray), .slice none 0 0] 28 (0, 0)) BKg53.out hg (fun he_ => NEg53_g5.out (Option.some.inj he_)))
          replace HB := Aside0.mk (Below.grown HB.out hg (below_size HB.out) (fun k_ hk_ => by injection hk_ with hk_; rw [← hk_]; exact GEg5.out))
          replace BKg5 := Aside0.mk hbk
          clear hg hbk
          clear hz131 hf132 hz133 hz134 hz135 hz136 hz137 hf138 hf139 hf140 hf141 hf142 hz143 hz144 hz145 hz146 hz147 hf148 hf149 hf150 hf151 hf152
          obtain ⟨hz154, hf155⟩ := MB.lay1 BKg1.out
          obtain ⟨hz156, hz157, hz158, hz159, hz160, hf161, hf162, hf163, hf164, hf165⟩ := MB.lay5 BKg5.out
          obtain ⟨hz166, hz167, hz168, hz169, hz170, hf171, hf172, hf173, hf174, hf175⟩ := MB.lay5 BKg53.out
          have H := HH.out
          simp only [Option.some.injEq, Prod.mk.injEq] at H
          obtain ⟨rfl, rfl, rfl, rfl, rfl, rfl⟩ := H
          clear HH
          go_wp2
          refine bodyPost_ret (results_ct rfl _ _ g5 28 #[.int .i64 0, .bool false, .int .i64 0, .string (⟨#[]⟩ : ByteArray), .slice none 0 0] (0, 0) _ rfl BKg5.out Try.underlying28 rfl (by kernel_rfl)) rfl ?_
          exact ⟨_, by first | rfl | (simp; done) | (simp [*]; done), (Kd.N_nil _ _ _ _ _), HB.out⟩
        · have H := HH.out
          rw [if_neg c128] at H
          replace HH := Aside0.mk H
          clear H
          have hk176 : decide (3 < a0) = false := decide_eq_false c128
          clear c128
          by_cases c177 : a1 < 0
          · have H := HH.out
            rw [if_pos c177] at H
            replace HH := Aside0.mk H
            clear H
            have hk178 : (a1 < 0) = True := eq_true c177
            have hk179 : decide (a1 < 0) = true := decide_eq_true c177
            clear c177
            go_wp2_with (((with_reducible refine gate_store (t := 28) (p := 6) rfl ?_); (try (refine gate_guard (by rfl) ?_; dsimp only)); refine MW.ev_store #[.int .i64 0, .bool false, .int .i64 0, .string (⟨#[]⟩ : ByteArray), .slice none 0 0] rfl rfl rfl rfl (cs := #[.int .i64 0, .bool false, .int .i64 0, .string (⟨#[]⟩ : ByteArray), .slice none 0 0]) (ty := 28) BKg53.out [.int .i64 0, .bool false, .int .i64 0, .string (⟨#[]⟩ : ByteArray), .slice none 0 0] rfl (by kernel_rfl) (by simp) (by simp [Value.oneCell']) rfl ?_; intro w180 hbk hg); replace hbk := Aside0.mk hbk; refine stop_ ?_)
            refine Stop.go ?_
            replace hbk := hbk.out
            replace BKg1 := Aside0.mk (blk_grown (o := .cells #[.int .i64 a2] 3 (0, 0)) BKg1.out hg (fun he_ => NEg1_g53.out (Option.some.inj he_)))
            replace BKg5 := Aside0.mk (blk_grown (o := .cells #[.int .i64 0, .bool false, .int .i64 0, .string (⟨#[]⟩ : ByteArray), .slice none 0 0] 28 (0, 0)) BKg5.out hg (fun he_ => NEg5_g53.out (Option.some.inj he_)))
            replace HB := Aside0.mk (Below.grown HB.out hg (below_size HB.out) (fun k_ hk_ => by injection hk_ with hk_; rw [← hk_]; exact GEg53.out))
            replace BKg53 := Aside0.mk hbk
            clear hg hbk
            clear hz55 hf56 hz57 hz58 hz59 hz60 hz61 hf62 hf63 hf64 hf65 hf66 hz67 hz68 hz69 hz70 hz71 hf72 hf73 hf74 hf75 hf76
            obtain ⟨hz181, hf182⟩ := MB.lay1 BKg1.out
            obtain ⟨hz183, hz184, hz185, hz186, hz187, hf188, hf189, hf190, hf191, hf192⟩ := MB.lay5 BKg5.out
            obtain ⟨hz193, hz194, hz195, hz196, hz197, hf198, hf199, hf200, hf201, hf202⟩ := MB.lay5 BKg53.out
            go_wp2
            refine bodyPost_ret (results_ct rfl _ _ g53 28 #[.int .i64 0, .bool false, .int .i64 0, .string (⟨#[]⟩ : ByteArray), .slice none 0 0] (0, 0) _ rfl BKg53.out Try.underlying28 rfl (by kernel_rfl)) rfl ?_
            refine ⟨_, rfl, ?_⟩
            go_wp2_with (((with_reducible refine gate_store (t := 28) (p := 6) rfl ?_); (try (refine gate_guard (by rfl) ?_; dsimp only)); refine MW.ev_store #[.int .i64 0, .bool false, .int .i64 0, .string (⟨#[]⟩ : ByteArray), .slice none 0 0] rfl rfl rfl rfl (cs := #[.int .i64 0, .bool false, .int .i64 0, .string (⟨#[]⟩ : ByteArray), .slice none 0 0]) (ty := 28) BKg5.out [.int .i64 0, .bool false, .int .i64 0, .string (⟨#[]⟩ : ByteArray), .slice none 0 0] rfl (by kernel_rfl) (by simp) (by simp [Value.oneCell']) rfl ?_; intro w203 hbk hg); replace hbk := Aside0.mk hbk; refine stop_ ?_)
            refine Stop.go ?_
            replace hbk := hbk.out
            replace BKg1 := Aside0.mk (blk_grown (o := .cells #[.int .i64 a2] 3 (0, 0)) BKg1.out hg (fun he_ => NEg1_g5.out (Option.some.inj he_)))
            replace BKg53 := Aside0.mk (blk_grown (o := .cells #[.int .i64 0, .bool false, .int .i64 0, .string (⟨#[]⟩ : ByteArray), .slice none 0 0] 28 (0, 0)) BKg53.out hg (fun he_ => NEg53_g5.out (Option.some.inj he_)))
            replace HB := Aside0.mk (Below.grown HB.out hg (below_size HB.out) (fun k_ hk_ => by injection hk_ with hk_; rw [← hk_]; exact GEg5.out))
            replace BKg5 := Aside0.mk hbk
            clear hg hbk
            clear hz181 hf182 hz183 hz184 hz185 hz186 hz187 hf188 hf189 hf190 hf191 hf192 hz193 hz194 hz195 hz196 hz197 hf198 hf199 hf200 hf201 hf202
            obtain ⟨hz204, hf205⟩ := MB.lay1 BKg1.out
            obtain ⟨hz206, hz207, hz208, hz209, hz210, hf211, hf212, hf213, hf214, hf215⟩ := MB.lay5 BKg5.out
            obtain ⟨hz216, hz217, hz218, hz219, hz220, hf221, hf222, hf223, hf224, hf225⟩ := MB.lay5 BKg53.out
            have H := HH.out
            simp only [Option.some.injEq, Prod.mk.injEq] at H
            obtain ⟨rfl, rfl, rfl, rfl, rfl, rfl⟩ := H
            clear HH
            go_wp2
            refine bodyPost_ret (results_ct rfl _ _ g5 28 #[.int .i64 0, .bool false, .int .i64 0, .string (⟨#[]⟩ : ByteArray), .slice none 0 0] (0, 0) _ rfl BKg5.out Try.underlying28 rfl (by kernel_rfl)) rfl ?_
            exact ⟨_, by first | rfl | (simp; done) | (simp [*]; done), (Kd.N_nil _ _ _ _ _), HB.out⟩
          · have H := HH.out
            rw [if_neg c177] at H
            replace HH := Aside0.mk H
            clear H
            have hk226 : (a1 < 0) = False := eq_false c177
            have hk227 : decide (a1 < 0) = false := decide_eq_false c177
            clear c177
            by_cases c228 : a1 > 30
            · have H := HH.out
              rw [if_pos c228] at H
              replace HH := Aside0.mk H
              clear H
              have hk229 : decide (30 < a1) = true := decide_eq_true c228
              clear c228
              go_wp2_with (((with_reducible refine gate_store (t := 28) (p := 6) rfl ?_); (try (refine gate_guard (by rfl) ?_; dsimp only)); refine MW.ev_store #[.int .i64 0, .bool false, .int .i64 0, .string (⟨#[]⟩ : ByteArray), .slice none 0 0] rfl rfl rfl rfl (cs := #[.int .i64 0, .bool false, .int .i64 0, .string (⟨#[]⟩ : ByteArray), .slice none 0 0]) (ty := 28) BKg53.out [.int .i64 0, .bool false, .int .i64 0, .string (⟨#[]⟩ : ByteArray), .slice none 0 0] rfl (by kernel_rfl) (by simp) (by simp [Value.oneCell']) rfl ?_; intro w230 hbk hg); replace hbk := Aside0.mk hbk; refine stop_ ?_)
              refine Stop.go ?_
              replace hbk := hbk.out
              replace BKg1 := Aside0.mk (blk_grown (o := .cells #[.int .i64 a2] 3 (0, 0)) BKg1.out hg (fun he_ => NEg1_g53.out (Option.some.inj he_)))
              replace BKg5 := Aside0.mk (blk_grown (o := .cells #[.int .i64 0, .bool false, .int .i64 0, .string (⟨#[]⟩ : ByteArray), .slice none 0 0] 28 (0, 0)) BKg5.out hg (fun he_ => NEg5_g53.out (Option.some.inj he_)))
              replace HB := Aside0.mk (Below.grown HB.out hg (below_size HB.out) (fun k_ hk_ => by injection hk_ with hk_; rw [← hk_]; exact GEg53.out))
              replace BKg53 := Aside0.mk hbk
              clear hg hbk
              clear hz55 hf56 hz57 hz58 hz59 hz60 hz61 hf62 hf63 hf64 hf65 hf66 hz67 hz68 hz69 hz70 hz71 hf72 hf73 hf74 hf75 hf76
              obtain ⟨hz231, hf232⟩ := MB.lay1 BKg1.out
              obtain ⟨hz233, hz234, hz235, hz236, hz237, hf238, hf239, hf240, hf241, hf242⟩ := MB.lay5 BKg5.out
              obtain ⟨hz243, hz244, hz245, hz246, hz247, hf248, hf249, hf250, hf251, hf252⟩ := MB.lay5 BKg53.out
              go_wp2
              refine bodyPost_ret (results_ct rfl _ _ g53 28 #[.int .i64 0, .bool false, .int .i64 0, .string (⟨#[]⟩ : ByteArray), .slice none 0 0] (0, 0) _ rfl BKg53.out Try.underlying28 rfl (by kernel_rfl)) rfl ?_
              refine ⟨_, rfl, ?_⟩
              go_wp2_with (((with_reducible refine gate_store (t := 28) (p := 6) rfl ?_); (try (refine gate_guard (by rfl) ?_; dsimp only)); refine MW.ev_store #[.int .i64 0, .bool false, .int .i64 0, .string (⟨#[]⟩ : ByteArray), .slice none 0 0] rfl rfl rfl rfl (cs := #[.int .i64 0, .bool false, .int .i64 0, .string (⟨#[]⟩ : ByteArray), .slice none 0 0]) (ty := 28) BKg5.out [.int .i64 0, .bool false, .int .i64 0, .string (⟨#[]⟩ : ByteArray), .slice none 0 0] rfl (by kernel_rfl) (by simp) (by simp [Value.oneCell']) rfl ?_; intro w253 hbk hg); replace hbk := Aside0.mk hbk; refine stop_ ?_)
              refine Stop.go ?_
              replace hbk := hbk.out
              replace BKg1 := Aside0.mk (blk_grown (o := .cells #[.int .i64 a2] 3 (0, 0)) BKg1.out hg (fun he_ => NEg1_g5.out (Option.some.inj he_)))
              replace BKg53 := Aside0.mk (blk_grown (o := .cells #[.int .i64 0, .bool false, .int .i64 0, .string (⟨#[]⟩ : ByteArray), .slice none 0 0] 28 (0, 0)) BKg53.out hg (fun he_ => NEg53_g5.out (Option.some.inj he_)))
              replace HB := Aside0.mk (Below.grown HB.out hg (below_size HB.out) (fun k_ hk_ => by injection hk_ with hk_; rw [← hk_]; exact GEg5.out))
              replace BKg5 := Aside0.mk hbk
              clear hg hbk
              clear hz231 hf232 hz233 hz234 hz235 hz236 hz237 hf238 hf239 hf240 hf241 hf242 hz243 hz244 hz245 hz246 hz247 hf248 hf249 hf250 hf251 hf252
              obtain ⟨hz254, hf255⟩ := MB.lay1 BKg1.out
              obtain ⟨hz256, hz257, hz258, hz259, hz260, hf261, hf262, hf263, hf264, hf265⟩ := MB.lay5 BKg5.out
              obtain ⟨hz266, hz267, hz268, hz269, hz270, hf271, hf272, hf273, hf274, hf275⟩ := MB.lay5 BKg53.out
              have H := HH.out
              simp only [Option.some.injEq, Prod.mk.injEq] at H
              obtain ⟨rfl, rfl, rfl, rfl, rfl, rfl⟩ := H
              clear HH
              go_wp2
              refine bodyPost_ret (results_ct rfl _ _ g5 28 #[.int .i64 0, .bool false, .int .i64 0, .string (⟨#[]⟩ : ByteArray), .slice none 0 0] (0, 0) _ rfl BKg5.out Try.underlying28 rfl (by kernel_rfl)) rfl ?_
              exact ⟨_, by first | rfl | (simp; done) | (simp [*]; done), (Kd.N_nil _ _ _ _ _), HB.out⟩
            · have H := HH.out
              rw [if_neg c228] at H
              replace HH := Aside0.mk H
              clear H
              have hk276 : decide (30 < a1) = false := decide_eq_false c228
              clear c228
              go_wp2_with (((with_reducible refine gate_dst (N := 8) rfl ?_); (try (refine gate_guard (by rfl) ?_; dsimp only)); refine box_event ?hg (N := 8) ?hd (cs := #[.int .i64 0, .bool false, .int .i64 0, .string (⟨#[]⟩ : ByteArray), .slice none 0 0]) (t := 28) ?hr ?_; (case hd => rfl); (case hg => rfl); (case hr => first | (go_simp; done) | (go_simp; rfl)); intro g277 hg w278 hbox hb); replace hg := Aside0.mk hg; replace hbox := Aside0.mk hbox; refine stop_ ?_)
              refine Stop.go ?_
              replace hg := hg.out
              replace hbox := hbox.out
              have GEg277 := Aside0.mk (by rw [hg]; exact (below_size HB.out) : w.heap.size ≤ g277)
              have NEg1_g277 := Aside0.mk (by rw [hg]; exact Nat.ne_of_lt (blk_lt (o := .cells #[.int .i64 a2] 3 (0, 0)) BKg1.out) : g1 ≠ g277)
              have NEg277_g1 := Aside0.mk (Ne.symm NEg1_g277.out)
              have NEg5_g277 := Aside0.mk (by rw [hg]; exact Nat.ne_of_lt (blk_lt (o := .cells #[.int .i64 0, .bool false, .int .i64 0, .string (⟨#[]⟩ : ByteArray), .slice none 0 0] 28 (0, 0)) BKg5.out) : g5 ≠ g277)
              have NEg277_g5 := Aside0.mk (Ne.symm NEg5_g277.out)
              have NEg53_g277 := Aside0.mk (by rw [hg]; exact Nat.ne_of_lt (blk_lt (o := .cells #[.int .i64 0, .bool false, .int .i64 0, .string (⟨#[]⟩ : ByteArray), .slice none 0 0] 28 (0, 0)) BKg53.out) : g53 ≠ g277)
              have NEg277_g53 := Aside0.mk (Ne.symm NEg53_g277.out)
              replace BKg1 := Aside0.mk (blk_below (o := .cells #[.int .i64 a2] 3 (0, 0)) BKg1.out hb)
              replace BKg5 := Aside0.mk (blk_below (o := .cells #[.int .i64 0, .bool false, .int .i64 0, .string (⟨#[]⟩ : ByteArray), .slice none 0 0] 28 (0, 0)) BKg5.out hb)
              replace BKg53 := Aside0.mk (blk_below (o := .cells #[.int .i64 0, .bool false, .int .i64 0, .string (⟨#[]⟩ : ByteArray), .slice none 0 0] 28 (0, 0)) BKg53.out hb)
              replace HB := Aside0.mk (below_step HB.out hb)
              have BKg277 := Aside0.mk hbox
              clear hg hbox hb
              clear hz55 hf56 hz57 hz58 hz59 hz60 hz61 hf62 hf63 hf64 hf65 hf66 hz67 hz68 hz69 hz70 hz71 hf72 hf73 hf74 hf75 hf76
              obtain ⟨hz279, hf280⟩ := MB.lay1 BKg1.out
              obtain ⟨hz281, hz282, hz283, hz284, hz285, hf286, hf287, hf288, hf289, hf290⟩ := MB.lay5 BKg5.out
              obtain ⟨hz291, hz292, hz293, hz294, hz295, hf296, hf297, hf298, hf299, hf300⟩ := MB.lay5 BKg53.out
              obtain ⟨hz301, hz302, hz303, hz304, hz305, hf306, hf307, hf308, hf309, hf310⟩ := MB.lay5 BKg277.out
              go_wp2_with (((with_reducible refine gate_store (t := 28) (p := 8) rfl ?_); (try (refine gate_guard (by rfl) ?_; dsimp only)); refine MW.ev_store #[.int .i64 a0, .bool false, .int .i64 a1, .string (⟨#[]⟩ : ByteArray), .slice none 0 0] rfl rfl rfl rfl (cs := #[.int .i64 0, .bool false, .int .i64 0, .string (⟨#[]⟩ : ByteArray), .slice none 0 0]) (ty := 28) BKg277.out [.int .i64 a0, .bool false, .int .i64 a1, .string (⟨#[]⟩ : ByteArray), .slice none 0 0] rfl (by kernel_rfl) (by simp) (by simp [Value.oneCell']) rfl ?_; intro w311 hbk hg); replace hbk := Aside0.mk hbk; refine stop_ ?_)
              refine Stop.go ?_
              replace hbk := hbk.out
              replace BKg1 := Aside0.mk (blk_grown (o := .cells #[.int .i64 a2] 3 (0, 0)) BKg1.out hg (fun he_ => NEg1_g277.out (Option.some.inj he_)))
              replace BKg5 := Aside0.mk (blk_grown (o := .cells #[.int .i64 0, .bool false, .int .i64 0, .string (⟨#[]⟩ : ByteArray), .slice none 0 0] 28 (0, 0)) BKg5.out hg (fun he_ => NEg5_g277.out (Option.some.inj he_)))
              replace BKg53 := Aside0.mk (blk_grown (o := .cells #[.int .i64 0, .bool false, .int .i64 0, .string (⟨#[]⟩ : ByteArray), .slice none 0 0] 28 (0, 0)) BKg53.out hg (fun he_ => NEg53_g277.out (Option.some.inj he_)))
              replace HB := Aside0.mk (Below.grown HB.out hg (below_size HB.out) (fun k_ hk_ => by injection hk_ with hk_; rw [← hk_]; exact GEg277.out))
              replace BKg277 := Aside0.mk hbk
              clear hg hbk
              clear hz279 hf280 hz281 hz282 hz283 hz284 hz285 hf286 hf287 hf288 hf289 hf290 hz291 hz292 hz293 hz294 hz295 hf296 hf297 hf298 hf299 hf300 hz301 hz302 hz303 hz304 hz305 hf306 hf307 hf308 hf309 hf310
              obtain ⟨hz312, hf313⟩ := MB.lay1 BKg1.out
              obtain ⟨hz314, hz315, hz316, hz317, hz318, hf319, hf320, hf321, hf322, hf323⟩ := MB.lay5 BKg5.out
              obtain ⟨hz324, hz325, hz326, hz327, hz328, hf329, hf330, hf331, hf332, hf333⟩ := MB.lay5 BKg53.out
              obtain ⟨hz334, hz335, hz336, hz337, hz338, hf339, hf340, hf341, hf342, hf343⟩ := MB.lay5 BKg277.out
              go_wp2_with (((with_reducible refine gate_dst (N := 28) rfl ?_); (try (refine gate_guard (by rfl) ?_; dsimp only)); refine MW.goesV_ (some 28) rfl rfl Try.func36 (by kernel_rfl) rfl #[.pointer (some ⟨g277, 0, none⟩), .pointer (some ⟨g1, 0, none⟩)] rfl #[.pointer (some ⟨g1, 0, none⟩)] rfl (by simp only [List.map_toArray, List.map_cons, List.map_nil, List.append_toArray, List.cons_append, List.nil_append]; first | done | rfl) ?_); refine stop_ ?_)
              refine Stop.go ?_
              go_enter Try.func36, Try.ntmps36
              have H := HH.out
              replace H := Option.bind_eq_some_iff.mp H
              obtain ⟨t344, at_, H⟩ := H
              have At345 := Aside0.mk at_
              clear at_
              replace HH := Aside0.mk (show (some (a0, false, a1, t344, ([] : List (S28)), 0)) = some (r1, r2, r3, r4, r5, r6) from H)
              clear H
              go_wp2_with (((with_reducible refine gate_callee (f := 35) rfl ?_); (try (refine gate_guard (by rfl) ?_; dsimp only)); refine goesL_ (some 6) rfl rfl Try.func35 (by kernel_rfl) rfl #[.int .i32 (wrap32 (a2))] rfl (by (try simp only [List.map_toArray, List.map_cons, List.map_nil]); first | done | rfl | (simp only [List.length_drop, List.length_take]; rfl)) ?_; (with_reducible refine (prims_signed.calls k  (wrap32 (a2)) t344 _  At345.out).mono ?_); rintro e w346 ⟨rfl, hb⟩; refine ⟨_, rfl, ?_⟩); refine stop_ ?_)
              refine Stop.go ?_
              replace BKg1 := Aside0.mk (blk_below (o := .cells #[.int .i64 a2] 3 (0, 0)) BKg1.out hb)
              replace BKg5 := Aside0.mk (blk_below (o := .cells #[.int .i64 0, .bool false, .int .i64 0, .string (⟨#[]⟩ : ByteArray), .slice none 0 0] 28 (0, 0)) BKg5.out hb)
              replace BKg53 := Aside0.mk (blk_below (o := .cells #[.int .i64 0, .bool false, .int .i64 0, .string (⟨#[]⟩ : ByteArray), .slice none 0 0] 28 (0, 0)) BKg53.out hb)
              replace BKg277 := Aside0.mk (blk_below (o := .cells #[.int .i64 a0, .bool false, .int .i64 a1, .string (⟨#[]⟩ : ByteArray), .slice none 0 0] 28 (0, 0)) BKg277.out hb)
              replace HB := Aside0.mk (below_step HB.out hb)
              clear hb
              clear hz312 hf313 hz314 hz315 hz316 hz317 hz318 hf319 hf320 hf321 hf322 hf323 hz324 hz325 hz326 hz327 hz328 hf329 hf330 hf331 hf332 hf333 hz334 hz335 hz336 hz337 hz338 hf339 hf340 hf341 hf342 hf343
              obtain ⟨hz347, hf348⟩ := MB.lay1 BKg1.out
              obtain ⟨hz349, hz350, hz351, hz352, hz353, hf354, hf355, hf356, hf357, hf358⟩ := MB.lay5 BKg5.out
              obtain ⟨hz359, hz360, hz361, hz362, hz363, hf364, hf365, hf366, hf367, hf368⟩ := MB.lay5 BKg53.out
              obtain ⟨hz369, hz370, hz371, hz372, hz373, hf374, hf375, hf376, hf377, hf378⟩ := MB.lay5 BKg277.out
              go_wp2_with (((with_reducible refine gate_store (t := 9) (p := 8) rfl ?_); (try (refine gate_guard (by rfl) ?_; dsimp only)); refine MW.ev_store #[.int .i64 a0, .bool false, .int .i64 a1, .string t344, .slice none 0 0] rfl rfl rfl rfl (cs := #[.int .i64 a0, .bool false, .int .i64 a1, .string (⟨#[]⟩ : ByteArray), .slice none 0 0]) (ty := 28) BKg277.out [.string t344] rfl (by kernel_rfl) (by simp) (by simp [Value.oneCell']) rfl ?_; intro w379 hbk hg); replace hbk := Aside0.mk hbk; refine stop_ ?_)
              refine Stop.go ?_
              replace hbk := hbk.out
              replace BKg1 := Aside0.mk (blk_grown (o := .cells #[.int .i64 a2] 3 (0, 0)) BKg1.out hg (fun he_ => NEg1_g277.out (Option.some.inj he_)))
              replace BKg5 := Aside0.mk (blk_grown (o := .cells #[.int .i64 0, .bool false, .int .i64 0, .string (⟨#[]⟩ : ByteArray), .slice none 0 0] 28 (0, 0)) BKg5.out hg (fun he_ => NEg5_g277.out (Option.some.inj he_)))
              replace BKg53 := Aside0.mk (blk_grown (o := .cells #[.int .i64 0, .bool false, .int .i64 0, .string (⟨#[]⟩ : ByteArray), .slice none 0 0] 28 (0, 0)) BKg53.out hg (fun he_ => NEg53_g277.out (Option.some.inj he_)))
              replace HB := Aside0.mk (Below.grown HB.out hg (below_size HB.out) (fun k_ hk_ => by injection hk_ with hk_; rw [← hk_]; exact GEg277.out))
              replace BKg277 := Aside0.mk hbk
              clear hg hbk
              clear hz347 hf348 hz349 hz350 hz351 hz352 hz353 hf354 hf355 hf356 hf357 hf358 hz359 hz360 hz361 hz362 hz363 hf364 hf365 hf366 hf367 hf368 hz369 hz370 hz371 hz372 hz373 hf374 hf375 hf376 hf377 hf378
              obtain ⟨hz380, hf381⟩ := MB.lay1 BKg1.out
              obtain ⟨hz382, hz383, hz384, hz385, hz386, hf387, hf388, hf389, hf390, hf391⟩ := MB.lay5 BKg5.out
              obtain ⟨hz392, hz393, hz394, hz395, hz396, hf397, hf398, hf399, hf400, hf401⟩ := MB.lay5 BKg53.out
              obtain ⟨hz402, hz403, hz404, hz405, hz406, hf407, hf408, hf409, hf410, hf411⟩ := MB.lay5 BKg277.out
              go_wp2
              go_end0
              refine ⟨_, rfl, ?_⟩
              go_wp2_with (((with_reducible refine gate_store (t := 28) (p := 6) rfl ?_); (try (refine gate_guard (by rfl) ?_; dsimp only)); refine MW.ev_store #[.int .i64 a0, .bool false, .int .i64 a1, .string t344, .slice none 0 0] rfl rfl rfl rfl (cs := #[.int .i64 0, .bool false, .int .i64 0, .string (⟨#[]⟩ : ByteArray), .slice none 0 0]) (ty := 28) BKg53.out [.int .i64 a0, .bool false, .int .i64 a1, .string t344, .slice none 0 0] rfl (by kernel_rfl) (by simp) (by simp [Value.oneCell']) rfl ?_; intro w412 hbk hg); replace hbk := Aside0.mk hbk; refine stop_ ?_)
              refine Stop.go ?_
              replace hbk := hbk.out
              replace BKg1 := Aside0.mk (blk_grown (o := .cells #[.int .i64 a2] 3 (0, 0)) BKg1.out hg (fun he_ => NEg1_g53.out (Option.some.inj he_)))
              replace BKg5 := Aside0.mk (blk_grown (o := .cells #[.int .i64 0, .bool false, .int .i64 0, .string (⟨#[]⟩ : ByteArray), .slice none 0 0] 28 (0, 0)) BKg5.out hg (fun he_ => NEg5_g53.out (Option.some.inj he_)))
              replace BKg277 := Aside0.mk (blk_grown (o := .cells #[.int .i64 a0, .bool false, .int .i64 a1, .string t344, .slice none 0 0] 28 (0, 0)) BKg277.out hg (fun he_ => NEg277_g53.out (Option.some.inj he_)))
              replace HB := Aside0.mk (Below.grown HB.out hg (below_size HB.out) (fun k_ hk_ => by injection hk_ with hk_; rw [← hk_]; exact GEg53.out))
              replace BKg53 := Aside0.mk hbk
              clear hg hbk
              clear hz380 hf381 hz382 hz383 hz384 hz385 hz386 hf387 hf388 hf389 hf390 hf391 hz392 hz393 hz394 hz395 hz396 hf397 hf398 hf399 hf400 hf401 hz402 hz403 hz404 hz405 hz406 hf407 hf408 hf409 hf410 hf411
              obtain ⟨hz413, hf414⟩ := MB.lay1 BKg1.out
              obtain ⟨hz415, hz416, hz417, hz418, hz419, hf420, hf421, hf422, hf423, hf424⟩ := MB.lay5 BKg5.out
              obtain ⟨hz425, hz426, hz427, hz428, hz429, hf430, hf431, hf432, hf433, hf434⟩ := MB.lay5 BKg53.out
              obtain ⟨hz435, hz436, hz437, hz438, hz439, hf440, hf441, hf442, hf443, hf444⟩ := MB.lay5 BKg277.out
              go_wp2
              refine bodyPost_ret (results_ct rfl _ _ g53 28 #[.int .i64 a0, .bool false, .int .i64 a1, .string t344, .slice none 0 0] (0, 0) _ rfl BKg53.out Try.underlying28 rfl (by kernel_rfl)) rfl ?_
              refine ⟨_, rfl, ?_⟩
              go_wp2_with (((with_reducible refine gate_store (t := 28) (p := 6) rfl ?_); (try (refine gate_guard (by rfl) ?_; dsimp only)); refine MW.ev_store #[.int .i64 a0, .bool false, .int .i64 a1, .string t344, .slice none 0 0] rfl rfl rfl rfl (cs := #[.int .i64 0, .bool false, .int .i64 0, .string (⟨#[]⟩ : ByteArray), .slice none 0 0]) (ty := 28) BKg5.out [.int .i64 a0, .bool false, .int .i64 a1, .string t344, .slice none 0 0] rfl (by kernel_rfl) (by simp) (by simp [Value.oneCell']) rfl ?_; intro w445 hbk hg); replace hbk := Aside0.mk hbk; refine stop_ ?_)
              refine Stop.go ?_
              replace hbk := hbk.out
              replace BKg1 := Aside0.mk (blk_grown (o := .cells #[.int .i64 a2] 3 (0, 0)) BKg1.out hg (fun he_ => NEg1_g5.out (Option.some.inj he_)))
              replace BKg53 := Aside0.mk (blk_grown (o := .cells #[.int .i64 a0, .bool false, .int .i64 a1, .string t344, .slice none 0 0] 28 (0, 0)) BKg53.out hg (fun he_ => NEg53_g5.out (Option.some.inj he_)))
              replace BKg277 := Aside0.mk (blk_grown (o := .cells #[.int .i64 a0, .bool false, .int .i64 a1, .string t344, .slice none 0 0] 28 (0, 0)) BKg277.out hg (fun he_ => NEg277_g5.out (Option.some.inj he_)))
              replace HB := Aside0.mk (Below.grown HB.out hg (below_size HB.out) (fun k_ hk_ => by injection hk_ with hk_; rw [← hk_]; exact GEg5.out))
              replace BKg5 := Aside0.mk hbk
              clear hg hbk
              clear hz413 hf414 hz415 hz416 hz417 hz418 hz419 hf420 hf421 hf422 hf423 hf424 hz425 hz426 hz427 hz428 hz429 hf430 hf431 hf432 hf433 hf434 hz435 hz436 hz437 hz438 hz439 hf440 hf441 hf442 hf443 hf444
              obtain ⟨hz446, hf447⟩ := MB.lay1 BKg1.out
              obtain ⟨hz448, hz449, hz450, hz451, hz452, hf453, hf454, hf455, hf456, hf457⟩ := MB.lay5 BKg5.out
              obtain ⟨hz458, hz459, hz460, hz461, hz462, hf463, hf464, hf465, hf466, hf467⟩ := MB.lay5 BKg53.out
              obtain ⟨hz468, hz469, hz470, hz471, hz472, hf473, hf474, hf475, hf476, hf477⟩ := MB.lay5 BKg277.out
              have H := HH.out
              simp only [Option.some.injEq, Prod.mk.injEq] at H
              obtain ⟨rfl, rfl, rfl, rfl, rfl, rfl⟩ := H
              clear HH
              go_wp2
              refine bodyPost_ret (results_ct rfl _ _ g5 28 #[.int .i64 a0, .bool false, .int .i64 a1, .string t344, .slice none 0 0] (0, 0) _ rfl BKg5.out Try.underlying28 rfl (by kernel_rfl)) rfl ?_
              exact ⟨_, by first | rfl | (simp; done) | (simp [*]; done), (Kd.N_nil _ _ _ _ _), HB.out⟩

end Go.Proofs.Ytliackbiljhioaa.GA
