import Derived.Test.YtdjkemhmhkpmkaaGA0
import Derived.Test.YtdjkemhmhkpmkaaGM1
namespace Go.Proofs.Ytdjkemhmhkpmkaa.GA
open Go.RowKit Go.Proofs.Ytdjkemhmhkpmkaa Go.Proofs.Ytdjkemhmhkpmkaa.MW Go.Proofs.YtdjkemhmhkpmkaaW.PrintWords Go.Proofs.YtdjkemhmhkpmkaaW.PrintLast Go.Proofs.YtdjkemhmhkpmkaaW.PrintMore
attribute [local go_sem] max2_int min2_int max_two min_two
set_option linter.unusedVariables false
set_option linter.unusedSimpArgs false
/-! ### prims_Int: function 66 -/
def prims_Int.f (k : Nat) (a0 : Int) (a1 : Int) (a2 : Int) : Option (Int × Bool × Int × ByteArray × (List (S57)) × Int) := if a2 < (-2147483648) then (some (0, false, 0, (⟨#[]⟩ : ByteArray), ([] : List (S57)), 2)) else (if a2 > 2147483647 then (some (0, false, 0, (⟨#[]⟩ : ByteArray), ([] : List (S57)), 2)) else (if a0 < 0 then (some (0, false, 0, (⟨#[]⟩ : ByteArray), ([] : List (S57)), 2)) else (if a0 > 3 then (some (0, false, 0, (⟨#[]⟩ : ByteArray), ([] : List (S57)), 2)) else (if a1 < 0 then (some (0, false, 0, (⟨#[]⟩ : ByteArray), ([] : List (S57)), 2)) else (if a1 > 30 then (some (0, false, 0, (⟨#[]⟩ : ByteArray), ([] : List (S57)), 2)) else ((prims_signed.f k (wrap32 (a2))).bind fun t344 => (some (a0, false, a1, t344, ([] : List (S57)), 0))))))))
theorem prims_Int.mono : ∀ a0_ a1_ a2_ k, LeO (prims_Int.f k a0_ a1_ a2_) (prims_Int.f (k + 1) a0_ a1_ a2_) := by
 intro a0_ a1_ a2_ k
 unfold prims_Int.f
 repeat' first
   | (with_reducible exact prims_signed.mono _ _)
   | (with_reducible exact LeO.refl _)
   | (with_reducible exact LeO.none _)
   | (with_reducible refine LeO.ite ?_ ?_)
   | (with_reducible refine LeO.bind ?_ (fun _ => ?_))
set_option maxHeartbeats 8000000 in
set_option maxRecDepth 100000 in
theorem prims_Int.calls (k : Nat) (a0 : Int) (a1 : Int) (a2 : Int) (r1 : Int) (r2 : Bool) (r3 : Int) (r4 : ByteArray) (r5 : List (S57)) (r6 : Int) (w : World) (h : prims_Int.f k a0 a1 a2 = some (r1, r2, r3, r4, r5, r6)) :
  Calls Try.prog 66 #[.int .i64 a0, .int .i64 a1, .int .i64 a2] w (fun e w' => ∃ v4_ : Value, e = .returned (.tuple #[.agg #[.int .i64 r1, .bool r2, .int .i64 r3, .string r4, v4_], .int .i64 r6]) ∧ Kd.N k57 57 w' w.heap.size (fun k_ => w.heap.size ≤ k_) v4_ r5 ∧ Below w.heap.size w w') := by
 have HH := Aside0.mk (show (if a2 < (-2147483648) then (some (0, false, 0, (⟨#[]⟩ : ByteArray), ([] : List (S57)), 2)) else (if a2 > 2147483647 then (some (0, false, 0, (⟨#[]⟩ : ByteArray), ([] : List (S57)), 2)) else (if a0 < 0 then (some (0, false, 0, (⟨#[]⟩ : ByteArray), ([] : List (S57)), 2)) else (if a0 > 3 then (some (0, false, 0, (⟨#[]⟩ : ByteArray), ([] : List (S57)), 2)) else (if a1 < 0 then (some (0, false, 0, (⟨#[]⟩ : ByteArray), ([] : List (S57)), 2)) else (if a1 > 30 then (some (0, false, 0, (⟨#[]⟩ : ByteArray), ([] : List (S57)), 2)) else ((prims_signed.f k (wrap32 (a2))).bind fun t344 => (some (a0, false, a1, t344, ([] : List (S57)), 0))))))))) = some (r1, r2, r3, r4, r5, r6) from h)
 clear h
 have HB := Aside0.mk (Below.refl w.heap.size w)
 have hu57 := Try.underlying57
 go_enter Try.func66, Try.ntmps66
 go_wp2_with (((with_reducible refine gate_dst (N := 5) rfl ?_); (try (refine gate_guard (by rfl) ?_; dsimp only)); refine box_event ?hg (N := 5) ?hd (cs := #[.int .i64 a2]) (t := 3) ?hr ?_; (case hd => rfl); (case hg => rfl); (case hr => first | (go_simp; done) | (go_simp; rfl)); intro g1 hg w2 hbox hb); replace hg := Aside0.mk hg; replace hbox := Aside0.mk hbox; refine stop_ ?_)
 refine Stop.go ?_
 replace hg := hg.out
 replace hbox := hbox.out
 replace HB := Aside0.mk (below_step HB.out hb)
 have BKg1 := Aside0.mk hbox
 clear hg hbox hb
 obtain ⟨j3, j4⟩ := MB.lay1 BKg1.out
 go_wp2_with (((with_reducible refine gate_dst (N := 6) rfl ?_); (try (refine gate_guard (by rfl) ?_; dsimp only)); refine box_event ?hg (N := 6) ?hd (cs := #[.int .i64 0, .bool false, .int .i64 0, .string (⟨#[]⟩ : ByteArray), .slice none 0 0]) (t := 57) ?hr ?_; (case hd => rfl); (case hg => rfl); (case hr => first | (go_simp; done) | (go_simp; rfl)); intro g5 hg w6 hbox hb); replace hg := Aside0.mk hg; replace hbox := Aside0.mk hbox; refine stop_ ?_)
 refine Stop.go ?_
 replace hg := hg.out
 replace hbox := hbox.out
 have GEg5 := Aside0.mk (by rw [hg]; exact (below_size HB.out) : w.heap.size ≤ g5)
 have NEg1_g5 := Aside0.mk (by rw [hg]; exact Nat.ne_of_lt (blk_lt (g := g1) BKg1.out) : g1 ≠ g5)
 replace BKg1 := Aside0.mk (blk_below (g := g1) BKg1.out hb)
 replace HB := Aside0.mk (below_step HB.out hb)
 have BKg5 := Aside0.mk hbox
 clear hg hbox hb
 clear j3 j4
 obtain ⟨j7, j8⟩ := MB.lay1 BKg1.out
 obtain ⟨j9, ja, jb, jc, jd, je, jf, jg, jh, ji⟩ := MB.lay5 BKg5.out
 by_cases c19 : a2 < (-2147483648)
 ·replace HH := MW.hpos HH c19
  have hk20 : (a2 < (-2147483648)) = True := eq_true c19
  have hk21 : decide (a2 < (-2147483648)) = true := decide_eq_true c19
  clear c19
  go_wp2_with (((with_reducible refine gate_store (t := 57) (p := 6) rfl ?_); (try (refine gate_guard (by rfl) ?_; dsimp only)); refine MW.ev_store #[.int .i64 0, .bool false, .int .i64 0, .string (⟨#[]⟩ : ByteArray), .slice none 0 0] rfl rfl rfl rfl BKg5.out [.int .i64 0, .bool false, .int .i64 0, .string (⟨#[]⟩ : ByteArray), .slice none 0 0] rfl (by kernel_rfl) (by simp) (by simp [Value.oneCell']) rfl ?_; intro w22 hbk hg); replace hbk := Aside0.mk hbk; refine stop_ ?_)
  refine Stop.go ?_
  replace hbk := hbk.out
  replace BKg1 := Aside0.mk (blk_grown (g := g1) BKg1.out hg (fun he_ => NEg1_g5.out (Option.some.inj he_)))
  replace HB := Aside0.mk (Below.grown HB.out hg (below_size HB.out) (fun k_ hk_ => by injection hk_ with hk_; rw [← hk_]; exact GEg5.out))
  replace BKg5 := Aside0.mk hbk
  clear hg hbk
  clear j7 j8 j9 ja jb jc jd je jf jg jh ji
  obtain ⟨jn, jo⟩ := MB.lay1 BKg1.out
  obtain ⟨jp, jq, jr, js, jt, ju, jv, jw, jx, jy⟩ := MB.lay5 BKg5.out
  have H := HH.out
  simp only [Option.some.injEq, Prod.mk.injEq] at H
  obtain ⟨rfl, rfl, rfl, rfl, rfl, rfl⟩ := H
  clear HH
  go_wp2
  refine bodyPost_ret (results_ct rfl _ _ g5 57 #[.int .i64 0, .bool false, .int .i64 0, .string (⟨#[]⟩ : ByteArray), .slice none 0 0] (0, 0) _ rfl BKg5.out Try.underlying57 rfl (by kernel_rfl)) rfl ?_
  exact ⟨_, by first | rfl | (simp; done) | (simp [*]; done), (Kd.N_nil _ _ _ _ _), HB.out⟩
 replace HH := MW.hneg HH c19
 have hk35 : (a2 < (-2147483648)) = False := eq_false c19
 have hk36 : decide (a2 < (-2147483648)) = false := decide_eq_false c19
 clear c19
 by_cases c37 : a2 > 2147483647
 ·replace HH := MW.hpos HH c37
  have hk38 : decide (2147483647 < a2) = true := decide_eq_true c37
  clear c37
  go_wp2_with (((with_reducible refine gate_store (t := 57) (p := 6) rfl ?_); (try (refine gate_guard (by rfl) ?_; dsimp only)); refine MW.ev_store #[.int .i64 0, .bool false, .int .i64 0, .string (⟨#[]⟩ : ByteArray), .slice none 0 0] rfl rfl rfl rfl BKg5.out [.int .i64 0, .bool false, .int .i64 0, .string (⟨#[]⟩ : ByteArray), .slice none 0 0] rfl (by kernel_rfl) (by simp) (by simp [Value.oneCell']) rfl ?_; intro w39 hbk hg); replace hbk := Aside0.mk hbk; refine stop_ ?_)
  refine Stop.go ?_
  replace hbk := hbk.out
  replace BKg1 := Aside0.mk (blk_grown (g := g1) BKg1.out hg (fun he_ => NEg1_g5.out (Option.some.inj he_)))
  replace HB := Aside0.mk (Below.grown HB.out hg (below_size HB.out) (fun k_ hk_ => by injection hk_ with hk_; rw [← hk_]; exact GEg5.out))
  replace BKg5 := Aside0.mk hbk
  clear hg hbk
  clear j7 j8 j9 ja jb jc jd je jf jg jh ji
  obtain ⟨jE, jF⟩ := MB.lay1 BKg1.out
  obtain ⟨jG, jH, jI, jJ, jK, jL, jM, jN, jO, jP⟩ := MB.lay5 BKg5.out
  have H := HH.out
  simp only [Option.some.injEq, Prod.mk.injEq] at H
  obtain ⟨rfl, rfl, rfl, rfl, rfl, rfl⟩ := H
  clear HH
  go_wp2
  refine bodyPost_ret (results_ct rfl _ _ g5 57 #[.int .i64 0, .bool false, .int .i64 0, .string (⟨#[]⟩ : ByteArray), .slice none 0 0] (0, 0) _ rfl BKg5.out Try.underlying57 rfl (by kernel_rfl)) rfl ?_
  exact ⟨_, by first | rfl | (simp; done) | (simp [*]; done), (Kd.N_nil _ _ _ _ _), HB.out⟩
 replace HH := MW.hneg HH c37
 have hk52 : decide (2147483647 < a2) = false := decide_eq_false c37
 clear c37
 go_wp2_with (((with_reducible refine gate_callee (f := 84) rfl ?_); (try (refine gate_guard (by rfl) ?_; dsimp only)); refine goesL_ (some 18) rfl rfl Try.func84 (by kernel_rfl) rfl #[.int .i64 a0, .int .i64 a1, .func (.func 93) #[] #[.pointer (some ⟨g1, 0, none⟩)]] rfl (by (try simp only [List.map_toArray, List.map_cons, List.map_nil]); first | done | rfl) ?_); refine stop_ ?_)
 refine Stop.go ?_
 go_enter Try.func84, Try.ntmps84
 go_wp2_with (((with_reducible refine gate_dst (N := 6) rfl ?_); (try (refine gate_guard (by rfl) ?_; dsimp only)); refine box_event ?hg (N := 6) ?hd (cs := #[.int .i64 0, .bool false, .int .i64 0, .string (⟨#[]⟩ : ByteArray), .slice none 0 0]) (t := 57) ?hr ?_; (case hd => rfl); (case hg => rfl); (case hr => first | (go_simp; done) | (go_simp; rfl)); intro g53 hg w54 hbox hb); replace hg := Aside0.mk hg; replace hbox := Aside0.mk hbox; refine stop_ ?_)
 refine Stop.go ?_
 replace hg := hg.out
 replace hbox := hbox.out
 have GEg53 := Aside0.mk (by rw [hg]; exact (below_size HB.out) : w.heap.size ≤ g53)
 have NEg1_g53 := Aside0.mk (by rw [hg]; exact Nat.ne_of_lt (blk_lt (g := g1) BKg1.out) : g1 ≠ g53)
 have NEg5_g53 := Aside0.mk (by rw [hg]; exact Nat.ne_of_lt (blk_lt (g := g5) BKg5.out) : g5 ≠ g53)
 have NEg53_g5 := Aside0.mk (Ne.symm NEg5_g53.out)
 replace BKg1 := Aside0.mk (blk_below (g := g1) BKg1.out hb)
 replace BKg5 := Aside0.mk (blk_below (g := g5) BKg5.out hb)
 replace HB := Aside0.mk (below_step HB.out hb)
 have BKg53 := Aside0.mk hbox
 clear hg hbox hb
 clear j7 j8 j9 ja jb jc jd je jf jg jh ji
 obtain ⟨jT, jU⟩ := MB.lay1 BKg1.out
 obtain ⟨jV, jW, jX, jY, jZ, j10, j11, j12, j13, j14⟩ := MB.lay5 BKg5.out
 obtain ⟨j15, j16, j17, j18, j19, j1a, j1b, j1c, j1d, j1e⟩ := MB.lay5 BKg53.out
 by_cases c77 : a0 < 0
 ·replace HH := MW.hpos HH c77
  have hk78 : (a0 < 0) = True := eq_true c77
  have hk79 : decide (a0 < 0) = true := decide_eq_true c77
  clear c77
  go_wp2_with (((with_reducible refine gate_store (t := 57) (p := 6) rfl ?_); (try (refine gate_guard (by rfl) ?_; dsimp only)); refine MW.ev_store #[.int .i64 0, .bool false, .int .i64 0, .string (⟨#[]⟩ : ByteArray), .slice none 0 0] rfl rfl rfl rfl BKg53.out [.int .i64 0, .bool false, .int .i64 0, .string (⟨#[]⟩ : ByteArray), .slice none 0 0] rfl (by kernel_rfl) (by simp) (by simp [Value.oneCell']) rfl ?_; intro w80 hbk hg); replace hbk := Aside0.mk hbk; refine stop_ ?_)
  refine Stop.go ?_
  replace hbk := hbk.out
  replace BKg1 := Aside0.mk (blk_grown (g := g1) BKg1.out hg (fun he_ => NEg1_g53.out (Option.some.inj he_)))
  replace BKg5 := Aside0.mk (blk_grown (g := g5) BKg5.out hg (fun he_ => NEg5_g53.out (Option.some.inj he_)))
  replace HB := Aside0.mk (Below.grown HB.out hg (below_size HB.out) (fun k_ hk_ => by injection hk_ with hk_; rw [← hk_]; exact GEg53.out))
  replace BKg53 := Aside0.mk hbk
  clear hg hbk
  clear jT jU jV jW jX jY jZ j10 j11 j12 j13 j14 j15 j16 j17 j18 j19 j1a j1b j1c j1d j1e
  obtain ⟨j1j, j1k⟩ := MB.lay1 BKg1.out
  obtain ⟨j1l, j1m, j1n, j1o, j1p, j1q, j1r, j1s, j1t, j1u⟩ := MB.lay5 BKg5.out
  obtain ⟨j1v, j1w, j1x, j1y, j1z, j1A, j1B, j1C, j1D, j1E⟩ := MB.lay5 BKg53.out
  go_wp2
  refine bodyPost_ret (results_ct rfl _ _ g53 57 #[.int .i64 0, .bool false, .int .i64 0, .string (⟨#[]⟩ : ByteArray), .slice none 0 0] (0, 0) _ rfl BKg53.out Try.underlying57 rfl (by kernel_rfl)) rfl ?_
  refine ⟨_, rfl, ?_⟩
  go_wp2_with (((with_reducible refine gate_store (t := 57) (p := 6) rfl ?_); (try (refine gate_guard (by rfl) ?_; dsimp only)); refine MW.ev_store #[.int .i64 0, .bool false, .int .i64 0, .string (⟨#[]⟩ : ByteArray), .slice none 0 0] rfl rfl rfl rfl BKg5.out [.int .i64 0, .bool false, .int .i64 0, .string (⟨#[]⟩ : ByteArray), .slice none 0 0] rfl (by kernel_rfl) (by simp) (by simp [Value.oneCell']) rfl ?_; intro w103 hbk hg); replace hbk := Aside0.mk hbk; refine stop_ ?_)
  refine Stop.go ?_
  replace hbk := hbk.out
  replace BKg1 := Aside0.mk (blk_grown (g := g1) BKg1.out hg (fun he_ => NEg1_g5.out (Option.some.inj he_)))
  replace BKg53 := Aside0.mk (blk_grown (g := g53) BKg53.out hg (fun he_ => NEg53_g5.out (Option.some.inj he_)))
  replace HB := Aside0.mk (Below.grown HB.out hg (below_size HB.out) (fun k_ hk_ => by injection hk_ with hk_; rw [← hk_]; exact GEg5.out))
  replace BKg5 := Aside0.mk hbk
  clear hg hbk
  clear j1j j1k j1l j1m j1n j1o j1p j1q j1r j1s j1t j1u j1v j1w j1x j1y j1z j1A j1B j1C j1D j1E
  obtain ⟨j1G, j1H⟩ := MB.lay1 BKg1.out
  obtain ⟨j1I, j1J, j1K, j1L, j1M, j1N, j1O, j1P, j1Q, j1R⟩ := MB.lay5 BKg5.out
  obtain ⟨j1S, j1T, j1U, j1V, j1W, j1X, j1Y, j1Z, j20, j21⟩ := MB.lay5 BKg53.out
  have H := HH.out
  simp only [Option.some.injEq, Prod.mk.injEq] at H
  obtain ⟨rfl, rfl, rfl, rfl, rfl, rfl⟩ := H
  clear HH
  go_wp2
  refine bodyPost_ret (results_ct rfl _ _ g5 57 #[.int .i64 0, .bool false, .int .i64 0, .string (⟨#[]⟩ : ByteArray), .slice none 0 0] (0, 0) _ rfl BKg5.out Try.underlying57 rfl (by kernel_rfl)) rfl ?_
  exact ⟨_, by first | rfl | (simp; done) | (simp [*]; done), (Kd.N_nil _ _ _ _ _), HB.out⟩
 replace HH := MW.hneg HH c77
 have hk126 : (a0 < 0) = False := eq_false c77
 have hk127 : decide (a0 < 0) = false := decide_eq_false c77
 clear c77
 by_cases c128 : a0 > 3
 ·replace HH := MW.hpos HH c128
  have hk129 : decide (3 < a0) = true := decide_eq_true c128
  clear c128
  go_wp2_with (((with_reducible refine gate_store (t := 57) (p := 6) rfl ?_); (try (refine gate_guard (by rfl) ?_; dsimp only)); refine MW.ev_store #[.int .i64 0, .bool false, .int .i64 0, .string (⟨#[]⟩ : ByteArray), .slice none 0 0] rfl rfl rfl rfl BKg53.out [.int .i64 0, .bool false, .int .i64 0, .string (⟨#[]⟩ : ByteArray), .slice none 0 0] rfl (by kernel_rfl) (by simp) (by simp [Value.oneCell']) rfl ?_; intro w130 hbk hg); replace hbk := Aside0.mk hbk; refine stop_ ?_)
  refine Stop.go ?_
  replace hbk := hbk.out
  replace BKg1 := Aside0.mk (blk_grown (g := g1) BKg1.out hg (fun he_ => NEg1_g53.out (Option.some.inj he_)))
  replace BKg5 := Aside0.mk (blk_grown (g := g5) BKg5.out hg (fun he_ => NEg5_g53.out (Option.some.inj he_)))
  replace HB := Aside0.mk (Below.grown HB.out hg (below_size HB.out) (fun k_ hk_ => by injection hk_ with hk_; rw [← hk_]; exact GEg53.out))
  replace BKg53 := Aside0.mk hbk
  clear hg hbk
  clear jT jU jV jW jX jY jZ j10 j11 j12 j13 j14 j15 j16 j17 j18 j19 j1a j1b j1c j1d j1e
  obtain ⟨j27, j28⟩ := MB.lay1 BKg1.out
  obtain ⟨j29, j2a, j2b, j2c, j2d, j2e, j2f, j2g, j2h, j2i⟩ := MB.lay5 BKg5.out
  obtain ⟨j2j, j2k, j2l, j2m, j2n, j2o, j2p, j2q, j2r, j2s⟩ := MB.lay5 BKg53.out
  go_wp2
  refine bodyPost_ret (results_ct rfl _ _ g53 57 #[.int .i64 0, .bool false, .int .i64 0, .string (⟨#[]⟩ : ByteArray), .slice none 0 0] (0, 0) _ rfl BKg53.out Try.underlying57 rfl (by kernel_rfl)) rfl ?_
  refine ⟨_, rfl, ?_⟩
  go_wp2_with (((with_reducible refine gate_store (t := 57) (p := 6) rfl ?_); (try (refine gate_guard (by rfl) ?_; dsimp only)); refine MW.ev_store #[.int .i64 0, .bool false, .int .i64 0, .string (⟨#[]⟩ : ByteArray), .slice none 0 0] rfl rfl rfl rfl BKg5.out [.int .i64 0, .bool false, .int .i64 0, .string (⟨#[]⟩ : ByteArray), .slice none 0 0] rfl (by kernel_rfl) (by simp) (by simp [Value.oneCell']) rfl ?_; intro w153 hbk hg); replace hbk := Aside0.mk hbk; refine stop_ ?_)
  refine Stop.go ?_
  replace hbk := hbk.out
  replace BKg1 := Aside0.mk (blk_grown (g := g1) BKg1.out hg (fun he_ => NEg1_g5.out (Option.some.inj he_)))
  replace BKg53 := Aside0.mk (blk_grown (g := g53) BKg53.out hg (fun he_ => NEg53_g5.out (Option.some.inj he_)))
  replace HB := Aside0.mk (Below.grown HB.out hg (below_size HB.out) (fun k_ hk_ => by injection hk_ with hk_; rw [← hk_]; exact GEg5.out))
  replace BKg5 := Aside0.mk hbk
  clear hg hbk
  clear j27 j28 j29 j2a j2b j2c j2d j2e j2f j2g j2h j2i j2j j2k j2l j2m j2n j2o j2p j2q j2r j2s
  obtain ⟨j2u, j2v⟩ := MB.lay1 BKg1.out
  obtain ⟨j2w, j2x, j2y, j2z, j2A, j2B, j2C, j2D, j2E, j2F⟩ := MB.lay5 BKg5.out
  obtain ⟨j2G, j2H, j2I, j2J, j2K, j2L, j2M, j2N, j2O, j2P⟩ := MB.lay5 BKg53.out
  have H := HH.out
  simp only [Option.some.injEq, Prod.mk.injEq] at H
  obtain ⟨rfl, rfl, rfl, rfl, rfl, rfl⟩ := H
  clear HH
  go_wp2
  refine bodyPost_ret (results_ct rfl _ _ g5 57 #[.int .i64 0, .bool false, .int .i64 0, .string (⟨#[]⟩ : ByteArray), .slice none 0 0] (0, 0) _ rfl BKg5.out Try.underlying57 rfl (by kernel_rfl)) rfl ?_
  exact ⟨_, by first | rfl | (simp; done) | (simp [*]; done), (Kd.N_nil _ _ _ _ _), HB.out⟩
 replace HH := MW.hneg HH c128
 have hk176 : decide (3 < a0) = false := decide_eq_false c128
 clear c128
 by_cases c177 : a1 < 0
 ·replace HH := MW.hpos HH c177
  have hk178 : (a1 < 0) = True := eq_true c177
  have hk179 : decide (a1 < 0) = true := decide_eq_true c177
  clear c177
  go_wp2_with (((with_reducible refine gate_store (t := 57) (p := 6) rfl ?_); (try (refine gate_guard (by rfl) ?_; dsimp only)); refine MW.ev_store #[.int .i64 0, .bool false, .int .i64 0, .string (⟨#[]⟩ : ByteArray), .slice none 0 0] rfl rfl rfl rfl BKg53.out [.int .i64 0, .bool false, .int .i64 0, .string (⟨#[]⟩ : ByteArray), .slice none 0 0] rfl (by kernel_rfl) (by simp) (by simp [Value.oneCell']) rfl ?_; intro w180 hbk hg); replace hbk := Aside0.mk hbk; refine stop_ ?_)
  refine Stop.go ?_
  replace hbk := hbk.out
  replace BKg1 := Aside0.mk (blk_grown (g := g1) BKg1.out hg (fun he_ => NEg1_g53.out (Option.some.inj he_)))
  replace BKg5 := Aside0.mk (blk_grown (g := g5) BKg5.out hg (fun he_ => NEg5_g53.out (Option.some.inj he_)))
  replace HB := Aside0.mk (Below.grown HB.out hg (below_size HB.out) (fun k_ hk_ => by injection hk_ with hk_; rw [← hk_]; exact GEg53.out))
  replace BKg53 := Aside0.mk hbk
  clear hg hbk
  clear jT jU jV jW jX jY jZ j10 j11 j12 j13 j14 j15 j16 j17 j18 j19 j1a j1b j1c j1d j1e
  obtain ⟨j2V, j2W⟩ := MB.lay1 BKg1.out
  obtain ⟨j2X, j2Y, j2Z, j30, j31, j32, j33, j34, j35, j36⟩ := MB.lay5 BKg5.out
  obtain ⟨j37, j38, j39, j3a, j3b, j3c, j3d, j3e, j3f, j3g⟩ := MB.lay5 BKg53.out
  go_wp2
  refine bodyPost_ret (results_ct rfl _ _ g53 57 #[.int .i64 0, .bool false, .int .i64 0, .string (⟨#[]⟩ : ByteArray), .slice none 0 0] (0, 0) _ rfl BKg53.out Try.underlying57 rfl (by kernel_rfl)) rfl ?_
  refine ⟨_, rfl, ?_⟩
  go_wp2_with (((with_reducible refine gate_store (t := 57) (p := 6) rfl ?_); (try (refine gate_guard (by rfl) ?_; dsimp only)); refine MW.ev_store #[.int .i64 0, .bool false, .int .i64 0, .string (⟨#[]⟩ : ByteArray), .slice none 0 0] rfl rfl rfl rfl BKg5.out [.int .i64 0, .bool false, .int .i64 0, .string (⟨#[]⟩ : ByteArray), .slice none 0 0] rfl (by kernel_rfl) (by simp) (by simp [Value.oneCell']) rfl ?_; intro w203 hbk hg); replace hbk := Aside0.mk hbk; refine stop_ ?_)
  refine Stop.go ?_
  replace hbk := hbk.out
  replace BKg1 := Aside0.mk (blk_grown (g := g1) BKg1.out hg (fun he_ => NEg1_g5.out (Option.some.inj he_)))
  replace BKg53 := Aside0.mk (blk_grown (g := g53) BKg53.out hg (fun he_ => NEg53_g5.out (Option.some.inj he_)))
  replace HB := Aside0.mk (Below.grown HB.out hg (below_size HB.out) (fun k_ hk_ => by injection hk_ with hk_; rw [← hk_]; exact GEg5.out))
  replace BKg5 := Aside0.mk hbk
  clear hg hbk
  clear j2V j2W j2X j2Y j2Z j30 j31 j32 j33 j34 j35 j36 j37 j38 j39 j3a j3b j3c j3d j3e j3f j3g
  obtain ⟨j3i, j3j⟩ := MB.lay1 BKg1.out
  obtain ⟨j3k, j3l, j3m, j3n, j3o, j3p, j3q, j3r, j3s, j3t⟩ := MB.lay5 BKg5.out
  obtain ⟨j3u, j3v, j3w, j3x, j3y, j3z, j3A, j3B, j3C, j3D⟩ := MB.lay5 BKg53.out
  have H := HH.out
  simp only [Option.some.injEq, Prod.mk.injEq] at H
  obtain ⟨rfl, rfl, rfl, rfl, rfl, rfl⟩ := H
  clear HH
  go_wp2
  refine bodyPost_ret (results_ct rfl _ _ g5 57 #[.int .i64 0, .bool false, .int .i64 0, .string (⟨#[]⟩ : ByteArray), .slice none 0 0] (0, 0) _ rfl BKg5.out Try.underlying57 rfl (by kernel_rfl)) rfl ?_
  exact ⟨_, by first | rfl | (simp; done) | (simp [*]; done), (Kd.N_nil _ _ _ _ _), HB.out⟩
 replace HH := MW.hneg HH c177
 have hk226 : (a1 < 0) = False := eq_false c177
 have hk227 : decide (a1 < 0) = false := decide_eq_false c177
 clear c177
 by_cases c228 : a1 > 30
 ·replace HH := MW.hpos HH c228
  have hk229 : decide (30 < a1) = true := decide_eq_true c228
  clear c228
  go_wp2_with (((with_reducible refine gate_store (t := 57) (p := 6) rfl ?_); (try (refine gate_guard (by rfl) ?_; dsimp only)); refine MW.ev_store #[.int .i64 0, .bool false, .int .i64 0, .string (⟨#[]⟩ : ByteArray), .slice none 0 0] rfl rfl rfl rfl BKg53.out [.int .i64 0, .bool false, .int .i64 0, .string (⟨#[]⟩ : ByteArray), .slice none 0 0] rfl (by kernel_rfl) (by simp) (by simp [Value.oneCell']) rfl ?_; intro w230 hbk hg); replace hbk := Aside0.mk hbk; refine stop_ ?_)
  refine Stop.go ?_
  replace hbk := hbk.out
  replace BKg1 := Aside0.mk (blk_grown (g := g1) BKg1.out hg (fun he_ => NEg1_g53.out (Option.some.inj he_)))
  replace BKg5 := Aside0.mk (blk_grown (g := g5) BKg5.out hg (fun he_ => NEg5_g53.out (Option.some.inj he_)))
  replace HB := Aside0.mk (Below.grown HB.out hg (below_size HB.out) (fun k_ hk_ => by injection hk_ with hk_; rw [← hk_]; exact GEg53.out))
  replace BKg53 := Aside0.mk hbk
  clear hg hbk
  clear jT jU jV jW jX jY jZ j10 j11 j12 j13 j14 j15 j16 j17 j18 j19 j1a j1b j1c j1d j1e
  obtain ⟨j3J, j3K⟩ := MB.lay1 BKg1.out
  obtain ⟨j3L, j3M, j3N, j3O, j3P, j3Q, j3R, j3S, j3T, j3U⟩ := MB.lay5 BKg5.out
  obtain ⟨j3V, j3W, j3X, j3Y, j3Z, j40, j41, j42, j43, j44⟩ := MB.lay5 BKg53.out
  go_wp2
  refine bodyPost_ret (results_ct rfl _ _ g53 57 #[.int .i64 0, .bool false, .int .i64 0, .string (⟨#[]⟩ : ByteArray), .slice none 0 0] (0, 0) _ rfl BKg53.out Try.underlying57 rfl (by kernel_rfl)) rfl ?_
  refine ⟨_, rfl, ?_⟩
  go_wp2_with (((with_reducible refine gate_store (t := 57) (p := 6) rfl ?_); (try (refine gate_guard (by rfl) ?_; dsimp only)); refine MW.ev_store #[.int .i64 0, .bool false, .int .i64 0, .string (⟨#[]⟩ : ByteArray), .slice none 0 0] rfl rfl rfl rfl BKg5.out [.int .i64 0, .bool false, .int .i64 0, .string (⟨#[]⟩ : ByteArray), .slice none 0 0] rfl (by kernel_rfl) (by simp) (by simp [Value.oneCell']) rfl ?_; intro w253 hbk hg); replace hbk := Aside0.mk hbk; refine stop_ ?_)
  refine Stop.go ?_
  replace hbk := hbk.out
  replace BKg1 := Aside0.mk (blk_grown (g := g1) BKg1.out hg (fun he_ => NEg1_g5.out (Option.some.inj he_)))
  replace BKg53 := Aside0.mk (blk_grown (g := g53) BKg53.out hg (fun he_ => NEg53_g5.out (Option.some.inj he_)))
  replace HB := Aside0.mk (Below.grown HB.out hg (below_size HB.out) (fun k_ hk_ => by injection hk_ with hk_; rw [← hk_]; exact GEg5.out))
  replace BKg5 := Aside0.mk hbk
  clear hg hbk
  clear j3J j3K j3L j3M j3N j3O j3P j3Q j3R j3S j3T j3U j3V j3W j3X j3Y j3Z j40 j41 j42 j43 j44
  obtain ⟨j46, j47⟩ := MB.lay1 BKg1.out
  obtain ⟨j48, j49, j4a, j4b, j4c, j4d, j4e, j4f, j4g, j4h⟩ := MB.lay5 BKg5.out
  obtain ⟨j4i, j4j, j4k, j4l, j4m, j4n, j4o, j4p, j4q, j4r⟩ := MB.lay5 BKg53.out
  have H := HH.out
  simp only [Option.some.injEq, Prod.mk.injEq] at H
  obtain ⟨rfl, rfl, rfl, rfl, rfl, rfl⟩ := H
  clear HH
  go_wp2
  refine bodyPost_ret (results_ct rfl _ _ g5 57 #[.int .i64 0, .bool false, .int .i64 0, .string (⟨#[]⟩ : ByteArray), .slice none 0 0] (0, 0) _ rfl BKg5.out Try.underlying57 rfl (by kernel_rfl)) rfl ?_
  exact ⟨_, by first | rfl | (simp; done) | (simp [*]; done), (Kd.N_nil _ _ _ _ _), HB.out⟩
 replace HH := MW.hneg HH c228
 have hk276 : decide (30 < a1) = false := decide_eq_false c228
 clear c228
 go_wp2_with (((with_reducible refine gate_dst (N := 8) rfl ?_); (try (refine gate_guard (by rfl) ?_; dsimp only)); refine box_event ?hg (N := 8) ?hd (cs := #[.int .i64 0, .bool false, .int .i64 0, .string (⟨#[]⟩ : ByteArray), .slice none 0 0]) (t := 57) ?hr ?_; (case hd => rfl); (case hg => rfl); (case hr => first | (go_simp; done) | (go_simp; rfl)); intro g277 hg w278 hbox hb); replace hg := Aside0.mk hg; replace hbox := Aside0.mk hbox; refine stop_ ?_)
 refine Stop.go ?_
 replace hg := hg.out
 replace hbox := hbox.out
 have GEg277 := Aside0.mk (by rw [hg]; exact (below_size HB.out) : w.heap.size ≤ g277)
 have NEg1_g277 := Aside0.mk (by rw [hg]; exact Nat.ne_of_lt (blk_lt (g := g1) BKg1.out) : g1 ≠ g277)
 have NEg5_g277 := Aside0.mk (by rw [hg]; exact Nat.ne_of_lt (blk_lt (g := g5) BKg5.out) : g5 ≠ g277)
 have NEg277_g5 := Aside0.mk (Ne.symm NEg5_g277.out)
 have NEg53_g277 := Aside0.mk (by rw [hg]; exact Nat.ne_of_lt (blk_lt (g := g53) BKg53.out) : g53 ≠ g277)
 have NEg277_g53 := Aside0.mk (Ne.symm NEg53_g277.out)
 replace BKg1 := Aside0.mk (blk_below (g := g1) BKg1.out hb)
 replace BKg5 := Aside0.mk (blk_below (g := g5) BKg5.out hb)
 replace BKg53 := Aside0.mk (blk_below (g := g53) BKg53.out hb)
 replace HB := Aside0.mk (below_step HB.out hb)
 have BKg277 := Aside0.mk hbox
 clear hg hbox hb
 clear jT jU jV jW jX jY jZ j10 j11 j12 j13 j14 j15 j16 j17 j18 j19 j1a j1b j1c j1d j1e
 obtain ⟨j4v, j4w⟩ := MB.lay1 BKg1.out
 obtain ⟨j4x, j4y, j4z, j4A, j4B, j4C, j4D, j4E, j4F, j4G⟩ := MB.lay5 BKg5.out
 obtain ⟨j4H, j4I, j4J, j4K, j4L, j4M, j4N, j4O, j4P, j4Q⟩ := MB.lay5 BKg53.out
 obtain ⟨j4R, j4S, j4T, j4U, j4V, j4W, j4X, j4Y, j4Z, j50⟩ := MB.lay5 BKg277.out
 go_wp2_with (((with_reducible refine gate_store (t := 57) (p := 8) rfl ?_); (try (refine gate_guard (by rfl) ?_; dsimp only)); refine MW.ev_store #[.int .i64 a0, .bool false, .int .i64 a1, .string (⟨#[]⟩ : ByteArray), .slice none 0 0] rfl rfl rfl rfl BKg277.out [.int .i64 a0, .bool false, .int .i64 a1, .string (⟨#[]⟩ : ByteArray), .slice none 0 0] rfl (by kernel_rfl) (by simp) (by simp [Value.oneCell']) rfl ?_; intro w311 hbk hg); replace hbk := Aside0.mk hbk; refine stop_ ?_)
 refine Stop.go ?_
 replace hbk := hbk.out
 replace BKg1 := Aside0.mk (blk_grown (g := g1) BKg1.out hg (fun he_ => NEg1_g277.out (Option.some.inj he_)))
 replace BKg5 := Aside0.mk (blk_grown (g := g5) BKg5.out hg (fun he_ => NEg5_g277.out (Option.some.inj he_)))
 replace BKg53 := Aside0.mk (blk_grown (g := g53) BKg53.out hg (fun he_ => NEg53_g277.out (Option.some.inj he_)))
 replace HB := Aside0.mk (Below.grown HB.out hg (below_size HB.out) (fun k_ hk_ => by injection hk_ with hk_; rw [← hk_]; exact GEg277.out))
 replace BKg277 := Aside0.mk hbk
 clear hg hbk
 clear j4v j4w j4x j4y j4z j4A j4B j4C j4D j4E j4F j4G j4H j4I j4J j4K j4L j4M j4N j4O j4P j4Q j4R j4S j4T j4U j4V j4W j4X j4Y j4Z j50
 obtain ⟨j52, j53⟩ := MB.lay1 BKg1.out
 obtain ⟨j54, j55, j56, j57, j58, j59, j5a, j5b, j5c, j5d⟩ := MB.lay5 BKg5.out
 obtain ⟨j5e, j5f, j5g, j5h, j5i, j5j, j5k, j5l, j5m, j5n⟩ := MB.lay5 BKg53.out
 obtain ⟨j5o, j5p, j5q, j5r, j5s, j5t, j5u, j5v, j5w, j5x⟩ := MB.lay5 BKg277.out
 go_wp2_with (((with_reducible refine gate_dst (N := 28) rfl ?_); (try (refine gate_guard (by rfl) ?_; dsimp only)); refine MW.goesV_ (some 28) rfl rfl Try.func93 (by kernel_rfl) rfl #[.pointer (some ⟨g277, 0, none⟩), .pointer (some ⟨g1, 0, none⟩)] rfl #[.pointer (some ⟨g1, 0, none⟩)] rfl (by simp only [List.map_toArray, List.map_cons, List.map_nil, List.append_toArray, List.cons_append, List.nil_append]; first | done | rfl) ?_); refine stop_ ?_)
 refine Stop.go ?_
 go_enter Try.func93, Try.ntmps93
 have H := HH.out
 replace H := Option.bind_eq_some_iff.mp H
 obtain ⟨t344, at_, H⟩ := H
 have At345 := Aside0.mk at_
 clear at_
 replace HH := Aside0.mk (show (some (a0, false, a1, t344, ([] : List (S57)), 0)) = some (r1, r2, r3, r4, r5, r6) from H)
 clear H
 go_wp2_with (((with_reducible refine gate_callee (f := 76) rfl ?_); (try (refine gate_guard (by rfl) ?_; dsimp only)); refine goesL_ (some 6) rfl rfl Try.func76 (by kernel_rfl) rfl #[.int .i32 (wrap32 (a2))] rfl (by (try simp only [List.map_toArray, List.map_cons, List.map_nil]); first | done | rfl | (simp only [List.length_drop, List.length_take]; rfl)) ?_; (with_reducible refine (prims_signed.calls k  (wrap32 (a2)) t344 _  At345.out).mono ?_); rintro e w346 ⟨rfl, hb⟩; refine ⟨_, rfl, ?_⟩); refine stop_ ?_)
 refine Stop.go ?_
 replace BKg1 := Aside0.mk (blk_below (g := g1) BKg1.out hb)
 replace BKg5 := Aside0.mk (blk_below (g := g5) BKg5.out hb)
 replace BKg53 := Aside0.mk (blk_below (g := g53) BKg53.out hb)
 replace BKg277 := Aside0.mk (blk_below (g := g277) BKg277.out hb)
 replace HB := Aside0.mk (below_step HB.out hb)
 clear hb
 clear j52 j53 j54 j55 j56 j57 j58 j59 j5a j5b j5c j5d j5e j5f j5g j5h j5i j5j j5k j5l j5m j5n j5o j5p j5q j5r j5s j5t j5u j5v j5w j5x
 obtain ⟨j5B, j5C⟩ := MB.lay1 BKg1.out
 obtain ⟨j5D, j5E, j5F, j5G, j5H, j5I, j5J, j5K, j5L, j5M⟩ := MB.lay5 BKg5.out
 obtain ⟨j5N, j5O, j5P, j5Q, j5R, j5S, j5T, j5U, j5V, j5W⟩ := MB.lay5 BKg53.out
 obtain ⟨j5X, j5Y, j5Z, j60, j61, j62, j63, j64, j65, j66⟩ := MB.lay5 BKg277.out
 go_wp2_with (((with_reducible refine gate_store (t := 9) (p := 8) rfl ?_); (try (refine gate_guard (by rfl) ?_; dsimp only)); refine MW.ev_store #[.int .i64 a0, .bool false, .int .i64 a1, .string t344, .slice none 0 0] rfl rfl rfl rfl BKg277.out [.string t344] rfl (by kernel_rfl) (by simp) (by simp [Value.oneCell']) rfl ?_; intro w379 hbk hg); replace hbk := Aside0.mk hbk; refine stop_ ?_)
 refine Stop.go ?_
 replace hbk := hbk.out
 replace BKg1 := Aside0.mk (blk_grown (g := g1) BKg1.out hg (fun he_ => NEg1_g277.out (Option.some.inj he_)))
 replace BKg5 := Aside0.mk (blk_grown (g := g5) BKg5.out hg (fun he_ => NEg5_g277.out (Option.some.inj he_)))
 replace BKg53 := Aside0.mk (blk_grown (g := g53) BKg53.out hg (fun he_ => NEg53_g277.out (Option.some.inj he_)))
 replace HB := Aside0.mk (Below.grown HB.out hg (below_size HB.out) (fun k_ hk_ => by injection hk_ with hk_; rw [← hk_]; exact GEg277.out))
 replace BKg277 := Aside0.mk hbk
 clear hg hbk
 clear j5B j5C j5D j5E j5F j5G j5H j5I j5J j5K j5L j5M j5N j5O j5P j5Q j5R j5S j5T j5U j5V j5W j5X j5Y j5Z j60 j61 j62 j63 j64 j65 j66
 obtain ⟨j68, j69⟩ := MB.lay1 BKg1.out
 obtain ⟨j6a, j6b, j6c, j6d, j6e, j6f, j6g, j6h, j6i, j6j⟩ := MB.lay5 BKg5.out
 obtain ⟨j6k, j6l, j6m, j6n, j6o, j6p, j6q, j6r, j6s, j6t⟩ := MB.lay5 BKg53.out
 obtain ⟨j6u, j6v, j6w, j6x, j6y, j6z, j6A, j6B, j6C, j6D⟩ := MB.lay5 BKg277.out
 go_wp2
 go_end0
 refine ⟨_, rfl, ?_⟩
 go_wp2_with (((with_reducible refine gate_store (t := 57) (p := 6) rfl ?_); (try (refine gate_guard (by rfl) ?_; dsimp only)); refine MW.ev_store #[.int .i64 a0, .bool false, .int .i64 a1, .string t344, .slice none 0 0] rfl rfl rfl rfl BKg53.out [.int .i64 a0, .bool false, .int .i64 a1, .string t344, .slice none 0 0] rfl (by kernel_rfl) (by simp) (by simp [Value.oneCell']) rfl ?_; intro w412 hbk hg); replace hbk := Aside0.mk hbk; refine stop_ ?_)
 refine Stop.go ?_
 replace hbk := hbk.out
 replace BKg1 := Aside0.mk (blk_grown (g := g1) BKg1.out hg (fun he_ => NEg1_g53.out (Option.some.inj he_)))
 replace BKg5 := Aside0.mk (blk_grown (g := g5) BKg5.out hg (fun he_ => NEg5_g53.out (Option.some.inj he_)))
 replace BKg277 := Aside0.mk (blk_grown (g := g277) BKg277.out hg (fun he_ => NEg277_g53.out (Option.some.inj he_)))
 replace HB := Aside0.mk (Below.grown HB.out hg (below_size HB.out) (fun k_ hk_ => by injection hk_ with hk_; rw [← hk_]; exact GEg53.out))
 replace BKg53 := Aside0.mk hbk
 clear hg hbk
 clear j68 j69 j6a j6b j6c j6d j6e j6f j6g j6h j6i j6j j6k j6l j6m j6n j6o j6p j6q j6r j6s j6t j6u j6v j6w j6x j6y j6z j6A j6B j6C j6D
 obtain ⟨j6F, j6G⟩ := MB.lay1 BKg1.out
 obtain ⟨j6H, j6I, j6J, j6K, j6L, j6M, j6N, j6O, j6P, j6Q⟩ := MB.lay5 BKg5.out
 obtain ⟨j6R, j6S, j6T, j6U, j6V, j6W, j6X, j6Y, j6Z, j70⟩ := MB.lay5 BKg53.out
 obtain ⟨j71, j72, j73, j74, j75, j76, j77, j78, j79, j7a⟩ := MB.lay5 BKg277.out
 go_wp2
 refine bodyPost_ret (results_ct rfl _ _ g53 57 #[.int .i64 a0, .bool false, .int .i64 a1, .string t344, .slice none 0 0] (0, 0) _ rfl BKg53.out Try.underlying57 rfl (by kernel_rfl)) rfl ?_
 refine ⟨_, rfl, ?_⟩
 go_wp2_with (((with_reducible refine gate_store (t := 57) (p := 6) rfl ?_); (try (refine gate_guard (by rfl) ?_; dsimp only)); refine MW.ev_store #[.int .i64 a0, .bool false, .int .i64 a1, .string t344, .slice none 0 0] rfl rfl rfl rfl BKg5.out [.int .i64 a0, .bool false, .int .i64 a1, .string t344, .slice none 0 0] rfl (by kernel_rfl) (by simp) (by simp [Value.oneCell']) rfl ?_; intro w445 hbk hg); replace hbk := Aside0.mk hbk; refine stop_ ?_)
 refine Stop.go ?_
 replace hbk := hbk.out
 replace BKg1 := Aside0.mk (blk_grown (g := g1) BKg1.out hg (fun he_ => NEg1_g5.out (Option.some.inj he_)))
 replace BKg53 := Aside0.mk (blk_grown (g := g53) BKg53.out hg (fun he_ => NEg53_g5.out (Option.some.inj he_)))
 replace BKg277 := Aside0.mk (blk_grown (g := g277) BKg277.out hg (fun he_ => NEg277_g5.out (Option.some.inj he_)))
 replace HB := Aside0.mk (Below.grown HB.out hg (below_size HB.out) (fun k_ hk_ => by injection hk_ with hk_; rw [← hk_]; exact GEg5.out))
 replace BKg5 := Aside0.mk hbk
 clear hg hbk
 clear j6F j6G j6H j6I j6J j6K j6L j6M j6N j6O j6P j6Q j6R j6S j6T j6U j6V j6W j6X j6Y j6Z j70 j71 j72 j73 j74 j75 j76 j77 j78 j79 j7a
 obtain ⟨j7c, j7d⟩ := MB.lay1 BKg1.out
 obtain ⟨j7e, j7f, j7g, j7h, j7i, j7j, j7k, j7l, j7m, j7n⟩ := MB.lay5 BKg5.out
 obtain ⟨j7o, j7p, j7q, j7r, j7s, j7t, j7u, j7v, j7w, j7x⟩ := MB.lay5 BKg53.out
 obtain ⟨j7y, j7z, j7A, j7B, j7C, j7D, j7E, j7F, j7G, j7H⟩ := MB.lay5 BKg277.out
 have H := HH.out
 simp only [Option.some.injEq, Prod.mk.injEq] at H
 obtain ⟨rfl, rfl, rfl, rfl, rfl, rfl⟩ := H
 clear HH
 go_wp2
 refine bodyPost_ret (results_ct rfl _ _ g5 57 #[.int .i64 a0, .bool false, .int .i64 a1, .string t344, .slice none 0 0] (0, 0) _ rfl BKg5.out Try.underlying57 rfl (by kernel_rfl)) rfl ?_
 exact ⟨_, by first | rfl | (simp; done) | (simp [*]; done), (Kd.N_nil _ _ _ _ _), HB.out⟩
end Go.Proofs.Ytdjkemhmhkpmkaa.GA
