import Derived.Test.YtdjkemhmhkpmkaaGA0
namespace Go.Proofs.Ytdjkemhmhkpmkaa.GA
open Go.RowKit Go.Proofs.Ytdjkemhmhkpmkaa Go.Proofs.Ytdjkemhmhkpmkaa.MW Go.Proofs.YtdjkemhmhkpmkaaW.PrintWords Go.Proofs.YtdjkemhmhkpmkaaW.PrintLast Go.Proofs.YtdjkemhmhkpmkaaW.PrintMore
attribute [local go_sem] max2_int min2_int max_two min_two
set_option linter.unusedVariables false
set_option linter.unusedSimpArgs false
/-! ### prims_Text: function 61 -/
def prims_Text.f (a0 : Int) (a1 : Int) (a2 : ByteArray) : Option (Int × Bool × Int × ByteArray × (List (S57)) × Int) := if a0 < 0 then (some (0, false, 0, (⟨#[]⟩ : ByteArray), ([] : List (S57)), 2)) else (if a0 > 3 then (some (0, false, 0, (⟨#[]⟩ : ByteArray), ([] : List (S57)), 2)) else (if a1 < 0 then (some (0, false, 0, (⟨#[]⟩ : ByteArray), ([] : List (S57)), 2)) else (if a1 > 30 then (some (0, false, 0, (⟨#[]⟩ : ByteArray), ([] : List (S57)), 2)) else (some (a0, false, a1, a2, ([] : List (S57)), 0)))))
set_option maxHeartbeats 8000000 in
set_option maxRecDepth 100000 in
theorem prims_Text.calls (a0 : Int) (a1 : Int) (a2 : ByteArray) (r1 : Int) (r2 : Bool) (r3 : Int) (r4 : ByteArray) (r5 : List (S57)) (r6 : Int) (w : World) (h : prims_Text.f a0 a1 a2 = some (r1, r2, r3, r4, r5, r6)) :
  Calls Try.prog 61 #[.int .i64 a0, .int .i64 a1, .string a2] w (fun e w' => ∃ v4_ : Value, e = .returned (.tuple #[.agg #[.int .i64 r1, .bool r2, .int .i64 r3, .string r4, v4_], .int .i64 r6]) ∧ Kd.N k57 57 w' w.heap.size (fun k_ => w.heap.size ≤ k_) v4_ r5 ∧ Below w.heap.size w w') := by
 have HH := Aside0.mk (show (if a0 < 0 then (some (0, false, 0, (⟨#[]⟩ : ByteArray), ([] : List (S57)), 2)) else (if a0 > 3 then (some (0, false, 0, (⟨#[]⟩ : ByteArray), ([] : List (S57)), 2)) else (if a1 < 0 then (some (0, false, 0, (⟨#[]⟩ : ByteArray), ([] : List (S57)), 2)) else (if a1 > 30 then (some (0, false, 0, (⟨#[]⟩ : ByteArray), ([] : List (S57)), 2)) else (some (a0, false, a1, a2, ([] : List (S57)), 0)))))) = some (r1, r2, r3, r4, r5, r6) from h)
 clear h
 have HB := Aside0.mk (Below.refl w.heap.size w)
 have hu57 := Try.underlying57
 go_enter Try.func61, Try.ntmps61
 go_wp2_with (((with_reducible refine gate_dst (N := 5) rfl ?_); (try (refine gate_guard (by rfl) ?_; dsimp only)); refine box_event ?hg (N := 5) ?hd (cs := #[.string a2]) (t := 9) ?hr ?_; (case hd => rfl); (case hg => rfl); (case hr => first | (go_simp; done) | (go_simp; rfl)); intro g1 hg w2 hbox hb); replace hg := Aside0.mk hg; replace hbox := Aside0.mk hbox; refine stop_ ?_)
 refine Stop.go ?_
 replace hg := hg.out
 replace hbox := hbox.out
 replace HB := Aside0.mk (below_step HB.out hb)
 have BKg1 := Aside0.mk hbox
 clear hg hbox hb
 obtain ⟨j3, j4⟩ := MB.lay1 BKg1.out
 go_wp2_with (((with_reducible refine gate_dst (N := 6) rfl ?_); (try (refine gate_guard (by rfl) ?_; dsimp only)); refine box_event ?hg (N := 6) ?hd (cs := #[.int .i64 0, .bool false, .int .i64 0, .string (⟨#[]⟩ : ByteArray), .slice none 0 0]) (t := 57) ?hr ?_; (case hd => rfl); (case hg => rfl); (case hr => first | (go_simp; done) | (go_simp; rfl)); intro g5 hg w6 hbox hb); replace hg := Aside0.mk hg; replace hbox := Aside0.mk hbox; refine stop_ ?_)
 refine Stop.go ?_
 replace hg := hg.out
 replace hbox := hbox.out
 have GEg5 := Aside0.mk (by rw [hg]; exact (below_size HB.out) : w.heap.size ≤ g5)
 have NEg1_g5 := Aside0.mk (by rw [hg]; exact Nat.ne_of_lt (blk_lt (g := g1) BKg1.out) : g1 ≠ g5)
 replace BKg1 := Aside0.mk (blk_below (g := g1) BKg1.out hb)
 replace HB := Aside0.mk (below_step HB.out hb)
 have BKg5 := Aside0.mk hbox
 clear hg hbox hb
 clear j3 j4
 obtain ⟨j7, j8⟩ := MB.lay1 BKg1.out
 obtain ⟨j9, ja, jb, jc, jd, je, jf, jg, jh, ji⟩ := MB.lay5 BKg5.out
 go_wp2_with (((with_reducible refine gate_callee (f := 84) rfl ?_); (try (refine gate_guard (by rfl) ?_; dsimp only)); refine goesL_ (some 11) rfl rfl Try.func84 (by kernel_rfl) rfl #[.int .i64 a0, .int .i64 a1, .func (.func 85) #[] #[.pointer (some ⟨g1, 0, none⟩)]] rfl (by (try simp only [List.map_toArray, List.map_cons, List.map_nil]); first | done | rfl) ?_); refine stop_ ?_)
 refine Stop.go ?_
 go_enter Try.func84, Try.ntmps84
 go_wp2_with (((with_reducible refine gate_dst (N := 6) rfl ?_); (try (refine gate_guard (by rfl) ?_; dsimp only)); refine box_event ?hg (N := 6) ?hd (cs := #[.int .i64 0, .bool false, .int .i64 0, .string (⟨#[]⟩ : ByteArray), .slice none 0 0]) (t := 57) ?hr ?_; (case hd => rfl); (case hg => rfl); (case hr => first | (go_simp; done) | (go_simp; rfl)); intro g19 hg w20 hbox hb); replace hg := Aside0.mk hg; replace hbox := Aside0.mk hbox; refine stop_ ?_)
 refine Stop.go ?_
 replace hg := hg.out
 replace hbox := hbox.out
 have GEg19 := Aside0.mk (by rw [hg]; exact (below_size HB.out) : w.heap.size ≤ g19)
 have NEg1_g19 := Aside0.mk (by rw [hg]; exact Nat.ne_of_lt (blk_lt (g := g1) BKg1.out) : g1 ≠ g19)
 have NEg5_g19 := Aside0.mk (by rw [hg]; exact Nat.ne_of_lt (blk_lt (g := g5) BKg5.out) : g5 ≠ g19)
 have NEg19_g5 := Aside0.mk (Ne.symm NEg5_g19.out)
 replace BKg1 := Aside0.mk (blk_below (g := g1) BKg1.out hb)
 replace BKg5 := Aside0.mk (blk_below (g := g5) BKg5.out hb)
 replace HB := Aside0.mk (below_step HB.out hb)
 have BKg19 := Aside0.mk hbox
 clear hg hbox hb
 clear j7 j8 j9 ja jb jc jd je jf jg jh ji
 obtain ⟨jl, jm⟩ := MB.lay1 BKg1.out
 obtain ⟨jn, jo, jp, jq, jr, js, jt, ju, jv, jw⟩ := MB.lay5 BKg5.out
 obtain ⟨jx, jy, jz, jA, jB, jC, jD, jE, jF, jG⟩ := MB.lay5 BKg19.out
 by_cases c43 : a0 < 0
 ·replace HH := MW.hpos HH c43
  have hk44 : (a0 < 0) = True := eq_true c43
  have hk45 : decide (a0 < 0) = true := decide_eq_true c43
  clear c43
  go_wp2_with (((with_reducible refine gate_store (t := 57) (p := 6) rfl ?_); (try (refine gate_guard (by rfl) ?_; dsimp only)); refine MW.ev_store #[.int .i64 0, .bool false, .int .i64 0, .string (⟨#[]⟩ : ByteArray), .slice none 0 0] rfl rfl rfl rfl BKg19.out [.int .i64 0, .bool false, .int .i64 0, .string (⟨#[]⟩ : ByteArray), .slice none 0 0] rfl (by kernel_rfl) (by simp) (by simp [Value.oneCell']) rfl ?_; intro w46 hbk hg); replace hbk := Aside0.mk hbk; refine stop_ ?_)
  refine Stop.go ?_
  replace hbk := hbk.out
  replace BKg1 := Aside0.mk (blk_grown (g := g1) BKg1.out hg (fun he_ => NEg1_g19.out (Option.some.inj he_)))
  replace BKg5 := Aside0.mk (blk_grown (g := g5) BKg5.out hg (fun he_ => NEg5_g19.out (Option.some.inj he_)))
  replace HB := Aside0.mk (Below.grown HB.out hg (below_size HB.out) (fun k_ hk_ => by injection hk_ with hk_; rw [← hk_]; exact GEg19.out))
  replace BKg19 := Aside0.mk hbk
  clear hg hbk
  clear jl jm jn jo jp jq jr js jt ju jv jw jx jy jz jA jB jC jD jE jF jG
  obtain ⟨jL, jM⟩ := MB.lay1 BKg1.out
  obtain ⟨jN, jO, jP, jQ, jR, jS, jT, jU, jV, jW⟩ := MB.lay5 BKg5.out
  obtain ⟨jX, jY, jZ, j10, j11, j12, j13, j14, j15, j16⟩ := MB.lay5 BKg19.out
  go_wp2
  refine bodyPost_ret (results_ct rfl _ _ g19 57 #[.int .i64 0, .bool false, .int .i64 0, .string (⟨#[]⟩ : ByteArray), .slice none 0 0] (0, 0) _ rfl BKg19.out Try.underlying57 rfl (by kernel_rfl)) rfl ?_
  refine ⟨_, rfl, ?_⟩
  go_wp2_with (((with_reducible refine gate_store (t := 57) (p := 6) rfl ?_); (try (refine gate_guard (by rfl) ?_; dsimp only)); refine MW.ev_store #[.int .i64 0, .bool false, .int .i64 0, .string (⟨#[]⟩ : ByteArray), .slice none 0 0] rfl rfl rfl rfl BKg5.out [.int .i64 0, .bool false, .int .i64 0, .string (⟨#[]⟩ : ByteArray), .slice none 0 0] rfl (by kernel_rfl) (by simp) (by simp [Value.oneCell']) rfl ?_; intro w69 hbk hg); replace hbk := Aside0.mk hbk; refine stop_ ?_)
  refine Stop.go ?_
  replace hbk := hbk.out
  replace BKg1 := Aside0.mk (blk_grown (g := g1) BKg1.out hg (fun he_ => NEg1_g5.out (Option.some.inj he_)))
  replace BKg19 := Aside0.mk (blk_grown (g := g19) BKg19.out hg (fun he_ => NEg19_g5.out (Option.some.inj he_)))
  replace HB := Aside0.mk (Below.grown HB.out hg (below_size HB.out) (fun k_ hk_ => by injection hk_ with hk_; rw [← hk_]; exact GEg5.out))
  replace BKg5 := Aside0.mk hbk
  clear hg hbk
  clear jL jM jN jO jP jQ jR jS jT jU jV jW jX jY jZ j10 j11 j12 j13 j14 j15 j16
  obtain ⟨j18, j19⟩ := MB.lay1 BKg1.out
  obtain ⟨j1a, j1b, j1c, j1d, j1e, j1f, j1g, j1h, j1i, j1j⟩ := MB.lay5 BKg5.out
  obtain ⟨j1k, j1l, j1m, j1n, j1o, j1p, j1q, j1r, j1s, j1t⟩ := MB.lay5 BKg19.out
  have H := HH.out
  simp only [Option.some.injEq, Prod.mk.injEq] at H
  obtain ⟨rfl, rfl, rfl, rfl, rfl, rfl⟩ := H
  clear HH
  go_wp2
  refine bodyPost_ret (results_ct rfl _ _ g5 57 #[.int .i64 0, .bool false, .int .i64 0, .string (⟨#[]⟩ : ByteArray), .slice none 0 0] (0, 0) _ rfl BKg5.out Try.underlying57 rfl (by kernel_rfl)) rfl ?_
  exact ⟨_, by first | rfl | (simp; done) | (simp [*]; done), (Kd.N_nil _ _ _ _ _), HB.out⟩
 replace HH := MW.hneg HH c43
 have hk92 : (a0 < 0) = False := eq_false c43
 have hk93 : decide (a0 < 0) = false := decide_eq_false c43
 clear c43
 by_cases c94 : a0 > 3
 ·replace HH := MW.hpos HH c94
  have hk95 : decide (3 < a0) = true := decide_eq_true c94
  clear c94
  go_wp2_with (((with_reducible refine gate_store (t := 57) (p := 6) rfl ?_); (try (refine gate_guard (by rfl) ?_; dsimp only)); refine MW.ev_store #[.int .i64 0, .bool false, .int .i64 0, .string (⟨#[]⟩ : ByteArray), .slice none 0 0] rfl rfl rfl rfl BKg19.out [.int .i64 0, .bool false, .int .i64 0, .string (⟨#[]⟩ : ByteArray), .slice none 0 0] rfl (by kernel_rfl) (by simp) (by simp [Value.oneCell']) rfl ?_; intro w96 hbk hg); replace hbk := Aside0.mk hbk; refine stop_ ?_)
  refine Stop.go ?_
  replace hbk := hbk.out
  replace BKg1 := Aside0.mk (blk_grown (g := g1) BKg1.out hg (fun he_ => NEg1_g19.out (Option.some.inj he_)))
  replace BKg5 := Aside0.mk (blk_grown (g := g5) BKg5.out hg (fun he_ => NEg5_g19.out (Option.some.inj he_)))
  replace HB := Aside0.mk (Below.grown HB.out hg (below_size HB.out) (fun k_ hk_ => by injection hk_ with hk_; rw [← hk_]; exact GEg19.out))
  replace BKg19 := Aside0.mk hbk
  clear hg hbk
  clear jl jm jn jo jp jq jr js jt ju jv jw jx jy jz jA jB jC jD jE jF jG
  obtain ⟨j1z, j1A⟩ := MB.lay1 BKg1.out
  obtain ⟨j1B, j1C, j1D, j1E, j1F, j1G, j1H, j1I, j1J, j1K⟩ := MB.lay5 BKg5.out
  obtain ⟨j1L, j1M, j1N, j1O, j1P, j1Q, j1R, j1S, j1T, j1U⟩ := MB.lay5 BKg19.out
  go_wp2
  refine bodyPost_ret (results_ct rfl _ _ g19 57 #[.int .i64 0, .bool false, .int .i64 0, .string (⟨#[]⟩ : ByteArray), .slice none 0 0] (0, 0) _ rfl BKg19.out Try.underlying57 rfl (by kernel_rfl)) rfl ?_
  refine ⟨_, rfl, ?_⟩
  go_wp2_with (((with_reducible refine gate_store (t := 57) (p := 6) rfl ?_); (try (refine gate_guard (by rfl) ?_; dsimp only)); refine MW.ev_store #[.int .i64 0, .bool false, .int .i64 0, .string (⟨#[]⟩ : ByteArray), .slice none 0 0] rfl rfl rfl rfl BKg5.out [.int .i64 0, .bool false, .int .i64 0, .string (⟨#[]⟩ : ByteArray), .slice none 0 0] rfl (by kernel_rfl) (by simp) (by simp [Value.oneCell']) rfl ?_; intro w119 hbk hg); replace hbk := Aside0.mk hbk; refine stop_ ?_)
  refine Stop.go ?_
  replace hbk := hbk.out
  replace BKg1 := Aside0.mk (blk_grown (g := g1) BKg1.out hg (fun he_ => NEg1_g5.out (Option.some.inj he_)))
  replace BKg19 := Aside0.mk (blk_grown (g := g19) BKg19.out hg (fun he_ => NEg19_g5.out (Option.some.inj he_)))
  replace HB := Aside0.mk (Below.grown HB.out hg (below_size HB.out) (fun k_ hk_ => by injection hk_ with hk_; rw [← hk_]; exact GEg5.out))
  replace BKg5 := Aside0.mk hbk
  clear hg hbk
  clear j1z j1A j1B j1C j1D j1E j1F j1G j1H j1I j1J j1K j1L j1M j1N j1O j1P j1Q j1R j1S j1T j1U
  obtain ⟨j1W, j1X⟩ := MB.lay1 BKg1.out
  obtain ⟨j1Y, j1Z, j20, j21, j22, j23, j24, j25, j26, j27⟩ := MB.lay5 BKg5.out
  obtain ⟨j28, j29, j2a, j2b, j2c, j2d, j2e, j2f, j2g, j2h⟩ := MB.lay5 BKg19.out
  have H := HH.out
  simp only [Option.some.injEq, Prod.mk.injEq] at H
  obtain ⟨rfl, rfl, rfl, rfl, rfl, rfl⟩ := H
  clear HH
  go_wp2
  refine bodyPost_ret (results_ct rfl _ _ g5 57 #[.int .i64 0, .bool false, .int .i64 0, .string (⟨#[]⟩ : ByteArray), .slice none 0 0] (0, 0) _ rfl BKg5.out Try.underlying57 rfl (by kernel_rfl)) rfl ?_
  exact ⟨_, by first | rfl | (simp; done) | (simp [*]; done), (Kd.N_nil _ _ _ _ _), HB.out⟩
 replace HH := MW.hneg HH c94
 have hk142 : decide (3 < a0) = false := decide_eq_false c94
 clear c94
 by_cases c143 : a1 < 0
 ·replace HH := MW.hpos HH c143
  have hk144 : (a1 < 0) = True := eq_true c143
  have hk145 : decide (a1 < 0) = true := decide_eq_true c143
  clear c143
  go_wp2_with (((with_reducible refine gate_store (t := 57) (p := 6) rfl ?_); (try (refine gate_guard (by rfl) ?_; dsimp only)); refine MW.ev_store #[.int .i64 0, .bool false, .int .i64 0, .string (⟨#[]⟩ : ByteArray), .slice none 0 0] rfl rfl rfl rfl BKg19.out [.int .i64 0, .bool false, .int .i64 0, .string (⟨#[]⟩ : ByteArray), .slice none 0 0] rfl (by kernel_rfl) (by simp) (by simp [Value.oneCell']) rfl ?_; intro w146 hbk hg); replace hbk := Aside0.mk hbk; refine stop_ ?_)
  refine Stop.go ?_
  replace hbk := hbk.out
  replace BKg1 := Aside0.mk (blk_grown (g := g1) BKg1.out hg (fun he_ => NEg1_g19.out (Option.some.inj he_)))
  replace BKg5 := Aside0.mk (blk_grown (g := g5) BKg5.out hg (fun he_ => NEg5_g19.out (Option.some.inj he_)))
  replace HB := Aside0.mk (Below.grown HB.out hg (below_size HB.out) (fun k_ hk_ => by injection hk_ with hk_; rw [← hk_]; exact GEg19.out))
  replace BKg19 := Aside0.mk hbk
  clear hg hbk
  clear jl jm jn jo jp jq jr js jt ju jv jw jx jy jz jA jB jC jD jE jF jG
  obtain ⟨j2n, j2o⟩ := MB.lay1 BKg1.out
  obtain ⟨j2p, j2q, j2r, j2s, j2t, j2u, j2v, j2w, j2x, j2y⟩ := MB.lay5 BKg5.out
  obtain ⟨j2z, j2A, j2B, j2C, j2D, j2E, j2F, j2G, j2H, j2I⟩ := MB.lay5 BKg19.out
  go_wp2
  refine bodyPost_ret (results_ct rfl _ _ g19 57 #[.int .i64 0, .bool false, .int .i64 0, .string (⟨#[]⟩ : ByteArray), .slice none 0 0] (0, 0) _ rfl BKg19.out Try.underlying57 rfl (by kernel_rfl)) rfl ?_
  refine ⟨_, rfl, ?_⟩
  go_wp2_with (((with_reducible refine gate_store (t := 57) (p := 6) rfl ?_); (try (refine gate_guard (by rfl) ?_; dsimp only)); refine MW.ev_store #[.int .i64 0, .bool false, .int .i64 0, .string (⟨#[]⟩ : ByteArray), .slice none 0 0] rfl rfl rfl rfl BKg5.out [.int .i64 0, .bool false, .int .i64 0, .string (⟨#[]⟩ : ByteArray), .slice none 0 0] rfl (by kernel_rfl) (by simp) (by simp [Value.oneCell']) rfl ?_; intro w169 hbk hg); replace hbk := Aside0.mk hbk; refine stop_ ?_)
  refine Stop.go ?_
  replace hbk := hbk.out
  replace BKg1 := Aside0.mk (blk_grown (g := g1) BKg1.out hg (fun he_ => NEg1_g5.out (Option.some.inj he_)))
  replace BKg19 := Aside0.mk (blk_grown (g := g19) BKg19.out hg (fun he_ => NEg19_g5.out (Option.some.inj he_)))
  replace HB := Aside0.mk (Below.grown HB.out hg (below_size HB.out) (fun k_ hk_ => by injection hk_ with hk_; rw [← hk_]; exact GEg5.out))
  replace BKg5 := Aside0.mk hbk
  clear hg hbk
  clear j2n j2o j2p j2q j2r j2s j2t j2u j2v j2w j2x j2y j2z j2A j2B j2C j2D j2E j2F j2G j2H j2I
  obtain ⟨j2K, j2L⟩ := MB.lay1 BKg1.out
  obtain ⟨j2M, j2N, j2O, j2P, j2Q, j2R, j2S, j2T, j2U, j2V⟩ := MB.lay5 BKg5.out
  obtain ⟨j2W, j2X, j2Y, j2Z, j30, j31, j32, j33, j34, j35⟩ := MB.lay5 BKg19.out
  have H := HH.out
  simp only [Option.some.injEq, Prod.mk.injEq] at H
  obtain ⟨rfl, rfl, rfl, rfl, rfl, rfl⟩ := H
  clear HH
  go_wp2
  refine bodyPost_ret (results_ct rfl _ _ g5 57 #[.int .i64 0, .bool false, .int .i64 0, .string (⟨#[]⟩ : ByteArray), .slice none 0 0] (0, 0) _ rfl BKg5.out Try.underlying57 rfl (by kernel_rfl)) rfl ?_
  exact ⟨_, by first | rfl | (simp; done) | (simp [*]; done), (Kd.N_nil _ _ _ _ _), HB.out⟩
 replace HH := MW.hneg HH c143
 have hk192 : (a1 < 0) = False := eq_false c143
 have hk193 : decide (a1 < 0) = false := decide_eq_false c143
 clear c143
 by_cases c194 : a1 > 30
 ·replace HH := MW.hpos HH c194
  have hk195 : decide (30 < a1) = true := decide_eq_true c194
  clear c194
  go_wp2_with (((with_reducible refine gate_store (t := 57) (p := 6) rfl ?_); (try (refine gate_guard (by rfl) ?_; dsimp only)); refine MW.ev_store #[.int .i64 0, .bool false, .int .i64 0, .string (⟨#[]⟩ : ByteArray), .slice none 0 0] rfl rfl rfl rfl BKg19.out [.int .i64 0, .bool false, .int .i64 0, .string (⟨#[]⟩ : ByteArray), .slice none 0 0] rfl (by kernel_rfl) (by simp) (by simp [Value.oneCell']) rfl ?_; intro w196 hbk hg); replace hbk := Aside0.mk hbk; refine stop_ ?_)
  refine Stop.go ?_
  replace hbk := hbk.out
  replace BKg1 := Aside0.mk (blk_grown (g := g1) BKg1.out hg (fun he_ => NEg1_g19.out (Option.some.inj he_)))
  replace BKg5 := Aside0.mk (blk_grown (g := g5) BKg5.out hg (fun he_ => NEg5_g19.out (Option.some.inj he_)))
  replace HB := Aside0.mk (Below.grown HB.out hg (below_size HB.out) (fun k_ hk_ => by injection hk_ with hk_; rw [← hk_]; exact GEg19.out))
  replace BKg19 := Aside0.mk hbk
  clear hg hbk
  clear jl jm jn jo jp jq jr js jt ju jv jw jx jy jz jA jB jC jD jE jF jG
  obtain ⟨j3b, j3c⟩ := MB.lay1 BKg1.out
  obtain ⟨j3d, j3e, j3f, j3g, j3h, j3i, j3j, j3k, j3l, j3m⟩ := MB.lay5 BKg5.out
  obtain ⟨j3n, j3o, j3p, j3q, j3r, j3s, j3t, j3u, j3v, j3w⟩ := MB.lay5 BKg19.out
  go_wp2
  refine bodyPost_ret (results_ct rfl _ _ g19 57 #[.int .i64 0, .bool false, .int .i64 0, .string (⟨#[]⟩ : ByteArray), .slice none 0 0] (0, 0) _ rfl BKg19.out Try.underlying57 rfl (by kernel_rfl)) rfl ?_
  refine ⟨_, rfl, ?_⟩
  go_wp2_with (((with_reducible refine gate_store (t := 57) (p := 6) rfl ?_); (try (refine gate_guard (by rfl) ?_; dsimp only)); refine MW.ev_store #[.int .i64 0, .bool false, .int .i64 0, .string (⟨#[]⟩ : ByteArray), .slice none 0 0] rfl rfl rfl rfl BKg5.out [.int .i64 0, .bool false, .int .i64 0, .string (⟨#[]⟩ : ByteArray), .slice none 0 0] rfl (by kernel_rfl) (by simp) (by simp [Value.oneCell']) rfl ?_; intro w219 hbk hg); replace hbk := Aside0.mk hbk; refine stop_ ?_)
  refine Stop.go ?_
  replace hbk := hbk.out
  replace BKg1 := Aside0.mk (blk_grown (g := g1) BKg1.out hg (fun he_ => NEg1_g5.out (Option.some.inj he_)))
  replace BKg19 := Aside0.mk (blk_grown (g := g19) BKg19.out hg (fun he_ => NEg19_g5.out (Option.some.inj he_)))
  replace HB := Aside0.mk (Below.grown HB.out hg (below_size HB.out) (fun k_ hk_ => by injection hk_ with hk_; rw [← hk_]; exact GEg5.out))
  replace BKg5 := Aside0.mk hbk
  clear hg hbk
  clear j3b j3c j3d j3e j3f j3g j3h j3i j3j j3k j3l j3m j3n j3o j3p j3q j3r j3s j3t j3u j3v j3w
  obtain ⟨j3y, j3z⟩ := MB.lay1 BKg1.out
  obtain ⟨j3A, j3B, j3C, j3D, j3E, j3F, j3G, j3H, j3I, j3J⟩ := MB.lay5 BKg5.out
  obtain ⟨j3K, j3L, j3M, j3N, j3O, j3P, j3Q, j3R, j3S, j3T⟩ := MB.lay5 BKg19.out
  have H := HH.out
  simp only [Option.some.injEq, Prod.mk.injEq] at H
  obtain ⟨rfl, rfl, rfl, rfl, rfl, rfl⟩ := H
  clear HH
  go_wp2
  refine bodyPost_ret (results_ct rfl _ _ g5 57 #[.int .i64 0, .bool false, .int .i64 0, .string (⟨#[]⟩ : ByteArray), .slice none 0 0] (0, 0) _ rfl BKg5.out Try.underlying57 rfl (by kernel_rfl)) rfl ?_
  exact ⟨_, by first | rfl | (simp; done) | (simp [*]; done), (Kd.N_nil _ _ _ _ _), HB.out⟩
 replace HH := MW.hneg HH c194
 have hk242 : decide (30 < a1) = false := decide_eq_false c194
 clear c194
 go_wp2_with (((with_reducible refine gate_dst (N := 8) rfl ?_); (try (refine gate_guard (by rfl) ?_; dsimp only)); refine box_event ?hg (N := 8) ?hd (cs := #[.int .i64 0, .bool false, .int .i64 0, .string (⟨#[]⟩ : ByteArray), .slice none 0 0]) (t := 57) ?hr ?_; (case hd => rfl); (case hg => rfl); (case hr => first | (go_simp; done) | (go_simp; rfl)); intro g243 hg w244 hbox hb); replace hg := Aside0.mk hg; replace hbox := Aside0.mk hbox; refine stop_ ?_)
 refine Stop.go ?_
 replace hg := hg.out
 replace hbox := hbox.out
 have GEg243 := Aside0.mk (by rw [hg]; exact (below_size HB.out) : w.heap.size ≤ g243)
 have NEg1_g243 := Aside0.mk (by rw [hg]; exact Nat.ne_of_lt (blk_lt (g := g1) BKg1.out) : g1 ≠ g243)
 have NEg5_g243 := Aside0.mk (by rw [hg]; exact Nat.ne_of_lt (blk_lt (g := g5) BKg5.out) : g5 ≠ g243)
 have NEg243_g5 := Aside0.mk (Ne.symm NEg5_g243.out)
 have NEg19_g243 := Aside0.mk (by rw [hg]; exact Nat.ne_of_lt (blk_lt (g := g19) BKg19.out) : g19 ≠ g243)
 have NEg243_g19 := Aside0.mk (Ne.symm NEg19_g243.out)
 replace BKg1 := Aside0.mk (blk_below (g := g1) BKg1.out hb)
 replace BKg5 := Aside0.mk (blk_below (g := g5) BKg5.out hb)
 replace BKg19 := Aside0.mk (blk_below (g := g19) BKg19.out hb)
 replace HB := Aside0.mk (below_step HB.out hb)
 have BKg243 := Aside0.mk hbox
 clear hg hbox hb
 clear jl jm jn jo jp jq jr js jt ju jv jw jx jy jz jA jB jC jD jE jF jG
 obtain ⟨j3X, j3Y⟩ := MB.lay1 BKg1.out
 obtain ⟨j3Z, j40, j41, j42, j43, j44, j45, j46, j47, j48⟩ := MB.lay5 BKg5.out
 obtain ⟨j49, j4a, j4b, j4c, j4d, j4e, j4f, j4g, j4h, j4i⟩ := MB.lay5 BKg19.out
 obtain ⟨j4j, j4k, j4l, j4m, j4n, j4o, j4p, j4q, j4r, j4s⟩ := MB.lay5 BKg243.out
 go_wp2_with (((with_reducible refine gate_store (t := 57) (p := 8) rfl ?_); (try (refine gate_guard (by rfl) ?_; dsimp only)); refine MW.ev_store #[.int .i64 a0, .bool false, .int .i64 a1, .string (⟨#[]⟩ : ByteArray), .slice none 0 0] rfl rfl rfl rfl BKg243.out [.int .i64 a0, .bool false, .int .i64 a1, .string (⟨#[]⟩ : ByteArray), .slice none 0 0] rfl (by kernel_rfl) (by simp) (by simp [Value.oneCell']) rfl ?_; intro w277 hbk hg); replace hbk := Aside0.mk hbk; refine stop_ ?_)
 refine Stop.go ?_
 replace hbk := hbk.out
 replace BKg1 := Aside0.mk (blk_grown (g := g1) BKg1.out hg (fun he_ => NEg1_g243.out (Option.some.inj he_)))
 replace BKg5 := Aside0.mk (blk_grown (g := g5) BKg5.out hg (fun he_ => NEg5_g243.out (Option.some.inj he_)))
 replace BKg19 := Aside0.mk (blk_grown (g := g19) BKg19.out hg (fun he_ => NEg19_g243.out (Option.some.inj he_)))
 replace HB := Aside0.mk (Below.grown HB.out hg (below_size HB.out) (fun k_ hk_ => by injection hk_ with hk_; rw [← hk_]; exact GEg243.out))
 replace BKg243 := Aside0.mk hbk
 clear hg hbk
 clear j3X j3Y j3Z j40 j41 j42 j43 j44 j45 j46 j47 j48 j49 j4a j4b j4c j4d j4e j4f j4g j4h j4i j4j j4k j4l j4m j4n j4o j4p j4q j4r j4s
 obtain ⟨j4u, j4v⟩ := MB.lay1 BKg1.out
 obtain ⟨j4w, j4x, j4y, j4z, j4A, j4B, j4C, j4D, j4E, j4F⟩ := MB.lay5 BKg5.out
 obtain ⟨j4G, j4H, j4I, j4J, j4K, j4L, j4M, j4N, j4O, j4P⟩ := MB.lay5 BKg19.out
 obtain ⟨j4Q, j4R, j4S, j4T, j4U, j4V, j4W, j4X, j4Y, j4Z⟩ := MB.lay5 BKg243.out
 go_wp2_with (((with_reducible refine gate_dst (N := 28) rfl ?_); (try (refine gate_guard (by rfl) ?_; dsimp only)); refine MW.goesV_ (some 28) rfl rfl Try.func85 (by kernel_rfl) rfl #[.pointer (some ⟨g243, 0, none⟩), .pointer (some ⟨g1, 0, none⟩)] rfl #[.pointer (some ⟨g1, 0, none⟩)] rfl (by simp only [List.map_toArray, List.map_cons, List.map_nil, List.append_toArray, List.cons_append, List.nil_append]; first | done | rfl) ?_); refine stop_ ?_)
 refine Stop.go ?_
 go_enter Try.func85, Try.ntmps85
 go_wp2_with (((with_reducible refine gate_store (t := 9) (p := 6) rfl ?_); (try (refine gate_guard (by rfl) ?_; dsimp only)); refine MW.ev_store #[.int .i64 a0, .bool false, .int .i64 a1, .string a2, .slice none 0 0] rfl rfl rfl rfl BKg243.out [.string a2] rfl (by kernel_rfl) (by simp) (by simp [Value.oneCell']) rfl ?_; intro w310 hbk hg); replace hbk := Aside0.mk hbk; refine stop_ ?_)
 refine Stop.go ?_
 replace hbk := hbk.out
 replace BKg1 := Aside0.mk (blk_grown (g := g1) BKg1.out hg (fun he_ => NEg1_g243.out (Option.some.inj he_)))
 replace BKg5 := Aside0.mk (blk_grown (g := g5) BKg5.out hg (fun he_ => NEg5_g243.out (Option.some.inj he_)))
 replace BKg19 := Aside0.mk (blk_grown (g := g19) BKg19.out hg (fun he_ => NEg19_g243.out (Option.some.inj he_)))
 replace HB := Aside0.mk (Below.grown HB.out hg (below_size HB.out) (fun k_ hk_ => by injection hk_ with hk_; rw [← hk_]; exact GEg243.out))
 replace BKg243 := Aside0.mk hbk
 clear hg hbk
 clear j4u j4v j4w j4x j4y j4z j4A j4B j4C j4D j4E j4F j4G j4H j4I j4J j4K j4L j4M j4N j4O j4P j4Q j4R j4S j4T j4U j4V j4W j4X j4Y j4Z
 obtain ⟨j51, j52⟩ := MB.lay1 BKg1.out
 obtain ⟨j53, j54, j55, j56, j57, j58, j59, j5a, j5b, j5c⟩ := MB.lay5 BKg5.out
 obtain ⟨j5d, j5e, j5f, j5g, j5h, j5i, j5j, j5k, j5l, j5m⟩ := MB.lay5 BKg19.out
 obtain ⟨j5n, j5o, j5p, j5q, j5r, j5s, j5t, j5u, j5v, j5w⟩ := MB.lay5 BKg243.out
 go_wp2
 go_end0
 refine ⟨_, rfl, ?_⟩
 go_wp2_with (((with_reducible refine gate_store (t := 57) (p := 6) rfl ?_); (try (refine gate_guard (by rfl) ?_; dsimp only)); refine MW.ev_store #[.int .i64 a0, .bool false, .int .i64 a1, .string a2, .slice none 0 0] rfl rfl rfl rfl BKg19.out [.int .i64 a0, .bool false, .int .i64 a1, .string a2, .slice none 0 0] rfl (by kernel_rfl) (by simp) (by simp [Value.oneCell']) rfl ?_; intro w343 hbk hg); replace hbk := Aside0.mk hbk; refine stop_ ?_)
 refine Stop.go ?_
 replace hbk := hbk.out
 replace BKg1 := Aside0.mk (blk_grown (g := g1) BKg1.out hg (fun he_ => NEg1_g19.out (Option.some.inj he_)))
 replace BKg5 := Aside0.mk (blk_grown (g := g5) BKg5.out hg (fun he_ => NEg5_g19.out (Option.some.inj he_)))
 replace BKg243 := Aside0.mk (blk_grown (g := g243) BKg243.out hg (fun he_ => NEg243_g19.out (Option.some.inj he_)))
 replace HB := Aside0.mk (Below.grown HB.out hg (below_size HB.out) (fun k_ hk_ => by injection hk_ with hk_; rw [← hk_]; exact GEg19.out))
 replace BKg19 := Aside0.mk hbk
 clear hg hbk
 clear j51 j52 j53 j54 j55 j56 j57 j58 j59 j5a j5b j5c j5d j5e j5f j5g j5h j5i j5j j5k j5l j5m j5n j5o j5p j5q j5r j5s j5t j5u j5v j5w
 obtain ⟨j5y, j5z⟩ := MB.lay1 BKg1.out
 obtain ⟨j5A, j5B, j5C, j5D, j5E, j5F, j5G, j5H, j5I, j5J⟩ := MB.lay5 BKg5.out
 obtain ⟨j5K, j5L, j5M, j5N, j5O, j5P, j5Q, j5R, j5S, j5T⟩ := MB.lay5 BKg19.out
 obtain ⟨j5U, j5V, j5W, j5X, j5Y, j5Z, j60, j61, j62, j63⟩ := MB.lay5 BKg243.out
 go_wp2
 refine bodyPost_ret (results_ct rfl _ _ g19 57 #[.int .i64 a0, .bool false, .int .i64 a1, .string a2, .slice none 0 0] (0, 0) _ rfl BKg19.out Try.underlying57 rfl (by kernel_rfl)) rfl ?_
 refine ⟨_, rfl, ?_⟩
 go_wp2_with (((with_reducible refine gate_store (t := 57) (p := 6) rfl ?_); (try (refine gate_guard (by rfl) ?_; dsimp only)); refine MW.ev_store #[.int .i64 a0, .bool false, .int .i64 a1, .string a2, .slice none 0 0] rfl rfl rfl rfl BKg5.out [.int .i64 a0, .bool false, .int .i64 a1, .string a2, .slice none 0 0] rfl (by kernel_rfl) (by simp) (by simp [Value.oneCell']) rfl ?_; intro w376 hbk hg); replace hbk := Aside0.mk hbk; refine stop_ ?_)
 refine Stop.go ?_
 replace hbk := hbk.out
 replace BKg1 := Aside0.mk (blk_grown (g := g1) BKg1.out hg (fun he_ => NEg1_g5.out (Option.some.inj he_)))
 replace BKg19 := Aside0.mk (blk_grown (g := g19) BKg19.out hg (fun he_ => NEg19_g5.out (Option.some.inj he_)))
 replace BKg243 := Aside0.mk (blk_grown (g := g243) BKg243.out hg (fun he_ => NEg243_g5.out (Option.some.inj he_)))
 replace HB := Aside0.mk (Below.grown HB.out hg (below_size HB.out) (fun k_ hk_ => by injection hk_ with hk_; rw [← hk_]; exact GEg5.out))
 replace BKg5 := Aside0.mk hbk
 clear hg hbk
 clear j5y j5z j5A j5B j5C j5D j5E j5F j5G j5H j5I j5J j5K j5L j5M j5N j5O j5P j5Q j5R j5S j5T j5U j5V j5W j5X j5Y j5Z j60 j61 j62 j63
 obtain ⟨j65, j66⟩ := MB.lay1 BKg1.out
 obtain ⟨j67, j68, j69, j6a, j6b, j6c, j6d, j6e, j6f, j6g⟩ := MB.lay5 BKg5.out
 obtain ⟨j6h, j6i, j6j, j6k, j6l, j6m, j6n, j6o, j6p, j6q⟩ := MB.lay5 BKg19.out
 obtain ⟨j6r, j6s, j6t, j6u, j6v, j6w, j6x, j6y, j6z, j6A⟩ := MB.lay5 BKg243.out
 have H := HH.out
 simp only [Option.some.injEq, Prod.mk.injEq] at H
 obtain ⟨rfl, rfl, rfl, rfl, rfl, rfl⟩ := H
 clear HH
 go_wp2
 refine bodyPost_ret (results_ct rfl _ _ g5 57 #[.int .i64 a0, .bool false, .int .i64 a1, .string a2, .slice none 0 0] (0, 0) _ rfl BKg5.out Try.underlying57 rfl (by kernel_rfl)) rfl ?_
 exact ⟨_, by first | rfl | (simp; done) | (simp [*]; done), (Kd.N_nil _ _ _ _ _), HB.out⟩
end Go.Proofs.Ytdjkemhmhkpmkaa.GA
