import Derived.Test.YtdjkemhmhkpmkaaGA0
import Derived.Test.YtdjkemhmhkpmkaaGAF18
import Derived.Test.YtdjkemhmhkpmkaaGAF8
import Derived.Test.YtdjkemhmhkpmkaaGM1
import Derived.Test.YtdjkemhmhkpmkaaGM2
import Derived.Test.YtdjkemhmhkpmkaaMX
namespace Go.Proofs.Ytdjkemhmhkpmkaa.GA
open Go.RowKit Go.Proofs.Ytdjkemhmhkpmkaa Go.Proofs.Ytdjkemhmhkpmkaa.MW Go.Proofs.YtdjkemhmhkpmkaaW.PrintWords Go.Proofs.YtdjkemhmhkpmkaaW.PrintLast Go.Proofs.YtdjkemhmhkpmkaaW.PrintMore
attribute [local go_sem] max2_int min2_int max_two min_two
set_option linter.unusedVariables false
set_option linter.unusedSimpArgs false
/-! ### toponymlaw27_ReplySame: function 5 -/
def toponymlaw27_ReplySame.f (k : Nat) (a0_0 : Int) (a0_1 : Int) (a0_2 : Bool) (a0_3 : Int) (a0_4 : ByteArray) (a0_5 : ByteArray) (a0_6 : ByteArray) (l0_7 : List (S46)) (a1_0 : Int) (a1_1 : Int) (a1_2 : Bool) (a1_3 : Int) (a1_4 : ByteArray) (a1_5 : ByteArray) (a1_6 : ByteArray) (l1_7 : List (S46)) : Option (Bool) := (toponymlaw27_few.f k a0_0 a0_1 a0_2 a0_3 a0_4 a0_5 a0_6 l0_7).bind fun t53 => (if t53 = true then ((toponymlaw27_few.f k a1_0 a1_1 a1_2 a1_3 a1_4 a1_5 a1_6 l1_7).bind fun t89 => (if t89 = true then ((reply_Same.f k a0_0 a0_1 a0_2 a0_3 a0_4 a0_5 a0_6 l0_7 a1_0 a1_1 a1_2 a1_3 a1_4 a1_5 a1_6 l1_7).bind fun t158 => ((toponymref27_Same.f k a0_0 a0_1 a0_2 a0_3 a0_4 a0_5 a0_6 l0_7 a1_0 a1_1 a1_2 a1_3 a1_4 a1_5 a1_6 l1_7).bind fun t193 => (if (t158 == t193) = true then ((reply_Result.f a0_0 a0_1 a0_3 a0_5).bind fun bt232 => ((toponymref27_Same.f k bt232.1 bt232.2.1 bt232.2.2.1 bt232.2.2.2.1 bt232.2.2.2.2.1 bt232.2.2.2.2.2.1 bt232.2.2.2.2.2.2.1 bt232.2.2.2.2.2.2.2 a0_0 a0_1 false a0_3 (⟨#[]⟩ : ByteArray) a0_5 (⟨#[]⟩ : ByteArray) ([] : List (S46))).bind fun t279 => (if t279 = true then ((toponymlaw27_awake.f k ).bind fun t315 => (some t315)) else (some false)))) else (some false)))) else ((toponymlaw27_awake.f k ).bind fun t354 => (some t354)))) else ((toponymlaw27_awake.f k ).bind fun t389 => (some t389)))
theorem toponymlaw27_ReplySame.mono : ∀ a0_ a1_ a2_ a3_ a4_ a5_ a6_ a7_ a8_ a9_ a10_ a11_ a12_ a13_ a14_ a15_ k, LeO (toponymlaw27_ReplySame.f k a0_ a1_ a2_ a3_ a4_ a5_ a6_ a7_ a8_ a9_ a10_ a11_ a12_ a13_ a14_ a15_) (toponymlaw27_ReplySame.f (k + 1) a0_ a1_ a2_ a3_ a4_ a5_ a6_ a7_ a8_ a9_ a10_ a11_ a12_ a13_ a14_ a15_) := by
 intro a0_ a1_ a2_ a3_ a4_ a5_ a6_ a7_ a8_ a9_ a10_ a11_ a12_ a13_ a14_ a15_ k
 unfold toponymlaw27_ReplySame.f
 repeat' first
   | (with_reducible exact reply_Same.mono _ _ _ _ _ _ _ _ _ _ _ _ _ _ _ _ _)
   | (with_reducible exact toponymlaw27_awake.mono _)
   | (with_reducible exact toponymlaw27_few.mono _ _ _ _ _ _ _ _ _)
   | (with_reducible exact toponymref27_Same.mono _ _ _ _ _ _ _ _ _ _ _ _ _ _ _ _ _)
   | (with_reducible exact LeO.refl _)
   | (with_reducible exact LeO.none _)
   | (with_reducible refine LeO.ite ?_ ?_)
   | (with_reducible refine LeO.bind ?_ (fun _ => ?_))
set_option maxHeartbeats 8000000 in
set_option maxRecDepth 100000 in
theorem toponymlaw27_ReplySame.calls (k : Nat) (P_ : Nat → Prop) (a0_0 : Int) (a0_1 : Int) (a0_2 : Bool) (a0_3 : Int) (a0_4 : ByteArray) (a0_5 : ByteArray) (a0_6 : ByteArray) (A0_7 : Option Addr) (c0_7 : Nat) (l0_7 : List (S46)) (a1_0 : Int) (a1_1 : Int) (a1_2 : Bool) (a1_3 : Int) (a1_4 : ByteArray) (a1_5 : ByteArray) (a1_6 : ByteArray) (A1_7 : Option Addr) (c1_7 : Nat) (l1_7 : List (S46)) (r : Bool) (w : World) (hs0_7 : Kd.F k46 w P_ A0_7 l0_7.length l0_7) (hc0_7 : l0_7.length ≤ c0_7) (hs1_7 : Kd.F k46 w P_ A1_7 l1_7.length l1_7) (hc1_7 : l1_7.length ≤ c1_7) (h : toponymlaw27_ReplySame.f k a0_0 a0_1 a0_2 a0_3 a0_4 a0_5 a0_6 l0_7 a1_0 a1_1 a1_2 a1_3 a1_4 a1_5 a1_6 l1_7 = some r) :
  Calls Try.prog 5 #[.agg #[.int .i64 a0_0, .int .i64 a0_1, .bool a0_2, .int .i64 a0_3, .string a0_4, .string a0_5, .string a0_6, .slice A0_7 l0_7.length c0_7], .agg #[.int .i64 a1_0, .int .i64 a1_1, .bool a1_2, .int .i64 a1_3, .string a1_4, .string a1_5, .string a1_6, .slice A1_7 l1_7.length c1_7]] w (fun e w' => e = .returned (.bool r) ∧ Below w.heap.size w w') := by
 have HH := Aside0.mk (show ((toponymlaw27_few.f k a0_0 a0_1 a0_2 a0_3 a0_4 a0_5 a0_6 l0_7).bind fun t53 => (if t53 = true then ((toponymlaw27_few.f k a1_0 a1_1 a1_2 a1_3 a1_4 a1_5 a1_6 l1_7).bind fun t89 => (if t89 = true then ((reply_Same.f k a0_0 a0_1 a0_2 a0_3 a0_4 a0_5 a0_6 l0_7 a1_0 a1_1 a1_2 a1_3 a1_4 a1_5 a1_6 l1_7).bind fun t158 => ((toponymref27_Same.f k a0_0 a0_1 a0_2 a0_3 a0_4 a0_5 a0_6 l0_7 a1_0 a1_1 a1_2 a1_3 a1_4 a1_5 a1_6 l1_7).bind fun t193 => (if (t158 == t193) = true then ((reply_Result.f a0_0 a0_1 a0_3 a0_5).bind fun bt232 => ((toponymref27_Same.f k bt232.1 bt232.2.1 bt232.2.2.1 bt232.2.2.2.1 bt232.2.2.2.2.1 bt232.2.2.2.2.2.1 bt232.2.2.2.2.2.2.1 bt232.2.2.2.2.2.2.2 a0_0 a0_1 false a0_3 (⟨#[]⟩ : ByteArray) a0_5 (⟨#[]⟩ : ByteArray) ([] : List (S46))).bind fun t279 => (if t279 = true then ((toponymlaw27_awake.f k ).bind fun t315 => (some t315)) else (some false)))) else (some false)))) else ((toponymlaw27_awake.f k ).bind fun t354 => (some t354)))) else ((toponymlaw27_awake.f k ).bind fun t389 => (some t389)))) = some r from h)
 clear h
 have HF0_7 := Aside0.mk (Kd.F_mono hs0_7 (fun k_ hk_ => (.inl hk_ : P_ k_ ∨ w.heap.size ≤ k_)))
 have HL0_7 := Aside0.mk hc0_7
 clear hs0_7 hc0_7
 have HF1_7 := Aside0.mk (Kd.F_mono hs1_7 (fun k_ hk_ => (.inl hk_ : P_ k_ ∨ w.heap.size ≤ k_)))
 have HL1_7 := Aside0.mk hc1_7
 clear hs1_7 hc1_7
 have HB := Aside0.mk (Below.refl w.heap.size w)
 have hu27 := Try.underlying27
 go_enter Try.func5, Try.ntmps5
 go_wp2_with (((with_reducible refine gate_dst (N := 2) rfl ?_); (try (refine gate_guard (by rfl) ?_; dsimp only)); refine box_event ?hg (N := 2) ?hd (cs := #[.int .i64 a0_0, .int .i64 a0_1, .bool a0_2, .int .i64 a0_3, .string a0_4, .string a0_5, .string a0_6, .slice A0_7 l0_7.length c0_7]) (t := 27) ?hr ?_; (case hd => rfl); (case hg => rfl); (case hr => first | (go_simp; done) | (go_simp; rfl)); intro g1 hg w2 hbox hb); replace hg := Aside0.mk hg; replace hbox := Aside0.mk hbox; refine stop_ ?_)
 refine Stop.go ?_
 replace hg := hg.out
 replace hbox := hbox.out
 replace HF0_7 := Aside0.mk (Kd.F_elderB HF0_7.out g1 (Nat.le_of_eq hg.symm))
 replace HF0_7 := Aside0.mk (Kd.F_mono HF0_7.out (fun k_ hk_ => ⟨hk_.1, hk_.2⟩) : Kd.F k46 _ (fun k_ => (P_ k_ ∨ w.heap.size ≤ k_) ∧ k_ ≠ g1) _ _ _)
 replace HF1_7 := Aside0.mk (Kd.F_elderB HF1_7.out g1 (Nat.le_of_eq hg.symm))
 replace HF1_7 := Aside0.mk (Kd.F_mono HF1_7.out (fun k_ hk_ => ⟨hk_.1, hk_.2⟩) : Kd.F k46 _ (fun k_ => (P_ k_ ∨ w.heap.size ≤ k_) ∧ k_ ≠ g1) _ _ _)
 replace HF0_7 := Aside0.mk (Kd.F_below HF0_7.out hb)
 replace HF1_7 := Aside0.mk (Kd.F_below HF1_7.out hb)
 replace HB := Aside0.mk (below_step HB.out hb)
 have BKg1 := Aside0.mk hbox
 clear hg hbox hb
 obtain ⟨j3, j4, j5, j6, j7, j8, j9, ja, jb, jc, jd, je, jf, jg, jh, ji⟩ := MB.lay8 BKg1.out
 go_wp2_with (((with_reducible refine gate_dst (N := 3) rfl ?_); (try (refine gate_guard (by rfl) ?_; dsimp only)); refine box_event ?hg (N := 3) ?hd (cs := #[.int .i64 a1_0, .int .i64 a1_1, .bool a1_2, .int .i64 a1_3, .string a1_4, .string a1_5, .string a1_6, .slice A1_7 l1_7.length c1_7]) (t := 27) ?hr ?_; (case hd => rfl); (case hg => rfl); (case hr => first | (go_simp; done) | (go_simp; rfl)); intro g19 hg w20 hbox hb); replace hg := Aside0.mk hg; replace hbox := Aside0.mk hbox; refine stop_ ?_)
 refine Stop.go ?_
 replace hg := hg.out
 replace hbox := hbox.out
 replace HF0_7 := Aside0.mk (Kd.F_elderB HF0_7.out g19 (Nat.le_of_eq hg.symm))
 replace HF0_7 := Aside0.mk (Kd.F_mono HF0_7.out (fun k_ hk_ => ⟨hk_.1.1, hk_.1.2, hk_.2⟩) : Kd.F k46 _ (fun k_ => (P_ k_ ∨ w.heap.size ≤ k_) ∧ k_ ≠ g1 ∧ k_ ≠ g19) _ _ _)
 replace HF1_7 := Aside0.mk (Kd.F_elderB HF1_7.out g19 (Nat.le_of_eq hg.symm))
 replace HF1_7 := Aside0.mk (Kd.F_mono HF1_7.out (fun k_ hk_ => ⟨hk_.1.1, hk_.1.2, hk_.2⟩) : Kd.F k46 _ (fun k_ => (P_ k_ ∨ w.heap.size ≤ k_) ∧ k_ ≠ g1 ∧ k_ ≠ g19) _ _ _)
 replace HF0_7 := Aside0.mk (Kd.F_below HF0_7.out hb)
 replace HF1_7 := Aside0.mk (Kd.F_below HF1_7.out hb)
 replace BKg1 := Aside0.mk (blk_below (g := g1) BKg1.out hb)
 replace HB := Aside0.mk (below_step HB.out hb)
 have BKg19 := Aside0.mk hbox
 clear hg hbox hb
 clear j3 j4 j5 j6 j7 j8 j9 ja jb jc jd je jf jg jh ji
 obtain ⟨jl, jm, jn, jo, jp, jq, jr, js, jt, ju, jv, jw, jx, jy, jz, jA⟩ := MB.lay8 BKg1.out
 obtain ⟨jB, jC, jD, jE, jF, jG, jH, jI, jJ, jK, jL, jM, jN, jO, jP, jQ⟩ := MB.lay8 BKg19.out
 have H := HH.out
 replace H := Option.bind_eq_some_iff.mp H
 obtain ⟨t53, at_, H⟩ := H
 have At54 := Aside0.mk at_
 clear at_
 (try dsimp only at H)
 replace HH := Aside0.mk H
 clear H
 go_wp2_with (((with_reducible refine gate_callee (f := 9) rfl ?_); (try (refine gate_guard (by rfl) ?_; dsimp only)); refine goesL_ (some 6) rfl rfl Try.func9 (by kernel_rfl) rfl #[.agg #[.int .i64 a0_0, .int .i64 a0_1, .bool a0_2, .int .i64 a0_3, .string a0_4, .string a0_5, .string a0_6, .slice A0_7 l0_7.length c0_7]] rfl (by (try simp only [List.map_toArray, List.map_cons, List.map_nil]); first | done | rfl | (simp only [List.length_drop, List.length_take]; rfl)) ?_; (with_reducible refine (toponymlaw27_few.calls k (fun k_ => (P_ k_ ∨ w.heap.size ≤ k_) ∧ k_ ≠ g1 ∧ k_ ≠ g19) a0_0 a0_1 a0_2 a0_3 a0_4 a0_5 a0_6 _ _ l0_7 t53 _ (Kd.F_mono (ok := (fun k_ => (P_ k_ ∨ w.heap.size ≤ k_) ∧ k_ ≠ g1 ∧ k_ ≠ g19)) HF0_7.out (fun k_ hk_ => ⟨hk_.1, hk_.2.1, hk_.2.2⟩)) HL0_7.out At54.out).mono ?_); rintro e w55 ⟨rfl, hb⟩; refine ⟨_, rfl, ?_⟩); refine stop_ ?_)
 refine Stop.go ?_
 replace HF0_7 := Aside0.mk (Kd.F_below HF0_7.out hb)
 replace HF1_7 := Aside0.mk (Kd.F_below HF1_7.out hb)
 replace BKg1 := Aside0.mk (blk_below (g := g1) BKg1.out hb)
 replace BKg19 := Aside0.mk (blk_below (g := g19) BKg19.out hb)
 replace HB := Aside0.mk (below_step HB.out hb)
 clear hb
 clear jl jm jn jo jp jq jr js jt ju jv jw jx jy jz jA jB jC jD jE jF jG jH jI jJ jK jL jM jN jO jP jQ
 obtain ⟨jU, jV, jW, jX, jY, jZ, j10, j11, j12, j13, j14, j15, j16, j17, j18, j19⟩ := MB.lay8 BKg1.out
 obtain ⟨j1a, j1b, j1c, j1d, j1e, j1f, j1g, j1h, j1i, j1j, j1k, j1l, j1m, j1n, j1o, j1p⟩ := MB.lay8 BKg19.out
 by_cases c88 : t53 = true
 ·replace HH := MW.hpos HH c88
  subst c88
  have H := HH.out
  replace H := Option.bind_eq_some_iff.mp H
  obtain ⟨t89, at_, H⟩ := H
  have At90 := Aside0.mk at_
  clear at_
  (try dsimp only at H)
  replace HH := Aside0.mk H
  clear H
  go_wp2_with (((with_reducible refine gate_callee (f := 9) rfl ?_); (try (refine gate_guard (by rfl) ?_; dsimp only)); refine goesL_ (some 10) rfl rfl Try.func9 (by kernel_rfl) rfl #[.agg #[.int .i64 a1_0, .int .i64 a1_1, .bool a1_2, .int .i64 a1_3, .string a1_4, .string a1_5, .string a1_6, .slice A1_7 l1_7.length c1_7]] rfl (by (try simp only [List.map_toArray, List.map_cons, List.map_nil]); first | done | rfl | (simp only [List.length_drop, List.length_take]; rfl)) ?_; (with_reducible refine (toponymlaw27_few.calls k (fun k_ => (P_ k_ ∨ w.heap.size ≤ k_) ∧ k_ ≠ g1 ∧ k_ ≠ g19) a1_0 a1_1 a1_2 a1_3 a1_4 a1_5 a1_6 _ _ l1_7 t89 _ (Kd.F_mono (ok := (fun k_ => (P_ k_ ∨ w.heap.size ≤ k_) ∧ k_ ≠ g1 ∧ k_ ≠ g19)) HF1_7.out (fun k_ hk_ => ⟨hk_.1, hk_.2.1, hk_.2.2⟩)) HL1_7.out At90.out).mono ?_); rintro e w91 ⟨rfl, hb⟩; refine ⟨_, rfl, ?_⟩); refine stop_ ?_)
  refine Stop.go ?_
  replace HF0_7 := Aside0.mk (Kd.F_below HF0_7.out hb)
  replace HF1_7 := Aside0.mk (Kd.F_below HF1_7.out hb)
  replace BKg1 := Aside0.mk (blk_below (g := g1) BKg1.out hb)
  replace BKg19 := Aside0.mk (blk_below (g := g19) BKg19.out hb)
  replace HB := Aside0.mk (below_step HB.out hb)
  clear hb
  clear jU jV jW jX jY jZ j10 j11 j12 j13 j14 j15 j16 j17 j18 j19 j1a j1b j1c j1d j1e j1f j1g j1h j1i j1j j1k j1l j1m j1n j1o j1p
  obtain ⟨j1u, j1v, j1w, j1x, j1y, j1z, j1A, j1B, j1C, j1D, j1E, j1F, j1G, j1H, j1I, j1J⟩ := MB.lay8 BKg1.out
  obtain ⟨j1K, j1L, j1M, j1N, j1O, j1P, j1Q, j1R, j1S, j1T, j1U, j1V, j1W, j1X, j1Y, j1Z⟩ := MB.lay8 BKg19.out
  by_cases c124 : t89 = true
  ·replace HH := MW.hpos HH c124
   subst c124
   go_wp2
   have hwr_ : ∀ n_ : Int, IntKind.i64.wrap n_ = wrap64 n_ := fun n_ => IntWalk.i64_left n_
   refine wp_region_any (by kernel_rfl) ?_
   change wpAny _ _ _ _ 32 #[false, false, false, false, false, false, false, false, false, false, false, false, false, false, false, false, false, false, false, false, false, false, false, false, false, false, false, false, false, false, false, false] _ w91.drew
   obtain ⟨w125, hw_⟩ : ∃ w_ : World, w_ = w91.drew := ⟨_, rfl⟩
   rw [← hw_]
   have hb : Below w91.heap.size w91 w125 := by rw [hw_]; exact below_drew1 (Below.refl _ _)
   clear hw_
   replace HF0_7 := Aside0.mk (Kd.F_below HF0_7.out hb)
   replace HF1_7 := Aside0.mk (Kd.F_below HF1_7.out hb)
   replace BKg1 := Aside0.mk (blk_below (g := g1) BKg1.out hb)
   replace BKg19 := Aside0.mk (blk_below (g := g19) BKg19.out hb)
   replace HB := Aside0.mk (below_step HB.out hb)
   clear hb
   clear j1u j1v j1w j1x j1y j1z j1A j1B j1C j1D j1E j1F j1G j1H j1I j1J j1K j1L j1M j1N j1O j1P j1Q j1R j1S j1T j1U j1V j1W j1X j1Y j1Z
   obtain ⟨j22, j23, j24, j25, j26, j27, j28, j29, j2a, j2b, j2c, j2d, j2e, j2f, j2g, j2h⟩ := MB.lay8 BKg1.out
   obtain ⟨j2i, j2j, j2k, j2l, j2m, j2n, j2o, j2p, j2q, j2r, j2s, j2t, j2u, j2v, j2w, j2x⟩ := MB.lay8 BKg19.out
   refine MW.last_in (ds := [26, 29]) (MW.Cells.cons j22 (MW.Cells.cons j23 (MW.Cells.cons j24 (MW.Cells.cons j25 (MW.Cells.cons j26 (MW.Cells.cons j27 (MW.Cells.cons j28 (MW.Cells.cons j29 (MW.Cells.cons j2i (MW.Cells.cons j2j (MW.Cells.cons j2k (MW.Cells.cons j2l (MW.Cells.cons j2m (MW.Cells.cons j2n (MW.Cells.cons j2o (MW.Cells.cons j2p MW.Cells.nil)))))))))))))))) ?_
   refine MW.last_take (i := 0) (v := .agg #[.int .i64 a0_0, .int .i64 a0_1, .bool a0_2, .int .i64 a0_3, .string a0_4, .string a0_5, .string a0_6, .slice A0_7 l0_7.length c0_7]) (listed' := #[true, false, false, false, false, false, false, false, false, false, false, false, false, false, false, false, false, false, false, false, false, false, false, false, false, false, false, false, false, false, false, false]) (a' := ⟨[_, _, _, _, _, _, _, _, _, _, _, _, _, _, _, _, _, _, _, _, _, _, _, _, _, _, _, _, _, _, _, _, _, _, _, _, _, _, _, _, _, _, _, _, _].toArray, []⟩) rfl (by kernel_rfl) (by kernel_rfl) (by kernel_rfl) (by kernel_rfl) (by kernel_rfl) (fun _ _ _ h_ => h_) (by kernel_rfl) (fun w_ hS_ => ?go) (MW.Cells.cons j22 (MW.Cells.cons j23 (MW.Cells.cons j24 (MW.Cells.cons j25 (MW.Cells.cons j26 (MW.Cells.cons j27 (MW.Cells.cons j28 (MW.Cells.cons j29 (MW.Cells.cons j2i (MW.Cells.cons j2j (MW.Cells.cons j2k (MW.Cells.cons j2l (MW.Cells.cons j2m (MW.Cells.cons j2n (MW.Cells.cons j2o (MW.Cells.cons j2p MW.Cells.nil)))))))))))))))) (by kernel_rfl) rfl ?_
   case go => obtain ⟨hs0_, hs1_, hs2_, hs3_, hs4_, hs5_, hs6_, hs7_, _, _, _, _, _, _, _, _, _⟩ := hS_; first | (go_simp; done) | (go_simp; rfl)
   refine MW.last_take (i := 1) (v := .agg #[.int .i64 a1_0, .int .i64 a1_1, .bool a1_2, .int .i64 a1_3, .string a1_4, .string a1_5, .string a1_6, .slice A1_7 l1_7.length c1_7]) (listed' := #[true, true, false, false, false, false, false, false, false, false, false, false, false, false, false, false, false, false, false, false, false, false, false, false, false, false, false, false, false, false, false, false]) (a' := ⟨[_, _, _, _, _, _, _, _, _, _, _, _, _, _, _, _, _, _, _, _, _, _, _, _, _, _, _, _, _, _, _, _, _, _, _, _, _, _, _, _, _, _, _, _, _].toArray, []⟩) rfl (by kernel_rfl) (by kernel_rfl) (by kernel_rfl) (by kernel_rfl) (by kernel_rfl) (fun _ _ _ h_ => h_) (by kernel_rfl) (fun w_ hS_ => ?go) (MW.Cells.cons j22 (MW.Cells.cons j23 (MW.Cells.cons j24 (MW.Cells.cons j25 (MW.Cells.cons j26 (MW.Cells.cons j27 (MW.Cells.cons j28 (MW.Cells.cons j29 (MW.Cells.cons j2i (MW.Cells.cons j2j (MW.Cells.cons j2k (MW.Cells.cons j2l (MW.Cells.cons j2m (MW.Cells.cons j2n (MW.Cells.cons j2o (MW.Cells.cons j2p MW.Cells.nil)))))))))))))))) (by kernel_rfl) rfl ?_
   case go => obtain ⟨_, _, _, _, _, _, _, _, hs8_, hs9_, hs10_, hs11_, hs12_, hs13_, hs14_, hs15_, _⟩ := hS_; first | (go_simp; done) | (go_simp; rfl)
   refine MW.last_take (i := 3) (v := .agg #[.int .i64 a0_0, .int .i64 a0_1, .bool a0_2, .int .i64 a0_3, .string a0_4, .string a0_5, .string a0_6, .slice A0_7 l0_7.length c0_7]) (listed' := #[true, true, false, true, false, false, false, false, false, false, false, false, false, false, false, false, false, false, false, false, false, false, false, false, false, false, false, false, false, false, false, false]) (a' := ⟨[_, _, _, _, _, _, _, _, _, _, _, _, _, _, _, _, _, _, _, _, _, _, _, _, _, _, _, _, _, _, _, _, _, _, _, _, _, _, _, _, _, _, _, _, _].toArray, []⟩) rfl (by kernel_rfl) (by kernel_rfl) (by kernel_rfl) (by kernel_rfl) (by kernel_rfl) (fun _ _ _ h_ => h_) (by kernel_rfl) (fun w_ hS_ => ?go) (MW.Cells.cons j22 (MW.Cells.cons j23 (MW.Cells.cons j24 (MW.Cells.cons j25 (MW.Cells.cons j26 (MW.Cells.cons j27 (MW.Cells.cons j28 (MW.Cells.cons j29 (MW.Cells.cons j2i (MW.Cells.cons j2j (MW.Cells.cons j2k (MW.Cells.cons j2l (MW.Cells.cons j2m (MW.Cells.cons j2n (MW.Cells.cons j2o (MW.Cells.cons j2p MW.Cells.nil)))))))))))))))) (by kernel_rfl) rfl ?_
   case go => obtain ⟨hs0_, hs1_, hs2_, hs3_, hs4_, hs5_, hs6_, hs7_, _, _, _, _, _, _, _, _, _⟩ := hS_; first | (go_simp; done) | (go_simp; rfl)
   refine MW.last_take (i := 4) (v := .agg #[.int .i64 a1_0, .int .i64 a1_1, .bool a1_2, .int .i64 a1_3, .string a1_4, .string a1_5, .string a1_6, .slice A1_7 l1_7.length c1_7]) (listed' := #[true, true, false, true, true, false, false, false, false, false, false, false, false, false, false, false, false, false, false, false, false, false, false, false, false, false, false, false, false, false, false, false]) (a' := ⟨[_, _, _, _, _, _, _, _, _, _, _, _, _, _, _, _, _, _, _, _, _, _, _, _, _, _, _, _, _, _, _, _, _, _, _, _, _, _, _, _, _, _, _, _, _].toArray, []⟩) rfl (by kernel_rfl) (by kernel_rfl) (by kernel_rfl) (by kernel_rfl) (by kernel_rfl) (fun _ _ _ h_ => h_) (by kernel_rfl) (fun w_ hS_ => ?go) (MW.Cells.cons j22 (MW.Cells.cons j23 (MW.Cells.cons j24 (MW.Cells.cons j25 (MW.Cells.cons j26 (MW.Cells.cons j27 (MW.Cells.cons j28 (MW.Cells.cons j29 (MW.Cells.cons j2i (MW.Cells.cons j2j (MW.Cells.cons j2k (MW.Cells.cons j2l (MW.Cells.cons j2m (MW.Cells.cons j2n (MW.Cells.cons j2o (MW.Cells.cons j2p MW.Cells.nil)))))))))))))))) (by kernel_rfl) rfl ?_
   case go => obtain ⟨_, _, _, _, _, _, _, _, hs8_, hs9_, hs10_, hs11_, hs12_, hs13_, hs14_, hs15_, _⟩ := hS_; first | (go_simp; done) | (go_simp; rfl)
   refine MW.last_act (i := 2) (listed' := #[true, true, true, true, true, false, false, false, false, false, false, false, false, false, false, false, false, false, false, false, false, false, false, false, false, false, false, false, false, false, false, false]) rfl (by kernel_rfl) (by kernel_rfl) (by decide) ?_
   have H := HH.out
   replace H := Option.bind_eq_some_iff.mp H
   obtain ⟨t158, at_, H⟩ := H
   have At159 := Aside0.mk at_
   clear at_
   (try dsimp only at H)
   replace HH := Aside0.mk H
   clear H
   go_wp2_with (((with_reducible refine gate_callee (f := 18) rfl ?_); (try (refine gate_guard (by rfl) ?_; dsimp only)); refine goesL_ (some 16) rfl rfl Try.func18 (by kernel_rfl) rfl #[.agg #[.int .i64 a0_0, .int .i64 a0_1, .bool a0_2, .int .i64 a0_3, .string a0_4, .string a0_5, .string a0_6, .slice A0_7 l0_7.length c0_7], .agg #[.int .i64 a1_0, .int .i64 a1_1, .bool a1_2, .int .i64 a1_3, .string a1_4, .string a1_5, .string a1_6, .slice A1_7 l1_7.length c1_7]] rfl (by (try simp only [List.map_toArray, List.map_cons, List.map_nil]); first | done | rfl | (simp only [List.length_drop, List.length_take]; rfl)) ?_; (with_reducible refine (reply_Same.calls k (fun k_ => (P_ k_ ∨ w.heap.size ≤ k_) ∧ k_ ≠ g1 ∧ k_ ≠ g19) a0_0 a0_1 a0_2 a0_3 a0_4 a0_5 a0_6 _ _ l0_7 a1_0 a1_1 a1_2 a1_3 a1_4 a1_5 a1_6 _ _ l1_7 t158 _ (Kd.F_mono (ok := (fun k_ => (P_ k_ ∨ w.heap.size ≤ k_) ∧ k_ ≠ g1 ∧ k_ ≠ g19)) HF0_7.out (fun k_ hk_ => ⟨hk_.1, hk_.2.1, hk_.2.2⟩)) HL0_7.out (Kd.F_mono (ok := (fun k_ => (P_ k_ ∨ w.heap.size ≤ k_) ∧ k_ ≠ g1 ∧ k_ ≠ g19)) HF1_7.out (fun k_ hk_ => ⟨hk_.1, hk_.2.1, hk_.2.2⟩)) HL1_7.out At159.out).mono ?_); rintro e w160 ⟨rfl, hb⟩; refine ⟨_, rfl, ?_⟩); refine stop_ ?_)
   refine Stop.go ?_
   replace HF0_7 := Aside0.mk (Kd.F_below HF0_7.out hb)
   replace HF1_7 := Aside0.mk (Kd.F_below HF1_7.out hb)
   replace BKg1 := Aside0.mk (blk_below (g := g1) BKg1.out hb)
   replace BKg19 := Aside0.mk (blk_below (g := g19) BKg19.out hb)
   replace HB := Aside0.mk (below_step HB.out hb)
   clear hb
   clear j22 j23 j24 j25 j26 j27 j28 j29 j2a j2b j2c j2d j2e j2f j2g j2h j2i j2j j2k j2l j2m j2n j2o j2p j2q j2r j2s j2t j2u j2v j2w j2x
   obtain ⟨j2B, j2C, j2D, j2E, j2F, j2G, j2H, j2I, j2J, j2K, j2L, j2M, j2N, j2O, j2P, j2Q⟩ := MB.lay8 BKg1.out
   obtain ⟨j2R, j2S, j2T, j2U, j2V, j2W, j2X, j2Y, j2Z, j30, j31, j32, j33, j34, j35, j36⟩ := MB.lay8 BKg19.out
   refine wpList_nil ?_
   change MW.Cells _ _ ∧ wpAnyLast _ _ _ _ _ _ 27 #[true, true, true, true, true, false, false, false, false, false, false, false, false, false, false, false, false, false, false, false, false, false, false, false, false, false, false, false, false, false, false, false] ⟨[_, _, _, _, _, _, _, _, _, _, _, _, _, _, _, _, _, _, _, _, _, _, _, _, _, _, _, _, _, _, _, _, _, _, _, _, _, _, _, _, _, _, _, _, _].toArray, []⟩ _
   refine ⟨(MW.Cells.cons j2B (MW.Cells.cons j2C (MW.Cells.cons j2D (MW.Cells.cons j2E (MW.Cells.cons j2F (MW.Cells.cons j2G (MW.Cells.cons j2H (MW.Cells.cons j2I (MW.Cells.cons j2R (MW.Cells.cons j2S (MW.Cells.cons j2T (MW.Cells.cons j2U (MW.Cells.cons j2V (MW.Cells.cons j2W (MW.Cells.cons j2X (MW.Cells.cons j2Y MW.Cells.nil)))))))))))))))), ?_⟩
   refine MW.last_act (i := 5) (listed' := #[true, true, true, true, true, true, false, false, false, false, false, false, false, false, false, false, false, false, false, false, false, false, false, false, false, false, false, false, false, false, false, false]) rfl (by kernel_rfl) (by kernel_rfl) (by decide) ?_
   have H := HH.out
   replace H := Option.bind_eq_some_iff.mp H
   obtain ⟨t193, at_, H⟩ := H
   have At194 := Aside0.mk at_
   clear at_
   (try dsimp only at H)
   replace HH := Aside0.mk H
   clear H
   go_wp2_with (((with_reducible refine gate_callee (f := 17) rfl ?_); (try (refine gate_guard (by rfl) ?_; dsimp only)); refine goesL_ (some 19) rfl rfl Try.func17 (by kernel_rfl) rfl #[.agg #[.int .i64 a0_0, .int .i64 a0_1, .bool a0_2, .int .i64 a0_3, .string a0_4, .string a0_5, .string a0_6, .slice A0_7 l0_7.length c0_7], .agg #[.int .i64 a1_0, .int .i64 a1_1, .bool a1_2, .int .i64 a1_3, .string a1_4, .string a1_5, .string a1_6, .slice A1_7 l1_7.length c1_7]] rfl (by (try simp only [List.map_toArray, List.map_cons, List.map_nil]); first | done | rfl | (simp only [List.length_drop, List.length_take]; rfl)) ?_; (with_reducible refine (toponymref27_Same.calls k (fun k_ => (P_ k_ ∨ w.heap.size ≤ k_) ∧ k_ ≠ g1 ∧ k_ ≠ g19) a0_0 a0_1 a0_2 a0_3 a0_4 a0_5 a0_6 _ _ l0_7 a1_0 a1_1 a1_2 a1_3 a1_4 a1_5 a1_6 _ _ l1_7 t193 _ (Kd.F_mono (ok := (fun k_ => (P_ k_ ∨ w.heap.size ≤ k_) ∧ k_ ≠ g1 ∧ k_ ≠ g19)) HF0_7.out (fun k_ hk_ => ⟨hk_.1, hk_.2.1, hk_.2.2⟩)) HL0_7.out (Kd.F_mono (ok := (fun k_ => (P_ k_ ∨ w.heap.size ≤ k_) ∧ k_ ≠ g1 ∧ k_ ≠ g19)) HF1_7.out (fun k_ hk_ => ⟨hk_.1, hk_.2.1, hk_.2.2⟩)) HL1_7.out At194.out).mono ?_); rintro e w195 ⟨rfl, hb⟩; refine ⟨_, rfl, ?_⟩); refine stop_ ?_)
   refine Stop.go ?_
   replace BKg1 := Aside0.mk (blk_below (g := g1) BKg1.out hb)
   replace BKg19 := Aside0.mk (blk_below (g := g19) BKg19.out hb)
   replace HB := Aside0.mk (below_step HB.out hb)
   clear hb
   clear j2B j2C j2D j2E j2F j2G j2H j2I j2J j2K j2L j2M j2N j2O j2P j2Q j2R j2S j2T j2U j2V j2W j2X j2Y j2Z j30 j31 j32 j33 j34 j35 j36
   obtain ⟨j3a, j3b, j3c, j3d, j3e, j3f, j3g, j3h, j3i, j3j, j3k, j3l, j3m, j3n, j3o, j3p⟩ := MB.lay8 BKg1.out
   obtain ⟨j3q, j3r, j3s, j3t, j3u, j3v, j3w, j3x, j3y, j3z, j3A, j3B, j3C, j3D, j3E, j3F⟩ := MB.lay8 BKg19.out
   refine wpList_nil ?_
   change MW.Cells _ _ ∧ wpAnyLast _ _ _ _ _ _ 26 #[true, true, true, true, true, true, false, false, false, false, false, false, false, false, false, false, false, false, false, false, false, false, false, false, false, false, false, false, false, false, false, false] ⟨[_, _, _, _, _, _, _, _, _, _, _, _, _, _, _, _, _, _, _, _, _, _, _, _, _, _, _, _, _, _, _, _, _, _, _, _, _, _, _, _, _, _, _, _, _].toArray, []⟩ _
   refine ⟨(MW.Cells.cons j3a (MW.Cells.cons j3b (MW.Cells.cons j3c (MW.Cells.cons j3d (MW.Cells.cons j3e (MW.Cells.cons j3f (MW.Cells.cons j3g (MW.Cells.cons j3h (MW.Cells.cons j3q (MW.Cells.cons j3r (MW.Cells.cons j3s (MW.Cells.cons j3t (MW.Cells.cons j3u (MW.Cells.cons j3v (MW.Cells.cons j3w (MW.Cells.cons j3x MW.Cells.nil)))))))))))))))), ?_⟩
   refine MW.last_pure (i := 6) (v := .bool (t158 == t193)) (listed' := #[true, true, true, true, true, true, true, false, false, false, false, false, false, false, false, false, false, false, false, false, false, false, false, false, false, false, false, false, false, false, false, false]) (a' := ⟨[_, _, _, _, _, _, _, _, _, _, _, _, _, _, _, _, _, _, _, _, _, _, _, _, _, _, _, _, _, _, _, _, _, _, _, _, _, _, _, _, _, _, _, _, _].toArray, []⟩) rfl (by kernel_rfl) (by kernel_rfl) (by kernel_rfl) (fun _ _ _ h_ => h_) (.inl ⟨(by kernel_rfl), fun _ => (by first | rfl | (go_simp; done) | (go_simp; rfl) | (go_simp; simp only [MW.isEmpty_beq, bne, Bool.not_not]; done))⟩) (by kernel_rfl) rfl ?_
   refine MW.last_pure (i := 7) (v := .bool (t158 == t193)) (listed' := #[true, true, true, true, true, true, true, true, false, false, false, false, false, false, false, false, false, false, false, false, false, false, false, false, false, false, false, false, false, false, false, false]) (a' := ⟨[_, _, _, _, _, _, _, _, _, _, _, _, _, _, _, _, _, _, _, _, _, _, _, _, _, _, _, _, _, _, _, _, _, _, _, _, _, _, _, _, _, _, _, _, _].toArray, []⟩) rfl (by kernel_rfl) (by kernel_rfl) (by kernel_rfl) (fun _ _ _ h_ => h_) (.inl ⟨(by kernel_rfl), fun _ => (by first | rfl | (go_simp; done) | (go_simp; rfl) | (go_simp; simp only [MW.isEmpty_beq, bne, Bool.not_not]; done))⟩) (by kernel_rfl) rfl ?_
   by_cases c228 : (t158 == t193) = true
   ·replace HH := MW.hpos HH c228
    have hk229 : (t158 == t193) = true := c228
    (try simp only [hk229, Bool.not_true, Bool.not_false])
    try have hk230 : decide (t158 = t193) = true := by simpa using c228
    try have hk231 : (t158 == t193) = true := by simpa using c228
    clear c228
    refine MW.last_pure (i := 8) (v := .pointer (some ⟨g1, 0, none⟩)) (listed' := #[true, true, true, true, true, true, true, true, true, false, false, false, false, false, false, false, false, false, false, false, false, false, false, false, false, false, false, false, false, false, false, false]) (a' := ⟨[_, _, _, _, _, _, _, _, _, _, _, _, _, _, _, _, _, _, _, _, _, _, _, _, _, _, _, _, _, _, _, _, _, _, _, _, _, _, _, _, _, _, _, _, _].toArray, []⟩) rfl (by kernel_rfl) (by kernel_rfl) (by kernel_rfl) (fun _ _ _ h_ => h_) (.inl ⟨(by kernel_rfl), fun _ => (by first | rfl | (go_simp; done) | (go_simp; rfl) | (go_simp; simp only [MW.isEmpty_beq, bne, Bool.not_not]; done))⟩) (by kernel_rfl) rfl ?_
    refine MW.last_pure (i := 10) (v := .pointer (some ⟨g1, 1, none⟩)) (listed' := #[true, true, true, true, true, true, true, true, true, false, true, false, false, false, false, false, false, false, false, false, false, false, false, false, false, false, false, false, false, false, false, false]) (a' := ⟨[_, _, _, _, _, _, _, _, _, _, _, _, _, _, _, _, _, _, _, _, _, _, _, _, _, _, _, _, _, _, _, _, _, _, _, _, _, _, _, _, _, _, _, _, _].toArray, []⟩) rfl (by kernel_rfl) (by kernel_rfl) (by kernel_rfl) (fun _ _ _ h_ => h_) (.inl ⟨(by kernel_rfl), fun _ => (by first | rfl | (go_simp; done) | (go_simp; rfl) | (go_simp; simp only [MW.isEmpty_beq, bne, Bool.not_not]; done))⟩) (by kernel_rfl) rfl ?_
    refine MW.last_pure (i := 12) (v := .pointer (some ⟨g1, 3, none⟩)) (listed' := #[true, true, true, true, true, true, true, true, true, false, true, false, true, false, false, false, false, false, false, false, false, false, false, false, false, false, false, false, false, false, false, false]) (a' := ⟨[_, _, _, _, _, _, _, _, _, _, _, _, _, _, _, _, _, _, _, _, _, _, _, _, _, _, _, _, _, _, _, _, _, _, _, _, _, _, _, _, _, _, _, _, _].toArray, []⟩) rfl (by kernel_rfl) (by kernel_rfl) (by kernel_rfl) (fun _ _ _ h_ => h_) (.inl ⟨(by kernel_rfl), fun _ => (by first | rfl | (go_simp; done) | (go_simp; rfl) | (go_simp; simp only [MW.isEmpty_beq, bne, Bool.not_not]; done))⟩) (by kernel_rfl) rfl ?_
    refine MW.last_pure (i := 14) (v := .pointer (some ⟨g1, 5, none⟩)) (listed' := #[true, true, true, true, true, true, true, true, true, false, true, false, true, false, true, false, false, false, false, false, false, false, false, false, false, false, false, false, false, false, false, false]) (a' := ⟨[_, _, _, _, _, _, _, _, _, _, _, _, _, _, _, _, _, _, _, _, _, _, _, _, _, _, _, _, _, _, _, _, _, _, _, _, _, _, _, _, _, _, _, _, _].toArray, []⟩) rfl (by kernel_rfl) (by kernel_rfl) (by kernel_rfl) (fun _ _ _ h_ => h_) (.inl ⟨(by kernel_rfl), fun _ => (by first | rfl | (go_simp; done) | (go_simp; rfl) | (go_simp; simp only [MW.isEmpty_beq, bne, Bool.not_not]; done))⟩) (by kernel_rfl) rfl ?_
    refine MW.last_pure (i := 17) (v := .pointer (some ⟨g1, 0, none⟩)) (listed' := #[true, true, true, true, true, true, true, true, true, false, true, false, true, false, true, false, false, true, false, false, false, false, false, false, false, false, false, false, false, false, false, false]) (a' := ⟨[_, _, _, _, _, _, _, _, _, _, _, _, _, _, _, _, _, _, _, _, _, _, _, _, _, _, _, _, _, _, _, _, _, _, _, _, _, _, _, _, _, _, _, _, _].toArray, []⟩) rfl (by kernel_rfl) (by kernel_rfl) (by kernel_rfl) (fun _ _ _ h_ => h_) (.inl ⟨(by kernel_rfl), fun _ => (by first | rfl | (go_simp; done) | (go_simp; rfl) | (go_simp; simp only [MW.isEmpty_beq, bne, Bool.not_not]; done))⟩) (by kernel_rfl) rfl ?_
    refine MW.last_pure (i := 19) (v := .pointer (some ⟨g1, 1, none⟩)) (listed' := #[true, true, true, true, true, true, true, true, true, false, true, false, true, false, true, false, false, true, false, true, false, false, false, false, false, false, false, false, false, false, false, false]) (a' := ⟨[_, _, _, _, _, _, _, _, _, _, _, _, _, _, _, _, _, _, _, _, _, _, _, _, _, _, _, _, _, _, _, _, _, _, _, _, _, _, _, _, _, _, _, _, _].toArray, []⟩) rfl (by kernel_rfl) (by kernel_rfl) (by kernel_rfl) (fun _ _ _ h_ => h_) (.inl ⟨(by kernel_rfl), fun _ => (by first | rfl | (go_simp; done) | (go_simp; rfl) | (go_simp; simp only [MW.isEmpty_beq, bne, Bool.not_not]; done))⟩) (by kernel_rfl) rfl ?_
    refine MW.last_pure (i := 21) (v := .pointer (some ⟨g1, 3, none⟩)) (listed' := #[true, true, true, true, true, true, true, true, true, false, true, false, true, false, true, false, false, true, false, true, false, true, false, false, false, false, false, false, false, false, false, false]) (a' := ⟨[_, _, _, _, _, _, _, _, _, _, _, _, _, _, _, _, _, _, _, _, _, _, _, _, _, _, _, _, _, _, _, _, _, _, _, _, _, _, _, _, _, _, _, _, _].toArray, []⟩) rfl (by kernel_rfl) (by kernel_rfl) (by kernel_rfl) (fun _ _ _ h_ => h_) (.inl ⟨(by kernel_rfl), fun _ => (by first | rfl | (go_simp; done) | (go_simp; rfl) | (go_simp; simp only [MW.isEmpty_beq, bne, Bool.not_not]; done))⟩) (by kernel_rfl) rfl ?_
    refine MW.last_pure (i := 23) (v := .pointer (some ⟨g1, 5, none⟩)) (listed' := #[true, true, true, true, true, true, true, true, true, false, true, false, true, false, true, false, false, true, false, true, false, true, false, true, false, false, false, false, false, false, false, false]) (a' := ⟨[_, _, _, _, _, _, _, _, _, _, _, _, _, _, _, _, _, _, _, _, _, _, _, _, _, _, _, _, _, _, _, _, _, _, _, _, _, _, _, _, _, _, _, _, _].toArray, []⟩) rfl (by kernel_rfl) (by kernel_rfl) (by kernel_rfl) (fun _ _ _ h_ => h_) (.inl ⟨(by kernel_rfl), fun _ => (by first | rfl | (go_simp; done) | (go_simp; rfl) | (go_simp; simp only [MW.isEmpty_beq, bne, Bool.not_not]; done))⟩) (by kernel_rfl) rfl ?_
    refine MW.last_take (i := 9) (v := .int .i64 a0_0) (listed' := #[true, true, true, true, true, true, true, true, true, true, true, false, true, false, true, false, false, true, false, true, false, true, false, true, false, false, false, false, false, false, false, false]) (a' := ⟨[_, _, _, _, _, _, _, _, _, _, _, _, _, _, _, _, _, _, _, _, _, _, _, _, _, _, _, _, _, _, _, _, _, _, _, _, _, _, _, _, _, _, _, _, _].toArray, []⟩) rfl (by kernel_rfl) (by kernel_rfl) (by kernel_rfl) (by kernel_rfl) (by kernel_rfl) (fun _ _ _ h_ => h_) (by kernel_rfl) (fun w_ hS_ => ?go) (MW.Cells.cons j3a (MW.Cells.cons j3b (MW.Cells.cons j3c (MW.Cells.cons j3d (MW.Cells.cons j3e (MW.Cells.cons j3f (MW.Cells.cons j3g (MW.Cells.cons j3h (MW.Cells.cons j3q (MW.Cells.cons j3r (MW.Cells.cons j3s (MW.Cells.cons j3t (MW.Cells.cons j3u (MW.Cells.cons j3v (MW.Cells.cons j3w (MW.Cells.cons j3x MW.Cells.nil)))))))))))))))) (by kernel_rfl) rfl ?_
    case go => obtain ⟨hs0_, _, _, _, _, _, _, _, _, _, _, _, _, _, _, _, _⟩ := hS_; first | (go_simp; done) | (go_simp; rfl)
    refine MW.last_take (i := 11) (v := .int .i64 a0_1) (listed' := #[true, true, true, true, true, true, true, true, true, true, true, true, true, false, true, false, false, true, false, true, false, true, false, true, false, false, false, false, false, false, false, false]) (a' := ⟨[_, _, _, _, _, _, _, _, _, _, _, _, _, _, _, _, _, _, _, _, _, _, _, _, _, _, _, _, _, _, _, _, _, _, _, _, _, _, _, _, _, _, _, _, _].toArray, []⟩) rfl (by kernel_rfl) (by kernel_rfl) (by kernel_rfl) (by kernel_rfl) (by kernel_rfl) (fun _ _ _ h_ => h_) (by kernel_rfl) (fun w_ hS_ => ?go) (MW.Cells.cons j3a (MW.Cells.cons j3b (MW.Cells.cons j3c (MW.Cells.cons j3d (MW.Cells.cons j3e (MW.Cells.cons j3f (MW.Cells.cons j3g (MW.Cells.cons j3h (MW.Cells.cons j3q (MW.Cells.cons j3r (MW.Cells.cons j3s (MW.Cells.cons j3t (MW.Cells.cons j3u (MW.Cells.cons j3v (MW.Cells.cons j3w (MW.Cells.cons j3x MW.Cells.nil)))))))))))))))) (by kernel_rfl) rfl ?_
    case go => obtain ⟨_, hs1_, _, _, _, _, _, _, _, _, _, _, _, _, _, _, _⟩ := hS_; first | (go_simp; done) | (go_simp; rfl)
    refine MW.last_take (i := 13) (v := .int .i64 a0_3) (listed' := #[true, true, true, true, true, true, true, true, true, true, true, true, true, true, true, false, false, true, false, true, false, true, false, true, false, false, false, false, false, false, false, false]) (a' := ⟨[_, _, _, _, _, _, _, _, _, _, _, _, _, _, _, _, _, _, _, _, _, _, _, _, _, _, _, _, _, _, _, _, _, _, _, _, _, _, _, _, _, _, _, _, _].toArray, []⟩) rfl (by kernel_rfl) (by kernel_rfl) (by kernel_rfl) (by kernel_rfl) (by kernel_rfl) (fun _ _ _ h_ => h_) (by kernel_rfl) (fun w_ hS_ => ?go) (MW.Cells.cons j3a (MW.Cells.cons j3b (MW.Cells.cons j3c (MW.Cells.cons j3d (MW.Cells.cons j3e (MW.Cells.cons j3f (MW.Cells.cons j3g (MW.Cells.cons j3h (MW.Cells.cons j3q (MW.Cells.cons j3r (MW.Cells.cons j3s (MW.Cells.cons j3t (MW.Cells.cons j3u (MW.Cells.cons j3v (MW.Cells.cons j3w (MW.Cells.cons j3x MW.Cells.nil)))))))))))))))) (by kernel_rfl) rfl ?_
    case go => obtain ⟨_, _, _, hs3_, _, _, _, _, _, _, _, _, _, _, _, _, _⟩ := hS_; first | (go_simp; done) | (go_simp; rfl)
    refine MW.last_take (i := 15) (v := .string a0_5) (listed' := #[true, true, true, true, true, true, true, true, true, true, true, true, true, true, true, true, false, true, false, true, false, true, false, true, false, false, false, false, false, false, false, false]) (a' := ⟨[_, _, _, _, _, _, _, _, _, _, _, _, _, _, _, _, _, _, _, _, _, _, _, _, _, _, _, _, _, _, _, _, _, _, _, _, _, _, _, _, _, _, _, _, _].toArray, []⟩) rfl (by kernel_rfl) (by kernel_rfl) (by kernel_rfl) (by kernel_rfl) (by kernel_rfl) (fun _ _ _ h_ => h_) (by kernel_rfl) (fun w_ hS_ => ?go) (MW.Cells.cons j3a (MW.Cells.cons j3b (MW.Cells.cons j3c (MW.Cells.cons j3d (MW.Cells.cons j3e (MW.Cells.cons j3f (MW.Cells.cons j3g (MW.Cells.cons j3h (MW.Cells.cons j3q (MW.Cells.cons j3r (MW.Cells.cons j3s (MW.Cells.cons j3t (MW.Cells.cons j3u (MW.Cells.cons j3v (MW.Cells.cons j3w (MW.Cells.cons j3x MW.Cells.nil)))))))))))))))) (by kernel_rfl) rfl ?_
    case go => obtain ⟨_, _, _, _, _, hs5_, _, _, _, _, _, _, _, _, _, _, _⟩ := hS_; first | (go_simp; done) | (go_simp; rfl)
    refine MW.last_take (i := 18) (v := .int .i64 a0_0) (listed' := #[true, true, true, true, true, true, true, true, true, true, true, true, true, true, true, true, false, true, true, true, false, true, false, true, false, false, false, false, false, false, false, false]) (a' := ⟨[_, _, _, _, _, _, _, _, _, _, _, _, _, _, _, _, _, _, _, _, _, _, _, _, _, _, _, _, _, _, _, _, _, _, _, _, _, _, _, _, _, _, _, _, _].toArray, []⟩) rfl (by kernel_rfl) (by kernel_rfl) (by kernel_rfl) (by kernel_rfl) (by kernel_rfl) (fun _ _ _ h_ => h_) (by kernel_rfl) (fun w_ hS_ => ?go) (MW.Cells.cons j3a (MW.Cells.cons j3b (MW.Cells.cons j3c (MW.Cells.cons j3d (MW.Cells.cons j3e (MW.Cells.cons j3f (MW.Cells.cons j3g (MW.Cells.cons j3h (MW.Cells.cons j3q (MW.Cells.cons j3r (MW.Cells.cons j3s (MW.Cells.cons j3t (MW.Cells.cons j3u (MW.Cells.cons j3v (MW.Cells.cons j3w (MW.Cells.cons j3x MW.Cells.nil)))))))))))))))) (by kernel_rfl) rfl ?_
    case go => obtain ⟨hs0_, _, _, _, _, _, _, _, _, _, _, _, _, _, _, _, _⟩ := hS_; first | (go_simp; done) | (go_simp; rfl)
    refine MW.last_take (i := 20) (v := .int .i64 a0_1) (listed' := #[true, true, true, true, true, true, true, true, true, true, true, true, true, true, true, true, false, true, true, true, true, true, false, true, false, false, false, false, false, false, false, false]) (a' := ⟨[_, _, _, _, _, _, _, _, _, _, _, _, _, _, _, _, _, _, _, _, _, _, _, _, _, _, _, _, _, _, _, _, _, _, _, _, _, _, _, _, _, _, _, _, _].toArray, []⟩) rfl (by kernel_rfl) (by kernel_rfl) (by kernel_rfl) (by kernel_rfl) (by kernel_rfl) (fun _ _ _ h_ => h_) (by kernel_rfl) (fun w_ hS_ => ?go) (MW.Cells.cons j3a (MW.Cells.cons j3b (MW.Cells.cons j3c (MW.Cells.cons j3d (MW.Cells.cons j3e (MW.Cells.cons j3f (MW.Cells.cons j3g (MW.Cells.cons j3h (MW.Cells.cons j3q (MW.Cells.cons j3r (MW.Cells.cons j3s (MW.Cells.cons j3t (MW.Cells.cons j3u (MW.Cells.cons j3v (MW.Cells.cons j3w (MW.Cells.cons j3x MW.Cells.nil)))))))))))))))) (by kernel_rfl) rfl ?_
    case go => obtain ⟨_, hs1_, _, _, _, _, _, _, _, _, _, _, _, _, _, _, _⟩ := hS_; first | (go_simp; done) | (go_simp; rfl)
    refine MW.last_take (i := 22) (v := .int .i64 a0_3) (listed' := #[true, true, true, true, true, true, true, true, true, true, true, true, true, true, true, true, false, true, true, true, true, true, true, true, false, false, false, false, false, false, false, false]) (a' := ⟨[_, _, _, _, _, _, _, _, _, _, _, _, _, _, _, _, _, _, _, _, _, _, _, _, _, _, _, _, _, _, _, _, _, _, _, _, _, _, _, _, _, _, _, _, _].toArray, []⟩) rfl (by kernel_rfl) (by kernel_rfl) (by kernel_rfl) (by kernel_rfl) (by kernel_rfl) (fun _ _ _ h_ => h_) (by kernel_rfl) (fun w_ hS_ => ?go) (MW.Cells.cons j3a (MW.Cells.cons j3b (MW.Cells.cons j3c (MW.Cells.cons j3d (MW.Cells.cons j3e (MW.Cells.cons j3f (MW.Cells.cons j3g (MW.Cells.cons j3h (MW.Cells.cons j3q (MW.Cells.cons j3r (MW.Cells.cons j3s (MW.Cells.cons j3t (MW.Cells.cons j3u (MW.Cells.cons j3v (MW.Cells.cons j3w (MW.Cells.cons j3x MW.Cells.nil)))))))))))))))) (by kernel_rfl) rfl ?_
    case go => obtain ⟨_, _, _, hs3_, _, _, _, _, _, _, _, _, _, _, _, _, _⟩ := hS_; first | (go_simp; done) | (go_simp; rfl)
    refine MW.last_take (i := 24) (v := .string a0_5) (listed' := #[true, true, true, true, true, true, true, true, true, true, true, true, true, true, true, true, false, true, true, true, true, true, true, true, true, false, false, false, false, false, false, false]) (a' := ⟨[_, _, _, _, _, _, _, _, _, _, _, _, _, _, _, _, _, _, _, _, _, _, _, _, _, _, _, _, _, _, _, _, _, _, _, _, _, _, _, _, _, _, _, _, _].toArray, []⟩) rfl (by kernel_rfl) (by kernel_rfl) (by kernel_rfl) (by kernel_rfl) (by kernel_rfl) (fun _ _ _ h_ => h_) (by kernel_rfl) (fun w_ hS_ => ?go) (MW.Cells.cons j3a (MW.Cells.cons j3b (MW.Cells.cons j3c (MW.Cells.cons j3d (MW.Cells.cons j3e (MW.Cells.cons j3f (MW.Cells.cons j3g (MW.Cells.cons j3h (MW.Cells.cons j3q (MW.Cells.cons j3r (MW.Cells.cons j3s (MW.Cells.cons j3t (MW.Cells.cons j3u (MW.Cells.cons j3v (MW.Cells.cons j3w (MW.Cells.cons j3x MW.Cells.nil)))))))))))))))) (by kernel_rfl) rfl ?_
    case go => obtain ⟨_, _, _, _, _, hs5_, _, _, _, _, _, _, _, _, _, _, _⟩ := hS_; first | (go_simp; done) | (go_simp; rfl)
    refine MW.last_pure (i := 25) (v := .agg #[.int .i64 a0_0, .int .i64 a0_1, .bool false, .int .i64 a0_3, .string (⟨#[]⟩ : ByteArray), .string a0_5, .string (⟨#[]⟩ : ByteArray), .slice none 0 0]) (listed' := #[true, true, true, true, true, true, true, true, true, true, true, true, true, true, true, true, false, true, true, true, true, true, true, true, true, true, false, false, false, false, false, false]) (a' := ⟨[_, _, _, _, _, _, _, _, _, _, _, _, _, _, _, _, _, _, _, _, _, _, _, _, _, _, _, _, _, _, _, _, _, _, _, _, _, _, _, _, _, _, _, _, _].toArray, []⟩) rfl (by kernel_rfl) (by kernel_rfl) (by kernel_rfl) (fun _ _ _ h_ => h_) (.inl ⟨(by kernel_rfl), fun _ => (by first | rfl | (go_simp; done) | (go_simp; rfl) | (go_simp; simp only [MW.isEmpty_beq, bne, Bool.not_not]; done))⟩) (by kernel_rfl) rfl ?_
    refine MW.last_act (i := 16) (listed' := #[true, true, true, true, true, true, true, true, true, true, true, true, true, true, true, true, true, true, true, true, true, true, true, true, true, true, false, false, false, false, false, false]) rfl (by kernel_rfl) (by kernel_rfl) (by decide) ?_
    have H := HH.out
    replace H := Option.bind_eq_some_iff.mp H
    obtain ⟨⟨t232, t233, t234, t235, t236, t237, t238, t239⟩, at_, H⟩ := H
    have At240 := Aside0.mk at_
    clear at_
    (try dsimp only at H)
    replace HH := Aside0.mk H
    clear H
    go_wp2_with (((with_reducible refine gate_callee (f := 19) rfl ?_); (try (refine gate_guard (by rfl) ?_; dsimp only)); refine goesL_ (some 30) rfl rfl Try.func19 (by kernel_rfl) rfl #[.int .i64 a0_0, .int .i64 a0_1, .int .i64 a0_3, .string a0_5] rfl (by (try simp only [List.map_toArray, List.map_cons, List.map_nil]); first | done | rfl | (simp only [List.length_drop, List.length_take]; rfl)) ?_; (with_reducible refine (reply_Result.calls  a0_0 a0_1 a0_3 a0_5 t232 t233 t234 t235 t236 t237 t238 t239 _  At240.out).mono ?_); rintro e w241 ⟨v242, rfl, hn242, hb⟩; refine ⟨_, rfl, ?_⟩); refine stop_ ?_)
    refine Stop.go ?_
    have hba := Kd.N_base hn242
    have HN242 := Aside0.mk (Kd.N_mono (Kd.N_lower hn242 (below_size HB.out)) (fun k_ h_ => ⟨.inr (Nat.le_trans (below_size HB.out) h_), Kd.freshB (g := g1) BKg1.out k_ h_, Kd.freshB (g := g19) BKg19.out k_ h_⟩) : Kd.N k46 46 w241 w.heap.size (fun k_ => (P_ k_ ∨ w.heap.size ≤ k_) ∧ k_ ≠ g1 ∧ k_ ≠ g19) v242 t239)
    replace BKg1 := Aside0.mk (blk_below (g := g1) BKg1.out hb)
    replace BKg19 := Aside0.mk (blk_below (g := g19) BKg19.out hb)
    replace HB := Aside0.mk (below_step HB.out hb)
    clear hn242 hba hb
    clear j3a j3b j3c j3d j3e j3f j3g j3h j3i j3j j3k j3l j3m j3n j3o j3p j3q j3r j3s j3t j3u j3v j3w j3x j3y j3z j3A j3B j3C j3D j3E j3F
    obtain ⟨j3V, j3W, j3X, j3Y, j3Z, j40, j41, j42, j43, j44, j45, j46, j47, j48, j49, j4a⟩ := MB.lay8 BKg1.out
    obtain ⟨j4b, j4c, j4d, j4e, j4f, j4g, j4h, j4i, j4j, j4k, j4l, j4m, j4n, j4o, j4p, j4q⟩ := MB.lay8 BKg19.out
    refine wpList_nil ?_
    change MW.Cells _ _ ∧ wpAnyLast _ _ _ _ _ _ 6 #[true, true, true, true, true, true, true, true, true, true, true, true, true, true, true, true, true, true, true, true, true, true, true, true, true, true, false, false, false, false, false, false] ⟨[_, _, _, _, _, _, _, _, _, _, _, _, _, _, _, _, _, _, _, _, _, _, _, _, _, _, _, _, _, _, _, _, _, _, _, _, _, _, _, _, _, _, _, _, _].toArray, []⟩ _
    refine ⟨(MW.Cells.cons j3V (MW.Cells.cons j3W (MW.Cells.cons j3X (MW.Cells.cons j3Y (MW.Cells.cons j3Z (MW.Cells.cons j40 (MW.Cells.cons j41 (MW.Cells.cons j42 (MW.Cells.cons j4b (MW.Cells.cons j4c (MW.Cells.cons j4d (MW.Cells.cons j4e (MW.Cells.cons j4f (MW.Cells.cons j4g (MW.Cells.cons j4h (MW.Cells.cons j4i MW.Cells.nil)))))))))))))))), ?_⟩
    refine MW.last_fin (i := 26) (listed' := #[true, true, true, true, true, true, true, true, true, true, true, true, true, true, true, true, true, true, true, true, true, true, true, true, true, true, true, false, false, false, false, false]) rfl (by kernel_rfl) (by kernel_rfl) (by kernel_rfl) ?_
    obtain ⟨A275, cp276, he_⟩ := Kd.N_slice HN242.out
    subst he_
    have HL278 := Aside0.mk (Kd.N_reads' HN242.out).2.1
    have HF277 := Aside0.mk (Kd.N_F HN242.out)
    clear HN242
    have H := HH.out
    replace H := Option.bind_eq_some_iff.mp H
    obtain ⟨t279, at_, H⟩ := H
    have At280 := Aside0.mk at_
    clear at_
    (try dsimp only at H)
    replace HH := Aside0.mk H
    clear H
    go_wp2_with (((with_reducible refine gate_callee (f := 17) rfl ?_); (try (refine gate_guard (by rfl) ?_; dsimp only)); refine goesL_ (some 40) rfl rfl Try.func17 (by kernel_rfl) rfl #[.agg #[.int .i64 t232, .int .i64 t233, .bool t234, .int .i64 t235, .string t236, .string t237, .string t238, .slice A275 t239.length cp276], .agg #[.int .i64 a0_0, .int .i64 a0_1, .bool false, .int .i64 a0_3, .string (⟨#[]⟩ : ByteArray), .string a0_5, .string (⟨#[]⟩ : ByteArray), .slice none 0 0]] rfl (by (try simp only [List.map_toArray, List.map_cons, List.map_nil]); first | done | rfl | (simp only [List.length_drop, List.length_take]; rfl)) ?_; (refine (toponymref27_Same.calls k (fun k_ => (P_ k_ ∨ w.heap.size ≤ k_) ∧ k_ ≠ g1 ∧ k_ ≠ g19) t232 t233 t234 t235 t236 t237 t238 _ _ t239 a0_0 a0_1 false a0_3 (⟨#[]⟩ : ByteArray) a0_5 (⟨#[]⟩ : ByteArray) _ _ ([] : List (S46)) t279 _ (Kd.F_mono (ok := (fun k_ => (P_ k_ ∨ w.heap.size ≤ k_) ∧ k_ ≠ g1 ∧ k_ ≠ g19)) HF277.out (fun k_ hk_ => ⟨hk_.1, hk_.2.1, hk_.2.2⟩)) HL278.out (Kd.F_nil _ _ _) (Nat.le_refl _) At280.out).mono ?_); rintro e w281 ⟨rfl, hb⟩; refine ⟨_, rfl, ?_⟩); refine stop_ ?_)
    refine Stop.go ?_
    replace BKg1 := Aside0.mk (blk_below (g := g1) BKg1.out hb)
    replace BKg19 := Aside0.mk (blk_below (g := g19) BKg19.out hb)
    replace HB := Aside0.mk (below_step HB.out hb)
    clear hb
    clear j3V j3W j3X j3Y j3Z j40 j41 j42 j43 j44 j45 j46 j47 j48 j49 j4a j4b j4c j4d j4e j4f j4g j4h j4i j4j j4k j4l j4m j4n j4o j4p j4q
    obtain ⟨j4y, j4z, j4A, j4B, j4C, j4D, j4E, j4F, j4G, j4H, j4I, j4J, j4K, j4L, j4M, j4N⟩ := MB.lay8 BKg1.out
    obtain ⟨j4O, j4P, j4Q, j4R, j4S, j4T, j4U, j4V, j4W, j4X, j4Y, j4Z, j50, j51, j52, j53⟩ := MB.lay8 BKg19.out
    refine wpList_nil ?_
    change wpAnyLast _ _ _ _ _ _ 5 #[true, true, true, true, true, true, true, true, true, true, true, true, true, true, true, true, true, true, true, true, true, true, true, true, true, true, true, false, false, false, false, false] ⟨[_, _, _, _, _, _, _, _, _, _, _, _, _, _, _, _, _, _, _, _, _, _, _, _, _, _, _, _, _, _, _, _, _, _, _, _, _, _, _, _, _, _, _, _, _].toArray, []⟩ _
    refine MW.last_pure (i := 27) (v := .bool t279) (listed' := #[true, true, true, true, true, true, true, true, true, true, true, true, true, true, true, true, true, true, true, true, true, true, true, true, true, true, true, true, false, false, false, false]) (a' := ⟨[_, _, _, _, _, _, _, _, _, _, _, _, _, _, _, _, _, _, _, _, _, _, _, _, _, _, _, _, _, _, _, _, _, _, _, _, _, _, _, _, _, _, _, _, _].toArray, []⟩) rfl (by kernel_rfl) (by kernel_rfl) (by kernel_rfl) (fun _ _ _ h_ => h_) (.inl ⟨(by kernel_rfl), fun _ => (by first | rfl | (go_simp; done) | (go_simp; rfl) | (go_simp; simp only [MW.isEmpty_beq, bne, Bool.not_not]; done))⟩) (by kernel_rfl) rfl ?_
    refine MW.last_pure (i := 28) (v := .bool t279) (listed' := #[true, true, true, true, true, true, true, true, true, true, true, true, true, true, true, true, true, true, true, true, true, true, true, true, true, true, true, true, true, false, false, false]) (a' := ⟨[_, _, _, _, _, _, _, _, _, _, _, _, _, _, _, _, _, _, _, _, _, _, _, _, _, _, _, _, _, _, _, _, _, _, _, _, _, _, _, _, _, _, _, _, _].toArray, []⟩) rfl (by kernel_rfl) (by kernel_rfl) (by kernel_rfl) (fun _ _ _ h_ => h_) (.inl ⟨(by kernel_rfl), fun _ => (by first | rfl | (go_simp; done) | (go_simp; rfl) | (go_simp; simp only [MW.isEmpty_beq, bne, Bool.not_not]; done))⟩) (by kernel_rfl) rfl ?_
    by_cases c314 : t279 = true
    ·replace HH := MW.hpos HH c314
     subst c314
     refine MW.last_fin (i := 29) (listed' := #[true, true, true, true, true, true, true, true, true, true, true, true, true, true, true, true, true, true, true, true, true, true, true, true, true, true, true, true, true, true, false, false]) rfl (by kernel_rfl) (by kernel_rfl) (by kernel_rfl) ?_
     have H := HH.out
     replace H := Option.bind_eq_some_iff.mp H
     obtain ⟨t315, at_, H⟩ := H
     have At316 := Aside0.mk at_
     clear at_
     replace HH := Aside0.mk (show (some t315) = some r from H)
     clear H
     go_wp2_with (((with_reducible refine gate_callee (f := 8) rfl ?_); (try (refine gate_guard (by rfl) ?_; dsimp only)); refine goesL_ (some 43) rfl rfl Try.func8 (by kernel_rfl) rfl #[] rfl (by (try simp only [List.map_toArray, List.map_cons, List.map_nil]); first | done | rfl | (simp only [List.length_drop, List.length_take]; rfl)) ?_; (with_reducible refine (toponymlaw27_awake.calls k  t315 _  At316.out).mono ?_); rintro e w317 ⟨rfl, hb⟩; refine ⟨_, rfl, ?_⟩); refine stop_ ?_)
     refine Stop.go ?_
     replace BKg1 := Aside0.mk (blk_below (g := g1) BKg1.out hb)
     replace BKg19 := Aside0.mk (blk_below (g := g19) BKg19.out hb)
     replace HB := Aside0.mk (below_step HB.out hb)
     clear hb
     clear j4y j4z j4A j4B j4C j4D j4E j4F j4G j4H j4I j4J j4K j4L j4M j4N j4O j4P j4Q j4R j4S j4T j4U j4V j4W j4X j4Y j4Z j50 j51 j52 j53
     obtain ⟨j58, j59, j5a, j5b, j5c, j5d, j5e, j5f, j5g, j5h, j5i, j5j, j5k, j5l, j5m, j5n⟩ := MB.lay8 BKg1.out
     obtain ⟨j5o, j5p, j5q, j5r, j5s, j5t, j5u, j5v, j5w, j5x, j5y, j5z, j5A, j5B, j5C, j5D⟩ := MB.lay8 BKg19.out
     refine wpList_nil ?_
     change wpAnyLast _ _ _ _ _ _ 2 #[true, true, true, true, true, true, true, true, true, true, true, true, true, true, true, true, true, true, true, true, true, true, true, true, true, true, true, true, true, true, false, false] ⟨[_, _, _, _, _, _, _, _, _, _, _, _, _, _, _, _, _, _, _, _, _, _, _, _, _, _, _, _, _, _, _, _, _, _, _, _, _, _, _, _, _, _, _, _, _].toArray, []⟩ _
     refine MW.last_pure (i := 30) (v := .bool t315) (listed' := #[true, true, true, true, true, true, true, true, true, true, true, true, true, true, true, true, true, true, true, true, true, true, true, true, true, true, true, true, true, true, true, false]) (a' := ⟨[_, _, _, _, _, _, _, _, _, _, _, _, _, _, _, _, _, _, _, _, _, _, _, _, _, _, _, _, _, _, _, _, _, _, _, _, _, _, _, _, _, _, _, _, _].toArray, []⟩) rfl (by kernel_rfl) (by kernel_rfl) (by kernel_rfl) (fun _ _ _ h_ => h_) (.inl ⟨(by kernel_rfl), fun _ => (by first | rfl | (go_simp; done) | (go_simp; rfl) | (go_simp; simp only [MW.isEmpty_beq, bne, Bool.not_not]; done))⟩) (by kernel_rfl) rfl ?_
     refine MW.last_pure (i := 31) (v := .bool t315) (listed' := #[true, true, true, true, true, true, true, true, true, true, true, true, true, true, true, true, true, true, true, true, true, true, true, true, true, true, true, true, true, true, true, true]) (a' := ⟨[_, _, _, _, _, _, _, _, _, _, _, _, _, _, _, _, _, _, _, _, _, _, _, _, _, _, _, _, _, _, _, _, _, _, _, _, _, _, _, _, _, _, _, _, _].toArray, []⟩) rfl (by kernel_rfl) (by kernel_rfl) (by kernel_rfl) (fun _ _ _ h_ => h_) (.inl ⟨(by kernel_rfl), fun _ => (by first | rfl | (go_simp; done) | (go_simp; rfl) | (go_simp; simp only [MW.isEmpty_beq, bne, Bool.not_not]; done))⟩) (by kernel_rfl) rfl ?_
     refine MW.last_done (by kernel_rfl) ?_ _
     clear hwr_
     have H := HH.out
     obtain rfl := Option.some.inj H
     clear HH
     go_wp2
     go_ret
     exact ⟨by first | rfl | (simp; done) | (simp [*]; done), HB.out⟩
    replace HH := MW.hneg HH c314
    replace c314 := Bool.eq_false_iff.mpr c314
    subst c314
    refine MW.last_pure (i := 29) (v := undef) (listed' := #[true, true, true, true, true, true, true, true, true, true, true, true, true, true, true, true, true, true, true, true, true, true, true, true, true, true, true, true, true, true, false, false]) (a' := ⟨[_, _, _, _, _, _, _, _, _, _, _, _, _, _, _, _, _, _, _, _, _, _, _, _, _, _, _, _, _, _, _, _, _, _, _, _, _, _, _, _, _, _, _, _, _].toArray, []⟩) rfl (by kernel_rfl) (by kernel_rfl) (by kernel_rfl) (fun _ _ _ h_ => h_) (.inr ⟨(by kernel_rfl), rfl⟩) (by kernel_rfl) rfl ?_
    refine MW.last_pure (i := 30) (v := .bool false) (listed' := #[true, true, true, true, true, true, true, true, true, true, true, true, true, true, true, true, true, true, true, true, true, true, true, true, true, true, true, true, true, true, true, false]) (a' := ⟨[_, _, _, _, _, _, _, _, _, _, _, _, _, _, _, _, _, _, _, _, _, _, _, _, _, _, _, _, _, _, _, _, _, _, _, _, _, _, _, _, _, _, _, _, _].toArray, []⟩) rfl (by kernel_rfl) (by kernel_rfl) (by kernel_rfl) (fun _ _ _ h_ => h_) (.inl ⟨(by kernel_rfl), fun _ => (by first | rfl | (go_simp; done) | (go_simp; rfl) | (go_simp; simp only [MW.isEmpty_beq, bne, Bool.not_not]; done))⟩) (by kernel_rfl) rfl ?_
    refine MW.last_pure (i := 31) (v := .bool false) (listed' := #[true, true, true, true, true, true, true, true, true, true, true, true, true, true, true, true, true, true, true, true, true, true, true, true, true, true, true, true, true, true, true, true]) (a' := ⟨[_, _, _, _, _, _, _, _, _, _, _, _, _, _, _, _, _, _, _, _, _, _, _, _, _, _, _, _, _, _, _, _, _, _, _, _, _, _, _, _, _, _, _, _, _].toArray, []⟩) rfl (by kernel_rfl) (by kernel_rfl) (by kernel_rfl) (fun _ _ _ h_ => h_) (.inl ⟨(by kernel_rfl), fun _ => (by first | rfl | (go_simp; done) | (go_simp; rfl) | (go_simp; simp only [MW.isEmpty_beq, bne, Bool.not_not]; done))⟩) (by kernel_rfl) rfl ?_
    refine MW.last_done (by kernel_rfl) ?_ _
    clear hwr_
    have H := HH.out
    obtain rfl := Option.some.inj H
    clear HH
    go_wp2
    go_ret
    exact ⟨by first | rfl | (simp; done) | (simp [*]; done), HB.out⟩
   replace HH := MW.hneg HH c228
   have hk350 : (t158 == t193) = false := by simpa using c228
   (try simp only [hk350, Bool.not_true, Bool.not_false])
   try have hk351 : decide (t158 = t193) = false := by simpa using c228
   try have hk352 : (t158 == t193) = false := by simpa using c228
   try have hk353 : ¬ (t158 = t193) := by simpa using c228
   clear c228
   refine MW.last_pure (i := 8) (v := undef) (listed' := #[true, true, true, true, true, true, true, true, true, false, false, false, false, false, false, false, false, false, false, false, false, false, false, false, false, false, false, false, false, false, false, false]) (a' := ⟨[_, _, _, _, _, _, _, _, _, _, _, _, _, _, _, _, _, _, _, _, _, _, _, _, _, _, _, _, _, _, _, _, _, _, _, _, _, _, _, _, _, _, _, _, _].toArray, []⟩) rfl (by kernel_rfl) (by kernel_rfl) (by kernel_rfl) (fun _ _ _ h_ => h_) (.inr ⟨(by kernel_rfl), rfl⟩) (by kernel_rfl) rfl ?_
   refine MW.last_pure (i := 9) (v := undef) (listed' := #[true, true, true, true, true, true, true, true, true, true, false, false, false, false, false, false, false, false, false, false, false, false, false, false, false, false, false, false, false, false, false, false]) (a' := ⟨[_, _, _, _, _, _, _, _, _, _, _, _, _, _, _, _, _, _, _, _, _, _, _, _, _, _, _, _, _, _, _, _, _, _, _, _, _, _, _, _, _, _, _, _, _].toArray, []⟩) rfl (by kernel_rfl) (by kernel_rfl) (by kernel_rfl) (fun _ _ _ h_ => h_) (.inr ⟨(by kernel_rfl), rfl⟩) (by kernel_rfl) rfl ?_
   refine MW.last_pure (i := 10) (v := undef) (listed' := #[true, true, true, true, true, true, true, true, true, true, true, false, false, false, false, false, false, false, false, false, false, false, false, false, false, false, false, false, false, false, false, false]) (a' := ⟨[_, _, _, _, _, _, _, _, _, _, _, _, _, _, _, _, _, _, _, _, _, _, _, _, _, _, _, _, _, _, _, _, _, _, _, _, _, _, _, _, _, _, _, _, _].toArray, []⟩) rfl (by kernel_rfl) (by kernel_rfl) (by kernel_rfl) (fun _ _ _ h_ => h_) (.inr ⟨(by kernel_rfl), rfl⟩) (by kernel_rfl) rfl ?_
   refine MW.last_pure (i := 11) (v := undef) (listed' := #[true, true, true, true, true, true, true, true, true, true, true, true, false, false, false, false, false, false, false, false, false, false, false, false, false, false, false, false, false, false, false, false]) (a' := ⟨[_, _, _, _, _, _, _, _, _, _, _, _, _, _, _, _, _, _, _, _, _, _, _, _, _, _, _, _, _, _, _, _, _, _, _, _, _, _, _, _, _, _, _, _, _].toArray, []⟩) rfl (by kernel_rfl) (by kernel_rfl) (by kernel_rfl) (fun _ _ _ h_ => h_) (.inr ⟨(by kernel_rfl), rfl⟩) (by kernel_rfl) rfl ?_
   refine MW.last_pure (i := 12) (v := undef) (listed' := #[true, true, true, true, true, true, true, true, true, true, true, true, true, false, false, false, false, false, false, false, false, false, false, false, false, false, false, false, false, false, false, false]) (a' := ⟨[_, _, _, _, _, _, _, _, _, _, _, _, _, _, _, _, _, _, _, _, _, _, _, _, _, _, _, _, _, _, _, _, _, _, _, _, _, _, _, _, _, _, _, _, _].toArray, []⟩) rfl (by kernel_rfl) (by kernel_rfl) (by kernel_rfl) (fun _ _ _ h_ => h_) (.inr ⟨(by kernel_rfl), rfl⟩) (by kernel_rfl) rfl ?_
   refine MW.last_pure (i := 13) (v := undef) (listed' := #[true, true, true, true, true, true, true, true, true, true, true, true, true, true, false, false, false, false, false, false, false, false, false, false, false, false, false, false, false, false, false, false]) (a' := ⟨[_, _, _, _, _, _, _, _, _, _, _, _, _, _, _, _, _, _, _, _, _, _, _, _, _, _, _, _, _, _, _, _, _, _, _, _, _, _, _, _, _, _, _, _, _].toArray, []⟩) rfl (by kernel_rfl) (by kernel_rfl) (by kernel_rfl) (fun _ _ _ h_ => h_) (.inr ⟨(by kernel_rfl), rfl⟩) (by kernel_rfl) rfl ?_
   refine MW.last_pure (i := 14) (v := undef) (listed' := #[true, true, true, true, true, true, true, true, true, true, true, true, true, true, true, false, false, false, false, false, false, false, false, false, false, false, false, false, false, false, false, false]) (a' := ⟨[_, _, _, _, _, _, _, _, _, _, _, _, _, _, _, _, _, _, _, _, _, _, _, _, _, _, _, _, _, _, _, _, _, _, _, _, _, _, _, _, _, _, _, _, _].toArray, []⟩) rfl (by kernel_rfl) (by kernel_rfl) (by kernel_rfl) (fun _ _ _ h_ => h_) (.inr ⟨(by kernel_rfl), rfl⟩) (by kernel_rfl) rfl ?_
   refine MW.last_pure (i := 15) (v := undef) (listed' := #[true, true, true, true, true, true, true, true, true, true, true, true, true, true, true, true, false, false, false, false, false, false, false, false, false, false, false, false, false, false, false, false]) (a' := ⟨[_, _, _, _, _, _, _, _, _, _, _, _, _, _, _, _, _, _, _, _, _, _, _, _, _, _, _, _, _, _, _, _, _, _, _, _, _, _, _, _, _, _, _, _, _].toArray, []⟩) rfl (by kernel_rfl) (by kernel_rfl) (by kernel_rfl) (fun _ _ _ h_ => h_) (.inr ⟨(by kernel_rfl), rfl⟩) (by kernel_rfl) rfl ?_
   refine MW.last_pure (i := 16) (v := undef) (listed' := #[true, true, true, true, true, true, true, true, true, true, true, true, true, true, true, true, true, false, false, false, false, false, false, false, false, false, false, false, false, false, false, false]) (a' := ⟨[_, _, _, _, _, _, _, _, _, _, _, _, _, _, _, _, _, _, _, _, _, _, _, _, _, _, _, _, _, _, _, _, _, _, _, _, _, _, _, _, _, _, _, _, _].toArray, []⟩) rfl (by kernel_rfl) (by kernel_rfl) (by kernel_rfl) (fun _ _ _ h_ => h_) (.inr ⟨(by kernel_rfl), rfl⟩) (by kernel_rfl) rfl ?_
   refine MW.last_pure (i := 17) (v := undef) (listed' := #[true, true, true, true, true, true, true, true, true, true, true, true, true, true, true, true, true, true, false, false, false, false, false, false, false, false, false, false, false, false, false, false]) (a' := ⟨[_, _, _, _, _, _, _, _, _, _, _, _, _, _, _, _, _, _, _, _, _, _, _, _, _, _, _, _, _, _, _, _, _, _, _, _, _, _, _, _, _, _, _, _, _].toArray, []⟩) rfl (by kernel_rfl) (by kernel_rfl) (by kernel_rfl) (fun _ _ _ h_ => h_) (.inr ⟨(by kernel_rfl), rfl⟩) (by kernel_rfl) rfl ?_
   refine MW.last_pure (i := 18) (v := undef) (listed' := #[true, true, true, true, true, true, true, true, true, true, true, true, true, true, true, true, true, true, true, false, false, false, false, false, false, false, false, false, false, false, false, false]) (a' := ⟨[_, _, _, _, _, _, _, _, _, _, _, _, _, _, _, _, _, _, _, _, _, _, _, _, _, _, _, _, _, _, _, _, _, _, _, _, _, _, _, _, _, _, _, _, _].toArray, []⟩) rfl (by kernel_rfl) (by kernel_rfl) (by kernel_rfl) (fun _ _ _ h_ => h_) (.inr ⟨(by kernel_rfl), rfl⟩) (by kernel_rfl) rfl ?_
   refine MW.last_pure (i := 19) (v := undef) (listed' := #[true, true, true, true, true, true, true, true, true, true, true, true, true, true, true, true, true, true, true, true, false, false, false, false, false, false, false, false, false, false, false, false]) (a' := ⟨[_, _, _, _, _, _, _, _, _, _, _, _, _, _, _, _, _, _, _, _, _, _, _, _, _, _, _, _, _, _, _, _, _, _, _, _, _, _, _, _, _, _, _, _, _].toArray, []⟩) rfl (by kernel_rfl) (by kernel_rfl) (by kernel_rfl) (fun _ _ _ h_ => h_) (.inr ⟨(by kernel_rfl), rfl⟩) (by kernel_rfl) rfl ?_
   refine MW.last_pure (i := 20) (v := undef) (listed' := #[true, true, true, true, true, true, true, true, true, true, true, true, true, true, true, true, true, true, true, true, true, false, false, false, false, false, false, false, false, false, false, false]) (a' := ⟨[_, _, _, _, _, _, _, _, _, _, _, _, _, _, _, _, _, _, _, _, _, _, _, _, _, _, _, _, _, _, _, _, _, _, _, _, _, _, _, _, _, _, _, _, _].toArray, []⟩) rfl (by kernel_rfl) (by kernel_rfl) (by kernel_rfl) (fun _ _ _ h_ => h_) (.inr ⟨(by kernel_rfl), rfl⟩) (by kernel_rfl) rfl ?_
   refine MW.last_pure (i := 21) (v := undef) (listed' := #[true, true, true, true, true, true, true, true, true, true, true, true, true, true, true, true, true, true, true, true, true, true, false, false, false, false, false, false, false, false, false, false]) (a' := ⟨[_, _, _, _, _, _, _, _, _, _, _, _, _, _, _, _, _, _, _, _, _, _, _, _, _, _, _, _, _, _, _, _, _, _, _, _, _, _, _, _, _, _, _, _, _].toArray, []⟩) rfl (by kernel_rfl) (by kernel_rfl) (by kernel_rfl) (fun _ _ _ h_ => h_) (.inr ⟨(by kernel_rfl), rfl⟩) (by kernel_rfl) rfl ?_
   refine MW.last_pure (i := 22) (v := undef) (listed' := #[true, true, true, true, true, true, true, true, true, true, true, true, true, true, true, true, true, true, true, true, true, true, true, false, false, false, false, false, false, false, false, false]) (a' := ⟨[_, _, _, _, _, _, _, _, _, _, _, _, _, _, _, _, _, _, _, _, _, _, _, _, _, _, _, _, _, _, _, _, _, _, _, _, _, _, _, _, _, _, _, _, _].toArray, []⟩) rfl (by kernel_rfl) (by kernel_rfl) (by kernel_rfl) (fun _ _ _ h_ => h_) (.inr ⟨(by kernel_rfl), rfl⟩) (by kernel_rfl) rfl ?_
   refine MW.last_pure (i := 23) (v := undef) (listed' := #[true, true, true, true, true, true, true, true, true, true, true, true, true, true, true, true, true, true, true, true, true, true, true, true, false, false, false, false, false, false, false, false]) (a' := ⟨[_, _, _, _, _, _, _, _, _, _, _, _, _, _, _, _, _, _, _, _, _, _, _, _, _, _, _, _, _, _, _, _, _, _, _, _, _, _, _, _, _, _, _, _, _].toArray, []⟩) rfl (by kernel_rfl) (by kernel_rfl) (by kernel_rfl) (fun _ _ _ h_ => h_) (.inr ⟨(by kernel_rfl), rfl⟩) (by kernel_rfl) rfl ?_
   refine MW.last_pure (i := 24) (v := undef) (listed' := #[true, true, true, true, true, true, true, true, true, true, true, true, true, true, true, true, true, true, true, true, true, true, true, true, true, false, false, false, false, false, false, false]) (a' := ⟨[_, _, _, _, _, _, _, _, _, _, _, _, _, _, _, _, _, _, _, _, _, _, _, _, _, _, _, _, _, _, _, _, _, _, _, _, _, _, _, _, _, _, _, _, _].toArray, []⟩) rfl (by kernel_rfl) (by kernel_rfl) (by kernel_rfl) (fun _ _ _ h_ => h_) (.inr ⟨(by kernel_rfl), rfl⟩) (by kernel_rfl) rfl ?_
   refine MW.last_pure (i := 25) (v := undef) (listed' := #[true, true, true, true, true, true, true, true, true, true, true, true, true, true, true, true, true, true, true, true, true, true, true, true, true, true, false, false, false, false, false, false]) (a' := ⟨[_, _, _, _, _, _, _, _, _, _, _, _, _, _, _, _, _, _, _, _, _, _, _, _, _, _, _, _, _, _, _, _, _, _, _, _, _, _, _, _, _, _, _, _, _].toArray, []⟩) rfl (by kernel_rfl) (by kernel_rfl) (by kernel_rfl) (fun _ _ _ h_ => h_) (.inr ⟨(by kernel_rfl), rfl⟩) (by kernel_rfl) rfl ?_
   refine MW.last_pure (i := 26) (v := undef) (listed' := #[true, true, true, true, true, true, true, true, true, true, true, true, true, true, true, true, true, true, true, true, true, true, true, true, true, true, true, false, false, false, false, false]) (a' := ⟨[_, _, _, _, _, _, _, _, _, _, _, _, _, _, _, _, _, _, _, _, _, _, _, _, _, _, _, _, _, _, _, _, _, _, _, _, _, _, _, _, _, _, _, _, _].toArray, []⟩) rfl (by kernel_rfl) (by kernel_rfl) (by kernel_rfl) (fun _ _ _ h_ => h_) (.inr ⟨(by kernel_rfl), rfl⟩) (by kernel_rfl) rfl ?_
   refine MW.last_pure (i := 27) (v := .bool false) (listed' := #[true, true, true, true, true, true, true, true, true, true, true, true, true, true, true, true, true, true, true, true, true, true, true, true, true, true, true, true, false, false, false, false]) (a' := ⟨[_, _, _, _, _, _, _, _, _, _, _, _, _, _, _, _, _, _, _, _, _, _, _, _, _, _, _, _, _, _, _, _, _, _, _, _, _, _, _, _, _, _, _, _, _].toArray, []⟩) rfl (by kernel_rfl) (by kernel_rfl) (by kernel_rfl) (fun _ _ _ h_ => h_) (.inl ⟨(by kernel_rfl), fun _ => (by first | rfl | (go_simp; done) | (go_simp; rfl) | (go_simp; simp only [MW.isEmpty_beq, bne, Bool.not_not]; done))⟩) (by kernel_rfl) rfl ?_
   refine MW.last_pure (i := 28) (v := .bool false) (listed' := #[true, true, true, true, true, true, true, true, true, true, true, true, true, true, true, true, true, true, true, true, true, true, true, true, true, true, true, true, true, false, false, false]) (a' := ⟨[_, _, _, _, _, _, _, _, _, _, _, _, _, _, _, _, _, _, _, _, _, _, _, _, _, _, _, _, _, _, _, _, _, _, _, _, _, _, _, _, _, _, _, _, _].toArray, []⟩) rfl (by kernel_rfl) (by kernel_rfl) (by kernel_rfl) (fun _ _ _ h_ => h_) (.inl ⟨(by kernel_rfl), fun _ => (by first | rfl | (go_simp; done) | (go_simp; rfl) | (go_simp; simp only [MW.isEmpty_beq, bne, Bool.not_not]; done))⟩) (by kernel_rfl) rfl ?_
   refine MW.last_pure (i := 29) (v := undef) (listed' := #[true, true, true, true, true, true, true, true, true, true, true, true, true, true, true, true, true, true, true, true, true, true, true, true, true, true, true, true, true, true, false, false]) (a' := ⟨[_, _, _, _, _, _, _, _, _, _, _, _, _, _, _, _, _, _, _, _, _, _, _, _, _, _, _, _, _, _, _, _, _, _, _, _, _, _, _, _, _, _, _, _, _].toArray, []⟩) rfl (by kernel_rfl) (by kernel_rfl) (by kernel_rfl) (fun _ _ _ h_ => h_) (.inr ⟨(by kernel_rfl), rfl⟩) (by kernel_rfl) rfl ?_
   refine MW.last_pure (i := 30) (v := .bool false) (listed' := #[true, true, true, true, true, true, true, true, true, true, true, true, true, true, true, true, true, true, true, true, true, true, true, true, true, true, true, true, true, true, true, false]) (a' := ⟨[_, _, _, _, _, _, _, _, _, _, _, _, _, _, _, _, _, _, _, _, _, _, _, _, _, _, _, _, _, _, _, _, _, _, _, _, _, _, _, _, _, _, _, _, _].toArray, []⟩) rfl (by kernel_rfl) (by kernel_rfl) (by kernel_rfl) (fun _ _ _ h_ => h_) (.inl ⟨(by kernel_rfl), fun _ => (by first | rfl | (go_simp; done) | (go_simp; rfl) | (go_simp; simp only [MW.isEmpty_beq, bne, Bool.not_not]; done))⟩) (by kernel_rfl) rfl ?_
   refine MW.last_pure (i := 31) (v := .bool false) (listed' := #[true, true, true, true, true, true, true, true, true, true, true, true, true, true, true, true, true, true, true, true, true, true, true, true, true, true, true, true, true, true, true, true]) (a' := ⟨[_, _, _, _, _, _, _, _, _, _, _, _, _, _, _, _, _, _, _, _, _, _, _, _, _, _, _, _, _, _, _, _, _, _, _, _, _, _, _, _, _, _, _, _, _].toArray, []⟩) rfl (by kernel_rfl) (by kernel_rfl) (by kernel_rfl) (fun _ _ _ h_ => h_) (.inl ⟨(by kernel_rfl), fun _ => (by first | rfl | (go_simp; done) | (go_simp; rfl) | (go_simp; simp only [MW.isEmpty_beq, bne, Bool.not_not]; done))⟩) (by kernel_rfl) rfl ?_
   refine MW.last_done (by kernel_rfl) ?_ _
   clear hwr_
   have H := HH.out
   obtain rfl := Option.some.inj H
   clear HH
   go_wp2
   go_ret
   exact ⟨by first | rfl | (simp; done) | (simp [*]; done), HB.out⟩
  replace HH := MW.hneg HH c124
  replace c124 := Bool.eq_false_iff.mpr c124
  subst c124
  have H := HH.out
  replace H := Option.bind_eq_some_iff.mp H
  obtain ⟨t354, at_, H⟩ := H
  have At355 := Aside0.mk at_
  clear at_
  replace HH := Aside0.mk (show (some t354) = some r from H)
  clear H
  go_wp2_with (((with_reducible refine gate_callee (f := 8) rfl ?_); (try (refine gate_guard (by rfl) ?_; dsimp only)); refine goesL_ (some 13) rfl rfl Try.func8 (by kernel_rfl) rfl #[] rfl (by (try simp only [List.map_toArray, List.map_cons, List.map_nil]); first | done | rfl | (simp only [List.length_drop, List.length_take]; rfl)) ?_; (with_reducible refine (toponymlaw27_awake.calls k  t354 _  At355.out).mono ?_); rintro e w356 ⟨rfl, hb⟩; refine ⟨_, rfl, ?_⟩); refine stop_ ?_)
  refine Stop.go ?_
  replace BKg1 := Aside0.mk (blk_below (g := g1) BKg1.out hb)
  replace BKg19 := Aside0.mk (blk_below (g := g19) BKg19.out hb)
  replace HB := Aside0.mk (below_step HB.out hb)
  clear hb
  clear j1u j1v j1w j1x j1y j1z j1A j1B j1C j1D j1E j1F j1G j1H j1I j1J j1K j1L j1M j1N j1O j1P j1Q j1R j1S j1T j1U j1V j1W j1X j1Y j1Z
  obtain ⟨j5L, j5M, j5N, j5O, j5P, j5Q, j5R, j5S, j5T, j5U, j5V, j5W, j5X, j5Y, j5Z, j60⟩ := MB.lay8 BKg1.out
  obtain ⟨j61, j62, j63, j64, j65, j66, j67, j68, j69, j6a, j6b, j6c, j6d, j6e, j6f, j6g⟩ := MB.lay8 BKg19.out
  have H := HH.out
  obtain rfl := Option.some.inj H
  clear HH
  go_wp2
  go_ret
  exact ⟨by first | rfl | (simp; done) | (simp [*]; done), HB.out⟩
 replace HH := MW.hneg HH c88
 replace c88 := Bool.eq_false_iff.mpr c88
 subst c88
 have H := HH.out
 replace H := Option.bind_eq_some_iff.mp H
 obtain ⟨t389, at_, H⟩ := H
 have At390 := Aside0.mk at_
 clear at_
 replace HH := Aside0.mk (show (some t389) = some r from H)
 clear H
 go_wp2_with (((with_reducible refine gate_callee (f := 8) rfl ?_); (try (refine gate_guard (by rfl) ?_; dsimp only)); refine goesL_ (some 13) rfl rfl Try.func8 (by kernel_rfl) rfl #[] rfl (by (try simp only [List.map_toArray, List.map_cons, List.map_nil]); first | done | rfl | (simp only [List.length_drop, List.length_take]; rfl)) ?_; (with_reducible refine (toponymlaw27_awake.calls k  t389 _  At390.out).mono ?_); rintro e w391 ⟨rfl, hb⟩; refine ⟨_, rfl, ?_⟩); refine stop_ ?_)
 refine Stop.go ?_
 replace BKg1 := Aside0.mk (blk_below (g := g1) BKg1.out hb)
 replace BKg19 := Aside0.mk (blk_below (g := g19) BKg19.out hb)
 replace HB := Aside0.mk (below_step HB.out hb)
 clear hb
 clear jU jV jW jX jY jZ j10 j11 j12 j13 j14 j15 j16 j17 j18 j19 j1a j1b j1c j1d j1e j1f j1g j1h j1i j1j j1k j1l j1m j1n j1o j1p
 obtain ⟨j6k, j6l, j6m, j6n, j6o, j6p, j6q, j6r, j6s, j6t, j6u, j6v, j6w, j6x, j6y, j6z⟩ := MB.lay8 BKg1.out
 obtain ⟨j6A, j6B, j6C, j6D, j6E, j6F, j6G, j6H, j6I, j6J, j6K, j6L, j6M, j6N, j6O, j6P⟩ := MB.lay8 BKg19.out
 have H := HH.out
 obtain rfl := Option.some.inj H
 clear HH
 go_wp2
 go_ret
 exact ⟨by first | rfl | (simp; done) | (simp [*]; done), HB.out⟩
end Go.Proofs.Ytdjkemhmhkpmkaa.GA
