import Derived.Test.YtdjkemhmhkpmkaaGA0
import Derived.Test.YtdjkemhmhkpmkaaGAF10
import Derived.Test.YtdjkemhmhkpmkaaGAF15
import Derived.Test.YtdjkemhmhkpmkaaGAF18
import Derived.Test.YtdjkemhmhkpmkaaGM1
import Derived.Test.YtdjkemhmhkpmkaaGM3
namespace Go.Proofs.Ytdjkemhmhkpmkaa.GA
open Go.RowKit Go.Proofs.Ytdjkemhmhkpmkaa Go.Proofs.Ytdjkemhmhkpmkaa.MW Go.Proofs.YtdjkemhmhkpmkaaW.PrintWords Go.Proofs.YtdjkemhmhkpmkaaW.PrintLast Go.Proofs.YtdjkemhmhkpmkaaW.PrintMore
attribute [local go_sem] max2_int min2_int max_two min_two
set_option linter.unusedVariables false
set_option linter.unusedSimpArgs false
/-! ### toponymlaw27_awake: function 8 -/
def toponymlaw27_awake.f (k : Nat)  : Option (Bool) := (reply_Result.f 1 3 0 (⟨#[]⟩ : ByteArray)).bind fun bt1 => ((reply_Encode.f k [(⟨bt1.1, bt1.2.1, bt1.2.2.1, bt1.2.2.2.1, bt1.2.2.2.2.1, bt1.2.2.2.2.2.1, bt1.2.2.2.2.2.2.1, bt1.2.2.2.2.2.2.2⟩ : S27)]).bind fun bt23 => ((reply_Decode.f k (⟨#[48, 12, 2, 1, 1, 101, 7, 10, 1, 0, 4, 0, 4, 0]⟩ : ByteArray)).bind fun bt28 => ((reply_Decode.f k (⟨#[48, 0]⟩ : ByteArray)).bind fun bt75 => (if (bt23.1.length : Int) = 1 then (if 0 < (bt23.1.length : Int) then (if (rdOf ByteArray.empty bt23.1 (0 : Int)).toList = ([48, 12, 2, 1, 1, 101, 7, 10, 1, 0, 4, 0, 4, 0] : List UInt8) then (if bt23.2 = 0 then (if bt28.1 = 1 then (if bt28.2.1 = 3 then (if bt28.2.2.2.2.2.2.2.2 = 0 then (if bt75.2.2.2.2.2.2.2.2 = 270 then ((reply_Check.f k 0 0 false 0 (⟨#[]⟩ : ByteArray) (⟨#[]⟩ : ByteArray) (⟨#[]⟩ : ByteArray) ([] : List (S46))).bind fun t199 => (if t199 = 270 then ((reply_Same.f k bt28.1 bt28.2.1 bt28.2.2.1 bt28.2.2.2.1 bt28.2.2.2.2.1 bt28.2.2.2.2.2.1 bt28.2.2.2.2.2.2.1 bt28.2.2.2.2.2.2.2.1 bt28.1 bt28.2.1 bt28.2.2.1 bt28.2.2.2.1 bt28.2.2.2.2.1 bt28.2.2.2.2.2.1 bt28.2.2.2.2.2.2.1 bt28.2.2.2.2.2.2.2.1).bind fun t237 => (some t237)) else (some false))) else (some false)) else (some false)) else (some false)) else (some false)) else (some false)) else (some false)) else (none)) else (some false)))))
theorem toponymlaw27_awake.mono : ∀ k, LeO (toponymlaw27_awake.f k ) (toponymlaw27_awake.f (k + 1) ) := by
 intro  k
 unfold toponymlaw27_awake.f
 repeat' first
   | (with_reducible exact reply_Check.mono _ _ _ _ _ _ _ _ _)
   | (with_reducible exact reply_Decode.mono _ _)
   | (with_reducible exact reply_Encode.mono _ _)
   | (with_reducible exact reply_Same.mono _ _ _ _ _ _ _ _ _ _ _ _ _ _ _ _ _)
   | (with_reducible exact LeO.refl _)
   | (with_reducible exact LeO.none _)
   | (with_reducible refine LeO.ite ?_ ?_)
   | (with_reducible refine LeO.bind ?_ (fun _ => ?_))
set_option maxHeartbeats 8000000 in
set_option maxRecDepth 100000 in
theorem toponymlaw27_awake.calls (k : Nat) (r : Bool) (w : World) (h : toponymlaw27_awake.f k  = some r) :
  Calls Try.prog 8 #[] w (fun e w' => e = .returned (.bool r) ∧ Below w.heap.size w w') := by
 have HH := Aside0.mk (show ((reply_Result.f 1 3 0 (⟨#[]⟩ : ByteArray)).bind fun bt1 => ((reply_Encode.f k [(⟨bt1.1, bt1.2.1, bt1.2.2.1, bt1.2.2.2.1, bt1.2.2.2.2.1, bt1.2.2.2.2.2.1, bt1.2.2.2.2.2.2.1, bt1.2.2.2.2.2.2.2⟩ : S27)]).bind fun bt23 => ((reply_Decode.f k (⟨#[48, 12, 2, 1, 1, 101, 7, 10, 1, 0, 4, 0, 4, 0]⟩ : ByteArray)).bind fun bt28 => ((reply_Decode.f k (⟨#[48, 0]⟩ : ByteArray)).bind fun bt75 => (if (bt23.1.length : Int) = 1 then (if 0 < (bt23.1.length : Int) then (if (rdOf ByteArray.empty bt23.1 (0 : Int)).toList = ([48, 12, 2, 1, 1, 101, 7, 10, 1, 0, 4, 0, 4, 0] : List UInt8) then (if bt23.2 = 0 then (if bt28.1 = 1 then (if bt28.2.1 = 3 then (if bt28.2.2.2.2.2.2.2.2 = 0 then (if bt75.2.2.2.2.2.2.2.2 = 270 then ((reply_Check.f k 0 0 false 0 (⟨#[]⟩ : ByteArray) (⟨#[]⟩ : ByteArray) (⟨#[]⟩ : ByteArray) ([] : List (S46))).bind fun t199 => (if t199 = 270 then ((reply_Same.f k bt28.1 bt28.2.1 bt28.2.2.1 bt28.2.2.2.1 bt28.2.2.2.2.1 bt28.2.2.2.2.2.1 bt28.2.2.2.2.2.2.1 bt28.2.2.2.2.2.2.2.1 bt28.1 bt28.2.1 bt28.2.2.1 bt28.2.2.2.1 bt28.2.2.2.2.1 bt28.2.2.2.2.2.1 bt28.2.2.2.2.2.2.1 bt28.2.2.2.2.2.2.2.1).bind fun t237 => (some t237)) else (some false))) else (some false)) else (some false)) else (some false)) else (some false)) else (some false)) else (some false)) else (none)) else (some false)))))) = some r from h)
 clear h
 have HB := Aside0.mk (Below.refl w.heap.size w)
 have hu27 := Try.underlying27
 go_enter Try.func8, Try.ntmps8
 have H := HH.out
 replace H := Option.bind_eq_some_iff.mp H
 obtain ⟨⟨t1, t2, t3, t4, t5, t6, t7, t8⟩, at_, H⟩ := H
 have At9 := Aside0.mk at_
 clear at_
 (try dsimp only at H)
 replace HH := Aside0.mk H
 clear H
 go_wp2_with (((with_reducible refine gate_callee (f := 19) rfl ?_); (try (refine gate_guard (by rfl) ?_; dsimp only)); refine goesL_ (some 8) rfl rfl Try.func19 (by kernel_rfl) rfl #[.int .i64 1, .int .i64 3, .int .i64 0, .string (⟨#[]⟩ : ByteArray)] rfl (by (try simp only [List.map_toArray, List.map_cons, List.map_nil]); first | done | rfl | (simp only [List.length_drop, List.length_take]; rfl)) ?_; (with_reducible refine (reply_Result.calls  1 3 0 (⟨#[]⟩ : ByteArray) t1 t2 t3 t4 t5 t6 t7 t8 _  At9.out).mono ?_); rintro e w10 ⟨v11, rfl, hn11, hb⟩; refine ⟨_, rfl, ?_⟩); refine stop_ ?_)
 refine Stop.go ?_
 have hba := Kd.N_base hn11
 have HN11 := Aside0.mk (Kd.N_mono (Kd.N_lower hn11 (below_size HB.out)) (fun k_ h_ => (Nat.le_trans (below_size HB.out) h_)) : Kd.N k46 46 w10 w.heap.size (fun k_ => (w.heap.size ≤ k_)) v11 t8)
 replace HB := Aside0.mk (below_step HB.out hb)
 clear hn11 hba hb
 obtain ⟨A12, cp13, he_⟩ := Kd.N_slice HN11.out
 subst he_
 have HL15 := Aside0.mk (Kd.N_reads' HN11.out).2.1
 have HF14 := Aside0.mk (Kd.N_F HN11.out)
 clear HN11
 go_wp2_with (((with_reducible refine gate_dst (N := 9) rfl ?_); (try (refine gate_guard (by rfl) ?_; dsimp only)); refine Kd.N_lit k27 w.heap.size 27 rfl (N' := 9) rfl (xs := [(⟨t1, t2, t3, t4, t5, t6, t7, t8⟩ : S27)]) (inner := [.int .i64 t1, .int .i64 t2, .bool t3, .int .i64 t4, .string t5, .string t6, .string t7, .slice A12 t8.length cp13]) (ok := (fun k_ => (w.heap.size ≤ k_))) (okp := (fun k_ => (w.heap.size ≤ k_))) ?hr ?hp (fun _ hk_ => hk_) ?hf HB.out (below_size HB.out) (by first | simp | decide) ?_; (case hr => first | (go_simp; done) | (go_simp; rfl)); (case hp => exact (Reps.c8 (k27_mkF _ _ (⟨t1, t2, t3, t4, t5, t6, t7, t8⟩ : S27) HL15.out (Kd.F_mono (ok := (fun k_ => (w.heap.size ≤ k_))) HF14.out (fun k_ hk_ => hk_))) (Reps.none _ _))); (case hf => exact (show ∀ k_, w10.heap.size ≤ k_ → (fun k_ => (w.heap.size ≤ k_)) k_ from fun k_ h_ => (Nat.le_trans (below_size HB.out) h_)) _ (Nat.le_refl _)); intro v16 w17 hn1 hb1 hg1 hat1); replace hat1 := Aside0.mk hat1; refine stop_ ?_)
 refine Stop.go ?_
 replace hat1 := hat1.out
 have hbe := MW.grown_below hg1
 have hba := MW.base_of hat1
 replace HB := Aside0.mk hb1
 have HN18 := Aside0.mk hn1
 clear hn1 hb1 hg1 hat1 hbe hba
 obtain ⟨A19, cp20, he_⟩ := Kd.N_slice HN18.out
 subst he_
 have HL22 := Aside0.mk (Kd.N_reads' HN18.out).2.1
 have HF21 := Aside0.mk (Kd.N_F HN18.out)
 clear HN18
 have H := HH.out
 replace H := Option.bind_eq_some_iff.mp H
 obtain ⟨⟨t23, t24⟩, at_, H⟩ := H
 have At25 := Aside0.mk at_
 clear at_
 (try dsimp only at H)
 replace HH := Aside0.mk H
 clear H
 go_wp2_with (((with_reducible refine gate_callee (f := 12) rfl ?_); (try (refine gate_guard (by rfl) ?_; dsimp only)); refine goesL_ (some 10) rfl rfl Try.func12 (by kernel_rfl) rfl #[.slice A19 [(⟨t1, t2, t3, t4, t5, t6, t7, t8⟩ : S27)].length cp20] rfl (by (try simp only [List.map_toArray, List.map_cons, List.map_nil]); first | done | rfl | (simp only [List.length_drop, List.length_take]; rfl)) ?_; (with_reducible refine (reply_Encode.calls k (fun k_ => (w.heap.size ≤ k_)) _ _ [(⟨t1, t2, t3, t4, t5, t6, t7, t8⟩ : S27)] t23 t24 _ (Kd.F_mono (ok := (fun k_ => (w.heap.size ≤ k_))) HF21.out (fun k_ hk_ => hk_)) HL22.out At25.out).mono ?_); rintro e w26 ⟨v27, rfl, hn27, hb⟩; refine ⟨_, rfl, ?_⟩); refine stop_ ?_)
 refine Stop.go ?_
 have hba := Kd.N_base hn27
 have HN27 := Aside0.mk (Kd.N_mono (Kd.N_lower hn27 (below_size HB.out)) (fun k_ hk_ => hk_.elim (fun h_ => h_) (fun h_ => (Nat.le_trans (below_size HB.out) h_))) : Kd.N Kd.string 9 w26 w.heap.size (fun k_ => (w.heap.size ≤ k_)) v27 t23)
 replace HB := Aside0.mk (below_step HB.out hb)
 clear hn27 hba hb
 have H := HH.out
 replace H := Option.bind_eq_some_iff.mp H
 obtain ⟨⟨t28, t29, t30, t31, t32, t33, t34, t35, t36⟩, at_, H⟩ := H
 have At37 := Aside0.mk at_
 clear at_
 (try dsimp only at H)
 replace HH := Aside0.mk H
 clear H
 go_wp2_with (((with_reducible refine gate_callee (f := 15) rfl ?_); (try (refine gate_guard (by rfl) ?_; dsimp only)); refine goesL_ (some 14) rfl rfl Try.func15 (by kernel_rfl) rfl #[.string (⟨#[48, 12, 2, 1, 1, 101, 7, 10, 1, 0, 4, 0, 4, 0]⟩ : ByteArray)] rfl (by (try simp only [List.map_toArray, List.map_cons, List.map_nil]); first | done | rfl | (simp only [List.length_drop, List.length_take]; rfl)) ?_; (with_reducible refine (reply_Decode.calls k  (⟨#[48, 12, 2, 1, 1, 101, 7, 10, 1, 0, 4, 0, 4, 0]⟩ : ByteArray) t28 t29 t30 t31 t32 t33 t34 t35 t36 _  At37.out).mono ?_); rintro e w38 ⟨A39, cp39, rfl, hl39, hn39, hb⟩; refine ⟨_, rfl, ?_⟩); refine stop_ ?_)
 refine Stop.go ?_
 have HL39 := Aside0.mk hl39
 have HF39 := Aside0.mk (Kd.F_mono hn39 (fun k_ h_ => ⟨(Nat.le_trans (below_size HB.out) h_), Kd.fresh' (Kd.N_lt HN27.out) k_ h_⟩) : Kd.F k46 _ (fun k_ => (w.heap.size ≤ k_) ∧ some k_ ≠ (v27 : Value).ownBlock) _ _ _)
 clear hn39 hl39
 replace HN27 := Aside0.mk (Kd.N_below HN27.out hb)
 replace HB := Aside0.mk (below_step HB.out hb)
 clear hb
 go_wp2_with (((with_reducible refine gate_dst (N := 3) rfl ?_); (try (refine gate_guard (by rfl) ?_; dsimp only)); refine box_event ?hg (N := 3) ?hd (cs := #[.int .i64 0, .int .i64 0, .bool false, .int .i64 0, .string (⟨#[]⟩ : ByteArray), .string (⟨#[]⟩ : ByteArray), .string (⟨#[]⟩ : ByteArray), .slice none 0 0]) (t := 27) ?hr ?_; (case hd => rfl); (case hg => rfl); (case hr => first | (go_simp; done) | (go_simp; rfl)); intro g40 hg w41 hbox hb); replace hg := Aside0.mk hg; replace hbox := Aside0.mk hbox; refine stop_ ?_)
 refine Stop.go ?_
 replace hg := hg.out
 replace hbox := hbox.out
 have GEg40 := Aside0.mk (by rw [hg]; exact (below_size HB.out) : w.heap.size ≤ g40)
 replace HF39 := Aside0.mk (Kd.F_elderB HF39.out g40 (Nat.le_of_eq hg.symm))
 replace HF39 := Aside0.mk (Kd.F_mono HF39.out (fun k_ hk_ => ⟨hk_.1.1, hk_.1.2, hk_.2⟩) : Kd.F k46 _ (fun k_ => (w.heap.size ≤ k_) ∧ some k_ ≠ (v27 : Value).ownBlock ∧ k_ ≠ g40) _ _ _)
 replace HN27 := Aside0.mk (Kd.N_elderB HN27.out g40 (Nat.le_of_eq hg.symm))
 replace HN27 := Aside0.mk (Kd.N_mono HN27.out (fun k_ hk_ => ⟨hk_.1, hk_.2⟩) : Kd.N Kd.string _ _ _ (fun k_ => (w.heap.size ≤ k_) ∧ k_ ≠ g40) _ _)
 replace HF39 := Aside0.mk (Kd.F_below HF39.out hb)
 replace HN27 := Aside0.mk (Kd.N_below HN27.out hb)
 replace HB := Aside0.mk (below_step HB.out hb)
 have BKg40 := Aside0.mk hbox
 clear hg hbox hb
 obtain ⟨jG, jH, jI, jJ, jK, jL, jM, jN, jO, jP, jQ, jR, jS, jT, jU, jV⟩ := MB.lay8 BKg40.out
 go_wp2_with (((with_reducible refine gate_store (t := 27) (p := 3) rfl ?_); (try (refine gate_guard (by rfl) ?_; dsimp only)); refine MW.ev_store #[.int .i64 t28, .int .i64 t29, .bool t30, .int .i64 t31, .string t32, .string t33, .string t34, .slice A39 t35.length cp39] rfl rfl rfl rfl BKg40.out [.int .i64 t28, .int .i64 t29, .bool t30, .int .i64 t31, .string t32, .string t33, .string t34, .slice A39 t35.length cp39] rfl (by kernel_rfl) (by simp) (by simp [Value.oneCell']) rfl ?_; intro w58 hbk hg); replace hbk := Aside0.mk hbk; refine stop_ ?_)
 refine Stop.go ?_
 replace hbk := hbk.out
 replace HF39 := Aside0.mk (Kd.F_grown (ok := (fun k_ => (w.heap.size ≤ k_) ∧ some k_ ≠ (v27 : Value).ownBlock ∧ k_ ≠ g40)) HF39.out hg (fun k_ hk_ he_ => hk_.2.2 (Option.some.inj he_)))
 replace HN27 := Aside0.mk (Kd.N_grown (ok := (fun k_ => (w.heap.size ≤ k_) ∧ k_ ≠ g40)) HN27.out hg (fun k_ hk_ he_ => hk_.2 (Option.some.inj he_)))
 replace HB := Aside0.mk (Below.grown HB.out hg (below_size HB.out) (fun k_ hk_ => by injection hk_ with hk_; rw [← hk_]; exact GEg40.out))
 replace BKg40 := Aside0.mk hbk
 clear hg hbk
 clear jG jH jI jJ jK jL jM jN jO jP jQ jR jS jT jU jV
 obtain ⟨jX, jY, jZ, j10, j11, j12, j13, j14, j15, j16, j17, j18, j19, j1a, j1b, j1c⟩ := MB.lay8 BKg40.out
 have H := HH.out
 replace H := Option.bind_eq_some_iff.mp H
 obtain ⟨⟨t75, t76, t77, t78, t79, t80, t81, t82, t83⟩, at_, H⟩ := H
 have At84 := Aside0.mk at_
 clear at_
 (try dsimp only at H)
 replace HH := Aside0.mk H
 clear H
 go_wp2_with (((with_reducible refine gate_callee (f := 15) rfl ?_); (try (refine gate_guard (by rfl) ?_; dsimp only)); refine goesL_ (some 18) rfl rfl Try.func15 (by kernel_rfl) rfl #[.string (⟨#[48, 0]⟩ : ByteArray)] rfl (by (try simp only [List.map_toArray, List.map_cons, List.map_nil]); first | done | rfl | (simp only [List.length_drop, List.length_take]; rfl)) ?_; (with_reducible refine (reply_Decode.calls k  (⟨#[48, 0]⟩ : ByteArray) t75 t76 t77 t78 t79 t80 t81 t82 t83 _  At84.out).mono ?_); rintro e w85 ⟨A86, cp86, rfl, hl86, hn86, hb⟩; refine ⟨_, rfl, ?_⟩); refine stop_ ?_)
 refine Stop.go ?_
 clear hn86 hl86
 replace HF39 := Aside0.mk (Kd.F_below HF39.out hb)
 replace HN27 := Aside0.mk (Kd.N_below HN27.out hb)
 replace BKg40 := Aside0.mk (blk_below (g := g40) BKg40.out hb)
 replace HB := Aside0.mk (below_step HB.out hb)
 clear hb
 clear jX jY jZ j10 j11 j12 j13 j14 j15 j16 j17 j18 j19 j1a j1b j1c
 obtain ⟨j1p, j1q, j1r, j1s, j1t, j1u, j1v, j1w, j1x, j1y, j1z, j1A, j1B, j1C, j1D, j1E⟩ := MB.lay8 BKg40.out
 go_wp2_with (((with_reducible refine gate_dst (N := 5) rfl ?_); (try (refine gate_guard (by rfl) ?_; dsimp only)); refine box_event ?hg (N := 5) ?hd (cs := #[.int .i64 0, .int .i64 0, .bool false, .int .i64 0, .string (⟨#[]⟩ : ByteArray), .string (⟨#[]⟩ : ByteArray), .string (⟨#[]⟩ : ByteArray), .slice none 0 0]) (t := 27) ?hr ?_; (case hd => rfl); (case hg => rfl); (case hr => first | (go_simp; done) | (go_simp; rfl)); intro g103 hg w104 hbox hb); replace hg := Aside0.mk hg; replace hbox := Aside0.mk hbox; refine stop_ ?_)
 refine Stop.go ?_
 replace hg := hg.out
 replace hbox := hbox.out
 have GEg103 := Aside0.mk (by rw [hg]; exact (below_size HB.out) : w.heap.size ≤ g103)
 replace HF39 := Aside0.mk (Kd.F_elderB HF39.out g103 (Nat.le_of_eq hg.symm))
 replace HF39 := Aside0.mk (Kd.F_mono HF39.out (fun k_ hk_ => ⟨hk_.1.1, hk_.1.2.1, hk_.1.2.2, hk_.2⟩) : Kd.F k46 _ (fun k_ => (w.heap.size ≤ k_) ∧ some k_ ≠ (v27 : Value).ownBlock ∧ k_ ≠ g40 ∧ k_ ≠ g103) _ _ _)
 replace HN27 := Aside0.mk (Kd.N_elderB HN27.out g103 (Nat.le_of_eq hg.symm))
 replace HN27 := Aside0.mk (Kd.N_mono HN27.out (fun k_ hk_ => ⟨hk_.1.1, hk_.1.2, hk_.2⟩) : Kd.N Kd.string _ _ _ (fun k_ => (w.heap.size ≤ k_) ∧ k_ ≠ g40 ∧ k_ ≠ g103) _ _)
 have NEg40_g103 := Aside0.mk (by rw [hg]; exact Nat.ne_of_lt (blk_lt (g := g40) BKg40.out) : g40 ≠ g103)
 replace HF39 := Aside0.mk (Kd.F_below HF39.out hb)
 replace HN27 := Aside0.mk (Kd.N_below HN27.out hb)
 replace BKg40 := Aside0.mk (blk_below (g := g40) BKg40.out hb)
 replace HB := Aside0.mk (below_step HB.out hb)
 have BKg103 := Aside0.mk hbox
 clear hg hbox hb
 clear j1p j1q j1r j1s j1t j1u j1v j1w j1x j1y j1z j1A j1B j1C j1D j1E
 obtain ⟨j1H, j1I, j1J, j1K, j1L, j1M, j1N, j1O, j1P, j1Q, j1R, j1S, j1T, j1U, j1V, j1W⟩ := MB.lay8 BKg40.out
 obtain ⟨j1X, j1Y, j1Z, j20, j21, j22, j23, j24, j25, j26, j27, j28, j29, j2a, j2b, j2c⟩ := MB.lay8 BKg103.out
 go_wp2_with (((with_reducible refine gate_store (t := 27) (p := 5) rfl ?_); (try (refine gate_guard (by rfl) ?_; dsimp only)); refine MW.ev_store #[.int .i64 t75, .int .i64 t76, .bool t77, .int .i64 t78, .string t79, .string t80, .string t81, .slice A86 t82.length cp86] rfl rfl rfl rfl BKg103.out [.int .i64 t75, .int .i64 t76, .bool t77, .int .i64 t78, .string t79, .string t80, .string t81, .slice A86 t82.length cp86] rfl (by kernel_rfl) (by simp) (by simp [Value.oneCell']) rfl ?_; intro w137 hbk hg); replace hbk := Aside0.mk hbk; refine stop_ ?_)
 refine Stop.go ?_
 replace hbk := hbk.out
 replace HF39 := Aside0.mk (Kd.F_grown (ok := (fun k_ => (w.heap.size ≤ k_) ∧ some k_ ≠ (v27 : Value).ownBlock ∧ k_ ≠ g40 ∧ k_ ≠ g103)) HF39.out hg (fun k_ hk_ he_ => hk_.2.2.2 (Option.some.inj he_)))
 replace HN27 := Aside0.mk (Kd.N_grown (ok := (fun k_ => (w.heap.size ≤ k_) ∧ k_ ≠ g40 ∧ k_ ≠ g103)) HN27.out hg (fun k_ hk_ he_ => hk_.2.2 (Option.some.inj he_)))
 replace BKg40 := Aside0.mk (blk_grown (g := g40) BKg40.out hg (fun he_ => NEg40_g103.out (Option.some.inj he_)))
 replace HB := Aside0.mk (Below.grown HB.out hg (below_size HB.out) (fun k_ hk_ => by injection hk_ with hk_; rw [← hk_]; exact GEg103.out))
 replace BKg103 := Aside0.mk hbk
 clear hg hbk
 clear j1H j1I j1J j1K j1L j1M j1N j1O j1P j1Q j1R j1S j1T j1U j1V j1W j1X j1Y j1Z j20 j21 j22 j23 j24 j25 j26 j27 j28 j29 j2a j2b j2c
 obtain ⟨j2e, j2f, j2g, j2h, j2i, j2j, j2k, j2l, j2m, j2n, j2o, j2p, j2q, j2r, j2s, j2t⟩ := MB.lay8 BKg40.out
 obtain ⟨j2u, j2v, j2w, j2x, j2y, j2z, j2A, j2B, j2C, j2D, j2E, j2F, j2G, j2H, j2I, j2J⟩ := MB.lay8 BKg103.out
 obtain ⟨A170, cp171, he_⟩ := Kd.N_slice HN27.out
 subst he_
 by_cases c172 : (t23.length : Int) = 1
 ·replace HH := MW.hpos HH c172
  have hk173 : ((t23.length : Int) == 1) = true := beq_iff_eq.mpr c172
  have hk174 : ((t23.length : Int) != 1) = false := bne_eq_false_iff_eq.mpr c172
  clear c172
  by_cases c175 : 0 < (t23.length : Int)
  ·replace HH := MW.hpos HH c175
   have hk176 : (0 < (t23.length : Int)) = True := eq_true c175
   have hk177 : (0 < t23.length) = True := eq_true (by have := c175; omega)
   have hk178 : decide (0 < (t23.length : Int)) = true := decide_eq_true c175
   have hk179 : decide (0 < t23.length) = true := decide_eq_true (by omega)
   clear c175
   have p180 : 0 ≤ (0 : Int) := by decide
   have q180 : (0 : Int) < (t23.length : Int) := of_decide_eq_true (by first | (with_reducible assumption) | assumption)
   obtain ⟨ad180, e180, hx180_0⟩ := Kd.at_string (Kd.F_now (Kd.N_F HN27.out)) (0 : Int) p180 q180
   cases e180
   (try simp only [show ((0 : Int)).toNat = 0 from rfl] at hx180_0)
   (try rw [Addr.add_zero'] at hx180_0)
   replace p180 := eq_true p180
   replace q180 := eq_true q180
   by_cases c181 : (rdOf ByteArray.empty t23 (0 : Int)).toList = ([48, 12, 2, 1, 1, 101, 7, 10, 1, 0, 4, 0, 4, 0] : List UInt8)
   ·replace HH := MW.hpos HH c181
    have hk182 : ((rdOf ByteArray.empty t23 (0 : Int)).toList == ([48, 12, 2, 1, 1, 101, 7, 10, 1, 0, 4, 0, 4, 0] : List UInt8)) = true := beq_iff_eq.mpr c181
    have hk183 : ((rdOf ByteArray.empty t23 (0 : Int)).toList != ([48, 12, 2, 1, 1, 101, 7, 10, 1, 0, 4, 0, 4, 0] : List UInt8)) = false := bne_eq_false_iff_eq.mpr c181
    clear c181
    by_cases c184 : t24 = 0
    ·replace HH := MW.hpos HH c184
     have hk185 : (t24 == 0) = true := beq_iff_eq.mpr c184
     have hk186 : (t24 != 0) = false := bne_eq_false_iff_eq.mpr c184
     clear c184
     by_cases c187 : t28 = 1
     ·replace HH := MW.hpos HH c187
      have hk188 : (t28 == 1) = true := beq_iff_eq.mpr c187
      have hk189 : (t28 != 1) = false := bne_eq_false_iff_eq.mpr c187
      clear c187
      by_cases c190 : t29 = 3
      ·replace HH := MW.hpos HH c190
       have hk191 : (t29 == 3) = true := beq_iff_eq.mpr c190
       have hk192 : (t29 != 3) = false := bne_eq_false_iff_eq.mpr c190
       clear c190
       by_cases c193 : t36 = 0
       ·replace HH := MW.hpos HH c193
        have hk194 : (t36 == 0) = true := beq_iff_eq.mpr c193
        have hk195 : (t36 != 0) = false := bne_eq_false_iff_eq.mpr c193
        clear c193
        by_cases c196 : t83 = 270
        ·replace HH := MW.hpos HH c196
         have hk197 : (t83 == 270) = true := beq_iff_eq.mpr c196
         have hk198 : (t83 != 270) = false := bne_eq_false_iff_eq.mpr c196
         clear c196
         have H := HH.out
         replace H := Option.bind_eq_some_iff.mp H
         obtain ⟨t199, at_, H⟩ := H
         have At200 := Aside0.mk at_
         clear at_
         (try dsimp only at H)
         replace HH := Aside0.mk H
         clear H
         go_wp2_with (((with_reducible refine gate_callee (f := 10) rfl ?_); (try (refine gate_guard (by rfl) ?_; dsimp only)); refine goesL_ (some 54) rfl rfl Try.func10 (by kernel_rfl) rfl #[.agg #[.int .i64 0, .int .i64 0, .bool false, .int .i64 0, .string (⟨#[]⟩ : ByteArray), .string (⟨#[]⟩ : ByteArray), .string (⟨#[]⟩ : ByteArray), .slice none 0 0]] rfl (by (try simp only [List.map_toArray, List.map_cons, List.map_nil]); first | done | rfl | (simp only [List.length_drop, List.length_take]; rfl)) ?_; (refine (reply_Check.calls k (fun k_ => (w.heap.size ≤ k_) ∧ some k_ ≠ ((.slice (some ad180) t23.length cp171) : Value).ownBlock ∧ k_ ≠ g40 ∧ k_ ≠ g103) 0 0 false 0 (⟨#[]⟩ : ByteArray) (⟨#[]⟩ : ByteArray) (⟨#[]⟩ : ByteArray) _ _ ([] : List (S46)) t199 _ (Kd.F_nil _ _ _) (Nat.le_refl _) At200.out).mono ?_); rintro e w201 ⟨rfl, hb⟩; refine ⟨_, rfl, ?_⟩); refine stop_ ?_)
         refine Stop.go ?_
         replace HF39 := Aside0.mk (Kd.F_below HF39.out hb)
         replace BKg40 := Aside0.mk (blk_below (g := g40) BKg40.out hb)
         replace BKg103 := Aside0.mk (blk_below (g := g103) BKg103.out hb)
         replace HB := Aside0.mk (below_step HB.out hb)
         clear hb
         clear j2e j2f j2g j2h j2i j2j j2k j2l j2m j2n j2o j2p j2q j2r j2s j2t j2u j2v j2w j2x j2y j2z j2A j2B j2C j2D j2E j2F j2G j2H j2I j2J hx180_0 p180 q180
         obtain ⟨j3g, j3h, j3i, j3j, j3k, j3l, j3m, j3n, j3o, j3p, j3q, j3r, j3s, j3t, j3u, j3v⟩ := MB.lay8 BKg40.out
         obtain ⟨j3w, j3x, j3y, j3z, j3A, j3B, j3C, j3D, j3E, j3F, j3G, j3H, j3I, j3J, j3K, j3L⟩ := MB.lay8 BKg103.out
         by_cases c234 : t199 = 270
         ·replace HH := MW.hpos HH c234
          have hk235 : (t199 == 270) = true := beq_iff_eq.mpr c234
          have hk236 : (t199 != 270) = false := bne_eq_false_iff_eq.mpr c234
          clear c234
          have H := HH.out
          replace H := Option.bind_eq_some_iff.mp H
          obtain ⟨t237, at_, H⟩ := H
          have At238 := Aside0.mk at_
          clear at_
          replace HH := Aside0.mk (show (some t237) = some r from H)
          clear H
          go_wp2_with (((with_reducible refine gate_callee (f := 18) rfl ?_); (try (refine gate_guard (by rfl) ?_; dsimp only)); refine goesL_ (some 60) rfl rfl Try.func18 (by kernel_rfl) rfl #[.agg #[.int .i64 t28, .int .i64 t29, .bool t30, .int .i64 t31, .string t32, .string t33, .string t34, .slice A39 t35.length cp39], .agg #[.int .i64 t28, .int .i64 t29, .bool t30, .int .i64 t31, .string t32, .string t33, .string t34, .slice A39 t35.length cp39]] rfl (by (try simp only [List.map_toArray, List.map_cons, List.map_nil]); first | done | rfl | (simp only [List.length_drop, List.length_take]; rfl)) ?_; (with_reducible refine (reply_Same.calls k (fun k_ => (w.heap.size ≤ k_) ∧ some k_ ≠ ((.slice (some ad180) t23.length cp171) : Value).ownBlock ∧ k_ ≠ g40 ∧ k_ ≠ g103) t28 t29 t30 t31 t32 t33 t34 _ _ t35 t28 t29 t30 t31 t32 t33 t34 _ _ t35 t237 _ (Kd.F_mono (ok := (fun k_ => (w.heap.size ≤ k_) ∧ some k_ ≠ ((.slice (some ad180) t23.length cp171) : Value).ownBlock ∧ k_ ≠ g40 ∧ k_ ≠ g103)) HF39.out (fun k_ hk_ => ⟨hk_.1, hk_.2.1, hk_.2.2.1, hk_.2.2.2⟩)) HL39.out (Kd.F_mono (ok := (fun k_ => (w.heap.size ≤ k_) ∧ some k_ ≠ ((.slice (some ad180) t23.length cp171) : Value).ownBlock ∧ k_ ≠ g40 ∧ k_ ≠ g103)) HF39.out (fun k_ hk_ => ⟨hk_.1, hk_.2.1, hk_.2.2.1, hk_.2.2.2⟩)) HL39.out At238.out).mono ?_); rintro e w239 ⟨rfl, hb⟩; refine ⟨_, rfl, ?_⟩); refine stop_ ?_)
          refine Stop.go ?_
          replace BKg40 := Aside0.mk (blk_below (g := g40) BKg40.out hb)
          replace BKg103 := Aside0.mk (blk_below (g := g103) BKg103.out hb)
          replace HB := Aside0.mk (below_step HB.out hb)
          clear hb
          clear j3g j3h j3i j3j j3k j3l j3m j3n j3o j3p j3q j3r j3s j3t j3u j3v j3w j3x j3y j3z j3A j3B j3C j3D j3E j3F j3G j3H j3I j3J j3K j3L
          obtain ⟨j3S, j3T, j3U, j3V, j3W, j3X, j3Y, j3Z, j40, j41, j42, j43, j44, j45, j46, j47⟩ := MB.lay8 BKg40.out
          obtain ⟨j48, j49, j4a, j4b, j4c, j4d, j4e, j4f, j4g, j4h, j4i, j4j, j4k, j4l, j4m, j4n⟩ := MB.lay8 BKg103.out
          have H := HH.out
          obtain rfl := Option.some.inj H
          clear HH
          go_wp2
          go_ret
          exact ⟨by first | rfl | (simp; done) | (simp [*]; done), HB.out⟩
         replace HH := MW.hneg HH c234
         have hk272 : (t199 == 270) = false := beq_eq_false_iff_ne.mpr c234
         have hk273 : (t199 != 270) = true := bne_iff_ne.mpr c234
         clear c234
         have H := HH.out
         obtain rfl := Option.some.inj H
         clear HH
         go_wp2
         go_ret
         exact ⟨by first | rfl | (simp; done) | (simp [*]; done), HB.out⟩
        replace HH := MW.hneg HH c196
        have hk274 : (t83 == 270) = false := beq_eq_false_iff_ne.mpr c196
        have hk275 : (t83 != 270) = true := bne_iff_ne.mpr c196
        clear c196
        have H := HH.out
        obtain rfl := Option.some.inj H
        clear HH
        go_wp2
        go_ret
        exact ⟨by first | rfl | (simp; done) | (simp [*]; done), HB.out⟩
       replace HH := MW.hneg HH c193
       have hk276 : (t36 == 0) = false := beq_eq_false_iff_ne.mpr c193
       have hk277 : (t36 != 0) = true := bne_iff_ne.mpr c193
       clear c193
       have H := HH.out
       obtain rfl := Option.some.inj H
       clear HH
       go_wp2
       go_ret
       exact ⟨by first | rfl | (simp; done) | (simp [*]; done), HB.out⟩
      replace HH := MW.hneg HH c190
      have hk278 : (t29 == 3) = false := beq_eq_false_iff_ne.mpr c190
      have hk279 : (t29 != 3) = true := bne_iff_ne.mpr c190
      clear c190
      have H := HH.out
      obtain rfl := Option.some.inj H
      clear HH
      go_wp2
      go_ret
      exact ⟨by first | rfl | (simp; done) | (simp [*]; done), HB.out⟩
     replace HH := MW.hneg HH c187
     have hk280 : (t28 == 1) = false := beq_eq_false_iff_ne.mpr c187
     have hk281 : (t28 != 1) = true := bne_iff_ne.mpr c187
     clear c187
     have H := HH.out
     obtain rfl := Option.some.inj H
     clear HH
     go_wp2
     go_ret
     exact ⟨by first | rfl | (simp; done) | (simp [*]; done), HB.out⟩
    replace HH := MW.hneg HH c184
    have hk282 : (t24 == 0) = false := beq_eq_false_iff_ne.mpr c184
    have hk283 : (t24 != 0) = true := bne_iff_ne.mpr c184
    clear c184
    have H := HH.out
    obtain rfl := Option.some.inj H
    clear HH
    go_wp2
    go_ret
    exact ⟨by first | rfl | (simp; done) | (simp [*]; done), HB.out⟩
   replace HH := MW.hneg HH c181
   have hk284 : ((rdOf ByteArray.empty t23 (0 : Int)).toList == ([48, 12, 2, 1, 1, 101, 7, 10, 1, 0, 4, 0, 4, 0] : List UInt8)) = false := beq_eq_false_iff_ne.mpr c181
   have hk285 : ((rdOf ByteArray.empty t23 (0 : Int)).toList != ([48, 12, 2, 1, 1, 101, 7, 10, 1, 0, 4, 0, 4, 0] : List UInt8)) = true := bne_iff_ne.mpr c181
   clear c181
   have H := HH.out
   obtain rfl := Option.some.inj H
   clear HH
   go_wp2
   go_ret
   exact ⟨by first | rfl | (simp; done) | (simp [*]; done), HB.out⟩
  exact absurd HH.out (by rw [if_neg c175]; simp)
 replace HH := MW.hneg HH c172
 have hk290 : ((t23.length : Int) == 1) = false := beq_eq_false_iff_ne.mpr c172
 have hk291 : ((t23.length : Int) != 1) = true := bne_iff_ne.mpr c172
 clear c172
 have H := HH.out
 obtain rfl := Option.some.inj H
 clear HH
 go_wp2
 go_ret
 exact ⟨by first | rfl | (simp; done) | (simp [*]; done), HB.out⟩
end Go.Proofs.Ytdjkemhmhkpmkaa.GA
