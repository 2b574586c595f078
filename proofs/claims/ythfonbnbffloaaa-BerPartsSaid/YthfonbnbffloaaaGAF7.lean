-- written by wip/gen.py, a program of this session
import Derived.Test.YthfonbnbffloaaaGA0
import Derived.Test.YthfonbnbffloaaaGAF11
import Derived.Test.YthfonbnbffloaaaGAF13
import Derived.Test.YthfonbnbffloaaaGAF15
import Derived.Test.YthfonbnbffloaaaGAF9
namespace Go.Proofs.Ythfonbnbffloaaa.GA
open Go.RowKit Go.Proofs.Ythfonbnbffloaaa Go.Proofs.Ythfonbnbffloaaa.MW Go.Proofs.YthfonbnbffloaaaW.PrintWords Go.Proofs.YthfonbnbffloaaaW.PrintLast Go.Proofs.YthfonbnbffloaaaW.PrintMore
attribute [local go_sem] max2_int min2_int max_two min_two
set_option linter.unusedVariables false
set_option linter.unusedSimpArgs false


/-! ### toponymlaw15_awake: function 7 -/
def toponymlaw15_awake.f (k : Nat)  : Option (Bool) := (ber_Decode.f k (⟨#[48, 3, 2, 1, 5]⟩ : ByteArray) 0).bind fun bt1 => ((ber_Encode.f k [(⟨bt1.1, bt1.2.1, bt1.2.2.1, bt1.2.2.2.1, bt1.2.2.2.2.1⟩ : S26)]).bind fun bt57 => ((ber_Decode.f k (⟨#[48, 128]⟩ : ByteArray) 0).bind fun bt71 => ((ber_Decode.f k (⟨#[4, 129, 1, 97]⟩ : ByteArray) 0).bind fun bt136 => (if bt1.2.2.2.2.2.1 = 5 then (if bt1.2.2.2.2.2.2 = 0 then (if bt1.2.1 = true then (if bt1.2.2.1 = 16 then (if (bt1.2.2.2.2.1.length : Int) = 1 then (if 0 < (bt1.2.2.2.2.1.length : Int) then (if ((rd_T26 bt1.2.2.2.2.1 (0 : Int)).f3).toList = ([5] : List UInt8) then (if bt57.1.toList = ([48, 3, 2, 1, 5] : List UInt8) then (if bt57.2 = 0 then (if bt71.2.2.2.2.2.2 = 152 then (if bt136.2.2.2.2.2.2 = 152 then ((ber_Deep.f k bt1.1 true bt1.2.2.1 bt1.2.2.2.1 bt1.2.2.2.2.1).bind fun t265 => (if t265 = 2 then ((ber_Check.f k 4 false 0 (⟨#[]⟩ : ByteArray) ([] : List (S26))).bind fun t301 => (some (t301 == 2))) else (some false))) else (some false)) else (some false)) else (some false)) else (some false)) else (some false)) else (none)) else (some false)) else (some false)) else (some false)) else (some false)) else (some false)))))
theorem toponymlaw15_awake.mono : ∀ k, LeO (toponymlaw15_awake.f k ) (toponymlaw15_awake.f (k + 1) ) := by
  intro  k
  unfold toponymlaw15_awake.f
  repeat' first
      | (with_reducible exact ber_Check.mono _ _ _ _ _ _)
      | (with_reducible exact ber_Decode.mono _ _ _)
      | (with_reducible exact ber_Deep.mono _ _ _ _ _ _)
      | (with_reducible exact ber_Encode.mono _ _)
      | (with_reducible exact LeO.refl _)
      | (with_reducible exact LeO.none _)
      | (with_reducible refine LeO.ite ?_ ?_)
      | (with_reducible refine LeO.bind ?_ (fun _ => ?_))
      | exact ber_Check.mono _ _ _ _ _ _
      | exact ber_Decode.mono _ _ _
      | exact ber_Deep.mono _ _ _ _ _ _
      | exact ber_Encode.mono _ _
      | exact LeO.none _
      | refine LeO.ite ?_ ?_
      | refine LeO.bind ?_ (fun _ => ?_)
set_option maxHeartbeats 8000000 in
set_option maxRecDepth 100000 in
theorem toponymlaw15_awake.calls (k : Nat) (r : Bool) (w : World) (h : toponymlaw15_awake.f k  = some r) :
    Calls Try.prog 7 #[] w (fun e w' => e = .returned (.bool r) ∧ Below w.heap.size w w') := by
  have HH := Aside0.mk (show ((ber_Decode.f k (⟨#[48, 3, 2, 1, 5]⟩ : ByteArray) 0).bind fun bt1 => ((ber_Encode.f k [(⟨bt1.1, bt1.2.1, bt1.2.2.1, bt1.2.2.2.1, bt1.2.2.2.2.1⟩ : S26)]).bind fun bt57 => ((ber_Decode.f k (⟨#[48, 128]⟩ : ByteArray) 0).bind fun bt71 => ((ber_Decode.f k (⟨#[4, 129, 1, 97]⟩ : ByteArray) 0).bind fun bt136 => (if bt1.2.2.2.2.2.1 = 5 then (if bt1.2.2.2.2.2.2 = 0 then (if bt1.2.1 = true then (if bt1.2.2.1 = 16 then (if (bt1.2.2.2.2.1.length : Int) = 1 then (if 0 < (bt1.2.2.2.2.1.length : Int) then (if ((rd_T26 bt1.2.2.2.2.1 (0 : Int)).f3).toList = ([5] : List UInt8) then (if bt57.1.toList = ([48, 3, 2, 1, 5] : List UInt8) then (if bt57.2 = 0 then (if bt71.2.2.2.2.2.2 = 152 then (if bt136.2.2.2.2.2.2 = 152 then ((ber_Deep.f k bt1.1 true bt1.2.2.1 bt1.2.2.2.1 bt1.2.2.2.2.1).bind fun t265 => (if t265 = 2 then ((ber_Check.f k 4 false 0 (⟨#[]⟩ : ByteArray) ([] : List (S26))).bind fun t301 => (some (t301 == 2))) else (some false))) else (some false)) else (some false)) else (some false)) else (some false)) else (some false)) else (none)) else (some false)) else (some false)) else (some false)) else (some false)) else (some false)))))) = some r from h)
  clear h
  have HB := Aside0.mk (Below.refl w.heap.size w)
  have hu26 := Try.underlying26
  go_enter Try.func7, Try.ntmps7
  have H := HH.out
  replace H := Option.bind_eq_some_iff.mp H
  obtain ⟨⟨t1, t2, t3, t4, t5, t6, t7⟩, at_, H⟩ := H
  have At8 := Aside0.mk at_
  clear at_
  replace HH := Aside0.mk (show ((ber_Encode.f k [(⟨t1, t2, t3, t4, t5⟩ : S26)]).bind fun bt57 => ((ber_Decode.f k (⟨#[48, 128]⟩ : ByteArray) 0).bind fun bt71 => ((ber_Decode.f k (⟨#[4, 129, 1, 97]⟩ : ByteArray) 0).bind fun bt136 => (if t6 = 5 then (if t7 = 0 then (if t2 = true then (if t3 = 16 then (if (t5.length : Int) = 1 then (if 0 < (t5.length : Int) then (if ((rd_T26 t5 (0 : Int)).f3).toList = ([5] : List UInt8) then (if bt57.1.toList = ([48, 3, 2, 1, 5] : List UInt8) then (if bt57.2 = 0 then (if bt71.2.2.2.2.2.2 = 152 then (if bt136.2.2.2.2.2.2 = 152 then ((ber_Deep.f k t1 true t3 t4 t5).bind fun t265 => (if t265 = 2 then ((ber_Check.f k 4 false 0 (⟨#[]⟩ : ByteArray) ([] : List (S26))).bind fun t301 => (some (t301 == 2))) else (some false))) else (some false)) else (some false)) else (some false)) else (some false)) else (some false)) else (none)) else (some false)) else (some false)) else (some false)) else (some false)) else (some false))))) = some r from H)
  clear H
  go_wp2_with (((with_reducible refine gate_callee (f := 15) rfl ?_); (try (refine gate_guard (by rfl) ?_; dsimp only)); refine goesL_ (some 13) rfl rfl Try.func15 (by kernel_rfl) rfl #[.string (⟨#[48, 3, 2, 1, 5]⟩ : ByteArray), .int .i64 0] rfl (by (try simp only [List.map_toArray, List.map_cons, List.map_nil]); first | done | rfl | (simp only [List.length_drop, List.length_take]; rfl)) ?_; (with_reducible refine (ber_Decode.calls k  (⟨#[48, 3, 2, 1, 5]⟩ : ByteArray) 0 t1 t2 t3 t4 t5 t6 t7 _  At8.out).mono ?_); rintro e w9 ⟨v10, rfl, hn10, hb⟩; refine ⟨_, rfl, ?_⟩); refine stop_ ?_)
  refine Stop.go ?_
  have hba := Kd.N_base hn10
  have HN10 := Aside0.mk (Kd.N_mono (Kd.N_lower hn10 (below_size HB.out)) (fun k_ h_ => (Nat.le_trans (below_size HB.out) h_)) : Kd.N k26 26 w9 w.heap.size (fun k_ => (w.heap.size ≤ k_)) v10 t5)
  replace HB := Aside0.mk (below_step HB.out hb)
  clear hn10 hba hb
  go_wp2_with (((with_reducible refine gate_dst (N := 1) rfl ?_); (try (refine gate_guard (by rfl) ?_; dsimp only)); refine box_event ?hg (N := 1) ?hd (cs := #[.int .i64 0, .bool false, .int .i64 0, .string (⟨#[]⟩ : ByteArray), .slice none 0 0]) (t := 26) ?hr ?_; (case hd => rfl); (case hg => rfl); (case hr => first | (go_simp; done) | (go_simp; rfl)); intro g11 hg w12 hbox hb); replace hg := Aside0.mk hg; replace hbox := Aside0.mk hbox; refine stop_ ?_)
  refine Stop.go ?_
  replace hg := hg.out
  replace hbox := hbox.out
  have GEg11 := Aside0.mk (by rw [hg]; exact (below_size HB.out) : w.heap.size ≤ g11)
  replace HN10 := Aside0.mk (Kd.N_elderB HN10.out g11 (Nat.le_of_eq hg.symm))
  replace HN10 := Aside0.mk (Kd.N_mono HN10.out (fun k_ hk_ => ⟨hk_.1, hk_.2⟩) : Kd.N k26 _ _ _ (fun k_ => (w.heap.size ≤ k_) ∧ k_ ≠ g11) _ _)
  replace HN10 := Aside0.mk (Kd.N_below HN10.out hb)
  replace HB := Aside0.mk (below_step HB.out hb)
  have BKg11 := Aside0.mk hbox
  clear hg hbox hb
  obtain ⟨hz13, hz14, hz15, hz16, hz17, hf18, hf19, hf20, hf21, hf22⟩ := MB.lay5 BKg11.out
  obtain ⟨A24, cp25, he_⟩ := Kd.N_slice HN10.out
  subst he_
  go_wp2_with (((with_reducible refine gate_store (t := 26) (p := 1) rfl ?_); (try (refine gate_guard (by rfl) ?_; dsimp only)); refine MW.ev_store #[.int .i64 t1, .bool t2, .int .i64 t3, .string t4, (.slice A24 t5.length cp25)] rfl rfl rfl rfl (cs := #[.int .i64 0, .bool false, .int .i64 0, .string (⟨#[]⟩ : ByteArray), .slice none 0 0]) (ty := 26) BKg11.out [.int .i64 t1, .bool t2, .int .i64 t3, .string t4, (.slice A24 t5.length cp25)] rfl (by kernel_rfl) (by simp) (by simp [Value.oneCell']) rfl ?_; intro w23 hbk hg); replace hbk := Aside0.mk hbk; refine stop_ ?_)
  refine Stop.go ?_
  replace hbk := hbk.out
  replace HN10 := Aside0.mk (Kd.N_grown (ok := (fun k_ => (w.heap.size ≤ k_) ∧ k_ ≠ g11)) HN10.out hg (fun k_ hk_ he_ => hk_.2 (Option.some.inj he_)))
  replace HB := Aside0.mk (Below.grown HB.out hg (below_size HB.out) (fun k_ hk_ => by injection hk_ with hk_; rw [← hk_]; exact GEg11.out))
  replace BKg11 := Aside0.mk hbk
  clear hg hbk
  clear hz13 hz14 hz15 hz16 hz17 hf18 hf19 hf20 hf21 hf22
  obtain ⟨hz26, hz27, hz28, hz29, hz30, hf31, hf32, hf33, hf34, hf35⟩ := MB.lay5 BKg11.out
  have HL39 := Aside0.mk (Kd.N_reads' HN10.out).2.1
  have HF38 := Aside0.mk (Kd.N_F HN10.out)
  clear HN10
  go_wp2_with (((with_reducible refine gate_dst (N := 19) rfl ?_); (try (refine gate_guard (by rfl) ?_; dsimp only)); refine Kd.N_lit k26 w.heap.size 26 rfl (N' := 19) rfl (xs := [(⟨t1, t2, t3, t4, t5⟩ : S26)]) (inner := [.int .i64 t1, .bool t2, .int .i64 t3, .string t4, .slice A24 t5.length cp25]) (ok := (fun k_ => (w.heap.size ≤ k_) ∧ k_ ≠ g11)) (okp := (fun k_ => (w.heap.size ≤ k_) ∧ k_ ≠ g11)) ?hr ?hp (fun _ hk_ => hk_) ?hf HB.out (below_size HB.out) (by first | simp | decide) ?_; (case hr => first | (go_simp; done) | (go_simp; rfl)); (case hp => exact (Reps.c5 (k26_mkF _ _ (⟨t1, t2, t3, t4, t5⟩ : S26) HL39.out (Kd.F_mono (ok := (fun k_ => (w.heap.size ≤ k_) ∧ k_ ≠ g11)) HF38.out (fun k_ hk_ => ⟨hk_.1, hk_.2⟩))) (Reps.none _ _))); (case hf => exact (show ∀ k_, w23.heap.size ≤ k_ → (fun k_ => (w.heap.size ≤ k_) ∧ k_ ≠ g11) k_ from fun k_ h_ => ⟨(Nat.le_trans (below_size HB.out) h_), Kd.freshB (o := .cells #[.int .i64 t1, .bool t2, .int .i64 t3, .string t4, .slice A24 t5.length cp25] 26 (0, 0)) BKg11.out k_ h_⟩) _ (Nat.le_refl _)); intro v40 w41 hn1 hb1 hg1 hat1); replace hat1 := Aside0.mk hat1; refine stop_ ?_)
  refine Stop.go ?_
  replace hat1 := hat1.out
  have hbe := MW.grown_below hg1
  have hba := MW.base_of hat1
  replace HF38 := Aside0.mk (Kd.F_mono (Kd.F_elder' (ok := (fun k_ => (w.heap.size ≤ k_) ∧ k_ ≠ g11)) HF38.out hba hbe) (fun k_ hk_ => ⟨hk_.1.1, hk_.1.2, hk_.2⟩) : Kd.F k26 _ (fun k_ => (w.heap.size ≤ k_) ∧ k_ ≠ g11 ∧ some k_ ≠ (v40 : Value).ownBlock) _ _ _)
  replace BKg11 := Aside0.mk (blk_below (o := .cells #[.int .i64 t1, .bool t2, .int .i64 t3, .string t4, .slice A24 t5.length cp25] 26 (0, 0)) BKg11.out hbe)
  replace HB := Aside0.mk hb1
  have HN42 := Aside0.mk hn1
  clear hn1 hb1 hg1 hat1 hbe hba
  clear hz26 hz27 hz28 hz29 hz30 hf31 hf32 hf33 hf34 hf35
  obtain ⟨hz43, hz44, hz45, hz46, hz47, hf48, hf49, hf50, hf51, hf52⟩ := MB.lay5 BKg11.out
  obtain ⟨A53, cp54, he_⟩ := Kd.N_slice HN42.out
  subst he_
  have HL56 := Aside0.mk (Kd.N_reads' HN42.out).2.1
  have HF55 := Aside0.mk (Kd.N_F HN42.out)
  clear HN42
  replace HF38 := Aside0.mk (Kd.F_mono (ok := (fun k_ => (w.heap.size ≤ k_) ∧ k_ ≠ g11 ∧ some k_ ≠ ((.slice A53 [(⟨t1, t2, t3, t4, t5⟩ : S26)].length cp54) : Value).ownBlock)) HF38.out (fun k_ hk_ => ⟨hk_.1, hk_.2.1⟩) : Kd.F k26 _ (fun k_ => (w.heap.size ≤ k_) ∧ k_ ≠ g11) _ _ _)
  have H := HH.out
  replace H := Option.bind_eq_some_iff.mp H
  obtain ⟨⟨t57, t58⟩, at_, H⟩ := H
  have At59 := Aside0.mk at_
  clear at_
  replace HH := Aside0.mk (show ((ber_Decode.f k (⟨#[48, 128]⟩ : ByteArray) 0).bind fun bt71 => ((ber_Decode.f k (⟨#[4, 129, 1, 97]⟩ : ByteArray) 0).bind fun bt136 => (if t6 = 5 then (if t7 = 0 then (if t2 = true then (if t3 = 16 then (if (t5.length : Int) = 1 then (if 0 < (t5.length : Int) then (if ((rd_T26 t5 (0 : Int)).f3).toList = ([5] : List UInt8) then (if t57.toList = ([48, 3, 2, 1, 5] : List UInt8) then (if t58 = 0 then (if bt71.2.2.2.2.2.2 = 152 then (if bt136.2.2.2.2.2.2 = 152 then ((ber_Deep.f k t1 true t3 t4 t5).bind fun t265 => (if t265 = 2 then ((ber_Check.f k 4 false 0 (⟨#[]⟩ : ByteArray) ([] : List (S26))).bind fun t301 => (some (t301 == 2))) else (some false))) else (some false)) else (some false)) else (some false)) else (some false)) else (some false)) else (none)) else (some false)) else (some false)) else (some false)) else (some false)) else (some false)))) = some r from H)
  clear H
  go_wp2_with (((with_reducible refine gate_callee (f := 13) rfl ?_); (try (refine gate_guard (by rfl) ?_; dsimp only)); refine goesL_ (some 20) rfl rfl Try.func13 (by kernel_rfl) rfl #[.slice A53 [(⟨t1, t2, t3, t4, t5⟩ : S26)].length cp54] rfl (by (try simp only [List.map_toArray, List.map_cons, List.map_nil]); first | done | rfl | (simp only [List.length_drop, List.length_take]; rfl)) ?_; (with_reducible refine (ber_Encode.calls k (fun k_ => (w.heap.size ≤ k_) ∧ k_ ≠ g11) _ _ [(⟨t1, t2, t3, t4, t5⟩ : S26)] t57 t58 _ (Kd.F_mono (ok := (fun k_ => (w.heap.size ≤ k_) ∧ k_ ≠ g11)) HF55.out (fun k_ hk_ => ⟨hk_.1, hk_.2⟩)) HL56.out At59.out).mono ?_); rintro e w60 ⟨rfl, hb⟩; refine ⟨_, rfl, ?_⟩); refine stop_ ?_)
  refine Stop.go ?_
  replace HF38 := Aside0.mk (Kd.F_below HF38.out hb)
  replace HF55 := Aside0.mk (Kd.F_below HF55.out hb)
  replace BKg11 := Aside0.mk (blk_below (o := .cells #[.int .i64 t1, .bool t2, .int .i64 t3, .string t4, .slice A24 t5.length cp25] 26 (0, 0)) BKg11.out hb)
  replace HB := Aside0.mk (below_step HB.out hb)
  clear hb
  clear hz43 hz44 hz45 hz46 hz47 hf48 hf49 hf50 hf51 hf52
  obtain ⟨hz61, hz62, hz63, hz64, hz65, hf66, hf67, hf68, hf69, hf70⟩ := MB.lay5 BKg11.out
  have H := HH.out
  replace H := Option.bind_eq_some_iff.mp H
  obtain ⟨⟨t71, t72, t73, t74, t75, t76, t77⟩, at_, H⟩ := H
  have At78 := Aside0.mk at_
  clear at_
  replace HH := Aside0.mk (show ((ber_Decode.f k (⟨#[4, 129, 1, 97]⟩ : ByteArray) 0).bind fun bt136 => (if t6 = 5 then (if t7 = 0 then (if t2 = true then (if t3 = 16 then (if (t5.length : Int) = 1 then (if 0 < (t5.length : Int) then (if ((rd_T26 t5 (0 : Int)).f3).toList = ([5] : List UInt8) then (if t57.toList = ([48, 3, 2, 1, 5] : List UInt8) then (if t58 = 0 then (if t77 = 152 then (if bt136.2.2.2.2.2.2 = 152 then ((ber_Deep.f k t1 true t3 t4 t5).bind fun t265 => (if t265 = 2 then ((ber_Check.f k 4 false 0 (⟨#[]⟩ : ByteArray) ([] : List (S26))).bind fun t301 => (some (t301 == 2))) else (some false))) else (some false)) else (some false)) else (some false)) else (some false)) else (some false)) else (none)) else (some false)) else (some false)) else (some false)) else (some false)) else (some false))) = some r from H)
  clear H
  go_wp2_with (((with_reducible refine gate_callee (f := 15) rfl ?_); (try (refine gate_guard (by rfl) ?_; dsimp only)); refine goesL_ (some 24) rfl rfl Try.func15 (by kernel_rfl) rfl #[.string (⟨#[48, 128]⟩ : ByteArray), .int .i64 0] rfl (by (try simp only [List.map_toArray, List.map_cons, List.map_nil]); first | done | rfl | (simp only [List.length_drop, List.length_take]; rfl)) ?_; (with_reducible refine (ber_Decode.calls k  (⟨#[48, 128]⟩ : ByteArray) 0 t71 t72 t73 t74 t75 t76 t77 _  At78.out).mono ?_); rintro e w79 ⟨v80, rfl, hn80, hb⟩; refine ⟨_, rfl, ?_⟩); refine stop_ ?_)
  refine Stop.go ?_
  have hba := Kd.N_base hn80
  have HN80 := Aside0.mk (Kd.N_mono (Kd.N_lower hn80 (below_size HB.out)) (fun k_ h_ => ⟨(Nat.le_trans (below_size HB.out) h_), Kd.freshB (o := .cells #[.int .i64 t1, .bool t2, .int .i64 t3, .string t4, .slice A24 t5.length cp25] 26 (0, 0)) BKg11.out k_ h_⟩) : Kd.N k26 26 w79 w.heap.size (fun k_ => (w.heap.size ≤ k_) ∧ k_ ≠ g11) v80 t75)
  replace HF38 := Aside0.mk (Kd.F_mono (Kd.F_elder' (ok := (fun k_ => (w.heap.size ≤ k_) ∧ k_ ≠ g11)) HF38.out hba hb) (fun k_ hk_ => ⟨hk_.1.1, hk_.1.2, hk_.2⟩) : Kd.F k26 _ (fun k_ => (w.heap.size ≤ k_) ∧ k_ ≠ g11 ∧ some k_ ≠ (v80 : Value).ownBlock) _ _ _)
  replace HF55 := Aside0.mk (Kd.F_mono (Kd.F_elder' (ok := (fun k_ => (w.heap.size ≤ k_) ∧ k_ ≠ g11)) HF55.out hba hb) (fun k_ hk_ => ⟨hk_.1.1, hk_.1.2, hk_.2⟩) : Kd.F k26 _ (fun k_ => (w.heap.size ≤ k_) ∧ k_ ≠ g11 ∧ some k_ ≠ (v80 : Value).ownBlock) _ _ _)
  replace BKg11 := Aside0.mk (blk_below (o := .cells #[.int .i64 t1, .bool t2, .int .i64 t3, .string t4, .slice A24 t5.length cp25] 26 (0, 0)) BKg11.out hb)
  replace HB := Aside0.mk (below_step HB.out hb)
  clear hn80 hba hb
  clear hz61 hz62 hz63 hz64 hz65 hf66 hf67 hf68 hf69 hf70
  obtain ⟨hz81, hz82, hz83, hz84, hz85, hf86, hf87, hf88, hf89, hf90⟩ := MB.lay5 BKg11.out
  go_wp2_with (((with_reducible refine gate_dst (N := 6) rfl ?_); (try (refine gate_guard (by rfl) ?_; dsimp only)); refine box_event ?hg (N := 6) ?hd (cs := #[.int .i64 0, .bool false, .int .i64 0, .string (⟨#[]⟩ : ByteArray), .slice none 0 0]) (t := 26) ?hr ?_; (case hd => rfl); (case hg => rfl); (case hr => first | (go_simp; done) | (go_simp; rfl)); intro g91 hg w92 hbox hb); replace hg := Aside0.mk hg; replace hbox := Aside0.mk hbox; refine stop_ ?_)
  refine Stop.go ?_
  replace hg := hg.out
  replace hbox := hbox.out
  have GEg91 := Aside0.mk (by rw [hg]; exact (below_size HB.out) : w.heap.size ≤ g91)
  replace HF38 := Aside0.mk (Kd.F_elderB HF38.out g91 (Nat.le_of_eq hg.symm))
  replace HF38 := Aside0.mk (Kd.F_mono HF38.out (fun k_ hk_ => ⟨hk_.1.1, hk_.1.2.1, hk_.1.2.2, hk_.2⟩) : Kd.F k26 _ (fun k_ => (w.heap.size ≤ k_) ∧ k_ ≠ g11 ∧ some k_ ≠ (v80 : Value).ownBlock ∧ k_ ≠ g91) _ _ _)
  replace HF55 := Aside0.mk (Kd.F_elderB HF55.out g91 (Nat.le_of_eq hg.symm))
  replace HF55 := Aside0.mk (Kd.F_mono HF55.out (fun k_ hk_ => ⟨hk_.1.1, hk_.1.2.1, hk_.1.2.2, hk_.2⟩) : Kd.F k26 _ (fun k_ => (w.heap.size ≤ k_) ∧ k_ ≠ g11 ∧ some k_ ≠ (v80 : Value).ownBlock ∧ k_ ≠ g91) _ _ _)
  replace HN80 := Aside0.mk (Kd.N_elderB HN80.out g91 (Nat.le_of_eq hg.symm))
  replace HN80 := Aside0.mk (Kd.N_mono HN80.out (fun k_ hk_ => ⟨hk_.1.1, hk_.1.2, hk_.2⟩) : Kd.N k26 _ _ _ (fun k_ => (w.heap.size ≤ k_) ∧ k_ ≠ g11 ∧ k_ ≠ g91) _ _)
  have NEg11_g91 := Aside0.mk (by rw [hg]; exact Nat.ne_of_lt (blk_lt (o := .cells #[.int .i64 t1, .bool t2, .int .i64 t3, .string t4, .slice A24 t5.length cp25] 26 (0, 0)) BKg11.out) : g11 ≠ g91)
  have NEg91_g11 := Aside0.mk (Ne.symm NEg11_g91.out)
  replace HF38 := Aside0.mk (Kd.F_below HF38.out hb)
  replace HF55 := Aside0.mk (Kd.F_below HF55.out hb)
  replace HN80 := Aside0.mk (Kd.N_below HN80.out hb)
  replace BKg11 := Aside0.mk (blk_below (o := .cells #[.int .i64 t1, .bool t2, .int .i64 t3, .string t4, .slice A24 t5.length cp25] 26 (0, 0)) BKg11.out hb)
  replace HB := Aside0.mk (below_step HB.out hb)
  have BKg91 := Aside0.mk hbox
  clear hg hbox hb
  clear hz81 hz82 hz83 hz84 hz85 hf86 hf87 hf88 hf89 hf90
  obtain ⟨hz93, hz94, hz95, hz96, hz97, hf98, hf99, hf100, hf101, hf102⟩ := MB.lay5 BKg11.out
  obtain ⟨hz103, hz104, hz105, hz106, hz107, hf108, hf109, hf110, hf111, hf112⟩ := MB.lay5 BKg91.out
  obtain ⟨A114, cp115, he_⟩ := Kd.N_slice HN80.out
  subst he_
  go_wp2_with (((with_reducible refine gate_store (t := 26) (p := 6) rfl ?_); (try (refine gate_guard (by rfl) ?_; dsimp only)); refine MW.ev_store #[.int .i64 t71, .bool t72, .int .i64 t73, .string t74, (.slice A114 t75.length cp115)] rfl rfl rfl rfl (cs := #[.int .i64 0, .bool false, .int .i64 0, .string (⟨#[]⟩ : ByteArray), .slice none 0 0]) (ty := 26) BKg91.out [.int .i64 t71, .bool t72, .int .i64 t73, .string t74, (.slice A114 t75.length cp115)] rfl (by kernel_rfl) (by simp) (by simp [Value.oneCell']) rfl ?_; intro w113 hbk hg); replace hbk := Aside0.mk hbk; refine stop_ ?_)
  refine Stop.go ?_
  replace hbk := hbk.out
  replace HF38 := Aside0.mk (Kd.F_grown (ok := (fun k_ => (w.heap.size ≤ k_) ∧ k_ ≠ g11 ∧ some k_ ≠ ((.slice A114 t75.length cp115) : Value).ownBlock ∧ k_ ≠ g91)) HF38.out hg (fun k_ hk_ he_ => hk_.2.2.2 (Option.some.inj he_)))
  replace HF55 := Aside0.mk (Kd.F_grown (ok := (fun k_ => (w.heap.size ≤ k_) ∧ k_ ≠ g11 ∧ some k_ ≠ ((.slice A114 t75.length cp115) : Value).ownBlock ∧ k_ ≠ g91)) HF55.out hg (fun k_ hk_ he_ => hk_.2.2.2 (Option.some.inj he_)))
  replace HN80 := Aside0.mk (Kd.N_grown (ok := (fun k_ => (w.heap.size ≤ k_) ∧ k_ ≠ g11 ∧ k_ ≠ g91)) HN80.out hg (fun k_ hk_ he_ => hk_.2.2 (Option.some.inj he_)))
  replace BKg11 := Aside0.mk (blk_grown (o := .cells #[.int .i64 t1, .bool t2, .int .i64 t3, .string t4, .slice A24 t5.length cp25] 26 (0, 0)) BKg11.out hg (fun he_ => NEg11_g91.out (Option.some.inj he_)))
  replace HB := Aside0.mk (Below.grown HB.out hg (below_size HB.out) (fun k_ hk_ => by injection hk_ with hk_; rw [← hk_]; exact GEg91.out))
  replace BKg91 := Aside0.mk hbk
  clear hg hbk
  clear hz93 hz94 hz95 hz96 hz97 hf98 hf99 hf100 hf101 hf102 hz103 hz104 hz105 hz106 hz107 hf108 hf109 hf110 hf111 hf112
  obtain ⟨hz116, hz117, hz118, hz119, hz120, hf121, hf122, hf123, hf124, hf125⟩ := MB.lay5 BKg11.out
  obtain ⟨hz126, hz127, hz128, hz129, hz130, hf131, hf132, hf133, hf134, hf135⟩ := MB.lay5 BKg91.out
  have H := HH.out
  replace H := Option.bind_eq_some_iff.mp H
  obtain ⟨⟨t136, t137, t138, t139, t140, t141, t142⟩, at_, H⟩ := H
  have At143 := Aside0.mk at_
  clear at_
  replace HH := Aside0.mk (show (if t6 = 5 then (if t7 = 0 then (if t2 = true then (if t3 = 16 then (if (t5.length : Int) = 1 then (if 0 < (t5.length : Int) then (if ((rd_T26 t5 (0 : Int)).f3).toList = ([5] : List UInt8) then (if t57.toList = ([48, 3, 2, 1, 5] : List UInt8) then (if t58 = 0 then (if t77 = 152 then (if t142 = 152 then ((ber_Deep.f k t1 true t3 t4 t5).bind fun t265 => (if t265 = 2 then ((ber_Check.f k 4 false 0 (⟨#[]⟩ : ByteArray) ([] : List (S26))).bind fun t301 => (some (t301 == 2))) else (some false))) else (some false)) else (some false)) else (some false)) else (some false)) else (some false)) else (none)) else (some false)) else (some false)) else (some false)) else (some false)) else (some false)) = some r from H)
  clear H
  go_wp2_with (((with_reducible refine gate_callee (f := 15) rfl ?_); (try (refine gate_guard (by rfl) ?_; dsimp only)); refine goesL_ (some 29) rfl rfl Try.func15 (by kernel_rfl) rfl #[.string (⟨#[4, 129, 1, 97]⟩ : ByteArray), .int .i64 0] rfl (by (try simp only [List.map_toArray, List.map_cons, List.map_nil]); first | done | rfl | (simp only [List.length_drop, List.length_take]; rfl)) ?_; (with_reducible refine (ber_Decode.calls k  (⟨#[4, 129, 1, 97]⟩ : ByteArray) 0 t136 t137 t138 t139 t140 t141 t142 _  At143.out).mono ?_); rintro e w144 ⟨v145, rfl, hn145, hb⟩; refine ⟨_, rfl, ?_⟩); refine stop_ ?_)
  refine Stop.go ?_
  have hba := Kd.N_base hn145
  have HN145 := Aside0.mk (Kd.N_mono (Kd.N_lower hn145 (below_size HB.out)) (fun k_ h_ => ⟨(Nat.le_trans (below_size HB.out) h_), Kd.fresh' (Kd.N_lt HN80.out) k_ h_, Kd.freshB (o := .cells #[.int .i64 t1, .bool t2, .int .i64 t3, .string t4, .slice A24 t5.length cp25] 26 (0, 0)) BKg11.out k_ h_, Kd.freshB (o := .cells #[.int .i64 t71, .bool t72, .int .i64 t73, .string t74, (.slice A114 t75.length cp115)] 26 (0, 0)) BKg91.out k_ h_⟩) : Kd.N k26 26 w144 w.heap.size (fun k_ => (w.heap.size ≤ k_) ∧ some k_ ≠ ((.slice A114 t75.length cp115) : Value).ownBlock ∧ k_ ≠ g11 ∧ k_ ≠ g91) v145 t140)
  replace HF38 := Aside0.mk (Kd.F_mono (Kd.F_elder' (ok := (fun k_ => (w.heap.size ≤ k_) ∧ k_ ≠ g11 ∧ some k_ ≠ ((.slice A114 t75.length cp115) : Value).ownBlock ∧ k_ ≠ g91)) HF38.out hba hb) (fun k_ hk_ => ⟨hk_.1.1, hk_.1.2.1, hk_.1.2.2.1, hk_.1.2.2.2, hk_.2⟩) : Kd.F k26 _ (fun k_ => (w.heap.size ≤ k_) ∧ k_ ≠ g11 ∧ some k_ ≠ ((.slice A114 t75.length cp115) : Value).ownBlock ∧ k_ ≠ g91 ∧ some k_ ≠ (v145 : Value).ownBlock) _ _ _)
  replace HF55 := Aside0.mk (Kd.F_mono (Kd.F_elder' (ok := (fun k_ => (w.heap.size ≤ k_) ∧ k_ ≠ g11 ∧ some k_ ≠ ((.slice A114 t75.length cp115) : Value).ownBlock ∧ k_ ≠ g91)) HF55.out hba hb) (fun k_ hk_ => ⟨hk_.1.1, hk_.1.2.1, hk_.1.2.2.1, hk_.1.2.2.2, hk_.2⟩) : Kd.F k26 _ (fun k_ => (w.heap.size ≤ k_) ∧ k_ ≠ g11 ∧ some k_ ≠ ((.slice A114 t75.length cp115) : Value).ownBlock ∧ k_ ≠ g91 ∧ some k_ ≠ (v145 : Value).ownBlock) _ _ _)
  replace HN80 := Aside0.mk (Kd.N_mono (Kd.N_elder' (ok := (fun k_ => (w.heap.size ≤ k_) ∧ k_ ≠ g11 ∧ k_ ≠ g91)) HN80.out hba hb) (fun k_ hk_ => ⟨hk_.1.1, hk_.1.2.1, hk_.1.2.2, hk_.2⟩) : Kd.N k26 _ _ _ (fun k_ => (w.heap.size ≤ k_) ∧ k_ ≠ g11 ∧ k_ ≠ g91 ∧ some k_ ≠ (v145 : Value).ownBlock) _ _)
  replace BKg11 := Aside0.mk (blk_below (o := .cells #[.int .i64 t1, .bool t2, .int .i64 t3, .string t4, .slice A24 t5.length cp25] 26 (0, 0)) BKg11.out hb)
  replace BKg91 := Aside0.mk (blk_below (o := .cells #[.int .i64 t71, .bool t72, .int .i64 t73, .string t74, (.slice A114 t75.length cp115)] 26 (0, 0)) BKg91.out hb)
  replace HB := Aside0.mk (below_step HB.out hb)
  clear hn145 hba hb
  clear hz116 hz117 hz118 hz119 hz120 hf121 hf122 hf123 hf124 hf125 hz126 hz127 hz128 hz129 hz130 hf131 hf132 hf133 hf134 hf135
  obtain ⟨hz146, hz147, hz148, hz149, hz150, hf151, hf152, hf153, hf154, hf155⟩ := MB.lay5 BKg11.out
  obtain ⟨hz156, hz157, hz158, hz159, hz160, hf161, hf162, hf163, hf164, hf165⟩ := MB.lay5 BKg91.out
  go_wp2_with (((with_reducible refine gate_dst (N := 9) rfl ?_); (try (refine gate_guard (by rfl) ?_; dsimp only)); refine box_event ?hg (N := 9) ?hd (cs := #[.int .i64 0, .bool false, .int .i64 0, .string (⟨#[]⟩ : ByteArray), .slice none 0 0]) (t := 26) ?hr ?_; (case hd => rfl); (case hg => rfl); (case hr => first | (go_simp; done) | (go_simp; rfl)); intro g166 hg w167 hbox hb); replace hg := Aside0.mk hg; replace hbox := Aside0.mk hbox; refine stop_ ?_)
  refine Stop.go ?_
  replace hg := hg.out
  replace hbox := hbox.out
  have GEg166 := Aside0.mk (by rw [hg]; exact (below_size HB.out) : w.heap.size ≤ g166)
  replace HF38 := Aside0.mk (Kd.F_elderB HF38.out g166 (Nat.le_of_eq hg.symm))
  replace HF38 := Aside0.mk (Kd.F_mono HF38.out (fun k_ hk_ => ⟨hk_.1.1, hk_.1.2.1, hk_.1.2.2.1, hk_.1.2.2.2.1, hk_.1.2.2.2.2, hk_.2⟩) : Kd.F k26 _ (fun k_ => (w.heap.size ≤ k_) ∧ k_ ≠ g11 ∧ some k_ ≠ ((.slice A114 t75.length cp115) : Value).ownBlock ∧ k_ ≠ g91 ∧ some k_ ≠ (v145 : Value).ownBlock ∧ k_ ≠ g166) _ _ _)
  replace HF55 := Aside0.mk (Kd.F_elderB HF55.out g166 (Nat.le_of_eq hg.symm))
  replace HF55 := Aside0.mk (Kd.F_mono HF55.out (fun k_ hk_ => ⟨hk_.1.1, hk_.1.2.1, hk_.1.2.2.1, hk_.1.2.2.2.1, hk_.1.2.2.2.2, hk_.2⟩) : Kd.F k26 _ (fun k_ => (w.heap.size ≤ k_) ∧ k_ ≠ g11 ∧ some k_ ≠ ((.slice A114 t75.length cp115) : Value).ownBlock ∧ k_ ≠ g91 ∧ some k_ ≠ (v145 : Value).ownBlock ∧ k_ ≠ g166) _ _ _)
  replace HN80 := Aside0.mk (Kd.N_elderB HN80.out g166 (Nat.le_of_eq hg.symm))
  replace HN80 := Aside0.mk (Kd.N_mono HN80.out (fun k_ hk_ => ⟨hk_.1.1, hk_.1.2.1, hk_.1.2.2.1, hk_.1.2.2.2, hk_.2⟩) : Kd.N k26 _ _ _ (fun k_ => (w.heap.size ≤ k_) ∧ k_ ≠ g11 ∧ k_ ≠ g91 ∧ some k_ ≠ (v145 : Value).ownBlock ∧ k_ ≠ g166) _ _)
  replace HN145 := Aside0.mk (Kd.N_elderB HN145.out g166 (Nat.le_of_eq hg.symm))
  replace HN145 := Aside0.mk (Kd.N_mono HN145.out (fun k_ hk_ => ⟨hk_.1.1, hk_.1.2.1, hk_.1.2.2.1, hk_.1.2.2.2, hk_.2⟩) : Kd.N k26 _ _ _ (fun k_ => (w.heap.size ≤ k_) ∧ some k_ ≠ ((.slice A114 t75.length cp115) : Value).ownBlock ∧ k_ ≠ g11 ∧ k_ ≠ g91 ∧ k_ ≠ g166) _ _)
  have NEg11_g166 := Aside0.mk (by rw [hg]; exact Nat.ne_of_lt (blk_lt (o := .cells #[.int .i64 t1, .bool t2, .int .i64 t3, .string t4, .slice A24 t5.length cp25] 26 (0, 0)) BKg11.out) : g11 ≠ g166)
  have NEg166_g11 := Aside0.mk (Ne.symm NEg11_g166.out)
  have NEg91_g166 := Aside0.mk (by rw [hg]; exact Nat.ne_of_lt (blk_lt (o := .cells #[.int .i64 t71, .bool t72, .int .i64 t73, .string t74, (.slice A114 t75.length cp115)] 26 (0, 0)) BKg91.out) : g91 ≠ g166)
  have NEg166_g91 := Aside0.mk (Ne.symm NEg91_g166.out)
  replace HF38 := Aside0.mk (Kd.F_below HF38.out hb)
  replace HF55 := Aside0.mk (Kd.F_below HF55.out hb)
  replace HN80 := Aside0.mk (Kd.N_below HN80.out hb)
  replace HN145 := Aside0.mk (Kd.N_below HN145.out hb)
  replace BKg11 := Aside0.mk (blk_below (o := .cells #[.int .i64 t1, .bool t2, .int .i64 t3, .string t4, .slice A24 t5.length cp25] 26 (0, 0)) BKg11.out hb)
  replace BKg91 := Aside0.mk (blk_below (o := .cells #[.int .i64 t71, .bool t72, .int .i64 t73, .string t74, (.slice A114 t75.length cp115)] 26 (0, 0)) BKg91.out hb)
  replace HB := Aside0.mk (below_step HB.out hb)
  have BKg166 := Aside0.mk hbox
  clear hg hbox hb
  clear hz146 hz147 hz148 hz149 hz150 hf151 hf152 hf153 hf154 hf155 hz156 hz157 hz158 hz159 hz160 hf161 hf162 hf163 hf164 hf165
  obtain ⟨hz168, hz169, hz170, hz171, hz172, hf173, hf174, hf175, hf176, hf177⟩ := MB.lay5 BKg11.out
  obtain ⟨hz178, hz179, hz180, hz181, hz182, hf183, hf184, hf185, hf186, hf187⟩ := MB.lay5 BKg91.out
  obtain ⟨hz188, hz189, hz190, hz191, hz192, hf193, hf194, hf195, hf196, hf197⟩ := MB.lay5 BKg166.out
  obtain ⟨A199, cp200, he_⟩ := Kd.N_slice HN145.out
  subst he_
  go_wp2_with (((with_reducible refine gate_store (t := 26) (p := 9) rfl ?_); (try (refine gate_guard (by rfl) ?_; dsimp only)); refine MW.ev_store #[.int .i64 t136, .bool t137, .int .i64 t138, .string t139, (.slice A199 t140.length cp200)] rfl rfl rfl rfl (cs := #[.int .i64 0, .bool false, .int .i64 0, .string (⟨#[]⟩ : ByteArray), .slice none 0 0]) (ty := 26) BKg166.out [.int .i64 t136, .bool t137, .int .i64 t138, .string t139, (.slice A199 t140.length cp200)] rfl (by kernel_rfl) (by simp) (by simp [Value.oneCell']) rfl ?_; intro w198 hbk hg); replace hbk := Aside0.mk hbk; refine stop_ ?_)
  refine Stop.go ?_
  replace hbk := hbk.out
  replace HF38 := Aside0.mk (Kd.F_grown (ok := (fun k_ => (w.heap.size ≤ k_) ∧ k_ ≠ g11 ∧ some k_ ≠ ((.slice A114 t75.length cp115) : Value).ownBlock ∧ k_ ≠ g91 ∧ some k_ ≠ ((.slice A199 t140.length cp200) : Value).ownBlock ∧ k_ ≠ g166)) HF38.out hg (fun k_ hk_ he_ => hk_.2.2.2.2.2 (Option.some.inj he_)))
  replace HF55 := Aside0.mk (Kd.F_grown (ok := (fun k_ => (w.heap.size ≤ k_) ∧ k_ ≠ g11 ∧ some k_ ≠ ((.slice A114 t75.length cp115) : Value).ownBlock ∧ k_ ≠ g91 ∧ some k_ ≠ ((.slice A199 t140.length cp200) : Value).ownBlock ∧ k_ ≠ g166)) HF55.out hg (fun k_ hk_ he_ => hk_.2.2.2.2.2 (Option.some.inj he_)))
  replace HN80 := Aside0.mk (Kd.N_grown (ok := (fun k_ => (w.heap.size ≤ k_) ∧ k_ ≠ g11 ∧ k_ ≠ g91 ∧ some k_ ≠ ((.slice A199 t140.length cp200) : Value).ownBlock ∧ k_ ≠ g166)) HN80.out hg (fun k_ hk_ he_ => hk_.2.2.2.2 (Option.some.inj he_)))
  replace HN145 := Aside0.mk (Kd.N_grown (ok := (fun k_ => (w.heap.size ≤ k_) ∧ some k_ ≠ ((.slice A114 t75.length cp115) : Value).ownBlock ∧ k_ ≠ g11 ∧ k_ ≠ g91 ∧ k_ ≠ g166)) HN145.out hg (fun k_ hk_ he_ => hk_.2.2.2.2 (Option.some.inj he_)))
  replace BKg11 := Aside0.mk (blk_grown (o := .cells #[.int .i64 t1, .bool t2, .int .i64 t3, .string t4, .slice A24 t5.length cp25] 26 (0, 0)) BKg11.out hg (fun he_ => NEg11_g166.out (Option.some.inj he_)))
  replace BKg91 := Aside0.mk (blk_grown (o := .cells #[.int .i64 t71, .bool t72, .int .i64 t73, .string t74, (.slice A114 t75.length cp115)] 26 (0, 0)) BKg91.out hg (fun he_ => NEg91_g166.out (Option.some.inj he_)))
  replace HB := Aside0.mk (Below.grown HB.out hg (below_size HB.out) (fun k_ hk_ => by injection hk_ with hk_; rw [← hk_]; exact GEg166.out))
  replace BKg166 := Aside0.mk hbk
  clear hg hbk
  clear hz168 hz169 hz170 hz171 hz172 hf173 hf174 hf175 hf176 hf177 hz178 hz179 hz180 hz181 hz182 hf183 hf184 hf185 hf186 hf187 hz188 hz189 hz190 hz191 hz192 hf193 hf194 hf195 hf196 hf197
  obtain ⟨hz201, hz202, hz203, hz204, hz205, hf206, hf207, hf208, hf209, hf210⟩ := MB.lay5 BKg11.out
  obtain ⟨hz211, hz212, hz213, hz214, hz215, hf216, hf217, hf218, hf219, hf220⟩ := MB.lay5 BKg91.out
  obtain ⟨hz221, hz222, hz223, hz224, hz225, hf226, hf227, hf228, hf229, hf230⟩ := MB.lay5 BKg166.out
  by_cases c231 : t6 = 5
  · have H := HH.out
    rw [if_pos c231] at H
    replace HH := Aside0.mk H
    clear H
    have hk232 : (t6 == 5) = true := beq_iff_eq.mpr c231
    have hk233 : (t6 != 5) = false := bne_eq_false_iff_eq.mpr c231
    clear c231
    by_cases c234 : t7 = 0
    · have H := HH.out
      rw [if_pos c234] at H
      replace HH := Aside0.mk H
      clear H
      have hk235 : (t7 == 0) = true := beq_iff_eq.mpr c234
      have hk236 : (t7 != 0) = false := bne_eq_false_iff_eq.mpr c234
      clear c234
      by_cases c237 : t2 = true
      · have H := HH.out
        rw [if_pos c237] at H
        replace HH := Aside0.mk H
        clear H
        subst c237
        by_cases c238 : t3 = 16
        · have H := HH.out
          rw [if_pos c238] at H
          replace HH := Aside0.mk H
          clear H
          have hk239 : (t3 == 16) = true := beq_iff_eq.mpr c238
          have hk240 : (t3 != 16) = false := bne_eq_false_iff_eq.mpr c238
          clear c238
          by_cases c241 : (t5.length : Int) = 1
          · have H := HH.out
            rw [if_pos c241] at H
            replace HH := Aside0.mk H
            clear H
            have hk242 : ((t5.length : Int) == 1) = true := beq_iff_eq.mpr c241
            have hk243 : ((t5.length : Int) != 1) = false := bne_eq_false_iff_eq.mpr c241
            clear c241
            by_cases c244 : 0 < (t5.length : Int)
            · have H := HH.out
              rw [if_pos c244] at H
              replace HH := Aside0.mk H
              clear H
              have hk245 : (0 < (t5.length : Int)) = True := eq_true c244
              have hk246 : (0 < t5.length) = True := eq_true (by have := c244; omega)
              have hk247 : decide (0 < (t5.length : Int)) = true := decide_eq_true c244
              have hk248 : decide (0 < t5.length) = true := decide_eq_true (by omega)
              clear c244
              have p249 : 0 ≤ (0 : Int) := by decide
              have q249 : (0 : Int) < (t5.length : Int) := of_decide_eq_true (by first | (with_reducible assumption) | assumption)
              obtain ⟨ad249, A249_4, c249_4, e249, hx249_0, hx249_1, hx249_2, hx249_3, hx249_4, hl249_4, hi249_4⟩ := atF_T26 HF38.out (0 : Int) p249 q249
              cases e249
              (try simp only [show ((0 : Int)).toNat = 0 from rfl, show 0 * 5 = 0 from rfl] at hx249_0)
              (try rw [Addr.add_zero'] at hx249_0)
              (try simp only [show ((0 : Int)).toNat = 0 from rfl, show 0 * 5 = 0 from rfl] at hx249_1)
              (try rw [Addr.add_zero'] at hx249_1)
              (try simp only [show ((0 : Int)).toNat = 0 from rfl, show 0 * 5 = 0 from rfl] at hx249_2)
              (try rw [Addr.add_zero'] at hx249_2)
              (try simp only [show ((0 : Int)).toNat = 0 from rfl, show 0 * 5 = 0 from rfl] at hx249_3)
              (try rw [Addr.add_zero'] at hx249_3)
              (try simp only [show ((0 : Int)).toNat = 0 from rfl, show 0 * 5 = 0 from rfl] at hx249_4)
              (try rw [Addr.add_zero'] at hx249_4)
              have HF249_4 := Aside0.mk hi249_4
              have HL249_4 := Aside0.mk hl249_4
              clear hi249_4 hl249_4
              replace p249 := eq_true p249
              replace q249 := eq_true q249
              by_cases c250 : ((rd_T26 t5 (0 : Int)).f3).toList = ([5] : List UInt8)
              · have H := HH.out
                rw [if_pos c250] at H
                replace HH := Aside0.mk H
                clear H
                have hk251 : (((rd_T26 t5 (0 : Int)).f3).toList == ([5] : List UInt8)) = true := beq_iff_eq.mpr c250
                have hk252 : (((rd_T26 t5 (0 : Int)).f3).toList != ([5] : List UInt8)) = false := bne_eq_false_iff_eq.mpr c250
                clear c250
                by_cases c253 : t57.toList = ([48, 3, 2, 1, 5] : List UInt8)
                · have H := HH.out
                  rw [if_pos c253] at H
                  replace HH := Aside0.mk H
                  clear H
                  have hk254 : (t57.toList == ([48, 3, 2, 1, 5] : List UInt8)) = true := beq_iff_eq.mpr c253
                  have hk255 : (t57.toList != ([48, 3, 2, 1, 5] : List UInt8)) = false := bne_eq_false_iff_eq.mpr c253
                  clear c253
                  by_cases c256 : t58 = 0
                  · have H := HH.out
                    rw [if_pos c256] at H
                    replace HH := Aside0.mk H
                    clear H
                    have hk257 : (t58 == 0) = true := beq_iff_eq.mpr c256
                    have hk258 : (t58 != 0) = false := bne_eq_false_iff_eq.mpr c256
                    clear c256
                    by_cases c259 : t77 = 152
                    · have H := HH.out
                      rw [if_pos c259] at H
                      replace HH := Aside0.mk H
                      clear H
                      have hk260 : (t77 == 152) = true := beq_iff_eq.mpr c259
                      have hk261 : (t77 != 152) = false := bne_eq_false_iff_eq.mpr c259
                      clear c259
                      by_cases c262 : t142 = 152
                      · have H := HH.out
                        rw [if_pos c262] at H
                        replace HH := Aside0.mk H
                        clear H
                        have hk263 : (t142 == 152) = true := beq_iff_eq.mpr c262
                        have hk264 : (t142 != 152) = false := bne_eq_false_iff_eq.mpr c262
                        clear c262
                        have H := HH.out
                        replace H := Option.bind_eq_some_iff.mp H
                        obtain ⟨t265, at_, H⟩ := H
                        have At266 := Aside0.mk at_
                        clear at_
                        replace HH := Aside0.mk (show (if t265 = 2 then ((ber_Check.f k 4 false 0 (⟨#[]⟩ : ByteArray) ([] : List (S26))).bind fun t301 => (some (t301 == 2))) else (some false)) = some r from H)
                        clear H
                        go_wp2_with (((with_reducible refine gate_callee (f := 11) rfl ?_); (try (refine gate_guard (by rfl) ?_; dsimp only)); refine goesL_ (some 80) rfl rfl Try.func11 (by kernel_rfl) rfl #[.agg #[.int .i64 t1, .bool true, .int .i64 t3, .string t4, .slice (some ad249) t5.length cp25]] rfl (by (try simp only [List.map_toArray, List.map_cons, List.map_nil]); first | done | rfl | (simp only [List.length_drop, List.length_take]; rfl)) ?_; (with_reducible refine (ber_Deep.calls k (fun k_ => (w.heap.size ≤ k_) ∧ some k_ ≠ ((.slice A114 t75.length cp115) : Value).ownBlock ∧ some k_ ≠ ((.slice A199 t140.length cp200) : Value).ownBlock ∧ k_ ≠ g11 ∧ k_ ≠ g91 ∧ k_ ≠ g166) t1 true t3 t4 _ _ t5 t265 _ (Kd.F_mono (ok := (fun k_ => (w.heap.size ≤ k_) ∧ k_ ≠ g11 ∧ some k_ ≠ ((.slice A114 t75.length cp115) : Value).ownBlock ∧ k_ ≠ g91 ∧ some k_ ≠ ((.slice A199 t140.length cp200) : Value).ownBlock ∧ k_ ≠ g166)) HF38.out (fun k_ hk_ => ⟨hk_.1, hk_.2.2.1, hk_.2.2.2.2.1, hk_.2.1, hk_.2.2.2.1, hk_.2.2.2.2.2⟩)) HL39.out At266.out).mono ?_); rintro e w267 ⟨rfl, hb⟩; refine ⟨_, rfl, ?_⟩); refine stop_ ?_)
                        refine Stop.go ?_
                        replace HF38 := Aside0.mk (Kd.F_below HF38.out hb)
                        replace HF55 := Aside0.mk (Kd.F_below HF55.out hb)
                        replace HF249_4 := Aside0.mk (Kd.F_below HF249_4.out hb)
                        replace HN80 := Aside0.mk (Kd.N_below HN80.out hb)
                        replace HN145 := Aside0.mk (Kd.N_below HN145.out hb)
                        replace BKg11 := Aside0.mk (blk_below (o := .cells #[.int .i64 t1, .bool true, .int .i64 t3, .string t4, .slice (some ad249) t5.length cp25] 26 (0, 0)) BKg11.out hb)
                        replace BKg91 := Aside0.mk (blk_below (o := .cells #[.int .i64 t71, .bool t72, .int .i64 t73, .string t74, (.slice A114 t75.length cp115)] 26 (0, 0)) BKg91.out hb)
                        replace BKg166 := Aside0.mk (blk_below (o := .cells #[.int .i64 t136, .bool t137, .int .i64 t138, .string t139, (.slice A199 t140.length cp200)] 26 (0, 0)) BKg166.out hb)
                        replace HB := Aside0.mk (below_step HB.out hb)
                        clear hb
                        clear hz201 hz202 hz203 hz204 hz205 hf206 hf207 hf208 hf209 hf210 hz211 hz212 hz213 hz214 hz215 hf216 hf217 hf218 hf219 hf220 hz221 hz222 hz223 hz224 hz225 hf226 hf227 hf228 hf229 hf230 hx249_0 hx249_1 hx249_2 hx249_3 hx249_4 p249 q249
                        obtain ⟨hz268, hz269, hz270, hz271, hz272, hf273, hf274, hf275, hf276, hf277⟩ := MB.lay5 BKg11.out
                        obtain ⟨hz278, hz279, hz280, hz281, hz282, hf283, hf284, hf285, hf286, hf287⟩ := MB.lay5 BKg91.out
                        obtain ⟨hz288, hz289, hz290, hz291, hz292, hf293, hf294, hf295, hf296, hf297⟩ := MB.lay5 BKg166.out
                        by_cases c298 : t265 = 2
                        · have H := HH.out
                          rw [if_pos c298] at H
                          replace HH := Aside0.mk H
                          clear H
                          have hk299 : (t265 == 2) = true := beq_iff_eq.mpr c298
                          have hk300 : (t265 != 2) = false := bne_eq_false_iff_eq.mpr c298
                          clear c298
                          have H := HH.out
                          replace H := Option.bind_eq_some_iff.mp H
                          obtain ⟨t301, at_, H⟩ := H
                          have At302 := Aside0.mk at_
                          clear at_
                          replace HH := Aside0.mk (show (some (t301 == 2)) = some r from H)
                          clear H
                          go_wp2_with (((with_reducible refine gate_callee (f := 9) rfl ?_); (try (refine gate_guard (by rfl) ?_; dsimp only)); refine goesL_ (some 85) rfl rfl Try.func9 (by kernel_rfl) rfl #[.agg #[.int .i64 4, .bool false, .int .i64 0, .string (⟨#[]⟩ : ByteArray), .slice none 0 0]] rfl (by (try simp only [List.map_toArray, List.map_cons, List.map_nil]); first | done | rfl | (simp only [List.length_drop, List.length_take]; rfl)) ?_; (refine (ber_Check.calls k (fun k_ => (w.heap.size ≤ k_) ∧ some k_ ≠ ((.slice A114 t75.length cp115) : Value).ownBlock ∧ some k_ ≠ ((.slice A199 t140.length cp200) : Value).ownBlock ∧ k_ ≠ g11 ∧ k_ ≠ g91 ∧ k_ ≠ g166) 4 false 0 (⟨#[]⟩ : ByteArray) _ _ ([] : List (S26)) t301 _ (Kd.F_nil _ _ _) (Nat.le_refl _) At302.out).mono ?_); rintro e w303 ⟨rfl, hb⟩; refine ⟨_, rfl, ?_⟩); refine stop_ ?_)
                          refine Stop.go ?_
                          replace HF38 := Aside0.mk (Kd.F_below HF38.out hb)
                          replace HF55 := Aside0.mk (Kd.F_below HF55.out hb)
                          replace HF249_4 := Aside0.mk (Kd.F_below HF249_4.out hb)
                          replace HN80 := Aside0.mk (Kd.N_below HN80.out hb)
                          replace HN145 := Aside0.mk (Kd.N_below HN145.out hb)
                          replace BKg11 := Aside0.mk (blk_below (o := .cells #[.int .i64 t1, .bool true, .int .i64 t3, .string t4, .slice (some ad249) t5.length cp25] 26 (0, 0)) BKg11.out hb)
                          replace BKg91 := Aside0.mk (blk_below (o := .cells #[.int .i64 t71, .bool t72, .int .i64 t73, .string t74, (.slice A114 t75.length cp115)] 26 (0, 0)) BKg91.out hb)
                          replace BKg166 := Aside0.mk (blk_below (o := .cells #[.int .i64 t136, .bool t137, .int .i64 t138, .string t139, (.slice A199 t140.length cp200)] 26 (0, 0)) BKg166.out hb)
                          replace HB := Aside0.mk (below_step HB.out hb)
                          clear hb
                          clear hz268 hz269 hz270 hz271 hz272 hf273 hf274 hf275 hf276 hf277 hz278 hz279 hz280 hz281 hz282 hf283 hf284 hf285 hf286 hf287 hz288 hz289 hz290 hz291 hz292 hf293 hf294 hf295 hf296 hf297
                          obtain ⟨hz304, hz305, hz306, hz307, hz308, hf309, hf310, hf311, hf312, hf313⟩ := MB.lay5 BKg11.out
                          obtain ⟨hz314, hz315, hz316, hz317, hz318, hf319, hf320, hf321, hf322, hf323⟩ := MB.lay5 BKg91.out
                          obtain ⟨hz324, hz325, hz326, hz327, hz328, hf329, hf330, hf331, hf332, hf333⟩ := MB.lay5 BKg166.out
                          have H := HH.out
                          obtain rfl := Option.some.inj H
                          clear HH
                          go_wp2
                          go_ret
                          exact ⟨by first | rfl | (simp; done) | (simp [*]; done), HB.out⟩
                        · have H := HH.out
                          rw [if_neg c298] at H
                          replace HH := Aside0.mk H
                          clear H
                          have hk334 : (t265 == 2) = false := beq_eq_false_iff_ne.mpr c298
                          have hk335 : (t265 != 2) = true := bne_iff_ne.mpr c298
                          clear c298
                          have H := HH.out
                          obtain rfl := Option.some.inj H
                          clear HH
                          go_wp2
                          go_ret
                          exact ⟨by first | rfl | (simp; done) | (simp [*]; done), HB.out⟩
                      · have H := HH.out
                        rw [if_neg c262] at H
                        replace HH := Aside0.mk H
                        clear H
                        have hk336 : (t142 == 152) = false := beq_eq_false_iff_ne.mpr c262
                        have hk337 : (t142 != 152) = true := bne_iff_ne.mpr c262
                        clear c262
                        have H := HH.out
                        obtain rfl := Option.some.inj H
                        clear HH
                        go_wp2
                        go_ret
                        exact ⟨by first | rfl | (simp; done) | (simp [*]; done), HB.out⟩
                    · have H := HH.out
                      rw [if_neg c259] at H
                      replace HH := Aside0.mk H
                      clear H
                      have hk338 : (t77 == 152) = false := beq_eq_false_iff_ne.mpr c259
                      have hk339 : (t77 != 152) = true := bne_iff_ne.mpr c259
                      clear c259
                      have H := HH.out
                      obtain rfl := Option.some.inj H
                      clear HH
                      go_wp2
                      go_ret
                      exact ⟨by first | rfl | (simp; done) | (simp [*]; done), HB.out⟩
                  · have H := HH.out
                    rw [if_neg c256] at H
                    replace HH := Aside0.mk H
                    clear H
                    have hk340 : (t58 == 0) = false := beq_eq_false_iff_ne.mpr c256
                    have hk341 : (t58 != 0) = true := bne_iff_ne.mpr c256
                    clear c256
                    have H := HH.out
                    obtain rfl := Option.some.inj H
                    clear HH
                    go_wp2
                    go_ret
                    exact ⟨by first | rfl | (simp; done) | (simp [*]; done), HB.out⟩
                · have H := HH.out
                  rw [if_neg c253] at H
                  replace HH := Aside0.mk H
                  clear H
                  have hk342 : (t57.toList == ([48, 3, 2, 1, 5] : List UInt8)) = false := beq_eq_false_iff_ne.mpr c253
                  have hk343 : (t57.toList != ([48, 3, 2, 1, 5] : List UInt8)) = true := bne_iff_ne.mpr c253
                  clear c253
                  have H := HH.out
                  obtain rfl := Option.some.inj H
                  clear HH
                  go_wp2
                  go_ret
                  exact ⟨by first | rfl | (simp; done) | (simp [*]; done), HB.out⟩
              · have H := HH.out
                rw [if_neg c250] at H
                replace HH := Aside0.mk H
                clear H
                have hk344 : (((rd_T26 t5 (0 : Int)).f3).toList == ([5] : List UInt8)) = false := beq_eq_false_iff_ne.mpr c250
                have hk345 : (((rd_T26 t5 (0 : Int)).f3).toList != ([5] : List UInt8)) = true := bne_iff_ne.mpr c250
                clear c250
                have H := HH.out
                obtain rfl := Option.some.inj H
                clear HH
                go_wp2
                go_ret
                exact ⟨by first | rfl | (simp; done) | (simp [*]; done), HB.out⟩
            · exact absurd HH.out (by rw [if_neg c244]; simp)
          · have H := HH.out
            rw [if_neg c241] at H
            replace HH := Aside0.mk H
            clear H
            have hk350 : ((t5.length : Int) == 1) = false := beq_eq_false_iff_ne.mpr c241
            have hk351 : ((t5.length : Int) != 1) = true := bne_iff_ne.mpr c241
            clear c241
            have H := HH.out
            obtain rfl := Option.some.inj H
            clear HH
            go_wp2
            go_ret
            exact ⟨by first | rfl | (simp; done) | (simp [*]; done), HB.out⟩
        · have H := HH.out
          rw [if_neg c238] at H
          replace HH := Aside0.mk H
          clear H
          have hk352 : (t3 == 16) = false := beq_eq_false_iff_ne.mpr c238
          have hk353 : (t3 != 16) = true := bne_iff_ne.mpr c238
          clear c238
          have H := HH.out
          obtain rfl := Option.some.inj H
          clear HH
          go_wp2
          go_ret
          exact ⟨by first | rfl | (simp; done) | (simp [*]; done), HB.out⟩
      · have H := HH.out
        rw [if_neg c237] at H
        replace HH := Aside0.mk H
        clear H
        replace c237 := Bool.eq_false_iff.mpr c237
        subst c237
        have H := HH.out
        obtain rfl := Option.some.inj H
        clear HH
        go_wp2
        go_ret
        exact ⟨by first | rfl | (simp; done) | (simp [*]; done), HB.out⟩
    · have H := HH.out
      rw [if_neg c234] at H
      replace HH := Aside0.mk H
      clear H
      have hk354 : (t7 == 0) = false := beq_eq_false_iff_ne.mpr c234
      have hk355 : (t7 != 0) = true := bne_iff_ne.mpr c234
      clear c234
      have H := HH.out
      obtain rfl := Option.some.inj H
      clear HH
      go_wp2
      go_ret
      exact ⟨by first | rfl | (simp; done) | (simp [*]; done), HB.out⟩
  · have H := HH.out
    rw [if_neg c231] at H
    replace HH := Aside0.mk H
    clear H
    have hk356 : (t6 == 5) = false := beq_eq_false_iff_ne.mpr c231
    have hk357 : (t6 != 5) = true := bne_iff_ne.mpr c231
    clear c231
    have H := HH.out
    obtain rfl := Option.some.inj H
    clear HH
    go_wp2
    go_ret
    exact ⟨by first | rfl | (simp; done) | (simp [*]; done), HB.out⟩

end Go.Proofs.Ythfonbnbffloaaa.GA
