-- written by wip/gen.py, a program of this session
import Derived.Test.YthdcofcikmeeeaaGA0
import Derived.Test.YthdcofcikmeeeaaGAF11
import Derived.Test.YthdcofcikmeeeaaGAF13
import Derived.Test.YthdcofcikmeeeaaGAF8
import Derived.Test.YthdcofcikmeeeaaGAF9
namespace Go.Proofs.Ythdcofcikmeeeaa.GA
open Go.RowKit Go.Proofs.Ythdcofcikmeeeaa Go.Proofs.Ythdcofcikmeeeaa.MW Go.Proofs.YthdcofcikmeeeaaW.PrintWords Go.Proofs.YthdcofcikmeeeaaW.PrintLast Go.Proofs.YthdcofcikmeeeaaW.PrintMore
attribute [local go_sem] max2_int min2_int max_two min_two
set_option linter.unusedVariables false
set_option linter.unusedSimpArgs false

/-! ### toponymlaw06_awake: function 7 -/
def toponymlaw06_awake.f (k : Nat)  : Option (Bool) := (arrange_Order.f k ([97, 769, 807] : List Int)).bind fun t8 => ((arrange_Runs.f k ([769, 97, 807, 98] : List Int)).bind fun t19 => ((toponymref01_Same.f k t8 ([97, 807, 769] : List Int)).bind fun t34 => (if t34 = true then ((arrange_Ordered.f k t8).bind fun t38 => (if t38 = true then ((arrange_Ordered.f k ([97, 769, 807] : List Int)).bind fun t49 => (if t49 = true then (some false) else (if (t19.length : Int) = 3 then (if 1 < (t19.length : Int) then (some (((rd_L1 t19 (1 : Int)).length : Int) == 2)) else (none)) else (some false)))) else (some false))) else (some false))))
theorem toponymlaw06_awake.mono : ∀ k, LeO (toponymlaw06_awake.f k ) (toponymlaw06_awake.f (k + 1) ) := by
  intro  k
  unfold toponymlaw06_awake.f
  repeat' first
      | (with_reducible exact arrange_Order.mono _ _)
      | (with_reducible exact arrange_Ordered.mono _ _)
      | (with_reducible exact arrange_Runs.mono _ _)
      | (with_reducible exact toponymref01_Same.mono _ _ _)
      | (with_reducible exact LeO.refl _)
      | (with_reducible exact LeO.none _)
      | (with_reducible refine LeO.ite ?_ ?_)
      | (with_reducible refine LeO.bind ?_ (fun _ => ?_))
      | exact arrange_Order.mono _ _
      | exact arrange_Ordered.mono _ _
      | exact arrange_Runs.mono _ _
      | exact toponymref01_Same.mono _ _ _
      | exact LeO.none _
      | refine LeO.ite ?_ ?_
      | refine LeO.bind ?_ (fun _ => ?_)
set_option maxHeartbeats 8000000 in
set_option maxRecDepth 100000 in
theorem toponymlaw06_awake.calls (k : Nat) (r : Bool) (w : World) (h : toponymlaw06_awake.f k  = some r) :
    Calls Try.prog 7 #[] w (fun e w' => e = .returned (.bool r) ∧ Below w.heap.size w w') := by
  have HH := Aside0.mk (show ((arrange_Order.f k ([97, 769, 807] : List Int)).bind fun t8 => ((arrange_Runs.f k ([769, 97, 807, 98] : List Int)).bind fun t19 => ((toponymref01_Same.f k t8 ([97, 807, 769] : List Int)).bind fun t34 => (if t34 = true then ((arrange_Ordered.f k t8).bind fun t38 => (if t38 = true then ((arrange_Ordered.f k ([97, 769, 807] : List Int)).bind fun t49 => (if t49 = true then (some false) else (if (t19.length : Int) = 3 then (if 1 < (t19.length : Int) then (some (((rd_L1 t19 (1 : Int)).length : Int) == 2)) else (none)) else (some false)))) else (some false))) else (some false))))) = some r from h)
  clear h
  have HB := Aside0.mk (Below.refl w.heap.size w)
  go_enter Try.func7, Try.ntmps7
  go_wp2_with (((with_reducible refine gate_dst (N := 3) rfl ?_); (try (refine gate_guard (by rfl) ?_; dsimp only)); refine Kd.N_lit (Kd.int .i32) w.heap.size 21 rfl (N' := 3) rfl (xs := ([97, 769, 807] : List Int)) (inner := [.int .i32 97, .int .i32 769, .int .i32 807]) (ok := (fun k_ => (w.heap.size ≤ k_))) (okp := (fun k_ => (w.heap.size ≤ k_))) ?hr ?hp (fun _ hk_ => hk_) ?hf HB.out (below_size HB.out) (by first | simp | decide) ?_; (case hr => first | (go_simp; done) | (go_simp; rfl)); (case hp => exact (Reps.one (fun _ _ => rfl) (Reps.one (fun _ _ => rfl) (Reps.one (fun _ _ => rfl) (Reps.none _ _))))); (case hf => exact (show ∀ k_, w.heap.size ≤ k_ → (fun k_ => (w.heap.size ≤ k_)) k_ from fun k_ h_ => (Nat.le_trans (below_size HB.out) h_)) _ (Nat.le_refl _)); intro v1 w2 hn1 hb1 hg1 hat1); replace hat1 := Aside0.mk hat1; refine stop_ ?_)
  refine Stop.go ?_
  replace hat1 := hat1.out
  have hbe := MW.grown_below hg1
  have hba := MW.base_of hat1
  replace HB := Aside0.mk hb1
  have HN3 := Aside0.mk hn1
  clear hn1 hb1 hg1 hat1 hbe hba
  obtain ⟨A4, cp5, he_⟩ := Kd.N_slice HN3.out
  subst he_
  have HL7 := Aside0.mk (Kd.N_reads' HN3.out).2.1
  have HF6 := Aside0.mk (Kd.N_F HN3.out)
  clear HN3
  have H := HH.out
  replace H := Option.bind_eq_some_iff.mp H
  obtain ⟨t8, at_, H⟩ := H
  have At9 := Aside0.mk at_
  clear at_
  replace HH := Aside0.mk (show ((arrange_Runs.f k ([769, 97, 807, 98] : List Int)).bind fun t19 => ((toponymref01_Same.f k t8 ([97, 807, 769] : List Int)).bind fun t34 => (if t34 = true then ((arrange_Ordered.f k t8).bind fun t38 => (if t38 = true then ((arrange_Ordered.f k ([97, 769, 807] : List Int)).bind fun t49 => (if t49 = true then (some false) else (if (t19.length : Int) = 3 then (if 1 < (t19.length : Int) then (some (((rd_L1 t19 (1 : Int)).length : Int) == 2)) else (none)) else (some false)))) else (some false))) else (some false)))) = some r from H)
  clear H
  go_wp2_with (((with_reducible refine gate_callee (f := 9) rfl ?_); (try (refine gate_guard (by rfl) ?_; dsimp only)); refine goesL_ (some 4) rfl rfl Try.func9 (by kernel_rfl) rfl #[.slice A4 ([97, 769, 807] : List Int).length cp5] rfl (by (try simp only [List.map_toArray, List.map_cons, List.map_nil]); first | done | rfl | (simp only [List.length_drop, List.length_take]; rfl)) ?_; (with_reducible refine (arrange_Order.calls k (fun k_ => (w.heap.size ≤ k_)) _ _ ([97, 769, 807] : List Int) t8 _ (Kd.F_mono (ok := (fun k_ => (w.heap.size ≤ k_))) HF6.out (fun k_ hk_ => hk_)) HL7.out At9.out).mono ?_); rintro e w10 ⟨v11, rfl, hn11, hb⟩; refine ⟨_, rfl, ?_⟩); refine stop_ ?_)
  refine Stop.go ?_
  have hba := Kd.N_base hn11
  have HN11 := Aside0.mk (Kd.N_mono (Kd.N_lower hn11 (below_size HB.out)) (fun k_ hk_ => hk_.elim (fun h_ => h_) (fun h_ => (Nat.le_trans (below_size HB.out) h_))) : Kd.N (Kd.int .i32) 21 w10 w.heap.size (fun k_ => (w.heap.size ≤ k_)) v11 t8)
  replace HF6 := Aside0.mk (Kd.F_mono (Kd.F_elder' (ok := (fun k_ => (w.heap.size ≤ k_))) HF6.out hba hb) (fun k_ hk_ => ⟨hk_.1, hk_.2⟩) : Kd.F (Kd.int .i32) _ (fun k_ => (w.heap.size ≤ k_) ∧ some k_ ≠ (v11 : Value).ownBlock) _ _ _)
  replace HB := Aside0.mk (below_step HB.out hb)
  clear hn11 hba hb
  go_wp2_with (((with_reducible refine gate_dst (N := 5) rfl ?_); (try (refine gate_guard (by rfl) ?_; dsimp only)); refine Kd.N_lit (Kd.int .i32) w.heap.size 21 rfl (N' := 5) rfl (xs := ([769, 97, 807, 98] : List Int)) (inner := [.int .i32 769, .int .i32 97, .int .i32 807, .int .i32 98]) (ok := (fun k_ => (w.heap.size ≤ k_) ∧ some k_ ≠ (v11 : Value).ownBlock)) (okp := (fun k_ => (w.heap.size ≤ k_) ∧ some k_ ≠ (v11 : Value).ownBlock)) ?hr ?hp (fun _ hk_ => hk_) ?hf HB.out (below_size HB.out) (by first | simp | decide) ?_; (case hr => first | (go_simp; done) | (go_simp; rfl)); (case hp => exact (Reps.one (fun _ _ => rfl) (Reps.one (fun _ _ => rfl) (Reps.one (fun _ _ => rfl) (Reps.one (fun _ _ => rfl) (Reps.none _ _)))))); (case hf => exact (show ∀ k_, w10.heap.size ≤ k_ → (fun k_ => (w.heap.size ≤ k_) ∧ some k_ ≠ (v11 : Value).ownBlock) k_ from fun k_ h_ => ⟨(Nat.le_trans (below_size HB.out) h_), Kd.fresh' (Kd.N_lt HN11.out) k_ h_⟩) _ (Nat.le_refl _)); intro v12 w13 hn1 hb1 hg1 hat1); replace hat1 := Aside0.mk hat1; refine stop_ ?_)
  refine Stop.go ?_
  replace hat1 := hat1.out
  have hbe := MW.grown_below hg1
  have hba := MW.base_of hat1
  replace HF6 := Aside0.mk (Kd.F_mono (Kd.F_elder' (ok := (fun k_ => (w.heap.size ≤ k_) ∧ some k_ ≠ (v11 : Value).ownBlock)) HF6.out hba hbe) (fun k_ hk_ => ⟨hk_.1.1, hk_.1.2, hk_.2⟩) : Kd.F (Kd.int .i32) _ (fun k_ => (w.heap.size ≤ k_) ∧ some k_ ≠ (v11 : Value).ownBlock ∧ some k_ ≠ (v12 : Value).ownBlock) _ _ _)
  replace HN11 := Aside0.mk (Kd.N_mono (Kd.N_elder' (ok := (fun k_ => (w.heap.size ≤ k_))) HN11.out hba hbe) (fun k_ hk_ => ⟨hk_.1, hk_.2⟩) : Kd.N (Kd.int .i32) _ _ _ (fun k_ => (w.heap.size ≤ k_) ∧ some k_ ≠ (v12 : Value).ownBlock) _ _)
  replace HB := Aside0.mk hb1
  have HN14 := Aside0.mk hn1
  clear hn1 hb1 hg1 hat1 hbe hba
  obtain ⟨A15, cp16, he_⟩ := Kd.N_slice HN14.out
  subst he_
  have HL18 := Aside0.mk (Kd.N_reads' HN14.out).2.1
  have HF17 := Aside0.mk (Kd.N_F HN14.out)
  clear HN14
  replace HF6 := Aside0.mk (Kd.F_mono (ok := (fun k_ => (w.heap.size ≤ k_) ∧ some k_ ≠ (v11 : Value).ownBlock ∧ some k_ ≠ ((.slice A15 ([769, 97, 807, 98] : List Int).length cp16) : Value).ownBlock)) HF6.out (fun k_ hk_ => ⟨hk_.1, hk_.2.1⟩) : Kd.F (Kd.int .i32) _ (fun k_ => (w.heap.size ≤ k_) ∧ some k_ ≠ (v11 : Value).ownBlock) _ _ _)
  replace HN11 := Aside0.mk (Kd.N_mono (ok := (fun k_ => (w.heap.size ≤ k_) ∧ some k_ ≠ ((.slice A15 ([769, 97, 807, 98] : List Int).length cp16) : Value).ownBlock)) HN11.out (fun k_ hk_ => hk_.1) : Kd.N (Kd.int .i32) _ _ _ (fun k_ => (w.heap.size ≤ k_)) _ _)
  have H := HH.out
  replace H := Option.bind_eq_some_iff.mp H
  obtain ⟨t19, at_, H⟩ := H
  have At20 := Aside0.mk at_
  clear at_
  replace HH := Aside0.mk (show ((toponymref01_Same.f k t8 ([97, 807, 769] : List Int)).bind fun t34 => (if t34 = true then ((arrange_Ordered.f k t8).bind fun t38 => (if t38 = true then ((arrange_Ordered.f k ([97, 769, 807] : List Int)).bind fun t49 => (if t49 = true then (some false) else (if (t19.length : Int) = 3 then (if 1 < (t19.length : Int) then (some (((rd_L1 t19 (1 : Int)).length : Int) == 2)) else (none)) else (some false)))) else (some false))) else (some false))) = some r from H)
  clear H
  go_wp2_with (((with_reducible refine gate_callee (f := 13) rfl ?_); (try (refine gate_guard (by rfl) ?_; dsimp only)); refine goesL_ (some 6) rfl rfl Try.func13 (by kernel_rfl) rfl #[.slice A15 ([769, 97, 807, 98] : List Int).length cp16] rfl (by (try simp only [List.map_toArray, List.map_cons, List.map_nil]); first | done | rfl | (simp only [List.length_drop, List.length_take]; rfl)) ?_; (with_reducible refine (arrange_Runs.calls k (fun k_ => (w.heap.size ≤ k_) ∧ some k_ ≠ (v11 : Value).ownBlock) _ _ ([769, 97, 807, 98] : List Int) t19 _ (Kd.F_mono (ok := (fun k_ => (w.heap.size ≤ k_) ∧ some k_ ≠ (v11 : Value).ownBlock)) HF17.out (fun k_ hk_ => ⟨hk_.1, hk_.2⟩)) HL18.out At20.out).mono ?_); rintro e w21 ⟨v22, rfl, hn22, hb⟩; refine ⟨_, rfl, ?_⟩); refine stop_ ?_)
  refine Stop.go ?_
  have hba := Kd.N_base hn22
  have HN22 := Aside0.mk (Kd.N_mono (Kd.N_lower hn22 (below_size HB.out)) (fun k_ hk_ => hk_.elim (fun h_ => h_) (fun h_ => ⟨(Nat.le_trans (below_size HB.out) h_), Kd.fresh' (Kd.N_lt HN11.out) k_ h_⟩)) : Kd.N (Kd.slice 21 (Kd.int .i32)) 22 w21 w.heap.size (fun k_ => (w.heap.size ≤ k_) ∧ some k_ ≠ (v11 : Value).ownBlock) v22 t19)
  replace HF6 := Aside0.mk (Kd.F_mono (Kd.F_elder' (ok := (fun k_ => (w.heap.size ≤ k_) ∧ some k_ ≠ (v11 : Value).ownBlock)) HF6.out hba hb) (fun k_ hk_ => ⟨hk_.1.1, hk_.1.2, hk_.2⟩) : Kd.F (Kd.int .i32) _ (fun k_ => (w.heap.size ≤ k_) ∧ some k_ ≠ (v11 : Value).ownBlock ∧ some k_ ≠ (v22 : Value).ownBlock) _ _ _)
  replace HF17 := Aside0.mk (Kd.F_mono (Kd.F_elder' (ok := (fun k_ => (w.heap.size ≤ k_) ∧ some k_ ≠ (v11 : Value).ownBlock)) HF17.out hba hb) (fun k_ hk_ => ⟨hk_.1.1, hk_.1.2, hk_.2⟩) : Kd.F (Kd.int .i32) _ (fun k_ => (w.heap.size ≤ k_) ∧ some k_ ≠ (v11 : Value).ownBlock ∧ some k_ ≠ (v22 : Value).ownBlock) _ _ _)
  replace HN11 := Aside0.mk (Kd.N_mono (Kd.N_elder' (ok := (fun k_ => (w.heap.size ≤ k_))) HN11.out hba hb) (fun k_ hk_ => ⟨hk_.1, hk_.2⟩) : Kd.N (Kd.int .i32) _ _ _ (fun k_ => (w.heap.size ≤ k_) ∧ some k_ ≠ (v22 : Value).ownBlock) _ _)
  replace HB := Aside0.mk (below_step HB.out hb)
  clear hn22 hba hb
  go_wp2_with (((with_reducible refine gate_dst (N := 8) rfl ?_); (try (refine gate_guard (by rfl) ?_; dsimp only)); refine Kd.N_lit (Kd.int .i32) w.heap.size 21 rfl (N' := 8) rfl (xs := ([97, 807, 769] : List Int)) (inner := [.int .i32 97, .int .i32 807, .int .i32 769]) (ok := (fun k_ => (w.heap.size ≤ k_) ∧ some k_ ≠ (v11 : Value).ownBlock ∧ some k_ ≠ (v22 : Value).ownBlock)) (okp := (fun k_ => (w.heap.size ≤ k_) ∧ some k_ ≠ (v11 : Value).ownBlock ∧ some k_ ≠ (v22 : Value).ownBlock)) ?hr ?hp (fun _ hk_ => hk_) ?hf HB.out (below_size HB.out) (by first | simp | decide) ?_; (case hr => first | (go_simp; done) | (go_simp; rfl)); (case hp => exact (Reps.one (fun _ _ => rfl) (Reps.one (fun _ _ => rfl) (Reps.one (fun _ _ => rfl) (Reps.none _ _))))); (case hf => exact (show ∀ k_, w21.heap.size ≤ k_ → (fun k_ => (w.heap.size ≤ k_) ∧ some k_ ≠ (v11 : Value).ownBlock ∧ some k_ ≠ (v22 : Value).ownBlock) k_ from fun k_ h_ => ⟨(Nat.le_trans (below_size HB.out) h_), Kd.fresh' (Kd.N_lt HN11.out) k_ h_, Kd.fresh' (Kd.N_lt HN22.out) k_ h_⟩) _ (Nat.le_refl _)); intro v23 w24 hn1 hb1 hg1 hat1); replace hat1 := Aside0.mk hat1; refine stop_ ?_)
  refine Stop.go ?_
  replace hat1 := hat1.out
  have hbe := MW.grown_below hg1
  have hba := MW.base_of hat1
  replace HF6 := Aside0.mk (Kd.F_mono (Kd.F_elder' (ok := (fun k_ => (w.heap.size ≤ k_) ∧ some k_ ≠ (v11 : Value).ownBlock ∧ some k_ ≠ (v22 : Value).ownBlock)) HF6.out hba hbe) (fun k_ hk_ => ⟨hk_.1.1, hk_.1.2.1, hk_.1.2.2, hk_.2⟩) : Kd.F (Kd.int .i32) _ (fun k_ => (w.heap.size ≤ k_) ∧ some k_ ≠ (v11 : Value).ownBlock ∧ some k_ ≠ (v22 : Value).ownBlock ∧ some k_ ≠ (v23 : Value).ownBlock) _ _ _)
  replace HF17 := Aside0.mk (Kd.F_mono (Kd.F_elder' (ok := (fun k_ => (w.heap.size ≤ k_) ∧ some k_ ≠ (v11 : Value).ownBlock ∧ some k_ ≠ (v22 : Value).ownBlock)) HF17.out hba hbe) (fun k_ hk_ => ⟨hk_.1.1, hk_.1.2.1, hk_.1.2.2, hk_.2⟩) : Kd.F (Kd.int .i32) _ (fun k_ => (w.heap.size ≤ k_) ∧ some k_ ≠ (v11 : Value).ownBlock ∧ some k_ ≠ (v22 : Value).ownBlock ∧ some k_ ≠ (v23 : Value).ownBlock) _ _ _)
  replace HN11 := Aside0.mk (Kd.N_mono (Kd.N_elder' (ok := (fun k_ => (w.heap.size ≤ k_) ∧ some k_ ≠ (v22 : Value).ownBlock)) HN11.out hba hbe) (fun k_ hk_ => ⟨hk_.1.1, hk_.1.2, hk_.2⟩) : Kd.N (Kd.int .i32) _ _ _ (fun k_ => (w.heap.size ≤ k_) ∧ some k_ ≠ (v22 : Value).ownBlock ∧ some k_ ≠ (v23 : Value).ownBlock) _ _)
  replace HN22 := Aside0.mk (Kd.N_mono (Kd.N_elder' (ok := (fun k_ => (w.heap.size ≤ k_) ∧ some k_ ≠ (v11 : Value).ownBlock)) HN22.out hba hbe) (fun k_ hk_ => ⟨hk_.1.1, hk_.1.2, hk_.2⟩) : Kd.N (Kd.slice 21 (Kd.int .i32)) _ _ _ (fun k_ => (w.heap.size ≤ k_) ∧ some k_ ≠ (v11 : Value).ownBlock ∧ some k_ ≠ (v23 : Value).ownBlock) _ _)
  replace HB := Aside0.mk hb1
  have HN25 := Aside0.mk hn1
  clear hn1 hb1 hg1 hat1 hbe hba
  obtain ⟨A26, cp27, he_⟩ := Kd.N_slice HN11.out
  subst he_
  have HL29 := Aside0.mk (Kd.N_reads' HN11.out).2.1
  have HF28 := Aside0.mk (Kd.N_F HN11.out)
  clear HN11
  replace HF6 := Aside0.mk (Kd.F_mono (ok := (fun k_ => (w.heap.size ≤ k_) ∧ some k_ ≠ ((.slice A26 t8.length cp27) : Value).ownBlock ∧ some k_ ≠ (v22 : Value).ownBlock ∧ some k_ ≠ (v23 : Value).ownBlock)) HF6.out (fun k_ hk_ => ⟨hk_.1, hk_.2.2.1, hk_.2.2.2⟩) : Kd.F (Kd.int .i32) _ (fun k_ => (w.heap.size ≤ k_) ∧ some k_ ≠ (v22 : Value).ownBlock ∧ some k_ ≠ (v23 : Value).ownBlock) _ _ _)
  replace HF17 := Aside0.mk (Kd.F_mono (ok := (fun k_ => (w.heap.size ≤ k_) ∧ some k_ ≠ ((.slice A26 t8.length cp27) : Value).ownBlock ∧ some k_ ≠ (v22 : Value).ownBlock ∧ some k_ ≠ (v23 : Value).ownBlock)) HF17.out (fun k_ hk_ => ⟨hk_.1, hk_.2.2.1, hk_.2.2.2⟩) : Kd.F (Kd.int .i32) _ (fun k_ => (w.heap.size ≤ k_) ∧ some k_ ≠ (v22 : Value).ownBlock ∧ some k_ ≠ (v23 : Value).ownBlock) _ _ _)
  replace HN22 := Aside0.mk (Kd.N_mono (ok := (fun k_ => (w.heap.size ≤ k_) ∧ some k_ ≠ ((.slice A26 t8.length cp27) : Value).ownBlock ∧ some k_ ≠ (v23 : Value).ownBlock)) HN22.out (fun k_ hk_ => ⟨hk_.1, hk_.2.2⟩) : Kd.N (Kd.slice 21 (Kd.int .i32)) _ _ _ (fun k_ => (w.heap.size ≤ k_) ∧ some k_ ≠ (v23 : Value).ownBlock) _ _)
  replace HN25 := Aside0.mk (Kd.N_mono (ok := (fun k_ => (w.heap.size ≤ k_) ∧ some k_ ≠ ((.slice A26 t8.length cp27) : Value).ownBlock ∧ some k_ ≠ (v22 : Value).ownBlock)) HN25.out (fun k_ hk_ => ⟨hk_.1, hk_.2.2⟩) : Kd.N (Kd.int .i32) _ _ _ (fun k_ => (w.heap.size ≤ k_) ∧ some k_ ≠ (v22 : Value).ownBlock) _ _)
  obtain ⟨A30, cp31, he_⟩ := Kd.N_slice HN25.out
  subst he_
  have HL33 := Aside0.mk (Kd.N_reads' HN25.out).2.1
  have HF32 := Aside0.mk (Kd.N_F HN25.out)
  clear HN25
  replace HF6 := Aside0.mk (Kd.F_mono (ok := (fun k_ => (w.heap.size ≤ k_) ∧ some k_ ≠ (v22 : Value).ownBlock ∧ some k_ ≠ ((.slice A30 ([97, 807, 769] : List Int).length cp31) : Value).ownBlock)) HF6.out (fun k_ hk_ => ⟨hk_.1, hk_.2.1⟩) : Kd.F (Kd.int .i32) _ (fun k_ => (w.heap.size ≤ k_) ∧ some k_ ≠ (v22 : Value).ownBlock) _ _ _)
  replace HF17 := Aside0.mk (Kd.F_mono (ok := (fun k_ => (w.heap.size ≤ k_) ∧ some k_ ≠ (v22 : Value).ownBlock ∧ some k_ ≠ ((.slice A30 ([97, 807, 769] : List Int).length cp31) : Value).ownBlock)) HF17.out (fun k_ hk_ => ⟨hk_.1, hk_.2.1⟩) : Kd.F (Kd.int .i32) _ (fun k_ => (w.heap.size ≤ k_) ∧ some k_ ≠ (v22 : Value).ownBlock) _ _ _)
  replace HF28 := Aside0.mk (Kd.F_mono (ok := (fun k_ => (w.heap.size ≤ k_) ∧ some k_ ≠ (v22 : Value).ownBlock ∧ some k_ ≠ ((.slice A30 ([97, 807, 769] : List Int).length cp31) : Value).ownBlock)) HF28.out (fun k_ hk_ => ⟨hk_.1, hk_.2.1⟩) : Kd.F (Kd.int .i32) _ (fun k_ => (w.heap.size ≤ k_) ∧ some k_ ≠ (v22 : Value).ownBlock) _ _ _)
  replace HN22 := Aside0.mk (Kd.N_mono (ok := (fun k_ => (w.heap.size ≤ k_) ∧ some k_ ≠ ((.slice A30 ([97, 807, 769] : List Int).length cp31) : Value).ownBlock)) HN22.out (fun k_ hk_ => hk_.1) : Kd.N (Kd.slice 21 (Kd.int .i32)) _ _ _ (fun k_ => (w.heap.size ≤ k_)) _ _)
  have H := HH.out
  replace H := Option.bind_eq_some_iff.mp H
  obtain ⟨t34, at_, H⟩ := H
  have At35 := Aside0.mk at_
  clear at_
  replace HH := Aside0.mk (show (if t34 = true then ((arrange_Ordered.f k t8).bind fun t38 => (if t38 = true then ((arrange_Ordered.f k ([97, 769, 807] : List Int)).bind fun t49 => (if t49 = true then (some false) else (if (t19.length : Int) = 3 then (if 1 < (t19.length : Int) then (some (((rd_L1 t19 (1 : Int)).length : Int) == 2)) else (none)) else (some false)))) else (some false))) else (some false)) = some r from H)
  clear H
  go_wp2_with (((with_reducible refine gate_callee (f := 8) rfl ?_); (try (refine gate_guard (by rfl) ?_; dsimp only)); refine goesL_ (some 9) rfl rfl Try.func8 (by kernel_rfl) rfl #[.slice A26 t8.length cp27, .slice A30 ([97, 807, 769] : List Int).length cp31] rfl (by (try simp only [List.map_toArray, List.map_cons, List.map_nil]); first | done | rfl | (simp only [List.length_drop, List.length_take]; rfl)) ?_; (with_reducible refine (toponymref01_Same.calls k (fun k_ => (w.heap.size ≤ k_) ∧ some k_ ≠ (v22 : Value).ownBlock) _ _ t8 _ _ ([97, 807, 769] : List Int) t34 _ (Kd.F_mono (ok := (fun k_ => (w.heap.size ≤ k_) ∧ some k_ ≠ (v22 : Value).ownBlock)) HF28.out (fun k_ hk_ => ⟨hk_.1, hk_.2⟩)) HL29.out (Kd.F_mono (ok := (fun k_ => (w.heap.size ≤ k_) ∧ some k_ ≠ (v22 : Value).ownBlock)) HF32.out (fun k_ hk_ => ⟨hk_.1, hk_.2⟩)) HL33.out At35.out).mono ?_); rintro e w' ⟨rfl, ⟨nd, rfl⟩⟩; refine ⟨_, rfl, ?_⟩); refine stop_ ?_)
  refine Stop.go ?_
  by_cases c37 : t34 = true
  · have H := HH.out
    rw [if_pos c37] at H
    replace HH := Aside0.mk H
    clear H
    subst c37
    have H := HH.out
    replace H := Option.bind_eq_some_iff.mp H
    obtain ⟨t38, at_, H⟩ := H
    have At39 := Aside0.mk at_
    clear at_
    replace HH := Aside0.mk (show (if t38 = true then ((arrange_Ordered.f k ([97, 769, 807] : List Int)).bind fun t49 => (if t49 = true then (some false) else (if (t19.length : Int) = 3 then (if 1 < (t19.length : Int) then (some (((rd_L1 t19 (1 : Int)).length : Int) == 2)) else (none)) else (some false)))) else (some false)) = some r from H)
    clear H
    go_wp2_with (((with_reducible refine gate_callee (f := 11) rfl ?_); (try (refine gate_guard (by rfl) ?_; dsimp only)); refine goesL_ (some 12) rfl rfl Try.func11 (by kernel_rfl) rfl #[.slice A26 t8.length cp27] rfl (by (try simp only [List.map_toArray, List.map_cons, List.map_nil]); first | done | rfl | (simp only [List.length_drop, List.length_take]; rfl)) ?_; (with_reducible refine (arrange_Ordered.calls k (fun k_ => (w.heap.size ≤ k_) ∧ some k_ ≠ (v22 : Value).ownBlock) _ _ t8 t38 _ (Kd.F_mono (ok := (fun k_ => (w.heap.size ≤ k_) ∧ some k_ ≠ (v22 : Value).ownBlock)) (by (with_reducible repeat (first | apply Kd.F_alloc | apply Kd.F_drewN | apply Kd.F_drew)); exact HF28.out) (fun k_ hk_ => ⟨hk_.1, hk_.2⟩)) HL29.out At39.out).mono ?_); rintro e w' ⟨rfl, ⟨nd, rfl⟩⟩; refine ⟨_, rfl, ?_⟩); refine stop_ ?_)
    refine Stop.go ?_
    by_cases c41 : t38 = true
    · have H := HH.out
      rw [if_pos c41] at H
      replace HH := Aside0.mk H
      clear H
      subst c41
      go_wp2_with (((with_reducible refine gate_dst (N := 15) rfl ?_); (try (refine gate_guard (by rfl) ?_; dsimp only)); refine Kd.N_lit (Kd.int .i32) w.heap.size 21 rfl (N' := 15) rfl (xs := ([97, 769, 807] : List Int)) (inner := [.int .i32 97, .int .i32 769, .int .i32 807]) (ok := (fun k_ => (w.heap.size ≤ k_) ∧ some k_ ≠ (v22 : Value).ownBlock)) (okp := (fun k_ => (w.heap.size ≤ k_) ∧ some k_ ≠ (v22 : Value).ownBlock)) ?hr ?hp (fun _ hk_ => hk_) ?hf (by repeat (first | (with_reducible first | exact HB.out | apply below_alloc | apply pw_below_drewN | apply below_drew1) | exact HB.out)) (below_size (by repeat (first | (with_reducible first | exact HB.out | apply below_alloc | apply pw_below_drewN | apply below_drew1) | exact HB.out))) (by first | simp | decide) ?_; (case hr => first | (go_simp; done) | (go_simp; rfl)); (case hp => exact (Reps.one (fun _ _ => rfl) (Reps.one (fun _ _ => rfl) (Reps.one (fun _ _ => rfl) (Reps.none _ _))))); (case hf => exact (show ∀ k_, w24.heap.size ≤ k_ → (fun k_ => (w.heap.size ≤ k_) ∧ some k_ ≠ (v22 : Value).ownBlock) k_ from fun k_ h_ => ⟨(Nat.le_trans (below_size (by repeat (first | (with_reducible first | exact HB.out | apply below_alloc | apply pw_below_drewN | apply below_drew1) | exact HB.out))) h_), Kd.fresh' (Kd.N_lt (by (with_reducible repeat (first | apply Kd.N_alloc | apply Kd.N_drewN | apply Kd.N_drew)); exact HN22.out)) k_ h_⟩) _ (Nat.le_refl _)); intro v42 w43 hn1 hb1 hg1 hat1); replace hat1 := Aside0.mk hat1; refine stop_ ?_)
      refine Stop.go ?_
      replace hat1 := hat1.out
      have hbe := MW.grown_below hg1
      have hba := MW.base_of hat1
      replace HF6 := Aside0.mk (Kd.F_mono (Kd.F_elder' (ok := (fun k_ => (w.heap.size ≤ k_) ∧ some k_ ≠ (v22 : Value).ownBlock)) (by (with_reducible repeat (first | apply Kd.F_alloc | apply Kd.F_drewN | apply Kd.F_drew)); exact HF6.out) hba hbe) (fun k_ hk_ => ⟨hk_.1.1, hk_.1.2, hk_.2⟩) : Kd.F (Kd.int .i32) _ (fun k_ => (w.heap.size ≤ k_) ∧ some k_ ≠ (v22 : Value).ownBlock ∧ some k_ ≠ (v42 : Value).ownBlock) _ _ _)
      replace HF17 := Aside0.mk (Kd.F_mono (Kd.F_elder' (ok := (fun k_ => (w.heap.size ≤ k_) ∧ some k_ ≠ (v22 : Value).ownBlock)) (by (with_reducible repeat (first | apply Kd.F_alloc | apply Kd.F_drewN | apply Kd.F_drew)); exact HF17.out) hba hbe) (fun k_ hk_ => ⟨hk_.1.1, hk_.1.2, hk_.2⟩) : Kd.F (Kd.int .i32) _ (fun k_ => (w.heap.size ≤ k_) ∧ some k_ ≠ (v22 : Value).ownBlock ∧ some k_ ≠ (v42 : Value).ownBlock) _ _ _)
      replace HF28 := Aside0.mk (Kd.F_mono (Kd.F_elder' (ok := (fun k_ => (w.heap.size ≤ k_) ∧ some k_ ≠ (v22 : Value).ownBlock)) (by (with_reducible repeat (first | apply Kd.F_alloc | apply Kd.F_drewN | apply Kd.F_drew)); exact HF28.out) hba hbe) (fun k_ hk_ => ⟨hk_.1.1, hk_.1.2, hk_.2⟩) : Kd.F (Kd.int .i32) _ (fun k_ => (w.heap.size ≤ k_) ∧ some k_ ≠ (v22 : Value).ownBlock ∧ some k_ ≠ (v42 : Value).ownBlock) _ _ _)
      replace HF32 := Aside0.mk (Kd.F_mono (Kd.F_elder' (ok := (fun k_ => (w.heap.size ≤ k_) ∧ some k_ ≠ (v22 : Value).ownBlock)) (by (with_reducible repeat (first | apply Kd.F_alloc | apply Kd.F_drewN | apply Kd.F_drew)); exact HF32.out) hba hbe) (fun k_ hk_ => ⟨hk_.1.1, hk_.1.2, hk_.2⟩) : Kd.F (Kd.int .i32) _ (fun k_ => (w.heap.size ≤ k_) ∧ some k_ ≠ (v22 : Value).ownBlock ∧ some k_ ≠ (v42 : Value).ownBlock) _ _ _)
      replace HN22 := Aside0.mk (Kd.N_mono (Kd.N_elder' (ok := (fun k_ => (w.heap.size ≤ k_))) (by (with_reducible repeat (first | apply Kd.N_alloc | apply Kd.N_drewN | apply Kd.N_drew)); exact HN22.out) hba hbe) (fun k_ hk_ => ⟨hk_.1, hk_.2⟩) : Kd.N (Kd.slice 21 (Kd.int .i32)) _ _ _ (fun k_ => (w.heap.size ≤ k_) ∧ some k_ ≠ (v42 : Value).ownBlock) _ _)
      replace HB := Aside0.mk hb1
      have HN44 := Aside0.mk hn1
      clear hn1 hb1 hg1 hat1 hbe hba
      obtain ⟨A45, cp46, he_⟩ := Kd.N_slice HN44.out
      subst he_
      have HL48 := Aside0.mk (Kd.N_reads' HN44.out).2.1
      have HF47 := Aside0.mk (Kd.N_F HN44.out)
      clear HN44
      replace HF6 := Aside0.mk (Kd.F_mono (ok := (fun k_ => (w.heap.size ≤ k_) ∧ some k_ ≠ (v22 : Value).ownBlock ∧ some k_ ≠ ((.slice A45 ([97, 769, 807] : List Int).length cp46) : Value).ownBlock)) HF6.out (fun k_ hk_ => ⟨hk_.1, hk_.2.1⟩) : Kd.F (Kd.int .i32) _ (fun k_ => (w.heap.size ≤ k_) ∧ some k_ ≠ (v22 : Value).ownBlock) _ _ _)
      replace HF17 := Aside0.mk (Kd.F_mono (ok := (fun k_ => (w.heap.size ≤ k_) ∧ some k_ ≠ (v22 : Value).ownBlock ∧ some k_ ≠ ((.slice A45 ([97, 769, 807] : List Int).length cp46) : Value).ownBlock)) HF17.out (fun k_ hk_ => ⟨hk_.1, hk_.2.1⟩) : Kd.F (Kd.int .i32) _ (fun k_ => (w.heap.size ≤ k_) ∧ some k_ ≠ (v22 : Value).ownBlock) _ _ _)
      replace HF28 := Aside0.mk (Kd.F_mono (ok := (fun k_ => (w.heap.size ≤ k_) ∧ some k_ ≠ (v22 : Value).ownBlock ∧ some k_ ≠ ((.slice A45 ([97, 769, 807] : List Int).length cp46) : Value).ownBlock)) HF28.out (fun k_ hk_ => ⟨hk_.1, hk_.2.1⟩) : Kd.F (Kd.int .i32) _ (fun k_ => (w.heap.size ≤ k_) ∧ some k_ ≠ (v22 : Value).ownBlock) _ _ _)
      replace HF32 := Aside0.mk (Kd.F_mono (ok := (fun k_ => (w.heap.size ≤ k_) ∧ some k_ ≠ (v22 : Value).ownBlock ∧ some k_ ≠ ((.slice A45 ([97, 769, 807] : List Int).length cp46) : Value).ownBlock)) HF32.out (fun k_ hk_ => ⟨hk_.1, hk_.2.1⟩) : Kd.F (Kd.int .i32) _ (fun k_ => (w.heap.size ≤ k_) ∧ some k_ ≠ (v22 : Value).ownBlock) _ _ _)
      replace HN22 := Aside0.mk (Kd.N_mono (ok := (fun k_ => (w.heap.size ≤ k_) ∧ some k_ ≠ ((.slice A45 ([97, 769, 807] : List Int).length cp46) : Value).ownBlock)) HN22.out (fun k_ hk_ => hk_.1) : Kd.N (Kd.slice 21 (Kd.int .i32)) _ _ _ (fun k_ => (w.heap.size ≤ k_)) _ _)
      have H := HH.out
      replace H := Option.bind_eq_some_iff.mp H
      obtain ⟨t49, at_, H⟩ := H
      have At50 := Aside0.mk at_
      clear at_
      replace HH := Aside0.mk (show (if t49 = true then (some false) else (if (t19.length : Int) = 3 then (if 1 < (t19.length : Int) then (some (((rd_L1 t19 (1 : Int)).length : Int) == 2)) else (none)) else (some false))) = some r from H)
      clear H
      go_wp2_with (((with_reducible refine gate_callee (f := 11) rfl ?_); (try (refine gate_guard (by rfl) ?_; dsimp only)); refine goesL_ (some 16) rfl rfl Try.func11 (by kernel_rfl) rfl #[.slice A45 ([97, 769, 807] : List Int).length cp46] rfl (by (try simp only [List.map_toArray, List.map_cons, List.map_nil]); first | done | rfl | (simp only [List.length_drop, List.length_take]; rfl)) ?_; (with_reducible refine (arrange_Ordered.calls k (fun k_ => (w.heap.size ≤ k_) ∧ some k_ ≠ (v22 : Value).ownBlock) _ _ ([97, 769, 807] : List Int) t49 _ (Kd.F_mono (ok := (fun k_ => (w.heap.size ≤ k_) ∧ some k_ ≠ (v22 : Value).ownBlock)) HF47.out (fun k_ hk_ => ⟨hk_.1, hk_.2⟩)) HL48.out At50.out).mono ?_); rintro e w' ⟨rfl, ⟨nd, rfl⟩⟩; refine ⟨_, rfl, ?_⟩); refine stop_ ?_)
      refine Stop.go ?_
      by_cases c52 : t49 = true
      · have H := HH.out
        rw [if_pos c52] at H
        replace HH := Aside0.mk H
        clear H
        subst c52
        have H := HH.out
        obtain rfl := Option.some.inj H
        clear HH
        go_wp2
        go_ret
        exact ⟨by first | rfl | (simp; done) | (simp [*]; done), (by repeat (first | (with_reducible first | exact HB.out | apply below_alloc | apply pw_below_drewN | apply below_drew1) | exact HB.out))⟩
      · have H := HH.out
        rw [if_neg c52] at H
        replace HH := Aside0.mk H
        clear H
        replace c52 := Bool.eq_false_iff.mpr c52
        subst c52
        obtain ⟨A53, cp54, he_⟩ := Kd.N_slice HN22.out
        subst he_
        by_cases c55 : (t19.length : Int) = 3
        · have H := HH.out
          rw [if_pos c55] at H
          replace HH := Aside0.mk H
          clear H
          have hk56 : ((t19.length : Int) == 3) = true := beq_iff_eq.mpr c55
          have hk57 : ((t19.length : Int) != 3) = false := bne_eq_false_iff_eq.mpr c55
          clear c55
          by_cases c58 : 1 < (t19.length : Int)
          · have H := HH.out
            rw [if_pos c58] at H
            replace HH := Aside0.mk H
            clear H
            have hk59 : (1 < (t19.length : Int)) = True := eq_true c58
            have hk60 : (1 < t19.length) = True := eq_true (by have := c58; omega)
            have hk61 : decide (1 < (t19.length : Int)) = true := decide_eq_true c58
            have hk62 : decide (1 < t19.length) = true := decide_eq_true (by omega)
            clear c58
            have HL67 := Aside0.mk (Kd.N_reads' HN22.out).2.1
            have HF66 := Aside0.mk (Kd.N_F HN22.out)
            clear HN22
            replace HF6 := Aside0.mk (Kd.F_mono (ok := (fun k_ => (w.heap.size ≤ k_) ∧ some k_ ≠ ((.slice A53 t19.length cp54) : Value).ownBlock)) HF6.out (fun k_ hk_ => hk_.1) : Kd.F (Kd.int .i32) _ (fun k_ => (w.heap.size ≤ k_)) _ _ _)
            replace HF17 := Aside0.mk (Kd.F_mono (ok := (fun k_ => (w.heap.size ≤ k_) ∧ some k_ ≠ ((.slice A53 t19.length cp54) : Value).ownBlock)) HF17.out (fun k_ hk_ => hk_.1) : Kd.F (Kd.int .i32) _ (fun k_ => (w.heap.size ≤ k_)) _ _ _)
            replace HF28 := Aside0.mk (Kd.F_mono (ok := (fun k_ => (w.heap.size ≤ k_) ∧ some k_ ≠ ((.slice A53 t19.length cp54) : Value).ownBlock)) HF28.out (fun k_ hk_ => hk_.1) : Kd.F (Kd.int .i32) _ (fun k_ => (w.heap.size ≤ k_)) _ _ _)
            replace HF32 := Aside0.mk (Kd.F_mono (ok := (fun k_ => (w.heap.size ≤ k_) ∧ some k_ ≠ ((.slice A53 t19.length cp54) : Value).ownBlock)) HF32.out (fun k_ hk_ => hk_.1) : Kd.F (Kd.int .i32) _ (fun k_ => (w.heap.size ≤ k_)) _ _ _)
            replace HF47 := Aside0.mk (Kd.F_mono (ok := (fun k_ => (w.heap.size ≤ k_) ∧ some k_ ≠ ((.slice A53 t19.length cp54) : Value).ownBlock)) HF47.out (fun k_ hk_ => hk_.1) : Kd.F (Kd.int .i32) _ (fun k_ => (w.heap.size ≤ k_)) _ _ _)
            have p68 : 0 ≤ (1 : Int) := by decide
            have q68 : (1 : Int) < (t19.length : Int) := of_decide_eq_true (by first | (with_reducible assumption) | assumption)
            obtain ⟨ad68, A68_0, c68_0, e68, hx68_0, hl68_0, hi68_0⟩ := atF_L1 HF66.out (1 : Int) p68 q68
            cases e68
            (try simp only [show ((1 : Int)).toNat = 1 from rfl] at hx68_0)
            (try simp only [Nat.reduceMul, Nat.reduceEqDiff, Go.Addr.add, ↓reduceIte] at hx68_0)
            have HF68_0 := Aside0.mk hi68_0
            have HL68_0 := Aside0.mk hl68_0
            clear hi68_0 hl68_0
            replace p68 := eq_true p68
            replace q68 := eq_true q68
            have H := HH.out
            obtain rfl := Option.some.inj H
            clear HH
            go_wp2
            go_ret
            exact ⟨by first | rfl | (simp; done) | (simp [*]; done), (by repeat (first | (with_reducible first | exact HB.out | apply below_alloc | apply pw_below_drewN | apply below_drew1) | exact HB.out))⟩
          · exact absurd HH.out (by rw [if_neg c58]; simp)
        · have H := HH.out
          rw [if_neg c55] at H
          replace HH := Aside0.mk H
          clear H
          have hk73 : ((t19.length : Int) == 3) = false := beq_eq_false_iff_ne.mpr c55
          have hk74 : ((t19.length : Int) != 3) = true := bne_iff_ne.mpr c55
          clear c55
          have H := HH.out
          obtain rfl := Option.some.inj H
          clear HH
          go_wp2
          go_ret
          exact ⟨by first | rfl | (simp; done) | (simp [*]; done), (by repeat (first | (with_reducible first | exact HB.out | apply below_alloc | apply pw_below_drewN | apply below_drew1) | exact HB.out))⟩
    · have H := HH.out
      rw [if_neg c41] at H
      replace HH := Aside0.mk H
      clear H
      replace c41 := Bool.eq_false_iff.mpr c41
      subst c41
      have H := HH.out
      obtain rfl := Option.some.inj H
      clear HH
      go_wp2
      go_ret
      exact ⟨by first | rfl | (simp; done) | (simp [*]; done), (by repeat (first | (with_reducible first | exact HB.out | apply below_alloc | apply pw_below_drewN | apply below_drew1) | exact HB.out))⟩
  · have H := HH.out
    rw [if_neg c37] at H
    replace HH := Aside0.mk H
    clear H
    replace c37 := Bool.eq_false_iff.mpr c37
    subst c37
    have H := HH.out
    obtain rfl := Option.some.inj H
    clear HH
    go_wp2
    go_ret
    exact ⟨by first | rfl | (simp; done) | (simp [*]; done), (by repeat (first | (with_reducible first | exact HB.out | apply below_alloc | apply pw_below_drewN | apply below_drew1) | exact HB.out))⟩

end Go.Proofs.Ythdcofcikmeeeaa.GA
