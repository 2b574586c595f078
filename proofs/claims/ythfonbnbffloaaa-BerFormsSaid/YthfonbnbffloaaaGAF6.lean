-- written by wip/gen.py, a program of this session
import Derived.Test.YthfonbnbffloaaaGA0
import Derived.Test.YthfonbnbffloaaaGAF16
import Derived.Test.YthfonbnbffloaaaGAF17
import Derived.Test.YthfonbnbffloaaaGAF7
namespace Go.Proofs.Ythfonbnbffloaaa.GA
open Go.RowKit Go.Proofs.Ythfonbnbffloaaa Go.Proofs.Ythfonbnbffloaaa.MW Go.Proofs.YthfonbnbffloaaaW.PrintWords Go.Proofs.YthfonbnbffloaaaW.PrintLast Go.Proofs.YthfonbnbffloaaaW.PrintMore
attribute [local go_sem] max2_int min2_int max_two min_two
set_option linter.unusedVariables false
set_option linter.unusedSimpArgs false


/-! ### toponymlaw15_BerParts: function 6 -/
def toponymlaw15_BerParts.f (k : Nat) (a0 : ByteArray) (a1 : ByteArray) : Option (Bool) := if (a0.size : Int) > 2000 then ((toponymlaw15_awake.f k ).bind fun t4 => (some t4)) else (if (a1.size : Int) > 2000 then ((toponymlaw15_awake.f k ).bind fun t12 => (some t12)) else ((ber_All.f k a0).bind fun bt17 => ((ber_All.f k a1).bind fun bt22 => (if a0.size + a1.size ≤ 9223372036854775807 then ((ber_All.f k (a0 ++ a1)).bind fun bt31 => (if bt17.2 = 0 then (if bt22.2 = 0 then (if bt31.2 = 0 then (if ([] : List (S26)).length + bt17.1.length < 2199023255552 then ((some (([] : List (S26)) ++ bt17.1 : List (S26))).bind fun y53 => (if y53.length + bt22.1.length < 2199023255552 then ((some (y53 ++ bt22.1 : List (S26))).bind fun y62 => ((toponymref15_SameAll.f k bt31.1 y62).bind fun t74 => (if t74 = true then ((toponymlaw15_awake.f k ).bind fun t78 => (some t78)) else (some false)))) else (none))) else (none)) else (some false)) else (if bt31.2 = bt22.2 then (if (bt31.1.length : Int) = 0 then ((toponymlaw15_awake.f k ).bind fun t93 => (some t93)) else (some false)) else (some false))) else (if (bt17.1.length : Int) = 0 then ((toponymlaw15_awake.f k ).bind fun t108 => (some t108)) else (some false)))) else (none)))))
theorem toponymlaw15_BerParts.mono : ∀ a0_ a1_ k, LeO (toponymlaw15_BerParts.f k a0_ a1_) (toponymlaw15_BerParts.f (k + 1) a0_ a1_) := by
  intro a0_ a1_ k
  unfold toponymlaw15_BerParts.f
  repeat' first
      | (with_reducible exact ber_All.mono _ _)
      | (with_reducible exact toponymlaw15_awake.mono _)
      | (with_reducible exact toponymref15_SameAll.mono _ _ _)
      | (with_reducible exact LeO.refl _)
      | (with_reducible exact LeO.none _)
      | (with_reducible refine LeO.ite ?_ ?_)
      | (with_reducible refine LeO.bind ?_ (fun _ => ?_))
      | exact ber_All.mono _ _
      | exact toponymlaw15_awake.mono _
      | exact toponymref15_SameAll.mono _ _ _
      | exact LeO.none _
      | refine LeO.ite ?_ ?_
      | refine LeO.bind ?_ (fun _ => ?_)
set_option maxHeartbeats 8000000 in
set_option maxRecDepth 100000 in
theorem toponymlaw15_BerParts.calls (k : Nat) (a0 : ByteArray) (a1 : ByteArray) (r : Bool) (w : World) (h : toponymlaw15_BerParts.f k a0 a1 = some r) :
    Calls Try.prog 6 #[.string a0, .string a1] w (fun e w' => e = .returned (.bool r) ∧ Below w.heap.size w w') := by
  have HH := Aside0.mk (show (if (a0.size : Int) > 2000 then ((toponymlaw15_awake.f k ).bind fun t4 => (some t4)) else (if (a1.size : Int) > 2000 then ((toponymlaw15_awake.f k ).bind fun t12 => (some t12)) else ((ber_All.f k a0).bind fun bt17 => ((ber_All.f k a1).bind fun bt22 => (if a0.size + a1.size ≤ 9223372036854775807 then ((ber_All.f k (a0 ++ a1)).bind fun bt31 => (if bt17.2 = 0 then (if bt22.2 = 0 then (if bt31.2 = 0 then (if ([] : List (S26)).length + bt17.1.length < 2199023255552 then ((some (([] : List (S26)) ++ bt17.1 : List (S26))).bind fun y53 => (if y53.length + bt22.1.length < 2199023255552 then ((some (y53 ++ bt22.1 : List (S26))).bind fun y62 => ((toponymref15_SameAll.f k bt31.1 y62).bind fun t74 => (if t74 = true then ((toponymlaw15_awake.f k ).bind fun t78 => (some t78)) else (some false)))) else (none))) else (none)) else (some false)) else (if bt31.2 = bt22.2 then (if (bt31.1.length : Int) = 0 then ((toponymlaw15_awake.f k ).bind fun t93 => (some t93)) else (some false)) else (some false))) else (if (bt17.1.length : Int) = 0 then ((toponymlaw15_awake.f k ).bind fun t108 => (some t108)) else (some false)))) else (none)))))) = some r from h)
  clear h
  have HB := Aside0.mk (Below.refl w.heap.size w)
  go_enter Try.func6, Try.ntmps6
  by_cases c1 : (a0.size : Int) > 2000
  · have H := HH.out
    rw [if_pos c1] at H
    replace HH := Aside0.mk H
    clear H
    have hk2 : decide (2000 < (a0.size : Int)) = true := decide_eq_true c1
    have hk3 : decide (2000 < a0.size) = true := decide_eq_true (by omega)
    clear c1
    have H := HH.out
    replace H := Option.bind_eq_some_iff.mp H
    obtain ⟨t4, at_, H⟩ := H
    have At5 := Aside0.mk at_
    clear at_
    replace HH := Aside0.mk (show (some t4) = some r from H)
    clear H
    go_wp2_with (((with_reducible refine gate_callee (f := 7) rfl ?_); (try (refine gate_guard (by rfl) ?_; dsimp only)); refine goesL_ (some 19) rfl rfl Try.func7 (by kernel_rfl) rfl #[] rfl (by (try simp only [List.map_toArray, List.map_cons, List.map_nil]); first | done | rfl | (simp only [List.length_drop, List.length_take]; rfl)) ?_; (with_reducible refine (toponymlaw15_awake.calls k  t4 _  At5.out).mono ?_); rintro e w6 ⟨rfl, hb⟩; refine ⟨_, rfl, ?_⟩); refine stop_ ?_)
    refine Stop.go ?_
    replace HB := Aside0.mk (below_step HB.out hb)
    clear hb
    have H := HH.out
    obtain rfl := Option.some.inj H
    clear HH
    go_wp2
    go_ret
    exact ⟨by first | rfl | (simp; done) | (simp [*]; done), HB.out⟩
  · have H := HH.out
    rw [if_neg c1] at H
    replace HH := Aside0.mk H
    clear H
    have hk7 : decide (2000 < (a0.size : Int)) = false := decide_eq_false c1
    have hk8 : decide (2000 < a0.size) = false := decide_eq_false (by omega)
    clear c1
    by_cases c9 : (a1.size : Int) > 2000
    · have H := HH.out
      rw [if_pos c9] at H
      replace HH := Aside0.mk H
      clear H
      have hk10 : decide (2000 < (a1.size : Int)) = true := decide_eq_true c9
      have hk11 : decide (2000 < a1.size) = true := decide_eq_true (by omega)
      clear c9
      have H := HH.out
      replace H := Option.bind_eq_some_iff.mp H
      obtain ⟨t12, at_, H⟩ := H
      have At13 := Aside0.mk at_
      clear at_
      replace HH := Aside0.mk (show (some t12) = some r from H)
      clear H
      go_wp2_with (((with_reducible refine gate_callee (f := 7) rfl ?_); (try (refine gate_guard (by rfl) ?_; dsimp only)); refine goesL_ (some 19) rfl rfl Try.func7 (by kernel_rfl) rfl #[] rfl (by (try simp only [List.map_toArray, List.map_cons, List.map_nil]); first | done | rfl | (simp only [List.length_drop, List.length_take]; rfl)) ?_; (with_reducible refine (toponymlaw15_awake.calls k  t12 _  At13.out).mono ?_); rintro e w14 ⟨rfl, hb⟩; refine ⟨_, rfl, ?_⟩); refine stop_ ?_)
      refine Stop.go ?_
      replace HB := Aside0.mk (below_step HB.out hb)
      clear hb
      have H := HH.out
      obtain rfl := Option.some.inj H
      clear HH
      go_wp2
      go_ret
      exact ⟨by first | rfl | (simp; done) | (simp [*]; done), HB.out⟩
    · have H := HH.out
      rw [if_neg c9] at H
      replace HH := Aside0.mk H
      clear H
      have hk15 : decide (2000 < (a1.size : Int)) = false := decide_eq_false c9
      have hk16 : decide (2000 < a1.size) = false := decide_eq_false (by omega)
      clear c9
      have H := HH.out
      replace H := Option.bind_eq_some_iff.mp H
      obtain ⟨⟨t17, t18⟩, at_, H⟩ := H
      have At19 := Aside0.mk at_
      clear at_
      replace HH := Aside0.mk (show ((ber_All.f k a1).bind fun bt22 => (if a0.size + a1.size ≤ 9223372036854775807 then ((ber_All.f k (a0 ++ a1)).bind fun bt31 => (if t18 = 0 then (if bt22.2 = 0 then (if bt31.2 = 0 then (if ([] : List (S26)).length + t17.length < 2199023255552 then ((some (([] : List (S26)) ++ t17 : List (S26))).bind fun y53 => (if y53.length + bt22.1.length < 2199023255552 then ((some (y53 ++ bt22.1 : List (S26))).bind fun y62 => ((toponymref15_SameAll.f k bt31.1 y62).bind fun t74 => (if t74 = true then ((toponymlaw15_awake.f k ).bind fun t78 => (some t78)) else (some false)))) else (none))) else (none)) else (some false)) else (if bt31.2 = bt22.2 then (if (bt31.1.length : Int) = 0 then ((toponymlaw15_awake.f k ).bind fun t93 => (some t93)) else (some false)) else (some false))) else (if (t17.length : Int) = 0 then ((toponymlaw15_awake.f k ).bind fun t108 => (some t108)) else (some false)))) else (none))) = some r from H)
      clear H
      go_wp2_with (((with_reducible refine gate_callee (f := 17) rfl ?_); (try (refine gate_guard (by rfl) ?_; dsimp only)); refine goesL_ (some 22) rfl rfl Try.func17 (by kernel_rfl) rfl #[.string a0] rfl (by (try simp only [List.map_toArray, List.map_cons, List.map_nil]); first | done | rfl | (simp only [List.length_drop, List.length_take]; rfl)) ?_; (with_reducible refine (ber_All.calls k  a0 t17 t18 _  At19.out).mono ?_); rintro e w20 ⟨v21, rfl, hn21, hb⟩; refine ⟨_, rfl, ?_⟩); refine stop_ ?_)
      refine Stop.go ?_
      have hba := Kd.N_base hn21
      have HN21 := Aside0.mk (Kd.N_mono (Kd.N_lower hn21 (below_size HB.out)) (fun k_ h_ => (Nat.le_trans (below_size HB.out) h_)) : Kd.N k26 26 w20 w.heap.size (fun k_ => (w.heap.size ≤ k_)) v21 t17)
      replace HB := Aside0.mk (below_step HB.out hb)
      clear hn21 hba hb
      have H := HH.out
      replace H := Option.bind_eq_some_iff.mp H
      obtain ⟨⟨t22, t23⟩, at_, H⟩ := H
      have At24 := Aside0.mk at_
      clear at_
      replace HH := Aside0.mk (show (if a0.size + a1.size ≤ 9223372036854775807 then ((ber_All.f k (a0 ++ a1)).bind fun bt31 => (if t18 = 0 then (if t23 = 0 then (if bt31.2 = 0 then (if ([] : List (S26)).length + t17.length < 2199023255552 then ((some (([] : List (S26)) ++ t17 : List (S26))).bind fun y53 => (if y53.length + t22.length < 2199023255552 then ((some (y53 ++ t22 : List (S26))).bind fun y62 => ((toponymref15_SameAll.f k bt31.1 y62).bind fun t74 => (if t74 = true then ((toponymlaw15_awake.f k ).bind fun t78 => (some t78)) else (some false)))) else (none))) else (none)) else (some false)) else (if bt31.2 = t23 then (if (bt31.1.length : Int) = 0 then ((toponymlaw15_awake.f k ).bind fun t93 => (some t93)) else (some false)) else (some false))) else (if (t17.length : Int) = 0 then ((toponymlaw15_awake.f k ).bind fun t108 => (some t108)) else (some false)))) else (none)) = some r from H)
      clear H
      go_wp2_with (((with_reducible refine gate_callee (f := 17) rfl ?_); (try (refine gate_guard (by rfl) ?_; dsimp only)); refine goesL_ (some 27) rfl rfl Try.func17 (by kernel_rfl) rfl #[.string a1] rfl (by (try simp only [List.map_toArray, List.map_cons, List.map_nil]); first | done | rfl | (simp only [List.length_drop, List.length_take]; rfl)) ?_; (with_reducible refine (ber_All.calls k  a1 t22 t23 _  At24.out).mono ?_); rintro e w25 ⟨v26, rfl, hn26, hb⟩; refine ⟨_, rfl, ?_⟩); refine stop_ ?_)
      refine Stop.go ?_
      have hba := Kd.N_base hn26
      have HN26 := Aside0.mk (Kd.N_mono (Kd.N_lower hn26 (below_size HB.out)) (fun k_ h_ => ⟨(Nat.le_trans (below_size HB.out) h_), Kd.fresh' (Kd.N_lt HN21.out) k_ h_⟩) : Kd.N k26 26 w25 w.heap.size (fun k_ => (w.heap.size ≤ k_) ∧ some k_ ≠ (v21 : Value).ownBlock) v26 t22)
      replace HN21 := Aside0.mk (Kd.N_mono (Kd.N_elder' (ok := (fun k_ => (w.heap.size ≤ k_))) HN21.out hba hb) (fun k_ hk_ => ⟨hk_.1, hk_.2⟩) : Kd.N k26 _ _ _ (fun k_ => (w.heap.size ≤ k_) ∧ some k_ ≠ (v26 : Value).ownBlock) _ _)
      replace HB := Aside0.mk (below_step HB.out hb)
      clear hn26 hba hb
      by_cases c27 : a0.size + a1.size ≤ 9223372036854775807
      · have H := HH.out
        rw [if_pos c27] at H
        replace HH := Aside0.mk H
        clear H
        have hk28 : (9223372036854775807 < a0.size + a1.size) = False := eq_false (Nat.not_lt.2 c27)
        have hk29 : (a0.size + a1.size ≤ 9223372036854775807) = True := eq_true c27
        have hk30 : decide (a0.size + a1.size ≤ 9223372036854775807) = true := decide_eq_true c27
        clear c27
        have H := HH.out
        replace H := Option.bind_eq_some_iff.mp H
        obtain ⟨⟨t31, t32⟩, at_, H⟩ := H
        have At33 := Aside0.mk at_
        clear at_
        replace HH := Aside0.mk (show (if t18 = 0 then (if t23 = 0 then (if t32 = 0 then (if ([] : List (S26)).length + t17.length < 2199023255552 then ((some (([] : List (S26)) ++ t17 : List (S26))).bind fun y53 => (if y53.length + t22.length < 2199023255552 then ((some (y53 ++ t22 : List (S26))).bind fun y62 => ((toponymref15_SameAll.f k t31 y62).bind fun t74 => (if t74 = true then ((toponymlaw15_awake.f k ).bind fun t78 => (some t78)) else (some false)))) else (none))) else (none)) else (some false)) else (if t32 = t23 then (if (t31.length : Int) = 0 then ((toponymlaw15_awake.f k ).bind fun t93 => (some t93)) else (some false)) else (some false))) else (if (t17.length : Int) = 0 then ((toponymlaw15_awake.f k ).bind fun t108 => (some t108)) else (some false))) = some r from H)
        clear H
        go_wp2_with (((with_reducible refine gate_callee (f := 17) rfl ?_); (try (refine gate_guard (by rfl) ?_; dsimp only)); refine goesL_ (some 34) rfl rfl Try.func17 (by kernel_rfl) rfl #[.string (a0 ++ a1)] rfl (by (try simp only [List.map_toArray, List.map_cons, List.map_nil]); first | done | rfl | (simp only [List.length_drop, List.length_take]; rfl)) ?_; (with_reducible refine (ber_All.calls k  (a0 ++ a1) t31 t32 _  At33.out).mono ?_); rintro e w34 ⟨v35, rfl, hn35, hb⟩; refine ⟨_, rfl, ?_⟩); refine stop_ ?_)
        refine Stop.go ?_
        have hba := Kd.N_base hn35
        have HN35 := Aside0.mk (Kd.N_mono (Kd.N_lower hn35 (below_size HB.out)) (fun k_ h_ => ⟨(Nat.le_trans (below_size HB.out) h_), Kd.fresh' (Kd.N_lt HN21.out) k_ h_, Kd.fresh' (Kd.N_lt HN26.out) k_ h_⟩) : Kd.N k26 26 w34 w.heap.size (fun k_ => (w.heap.size ≤ k_) ∧ some k_ ≠ (v21 : Value).ownBlock ∧ some k_ ≠ (v26 : Value).ownBlock) v35 t31)
        replace HN21 := Aside0.mk (Kd.N_mono (Kd.N_elder' (ok := (fun k_ => (w.heap.size ≤ k_) ∧ some k_ ≠ (v26 : Value).ownBlock)) HN21.out hba hb) (fun k_ hk_ => ⟨hk_.1.1, hk_.1.2, hk_.2⟩) : Kd.N k26 _ _ _ (fun k_ => (w.heap.size ≤ k_) ∧ some k_ ≠ (v26 : Value).ownBlock ∧ some k_ ≠ (v35 : Value).ownBlock) _ _)
        replace HN26 := Aside0.mk (Kd.N_mono (Kd.N_elder' (ok := (fun k_ => (w.heap.size ≤ k_) ∧ some k_ ≠ (v21 : Value).ownBlock)) HN26.out hba hb) (fun k_ hk_ => ⟨hk_.1.1, hk_.1.2, hk_.2⟩) : Kd.N k26 _ _ _ (fun k_ => (w.heap.size ≤ k_) ∧ some k_ ≠ (v21 : Value).ownBlock ∧ some k_ ≠ (v35 : Value).ownBlock) _ _)
        replace HB := Aside0.mk (below_step HB.out hb)
        clear hn35 hba hb
        by_cases c36 : t18 = 0
        · have H := HH.out
          rw [if_pos c36] at H
          replace HH := Aside0.mk H
          clear H
          have hk37 : (t18 == 0) = true := beq_iff_eq.mpr c36
          have hk38 : (t18 != 0) = false := bne_eq_false_iff_eq.mpr c36
          clear c36
          by_cases c39 : t23 = 0
          · have H := HH.out
            rw [if_pos c39] at H
            replace HH := Aside0.mk H
            clear H
            have hk40 : (t23 == 0) = true := beq_iff_eq.mpr c39
            have hk41 : (t23 != 0) = false := bne_eq_false_iff_eq.mpr c39
            clear c39
            by_cases c42 : t32 = 0
            · have H := HH.out
              rw [if_pos c42] at H
              replace HH := Aside0.mk H
              clear H
              have hk43 : (t32 == 0) = true := beq_iff_eq.mpr c42
              have hk44 : (t32 != 0) = false := bne_eq_false_iff_eq.mpr c42
              clear c42
              go_wp2_with (((with_reducible refine gate_dst (N := 62) rfl ?_); (try (refine gate_guard (by rfl) ?_; dsimp only)); refine Kd.N_lit k26 w.heap.size 26 rfl (N' := 62) rfl (xs := ([] : List (S26))) (inner := []) (ok := (fun k_ => (w.heap.size ≤ k_) ∧ some k_ ≠ (v21 : Value).ownBlock ∧ some k_ ≠ (v26 : Value).ownBlock ∧ some k_ ≠ (v35 : Value).ownBlock)) (okp := (fun k_ => (w.heap.size ≤ k_) ∧ some k_ ≠ (v21 : Value).ownBlock ∧ some k_ ≠ (v26 : Value).ownBlock ∧ some k_ ≠ (v35 : Value).ownBlock)) ?hr ?hp (fun _ hk_ => hk_) ?hf HB.out (below_size HB.out) (by first | simp | decide) ?_; (case hr => first | (go_simp; done) | (go_simp; rfl)); (case hp => exact (Reps.none _ _)); (case hf => exact (show ∀ k_, w34.heap.size ≤ k_ → (fun k_ => (w.heap.size ≤ k_) ∧ some k_ ≠ (v21 : Value).ownBlock ∧ some k_ ≠ (v26 : Value).ownBlock ∧ some k_ ≠ (v35 : Value).ownBlock) k_ from fun k_ h_ => ⟨(Nat.le_trans (below_size HB.out) h_), Kd.fresh' (Kd.N_lt HN21.out) k_ h_, Kd.fresh' (Kd.N_lt HN26.out) k_ h_, Kd.fresh' (Kd.N_lt HN35.out) k_ h_⟩) _ (Nat.le_refl _)); intro v45 w46 hn1 hb1 hg1 hat1); replace hat1 := Aside0.mk hat1; refine stop_ ?_)
              refine Stop.go ?_
              replace hat1 := hat1.out
              have hbe := MW.grown_below hg1
              have hba := MW.base_of hat1
              replace HN21 := Aside0.mk (Kd.N_mono (Kd.N_elder' (ok := (fun k_ => (w.heap.size ≤ k_) ∧ some k_ ≠ (v26 : Value).ownBlock ∧ some k_ ≠ (v35 : Value).ownBlock)) HN21.out hba hbe) (fun k_ hk_ => ⟨hk_.1.1, hk_.1.2.1, hk_.1.2.2, hk_.2⟩) : Kd.N k26 _ _ _ (fun k_ => (w.heap.size ≤ k_) ∧ some k_ ≠ (v26 : Value).ownBlock ∧ some k_ ≠ (v35 : Value).ownBlock ∧ some k_ ≠ (v45 : Value).ownBlock) _ _)
              replace HN26 := Aside0.mk (Kd.N_mono (Kd.N_elder' (ok := (fun k_ => (w.heap.size ≤ k_) ∧ some k_ ≠ (v21 : Value).ownBlock ∧ some k_ ≠ (v35 : Value).ownBlock)) HN26.out hba hbe) (fun k_ hk_ => ⟨hk_.1.1, hk_.1.2.1, hk_.1.2.2, hk_.2⟩) : Kd.N k26 _ _ _ (fun k_ => (w.heap.size ≤ k_) ∧ some k_ ≠ (v21 : Value).ownBlock ∧ some k_ ≠ (v35 : Value).ownBlock ∧ some k_ ≠ (v45 : Value).ownBlock) _ _)
              replace HN35 := Aside0.mk (Kd.N_mono (Kd.N_elder' (ok := (fun k_ => (w.heap.size ≤ k_) ∧ some k_ ≠ (v21 : Value).ownBlock ∧ some k_ ≠ (v26 : Value).ownBlock)) HN35.out hba hbe) (fun k_ hk_ => ⟨hk_.1.1, hk_.1.2.1, hk_.1.2.2, hk_.2⟩) : Kd.N k26 _ _ _ (fun k_ => (w.heap.size ≤ k_) ∧ some k_ ≠ (v21 : Value).ownBlock ∧ some k_ ≠ (v26 : Value).ownBlock ∧ some k_ ≠ (v45 : Value).ownBlock) _ _)
              replace HB := Aside0.mk hb1
              have HN47 := Aside0.mk hn1
              clear hn1 hb1 hg1 hat1 hbe hba
              obtain ⟨A48, cp49, he_⟩ := Kd.N_slice HN21.out
              subst he_
              have HL51 := Aside0.mk (Kd.N_reads' HN21.out).2.1
              have HF50 := Aside0.mk (Kd.N_F HN21.out)
              clear HN21
              replace HN26 := Aside0.mk (Kd.N_mono (ok := (fun k_ => (w.heap.size ≤ k_) ∧ some k_ ≠ ((.slice A48 t17.length cp49) : Value).ownBlock ∧ some k_ ≠ (v35 : Value).ownBlock ∧ some k_ ≠ (v45 : Value).ownBlock)) HN26.out (fun k_ hk_ => ⟨hk_.1, hk_.2.2.1, hk_.2.2.2⟩) : Kd.N k26 _ _ _ (fun k_ => (w.heap.size ≤ k_) ∧ some k_ ≠ (v35 : Value).ownBlock ∧ some k_ ≠ (v45 : Value).ownBlock) _ _)
              replace HN35 := Aside0.mk (Kd.N_mono (ok := (fun k_ => (w.heap.size ≤ k_) ∧ some k_ ≠ ((.slice A48 t17.length cp49) : Value).ownBlock ∧ some k_ ≠ (v26 : Value).ownBlock ∧ some k_ ≠ (v45 : Value).ownBlock)) HN35.out (fun k_ hk_ => ⟨hk_.1, hk_.2.2.1, hk_.2.2.2⟩) : Kd.N k26 _ _ _ (fun k_ => (w.heap.size ≤ k_) ∧ some k_ ≠ (v26 : Value).ownBlock ∧ some k_ ≠ (v45 : Value).ownBlock) _ _)
              replace HN47 := Aside0.mk (Kd.N_mono (ok := (fun k_ => (w.heap.size ≤ k_) ∧ some k_ ≠ ((.slice A48 t17.length cp49) : Value).ownBlock ∧ some k_ ≠ (v26 : Value).ownBlock ∧ some k_ ≠ (v35 : Value).ownBlock)) HN47.out (fun k_ hk_ => ⟨hk_.1, hk_.2.2.1, hk_.2.2.2⟩) : Kd.N k26 _ _ _ (fun k_ => (w.heap.size ≤ k_) ∧ some k_ ≠ (v26 : Value).ownBlock ∧ some k_ ≠ (v35 : Value).ownBlock) _ _)
              by_cases c52 : ([] : List (S26)).length + t17.length < 2199023255552
              · have H := HH.out
                rw [if_pos c52] at H
                replace HH := Aside0.mk H
                clear H
                have LMc52 := Aside0.mk c52
                clear c52
                obtain ⟨y53, hy53⟩ : ∃ y_ : List (S26), y_ = (([] : List (S26)) ++ t17) := ⟨_, rfl⟩
                have H : (if y53.length + t22.length < 2199023255552 then ((some (y53 ++ t22 : List (S26))).bind fun y62 => ((toponymref15_SameAll.f k t31 y62).bind fun t74 => (if t74 = true then ((toponymlaw15_awake.f k ).bind fun t78 => (some t78)) else (some false)))) else (none)) = some r := by rw [hy53]; exact HH.out
                replace HH := Aside0.mk H
                clear H
                have NYy53 := Aside0.mk hy53
                clear hy53
                go_wp2_with (((with_reducible refine gate_dst (N := 64) rfl ?_); (try (refine gate_guard (by rfl) ?_; dsimp only)); refine Kd.N_append_rows k26 w.heap.size rfl _ _ 22 26 (.agg #[(.int .i64 0), (.bool false), (.int .i64 0), (.string ⟨#[]⟩), (.slice none 0 0)]) 64 rfl Try.underlying22 info26 rfl (by decide) (by decide) (v45) ([] : List (S26)) t17 _ _ _ (fun k_ => (w.heap.size ≤ k_) ∧ some k_ ≠ (v26 : Value).ownBlock ∧ some k_ ≠ (v35 : Value).ownBlock) (fun k_ => (fun k_ => (w.heap.size ≤ k_) ∧ some k_ ≠ (v26 : Value).ownBlock ∧ some k_ ≠ (v35 : Value).ownBlock) k_ ∧ some k_ ≠ (v45 : Value).ownBlock) rfl rfl HN47.out (Kd.F_mono (ok := (fun k_ => (w.heap.size ≤ k_) ∧ some k_ ≠ (v26 : Value).ownBlock ∧ some k_ ≠ (v35 : Value).ownBlock ∧ some k_ ≠ (v45 : Value).ownBlock)) HF50.out (fun k_ hk_ => ⟨⟨hk_.1, hk_.2.1, hk_.2.2.1⟩, hk_.2.2.2⟩)) (fun _ hk_ => hk_) (fun k_ h_ => ⟨(Nat.le_trans (below_size HB.out) h_), Kd.fresh' (Kd.N_lt HN26.out) k_ h_, Kd.fresh' (Kd.N_lt HN35.out) k_ h_⟩) HB.out (below_size HB.out) (by first | (have := LMc52.out; simp only [List.length_nil] at *; omega) | (have := LMc52.out; simp at *; omega)) ?_; intro v54 w55 hn1 hb1 hg1 hat1); replace hat1 := Aside0.mk hat1; refine stop_ ?_)
                refine Stop.go ?_
                replace hat1 := hat1.out
                replace HF50 := Aside0.mk (Kd.F_mono (Kd.F_after (v := v45) (ok := (fun k_ => (w.heap.size ≤ k_) ∧ some k_ ≠ (v26 : Value).ownBlock ∧ some k_ ≠ (v35 : Value).ownBlock)) (Kd.F_mono (ok := (fun k_ => (w.heap.size ≤ k_) ∧ some k_ ≠ (v26 : Value).ownBlock ∧ some k_ ≠ (v35 : Value).ownBlock ∧ some k_ ≠ (v45 : Value).ownBlock)) HF50.out (fun k_ hk_ => ⟨⟨hk_.1, hk_.2.1, hk_.2.2.1⟩, hk_.2.2.2⟩)) hg1 hat1) (fun k_ hk_ => ⟨hk_.1.1, hk_.1.2.1, hk_.1.2.2, hk_.2⟩) : Kd.F k26 _ (fun k_ => (w.heap.size ≤ k_) ∧ some k_ ≠ (v26 : Value).ownBlock ∧ some k_ ≠ (v35 : Value).ownBlock ∧ some k_ ≠ (v54 : Value).ownBlock) _ _ _)
                replace HN26 := Aside0.mk (Kd.N_mono (Kd.N_after (u := v45) (ok := (fun k_ => (w.heap.size ≤ k_) ∧ some k_ ≠ (v35 : Value).ownBlock)) (Kd.N_mono (ok := (fun k_ => (w.heap.size ≤ k_) ∧ some k_ ≠ (v35 : Value).ownBlock ∧ some k_ ≠ (v45 : Value).ownBlock)) HN26.out (fun k_ hk_ => ⟨⟨hk_.1, hk_.2.1⟩, hk_.2.2⟩)) hg1 hat1) (fun k_ hk_ => ⟨hk_.1.1, hk_.1.2, hk_.2⟩) : Kd.N k26 _ _ _ (fun k_ => (w.heap.size ≤ k_) ∧ some k_ ≠ (v35 : Value).ownBlock ∧ some k_ ≠ (v54 : Value).ownBlock) _ _)
                replace HN35 := Aside0.mk (Kd.N_mono (Kd.N_after (u := v45) (ok := (fun k_ => (w.heap.size ≤ k_) ∧ some k_ ≠ (v26 : Value).ownBlock)) (Kd.N_mono (ok := (fun k_ => (w.heap.size ≤ k_) ∧ some k_ ≠ (v26 : Value).ownBlock ∧ some k_ ≠ (v45 : Value).ownBlock)) HN35.out (fun k_ hk_ => ⟨⟨hk_.1, hk_.2.1⟩, hk_.2.2⟩)) hg1 hat1) (fun k_ hk_ => ⟨hk_.1.1, hk_.1.2, hk_.2⟩) : Kd.N k26 _ _ _ (fun k_ => (w.heap.size ≤ k_) ∧ some k_ ≠ (v26 : Value).ownBlock ∧ some k_ ≠ (v54 : Value).ownBlock) _ _)
                replace HB := Aside0.mk hb1
                clear HN47
                have HN56 := Aside0.mk hn1
                clear hn1 hb1 hg1 hat1
                replace HN56 := Aside0.mk (by rw [NYy53.out]; exact HN56.out : Kd.N k26 26 w55 w.heap.size (fun k_ => (w.heap.size ≤ k_) ∧ some k_ ≠ (v26 : Value).ownBlock ∧ some k_ ≠ (v35 : Value).ownBlock) v54 y53)
                obtain ⟨A57, cp58, he_⟩ := Kd.N_slice HN26.out
                subst he_
                have HL60 := Aside0.mk (Kd.N_reads' HN26.out).2.1
                have HF59 := Aside0.mk (Kd.N_F HN26.out)
                clear HN26
                replace HF50 := Aside0.mk (Kd.F_mono (ok := (fun k_ => (w.heap.size ≤ k_) ∧ some k_ ≠ ((.slice A57 t22.length cp58) : Value).ownBlock ∧ some k_ ≠ (v35 : Value).ownBlock ∧ some k_ ≠ (v54 : Value).ownBlock)) HF50.out (fun k_ hk_ => ⟨hk_.1, hk_.2.2.1, hk_.2.2.2⟩) : Kd.F k26 _ (fun k_ => (w.heap.size ≤ k_) ∧ some k_ ≠ (v35 : Value).ownBlock ∧ some k_ ≠ (v54 : Value).ownBlock) _ _ _)
                replace HN35 := Aside0.mk (Kd.N_mono (ok := (fun k_ => (w.heap.size ≤ k_) ∧ some k_ ≠ ((.slice A57 t22.length cp58) : Value).ownBlock ∧ some k_ ≠ (v54 : Value).ownBlock)) HN35.out (fun k_ hk_ => ⟨hk_.1, hk_.2.2⟩) : Kd.N k26 _ _ _ (fun k_ => (w.heap.size ≤ k_) ∧ some k_ ≠ (v54 : Value).ownBlock) _ _)
                replace HN56 := Aside0.mk (Kd.N_mono (ok := (fun k_ => (w.heap.size ≤ k_) ∧ some k_ ≠ ((.slice A57 t22.length cp58) : Value).ownBlock ∧ some k_ ≠ (v35 : Value).ownBlock)) HN56.out (fun k_ hk_ => ⟨hk_.1, hk_.2.2⟩) : Kd.N k26 _ _ _ (fun k_ => (w.heap.size ≤ k_) ∧ some k_ ≠ (v35 : Value).ownBlock) _ _)
                by_cases c61 : y53.length + t22.length < 2199023255552
                · have H := HH.out
                  rw [if_pos c61] at H
                  replace HH := Aside0.mk H
                  clear H
                  have LMc61 := Aside0.mk c61
                  clear c61
                  obtain ⟨y62, hy62⟩ : ∃ y_ : List (S26), y_ = (y53 ++ t22) := ⟨_, rfl⟩
                  have H : ((toponymref15_SameAll.f k t31 y62).bind fun t74 => (if t74 = true then ((toponymlaw15_awake.f k ).bind fun t78 => (some t78)) else (some false))) = some r := by rw [hy62]; exact HH.out
                  replace HH := Aside0.mk H
                  clear H
                  have NYy62 := Aside0.mk hy62
                  clear hy62
                  go_wp2_with (((with_reducible refine gate_dst (N := 66) rfl ?_); (try (refine gate_guard (by rfl) ?_; dsimp only)); refine Kd.N_append_rows k26 w.heap.size rfl _ _ 22 26 (.agg #[(.int .i64 0), (.bool false), (.int .i64 0), (.string ⟨#[]⟩), (.slice none 0 0)]) 64 rfl Try.underlying22 info26 rfl (by decide) (by decide) (v54) y53 t22 _ _ _ (fun k_ => (w.heap.size ≤ k_) ∧ some k_ ≠ (v35 : Value).ownBlock) (fun k_ => (fun k_ => (w.heap.size ≤ k_) ∧ some k_ ≠ (v35 : Value).ownBlock) k_ ∧ some k_ ≠ (v54 : Value).ownBlock) rfl rfl HN56.out (Kd.F_mono (ok := (fun k_ => (w.heap.size ≤ k_) ∧ some k_ ≠ (v35 : Value).ownBlock ∧ some k_ ≠ (v54 : Value).ownBlock)) HF59.out (fun k_ hk_ => ⟨⟨hk_.1, hk_.2.1⟩, hk_.2.2⟩)) (fun _ hk_ => hk_) (fun k_ h_ => ⟨(Nat.le_trans (below_size HB.out) h_), Kd.fresh' (Kd.N_lt HN35.out) k_ h_⟩) HB.out (below_size HB.out) (by first | (have := LMc61.out; simp only [List.length_nil] at *; omega) | (have := LMc61.out; simp at *; omega)) ?_; intro v63 w64 hn1 hb1 hg1 hat1); replace hat1 := Aside0.mk hat1; refine stop_ ?_)
                  refine Stop.go ?_
                  replace hat1 := hat1.out
                  replace HF50 := Aside0.mk (Kd.F_mono (Kd.F_after (v := v54) (ok := (fun k_ => (w.heap.size ≤ k_) ∧ some k_ ≠ (v35 : Value).ownBlock)) (Kd.F_mono (ok := (fun k_ => (w.heap.size ≤ k_) ∧ some k_ ≠ (v35 : Value).ownBlock ∧ some k_ ≠ (v54 : Value).ownBlock)) HF50.out (fun k_ hk_ => ⟨⟨hk_.1, hk_.2.1⟩, hk_.2.2⟩)) hg1 hat1) (fun k_ hk_ => ⟨hk_.1.1, hk_.1.2, hk_.2⟩) : Kd.F k26 _ (fun k_ => (w.heap.size ≤ k_) ∧ some k_ ≠ (v35 : Value).ownBlock ∧ some k_ ≠ (v63 : Value).ownBlock) _ _ _)
                  replace HF59 := Aside0.mk (Kd.F_mono (Kd.F_after (v := v54) (ok := (fun k_ => (w.heap.size ≤ k_) ∧ some k_ ≠ (v35 : Value).ownBlock)) (Kd.F_mono (ok := (fun k_ => (w.heap.size ≤ k_) ∧ some k_ ≠ (v35 : Value).ownBlock ∧ some k_ ≠ (v54 : Value).ownBlock)) HF59.out (fun k_ hk_ => ⟨⟨hk_.1, hk_.2.1⟩, hk_.2.2⟩)) hg1 hat1) (fun k_ hk_ => ⟨hk_.1.1, hk_.1.2, hk_.2⟩) : Kd.F k26 _ (fun k_ => (w.heap.size ≤ k_) ∧ some k_ ≠ (v35 : Value).ownBlock ∧ some k_ ≠ (v63 : Value).ownBlock) _ _ _)
                  replace HN35 := Aside0.mk (Kd.N_mono (Kd.N_after (u := v54) (ok := (fun k_ => (w.heap.size ≤ k_))) (Kd.N_mono (ok := (fun k_ => (w.heap.size ≤ k_) ∧ some k_ ≠ (v54 : Value).ownBlock)) HN35.out (fun k_ hk_ => ⟨hk_.1, hk_.2⟩)) hg1 hat1) (fun k_ hk_ => ⟨hk_.1, hk_.2⟩) : Kd.N k26 _ _ _ (fun k_ => (w.heap.size ≤ k_) ∧ some k_ ≠ (v63 : Value).ownBlock) _ _)
                  replace HB := Aside0.mk hb1
                  clear HN56
                  have HN65 := Aside0.mk hn1
                  clear hn1 hb1 hg1 hat1
                  replace HN65 := Aside0.mk (by rw [NYy62.out]; exact HN65.out : Kd.N k26 26 w64 w.heap.size (fun k_ => (w.heap.size ≤ k_) ∧ some k_ ≠ (v35 : Value).ownBlock) v63 y62)
                  obtain ⟨A66, cp67, he_⟩ := Kd.N_slice HN35.out
                  subst he_
                  have HL69 := Aside0.mk (Kd.N_reads' HN35.out).2.1
                  have HF68 := Aside0.mk (Kd.N_F HN35.out)
                  clear HN35
                  replace HF50 := Aside0.mk (Kd.F_mono (ok := (fun k_ => (w.heap.size ≤ k_) ∧ some k_ ≠ ((.slice A66 t31.length cp67) : Value).ownBlock ∧ some k_ ≠ (v63 : Value).ownBlock)) HF50.out (fun k_ hk_ => ⟨hk_.1, hk_.2.2⟩) : Kd.F k26 _ (fun k_ => (w.heap.size ≤ k_) ∧ some k_ ≠ (v63 : Value).ownBlock) _ _ _)
                  replace HF59 := Aside0.mk (Kd.F_mono (ok := (fun k_ => (w.heap.size ≤ k_) ∧ some k_ ≠ ((.slice A66 t31.length cp67) : Value).ownBlock ∧ some k_ ≠ (v63 : Value).ownBlock)) HF59.out (fun k_ hk_ => ⟨hk_.1, hk_.2.2⟩) : Kd.F k26 _ (fun k_ => (w.heap.size ≤ k_) ∧ some k_ ≠ (v63 : Value).ownBlock) _ _ _)
                  replace HN65 := Aside0.mk (Kd.N_mono (ok := (fun k_ => (w.heap.size ≤ k_) ∧ some k_ ≠ ((.slice A66 t31.length cp67) : Value).ownBlock)) HN65.out (fun k_ hk_ => hk_.1) : Kd.N k26 _ _ _ (fun k_ => (w.heap.size ≤ k_)) _ _)
                  obtain ⟨A70, cp71, he_⟩ := Kd.N_slice HN65.out
                  subst he_
                  have HL73 := Aside0.mk (Kd.N_reads' HN65.out).2.1
                  have HF72 := Aside0.mk (Kd.N_F HN65.out)
                  clear HN65
                  replace HF50 := Aside0.mk (Kd.F_mono (ok := (fun k_ => (w.heap.size ≤ k_) ∧ some k_ ≠ ((.slice A70 y62.length cp71) : Value).ownBlock)) HF50.out (fun k_ hk_ => hk_.1) : Kd.F k26 _ (fun k_ => (w.heap.size ≤ k_)) _ _ _)
                  replace HF59 := Aside0.mk (Kd.F_mono (ok := (fun k_ => (w.heap.size ≤ k_) ∧ some k_ ≠ ((.slice A70 y62.length cp71) : Value).ownBlock)) HF59.out (fun k_ hk_ => hk_.1) : Kd.F k26 _ (fun k_ => (w.heap.size ≤ k_)) _ _ _)
                  replace HF68 := Aside0.mk (Kd.F_mono (ok := (fun k_ => (w.heap.size ≤ k_) ∧ some k_ ≠ ((.slice A70 y62.length cp71) : Value).ownBlock)) HF68.out (fun k_ hk_ => hk_.1) : Kd.F k26 _ (fun k_ => (w.heap.size ≤ k_)) _ _ _)
                  have H := HH.out
                  replace H := Option.bind_eq_some_iff.mp H
                  obtain ⟨t74, at_, H⟩ := H
                  have At75 := Aside0.mk at_
                  clear at_
                  replace HH := Aside0.mk (show (if t74 = true then ((toponymlaw15_awake.f k ).bind fun t78 => (some t78)) else (some false)) = some r from H)
                  clear H
                  go_wp2_with (((with_reducible refine gate_callee (f := 18) rfl ?_); (try (refine gate_guard (by rfl) ?_; dsimp only)); refine goesL_ (some 67) rfl rfl Try.func18 (by kernel_rfl) rfl #[.slice A66 t31.length cp67, .slice A70 y62.length cp71] rfl (by (try simp only [List.map_toArray, List.map_cons, List.map_nil]); first | done | rfl | (simp only [List.length_drop, List.length_take]; rfl)) ?_; (with_reducible refine (toponymref15_SameAll.calls k (fun k_ => (w.heap.size ≤ k_)) _ _ t31 _ _ y62 t74 _ (Kd.F_mono (ok := (fun k_ => (w.heap.size ≤ k_))) HF68.out (fun k_ hk_ => hk_)) HL69.out (Kd.F_mono (ok := (fun k_ => (w.heap.size ≤ k_))) HF72.out (fun k_ hk_ => hk_)) HL73.out At75.out).mono ?_); rintro e w76 ⟨rfl, hb⟩; refine ⟨_, rfl, ?_⟩); refine stop_ ?_)
                  refine Stop.go ?_
                  replace HF50 := Aside0.mk (Kd.F_below HF50.out hb)
                  replace HF59 := Aside0.mk (Kd.F_below HF59.out hb)
                  replace HF68 := Aside0.mk (Kd.F_below HF68.out hb)
                  replace HF72 := Aside0.mk (Kd.F_below HF72.out hb)
                  replace HB := Aside0.mk (below_step HB.out hb)
                  clear hb
                  by_cases c77 : t74 = true
                  · have H := HH.out
                    rw [if_pos c77] at H
                    replace HH := Aside0.mk H
                    clear H
                    subst c77
                    have H := HH.out
                    replace H := Option.bind_eq_some_iff.mp H
                    obtain ⟨t78, at_, H⟩ := H
                    have At79 := Aside0.mk at_
                    clear at_
                    replace HH := Aside0.mk (show (some t78) = some r from H)
                    clear H
                    go_wp2_with (((with_reducible refine gate_callee (f := 7) rfl ?_); (try (refine gate_guard (by rfl) ?_; dsimp only)); refine goesL_ (some 70) rfl rfl Try.func7 (by kernel_rfl) rfl #[] rfl (by (try simp only [List.map_toArray, List.map_cons, List.map_nil]); first | done | rfl | (simp only [List.length_drop, List.length_take]; rfl)) ?_; (with_reducible refine (toponymlaw15_awake.calls k  t78 _  At79.out).mono ?_); rintro e w80 ⟨rfl, hb⟩; refine ⟨_, rfl, ?_⟩); refine stop_ ?_)
                    refine Stop.go ?_
                    replace HF50 := Aside0.mk (Kd.F_below HF50.out hb)
                    replace HF59 := Aside0.mk (Kd.F_below HF59.out hb)
                    replace HF68 := Aside0.mk (Kd.F_below HF68.out hb)
                    replace HF72 := Aside0.mk (Kd.F_below HF72.out hb)
                    replace HB := Aside0.mk (below_step HB.out hb)
                    clear hb
                    have H := HH.out
                    obtain rfl := Option.some.inj H
                    clear HH
                    go_wp2
                    go_ret
                    exact ⟨by first | rfl | (simp; done) | (simp [*]; done), HB.out⟩
                  · have H := HH.out
                    rw [if_neg c77] at H
                    replace HH := Aside0.mk H
                    clear H
                    replace c77 := Bool.eq_false_iff.mpr c77
                    subst c77
                    have H := HH.out
                    obtain rfl := Option.some.inj H
                    clear HH
                    go_wp2
                    go_ret
                    exact ⟨by first | rfl | (simp; done) | (simp [*]; done), HB.out⟩
                · exact absurd HH.out (by rw [if_neg c61]; simp)
              · exact absurd HH.out (by rw [if_neg c52]; simp)
            · have H := HH.out
              rw [if_neg c42] at H
              replace HH := Aside0.mk H
              clear H
              have hk81 : (t32 == 0) = false := beq_eq_false_iff_ne.mpr c42
              have hk82 : (t32 != 0) = true := bne_iff_ne.mpr c42
              clear c42
              have H := HH.out
              obtain rfl := Option.some.inj H
              clear HH
              go_wp2
              go_ret
              exact ⟨by first | rfl | (simp; done) | (simp [*]; done), HB.out⟩
          · have H := HH.out
            rw [if_neg c39] at H
            replace HH := Aside0.mk H
            clear H
            have hk83 : (t23 == 0) = false := beq_eq_false_iff_ne.mpr c39
            have hk84 : (t23 != 0) = true := bne_iff_ne.mpr c39
            clear c39
            by_cases c85 : t32 = t23
            · have H := HH.out
              rw [if_pos c85] at H
              replace HH := Aside0.mk H
              clear H
              have hk86 : (t32 == t23) = true := beq_iff_eq.mpr c85
              have hk87 : (t32 != t23) = false := bne_eq_false_iff_eq.mpr c85
              clear c85
              obtain ⟨A88, cp89, he_⟩ := Kd.N_slice HN35.out
              subst he_
              by_cases c90 : (t31.length : Int) = 0
              · have H := HH.out
                rw [if_pos c90] at H
                replace HH := Aside0.mk H
                clear H
                have hk91 : ((t31.length : Int) == 0) = true := beq_iff_eq.mpr c90
                have hk92 : ((t31.length : Int) != 0) = false := bne_eq_false_iff_eq.mpr c90
                clear c90
                have H := HH.out
                replace H := Option.bind_eq_some_iff.mp H
                obtain ⟨t93, at_, H⟩ := H
                have At94 := Aside0.mk at_
                clear at_
                replace HH := Aside0.mk (show (some t93) = some r from H)
                clear H
                go_wp2_with (((with_reducible refine gate_callee (f := 7) rfl ?_); (try (refine gate_guard (by rfl) ?_; dsimp only)); refine goesL_ (some 56) rfl rfl Try.func7 (by kernel_rfl) rfl #[] rfl (by (try simp only [List.map_toArray, List.map_cons, List.map_nil]); first | done | rfl | (simp only [List.length_drop, List.length_take]; rfl)) ?_; (with_reducible refine (toponymlaw15_awake.calls k  t93 _  At94.out).mono ?_); rintro e w95 ⟨rfl, hb⟩; refine ⟨_, rfl, ?_⟩); refine stop_ ?_)
                refine Stop.go ?_
                replace HN21 := Aside0.mk (Kd.N_below HN21.out hb)
                replace HN26 := Aside0.mk (Kd.N_below HN26.out hb)
                replace HN35 := Aside0.mk (Kd.N_below HN35.out hb)
                replace HB := Aside0.mk (below_step HB.out hb)
                clear hb
                have H := HH.out
                obtain rfl := Option.some.inj H
                clear HH
                go_wp2
                go_ret
                exact ⟨by first | rfl | (simp; done) | (simp [*]; done), HB.out⟩
              · have H := HH.out
                rw [if_neg c90] at H
                replace HH := Aside0.mk H
                clear H
                have hk96 : ((t31.length : Int) == 0) = false := beq_eq_false_iff_ne.mpr c90
                have hk97 : ((t31.length : Int) != 0) = true := bne_iff_ne.mpr c90
                have hk98 : ¬ (t31 = []) := fun h_ => c90 (by rw [h_]; rfl)
                clear c90
                have H := HH.out
                obtain rfl := Option.some.inj H
                clear HH
                go_wp2
                go_ret
                exact ⟨by first | rfl | (simp; done) | (simp [*]; done), HB.out⟩
            · have H := HH.out
              rw [if_neg c85] at H
              replace HH := Aside0.mk H
              clear H
              have hk99 : (t32 == t23) = false := beq_eq_false_iff_ne.mpr c85
              have hk100 : (t32 != t23) = true := bne_iff_ne.mpr c85
              clear c85
              have H := HH.out
              obtain rfl := Option.some.inj H
              clear HH
              go_wp2
              go_ret
              exact ⟨by first | rfl | (simp; done) | (simp [*]; done), HB.out⟩
        · have H := HH.out
          rw [if_neg c36] at H
          replace HH := Aside0.mk H
          clear H
          have hk101 : (t18 == 0) = false := beq_eq_false_iff_ne.mpr c36
          have hk102 : (t18 != 0) = true := bne_iff_ne.mpr c36
          clear c36
          obtain ⟨A103, cp104, he_⟩ := Kd.N_slice HN21.out
          subst he_
          by_cases c105 : (t17.length : Int) = 0
          · have H := HH.out
            rw [if_pos c105] at H
            replace HH := Aside0.mk H
            clear H
            have hk106 : ((t17.length : Int) == 0) = true := beq_iff_eq.mpr c105
            have hk107 : ((t17.length : Int) != 0) = false := bne_eq_false_iff_eq.mpr c105
            clear c105
            have H := HH.out
            replace H := Option.bind_eq_some_iff.mp H
            obtain ⟨t108, at_, H⟩ := H
            have At109 := Aside0.mk at_
            clear at_
            replace HH := Aside0.mk (show (some t108) = some r from H)
            clear H
            go_wp2_with (((with_reducible refine gate_callee (f := 7) rfl ?_); (try (refine gate_guard (by rfl) ?_; dsimp only)); refine goesL_ (some 43) rfl rfl Try.func7 (by kernel_rfl) rfl #[] rfl (by (try simp only [List.map_toArray, List.map_cons, List.map_nil]); first | done | rfl | (simp only [List.length_drop, List.length_take]; rfl)) ?_; (with_reducible refine (toponymlaw15_awake.calls k  t108 _  At109.out).mono ?_); rintro e w110 ⟨rfl, hb⟩; refine ⟨_, rfl, ?_⟩); refine stop_ ?_)
            refine Stop.go ?_
            replace HN21 := Aside0.mk (Kd.N_below HN21.out hb)
            replace HN26 := Aside0.mk (Kd.N_below HN26.out hb)
            replace HN35 := Aside0.mk (Kd.N_below HN35.out hb)
            replace HB := Aside0.mk (below_step HB.out hb)
            clear hb
            have H := HH.out
            obtain rfl := Option.some.inj H
            clear HH
            go_wp2
            go_ret
            exact ⟨by first | rfl | (simp; done) | (simp [*]; done), HB.out⟩
          · have H := HH.out
            rw [if_neg c105] at H
            replace HH := Aside0.mk H
            clear H
            have hk111 : ((t17.length : Int) == 0) = false := beq_eq_false_iff_ne.mpr c105
            have hk112 : ((t17.length : Int) != 0) = true := bne_iff_ne.mpr c105
            have hk113 : ¬ (t17 = []) := fun h_ => c105 (by rw [h_]; rfl)
            clear c105
            have H := HH.out
            obtain rfl := Option.some.inj H
            clear HH
            go_wp2
            go_ret
            exact ⟨by first | rfl | (simp; done) | (simp [*]; done), HB.out⟩
      · exact absurd HH.out (by rw [if_neg c27]; simp)

end Go.Proofs.Ythfonbnbffloaaa.GA
