-- written by wip/gen.py, a program of this session
import Derived.Test.YtkbiiijmgbjnkaaGA0
import Derived.Test.YtkbiiijmgbjnkaaGAF37
import Derived.Test.YtkbiiijmgbjnkaaGAF38
import Derived.Test.YtkbiiijmgbjnkaaGAF39
namespace Go.Proofs.Ytkbiiijmgbjnkaa.GA
open Go.RowKit Go.Proofs.Ytkbiiijmgbjnkaa Go.Proofs.Ytkbiiijmgbjnkaa.MW Go.Proofs.YtkbiiijmgbjnkaaW.PrintWords Go.Proofs.YtkbiiijmgbjnkaaW.PrintLast Go.Proofs.YtkbiiijmgbjnkaaW.PrintMore
attribute [local go_sem] max2_int min2_int max_two min_two
set_option linter.unusedVariables false
set_option linter.unusedSimpArgs false

/-! ### toponymref03_Rows: function 31 -/
def toponymref03_Rows.f (k : Nat)  : Option ((List (S38))) := (toponymref03_lower.f ).bind fun t1 => ((toponymref03_upper.f ).bind fun t5 => (if t1.length + t5.length < 8796093022208 then ((some (t1 ++ t5 : List (S38))).bind fun y14 => ((toponymref03_planes.f k ).bind fun t18 => (if y14.length + t18.length < 8796093022208 then ((some (y14 ++ t18 : List (S38))).bind fun y27 => (some y27)) else (none)))) else (none)))
theorem toponymref03_Rows.mono : ∀ k, LeO (toponymref03_Rows.f k ) (toponymref03_Rows.f (k + 1) ) := by
  intro  k
  unfold toponymref03_Rows.f
  repeat' first
      | (with_reducible exact toponymref03_planes.mono _)
      | (with_reducible exact LeO.refl _)
      | (with_reducible exact LeO.none _)
      | (with_reducible refine LeO.ite ?_ ?_)
      | (with_reducible refine LeO.bind ?_ (fun _ => ?_))
      | exact toponymref03_planes.mono _
      | exact LeO.none _
      | refine LeO.ite ?_ ?_
      | refine LeO.bind ?_ (fun _ => ?_)
set_option maxHeartbeats 8000000 in
set_option maxRecDepth 100000 in
theorem toponymref03_Rows.calls (k : Nat) (r : List (S38)) (w : World) (h : toponymref03_Rows.f k  = some r) :
    Calls Try.prog 31 #[] w (fun e w' => ∃ v0_ : Value, e = .returned (v0_) ∧ Kd.N k38 38 w' w.heap.size (fun k_ => w.heap.size ≤ k_) v0_ r ∧ Below w.heap.size w w') := by
  have HH := Aside0.mk (show ((toponymref03_lower.f ).bind fun t1 => ((toponymref03_upper.f ).bind fun t5 => (if t1.length + t5.length < 8796093022208 then ((some (t1 ++ t5 : List (S38))).bind fun y14 => ((toponymref03_planes.f k ).bind fun t18 => (if y14.length + t18.length < 8796093022208 then ((some (y14 ++ t18 : List (S38))).bind fun y27 => (some y27)) else (none)))) else (none)))) = some r from h)
  clear h
  have HB := Aside0.mk (Below.refl w.heap.size w)
  go_enter Try.func31, Try.ntmps31
  have H := HH.out
  replace H := Option.bind_eq_some_iff.mp H
  obtain ⟨t1, at_, H⟩ := H
  have At2 := Aside0.mk at_
  clear at_
  replace HH := Aside0.mk (show ((toponymref03_upper.f ).bind fun t5 => (if t1.length + t5.length < 8796093022208 then ((some (t1 ++ t5 : List (S38))).bind fun y14 => ((toponymref03_planes.f k ).bind fun t18 => (if y14.length + t18.length < 8796093022208 then ((some (y14 ++ t18 : List (S38))).bind fun y27 => (some y27)) else (none)))) else (none))) = some r from H)
  clear H
  go_wp2_with (((with_reducible refine gate_callee (f := 37) rfl ?_); (try (refine gate_guard (by rfl) ?_; dsimp only)); refine goesL_ (some 1) rfl rfl Try.func37 (by kernel_rfl) rfl #[] rfl (by (try simp only [List.map_toArray, List.map_cons, List.map_nil]); first | done | rfl | (simp only [List.length_drop, List.length_take]; rfl)) ?_; (with_reducible refine (toponymref03_lower.calls  t1 _  At2.out).mono ?_); rintro e w3 ⟨v4, rfl, hn4, hb⟩; refine ⟨_, rfl, ?_⟩); refine stop_ ?_)
  refine Stop.go ?_
  have hba := Kd.N_base hn4
  have HN4 := Aside0.mk (Kd.N_mono (Kd.N_lower hn4 (below_size HB.out)) (fun k_ h_ => (Nat.le_trans (below_size HB.out) h_)) : Kd.N k38 38 w3 w.heap.size (fun k_ => (w.heap.size ≤ k_)) v4 t1)
  replace HB := Aside0.mk (below_step HB.out hb)
  clear hn4 hba hb
  have H := HH.out
  replace H := Option.bind_eq_some_iff.mp H
  obtain ⟨t5, at_, H⟩ := H
  have At6 := Aside0.mk at_
  clear at_
  replace HH := Aside0.mk (show (if t1.length + t5.length < 8796093022208 then ((some (t1 ++ t5 : List (S38))).bind fun y14 => ((toponymref03_planes.f k ).bind fun t18 => (if y14.length + t18.length < 8796093022208 then ((some (y14 ++ t18 : List (S38))).bind fun y27 => (some y27)) else (none)))) else (none)) = some r from H)
  clear H
  go_wp2_with (((with_reducible refine gate_callee (f := 38) rfl ?_); (try (refine gate_guard (by rfl) ?_; dsimp only)); refine goesL_ (some 2) rfl rfl Try.func38 (by kernel_rfl) rfl #[] rfl (by (try simp only [List.map_toArray, List.map_cons, List.map_nil]); first | done | rfl | (simp only [List.length_drop, List.length_take]; rfl)) ?_; (with_reducible refine (toponymref03_upper.calls  t5 _  At6.out).mono ?_); rintro e w7 ⟨v8, rfl, hn8, hb⟩; refine ⟨_, rfl, ?_⟩); refine stop_ ?_)
  refine Stop.go ?_
  have hba := Kd.N_base hn8
  have HN8 := Aside0.mk (Kd.N_mono (Kd.N_lower hn8 (below_size HB.out)) (fun k_ h_ => ⟨(Nat.le_trans (below_size HB.out) h_), Kd.fresh' (Kd.N_lt HN4.out) k_ h_⟩) : Kd.N k38 38 w7 w.heap.size (fun k_ => (w.heap.size ≤ k_) ∧ some k_ ≠ (v4 : Value).ownBlock) v8 t5)
  replace HN4 := Aside0.mk (Kd.N_mono (Kd.N_elder' (ok := (fun k_ => (w.heap.size ≤ k_))) HN4.out hba hb) (fun k_ hk_ => ⟨hk_.1, hk_.2⟩) : Kd.N k38 _ _ _ (fun k_ => (w.heap.size ≤ k_) ∧ some k_ ≠ (v8 : Value).ownBlock) _ _)
  replace HB := Aside0.mk (below_step HB.out hb)
  clear hn8 hba hb
  obtain ⟨A9, cp10, he_⟩ := Kd.N_slice HN8.out
  subst he_
  have HL12 := Aside0.mk (Kd.N_reads' HN8.out).2.1
  have HF11 := Aside0.mk (Kd.N_F HN8.out)
  clear HN8
  replace HN4 := Aside0.mk (Kd.N_mono (ok := (fun k_ => (w.heap.size ≤ k_) ∧ some k_ ≠ ((.slice A9 t5.length cp10) : Value).ownBlock)) HN4.out (fun k_ hk_ => hk_.1) : Kd.N k38 _ _ _ (fun k_ => (w.heap.size ≤ k_)) _ _)
  by_cases c13 : t1.length + t5.length < 8796093022208
  · have H := HH.out
    rw [if_pos c13] at H
    replace HH := Aside0.mk H
    clear H
    have LMc13 := Aside0.mk c13
    clear c13
    obtain ⟨y14, hy14⟩ : ∃ y_ : List (S38), y_ = (t1 ++ t5) := ⟨_, rfl⟩
    have H : ((toponymref03_planes.f k ).bind fun t18 => (if y14.length + t18.length < 8796093022208 then ((some (y14 ++ t18 : List (S38))).bind fun y27 => (some y27)) else (none))) = some r := by rw [hy14]; exact HH.out
    replace HH := Aside0.mk H
    clear H
    have NYy14 := Aside0.mk hy14
    clear hy14
    go_wp2_with (((with_reducible refine gate_dst (N := 3) rfl ?_); (try (refine gate_guard (by rfl) ?_; dsimp only)); refine Kd.N_append_rows k38 w.heap.size rfl _ _ 33 38 (.agg #[(.int .i32 0), (.int .i32 0), (.int .i64 0)]) 16 rfl Try.underlying33 info38 rfl (by decide) (by decide) (v4) t1 t5 _ _ _ (fun k_ => (w.heap.size ≤ k_)) (fun k_ => (fun k_ => (w.heap.size ≤ k_)) k_ ∧ some k_ ≠ (v4 : Value).ownBlock) rfl rfl HN4.out (Kd.F_mono (ok := (fun k_ => (w.heap.size ≤ k_) ∧ some k_ ≠ (v4 : Value).ownBlock)) HF11.out (fun k_ hk_ => ⟨hk_.1, hk_.2⟩)) (fun _ hk_ => hk_) (fun k_ h_ => (Nat.le_trans (below_size HB.out) h_)) HB.out (below_size HB.out) (by first | (have := LMc13.out; simp only [List.length_nil] at *; omega) | (have := LMc13.out; simp at *; omega)) ?_; intro v15 w16 hn1 hb1 hg1 hat1); replace hat1 := Aside0.mk hat1; refine stop_ ?_)
    refine Stop.go ?_
    replace hat1 := hat1.out
    replace HF11 := Aside0.mk (Kd.F_mono (Kd.F_after (v := v4) (ok := (fun k_ => (w.heap.size ≤ k_))) (Kd.F_mono (ok := (fun k_ => (w.heap.size ≤ k_) ∧ some k_ ≠ (v4 : Value).ownBlock)) HF11.out (fun k_ hk_ => ⟨hk_.1, hk_.2⟩)) hg1 hat1) (fun k_ hk_ => ⟨hk_.1, hk_.2⟩) : Kd.F k38 _ (fun k_ => (w.heap.size ≤ k_) ∧ some k_ ≠ (v15 : Value).ownBlock) _ _ _)
    replace HB := Aside0.mk hb1
    clear HN4
    have HN17 := Aside0.mk hn1
    clear hn1 hb1 hg1 hat1
    replace HN17 := Aside0.mk (by rw [NYy14.out]; exact HN17.out : Kd.N k38 38 w16 w.heap.size (fun k_ => (w.heap.size ≤ k_)) v15 y14)
    have H := HH.out
    replace H := Option.bind_eq_some_iff.mp H
    obtain ⟨t18, at_, H⟩ := H
    have At19 := Aside0.mk at_
    clear at_
    replace HH := Aside0.mk (show (if y14.length + t18.length < 8796093022208 then ((some (y14 ++ t18 : List (S38))).bind fun y27 => (some y27)) else (none)) = some r from H)
    clear H
    go_wp2_with (((with_reducible refine gate_callee (f := 39) rfl ?_); (try (refine gate_guard (by rfl) ?_; dsimp only)); refine goesL_ (some 4) rfl rfl Try.func39 (by kernel_rfl) rfl #[] rfl (by (try simp only [List.map_toArray, List.map_cons, List.map_nil]); first | done | rfl | (simp only [List.length_drop, List.length_take]; rfl)) ?_; (with_reducible refine (toponymref03_planes.calls k  t18 _  At19.out).mono ?_); rintro e w20 ⟨v21, rfl, hn21, hb⟩; refine ⟨_, rfl, ?_⟩); refine stop_ ?_)
    refine Stop.go ?_
    have hba := Kd.N_base hn21
    have HN21 := Aside0.mk (Kd.N_mono (Kd.N_lower hn21 (below_size HB.out)) (fun k_ h_ => ⟨(Nat.le_trans (below_size HB.out) h_), Kd.fresh' (Kd.N_lt HN17.out) k_ h_⟩) : Kd.N k38 38 w20 w.heap.size (fun k_ => (w.heap.size ≤ k_) ∧ some k_ ≠ (v15 : Value).ownBlock) v21 t18)
    replace HF11 := Aside0.mk (Kd.F_mono (Kd.F_elder' (ok := (fun k_ => (w.heap.size ≤ k_) ∧ some k_ ≠ (v15 : Value).ownBlock)) HF11.out hba hb) (fun k_ hk_ => ⟨hk_.1.1, hk_.1.2, hk_.2⟩) : Kd.F k38 _ (fun k_ => (w.heap.size ≤ k_) ∧ some k_ ≠ (v15 : Value).ownBlock ∧ some k_ ≠ (v21 : Value).ownBlock) _ _ _)
    replace HN17 := Aside0.mk (Kd.N_mono (Kd.N_elder' (ok := (fun k_ => (w.heap.size ≤ k_))) HN17.out hba hb) (fun k_ hk_ => ⟨hk_.1, hk_.2⟩) : Kd.N k38 _ _ _ (fun k_ => (w.heap.size ≤ k_) ∧ some k_ ≠ (v21 : Value).ownBlock) _ _)
    replace HB := Aside0.mk (below_step HB.out hb)
    clear hn21 hba hb
    obtain ⟨A22, cp23, he_⟩ := Kd.N_slice HN21.out
    subst he_
    have HL25 := Aside0.mk (Kd.N_reads' HN21.out).2.1
    have HF24 := Aside0.mk (Kd.N_F HN21.out)
    clear HN21
    replace HF11 := Aside0.mk (Kd.F_mono (ok := (fun k_ => (w.heap.size ≤ k_) ∧ some k_ ≠ (v15 : Value).ownBlock ∧ some k_ ≠ ((.slice A22 t18.length cp23) : Value).ownBlock)) HF11.out (fun k_ hk_ => ⟨hk_.1, hk_.2.1⟩) : Kd.F k38 _ (fun k_ => (w.heap.size ≤ k_) ∧ some k_ ≠ (v15 : Value).ownBlock) _ _ _)
    replace HN17 := Aside0.mk (Kd.N_mono (ok := (fun k_ => (w.heap.size ≤ k_) ∧ some k_ ≠ ((.slice A22 t18.length cp23) : Value).ownBlock)) HN17.out (fun k_ hk_ => hk_.1) : Kd.N k38 _ _ _ (fun k_ => (w.heap.size ≤ k_)) _ _)
    by_cases c26 : y14.length + t18.length < 8796093022208
    · have H := HH.out
      rw [if_pos c26] at H
      replace HH := Aside0.mk H
      clear H
      have LMc26 := Aside0.mk c26
      clear c26
      obtain ⟨y27, hy27⟩ : ∃ y_ : List (S38), y_ = (y14 ++ t18) := ⟨_, rfl⟩
      have H : (some y27) = some r := by rw [hy27]; exact HH.out
      replace HH := Aside0.mk H
      clear H
      have NYy27 := Aside0.mk hy27
      clear hy27
      go_wp2_with (((with_reducible refine gate_dst (N := 5) rfl ?_); (try (refine gate_guard (by rfl) ?_; dsimp only)); refine Kd.N_append_rows k38 w.heap.size rfl _ _ 33 38 (.agg #[(.int .i32 0), (.int .i32 0), (.int .i64 0)]) 16 rfl Try.underlying33 info38 rfl (by decide) (by decide) (v15) y14 t18 _ _ _ (fun k_ => (w.heap.size ≤ k_)) (fun k_ => (fun k_ => (w.heap.size ≤ k_)) k_ ∧ some k_ ≠ (v15 : Value).ownBlock) rfl rfl HN17.out (Kd.F_mono (ok := (fun k_ => (w.heap.size ≤ k_) ∧ some k_ ≠ (v15 : Value).ownBlock)) HF24.out (fun k_ hk_ => ⟨hk_.1, hk_.2⟩)) (fun _ hk_ => hk_) (fun k_ h_ => (Nat.le_trans (below_size HB.out) h_)) HB.out (below_size HB.out) (by first | (have := LMc26.out; simp only [List.length_nil] at *; omega) | (have := LMc26.out; simp at *; omega)) ?_; intro v28 w29 hn1 hb1 hg1 hat1); replace hat1 := Aside0.mk hat1; refine stop_ ?_)
      refine Stop.go ?_
      replace hat1 := hat1.out
      replace HF11 := Aside0.mk (Kd.F_mono (Kd.F_after (v := v15) (ok := (fun k_ => (w.heap.size ≤ k_))) (Kd.F_mono (ok := (fun k_ => (w.heap.size ≤ k_) ∧ some k_ ≠ (v15 : Value).ownBlock)) HF11.out (fun k_ hk_ => ⟨hk_.1, hk_.2⟩)) hg1 hat1) (fun k_ hk_ => ⟨hk_.1, hk_.2⟩) : Kd.F k38 _ (fun k_ => (w.heap.size ≤ k_) ∧ some k_ ≠ (v28 : Value).ownBlock) _ _ _)
      replace HF24 := Aside0.mk (Kd.F_mono (Kd.F_after (v := v15) (ok := (fun k_ => (w.heap.size ≤ k_))) (Kd.F_mono (ok := (fun k_ => (w.heap.size ≤ k_) ∧ some k_ ≠ (v15 : Value).ownBlock)) HF24.out (fun k_ hk_ => ⟨hk_.1, hk_.2⟩)) hg1 hat1) (fun k_ hk_ => ⟨hk_.1, hk_.2⟩) : Kd.F k38 _ (fun k_ => (w.heap.size ≤ k_) ∧ some k_ ≠ (v28 : Value).ownBlock) _ _ _)
      replace HB := Aside0.mk hb1
      clear HN17
      have HN30 := Aside0.mk hn1
      clear hn1 hb1 hg1 hat1
      replace HN30 := Aside0.mk (by rw [NYy27.out]; exact HN30.out : Kd.N k38 38 w29 w.heap.size (fun k_ => (w.heap.size ≤ k_)) v28 y27)
      have H := HH.out
      obtain rfl := Option.some.inj H
      clear HH
      go_wp2
      go_ret
      exact ⟨_, by first | rfl | (simp; done) | (simp [*]; done), (Kd.N_mono (ok := (fun k_ => (w.heap.size ≤ k_))) HN30.out (fun k_ hk_ => hk_)), HB.out⟩
    · exact absurd HH.out (by rw [if_neg c26]; simp)
  · exact absurd HH.out (by rw [if_neg c13]; simp)

end Go.Proofs.Ytkbiiijmgbjnkaa.GA
