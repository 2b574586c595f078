import Derived.Test.YtcokpnajkkjclaaSpC
import Derived.Test.YtcokpnajkkjclaaGM3
import Derived.Test.YtcokpnajkkjclaaGAF7
/- Plain law of SpanSame. -/
namespace Go.Proofs.Ytcokpnajkkjclaa.SpA
open Go Go.RowKit Go.Proofs.Ytcokpnajkkjclaa.GA Go.Proofs.Ytcokpnajkkjclaa.PuE Go.Proofs.YtcokpnajkkjclaaW.PrintWords Go.Proofs.YtcokpnajkkjclaaW.PrintLast Go.Proofs.YtcokpnajkkjclaaW.PrintMore
set_option linter.unusedVariables false
set_option linter.unusedSimpArgs false
theorem awakeS : Evt (fun k => toponymlaw02_awake.f k) true := Evt.mono_ (k := 60) toponymlaw02_awake.mono (by decide +kernel)
def same (a b : List S37) : Prop := a.length = b.length ∧ ∀ i, i < a.length → A a i = A b i
theorem same.symm {a b : List S37} (h : same a b) : same b a := ⟨h.1.symm, fun i hi => (h.2 i (by rw [h.1]; exact hi)).symm⟩
theorem At.same {a b : List S37} (h : same a b) {r v : Int} (ha : At a r v) : At b r v := by
  rcases ha with ⟨i, hi, h1, h2, h3⟩ | ⟨hn, h3⟩
  · rw [h.2 i hi] at h1 h2 h3
    exact .inl ⟨i, by rw [← h.1]; exact hi, h1, h2, h3⟩
  · refine .inr ⟨fun i hi => ?_, h3⟩
    have := hn i (by rw [h.1]; exact hi)
    rwa [h.2 i (by rw [h.1]; exact hi)] at this
theorem At.some (l : List S37) (r : Int) : ∃ v, At l r v := by
  by_cases h : ∃ i, i < l.length ∧ (A l i).f0 ≤ r ∧ r ≤ (A l i).f1
  · obtain ⟨i, hi, h1, h2⟩ := h
    exact ⟨_, .inl ⟨i, hi, h1, h2, rfl⟩⟩
  · exact ⟨0, .inr ⟨fun i hi hh => h ⟨i, hi, hh.1, hh.2⟩, rfl⟩⟩
theorem edge_of_same {a b : List S37} (ta : tab a) (h : same a b) (i : Nat) (hi : i < a.length) : edge a b i := by
  obtain ⟨g0, g1, g2⟩ := (ta i hi).1
  obtain ⟨v, hv⟩ := At.some a ((A a i).f1 + 1)
  exact ⟨At.same h (.inl ⟨i, hi, Int.le_refl _, g1, rfl⟩), At.same h (.inl ⟨i, hi, g1, Int.le_refl _, rfl⟩), v, At.same h hv, hv⟩
theorem ne_of_fields {x y : S37} (h : x ≠ y) : (!(x.f0 == y.f0) || (!(x.f1 == y.f1) || (!(x.f2 == y.f2)))) = true := by
  by_cases h0 : x.f0 = y.f0
  · by_cases h1 : x.f1 = y.f1
    · by_cases h2 : x.f2 = y.f2
      · exact absurd (one_of_fields h0 h1 h2) h
      · simp [h2]
    · simp [h1]
  · simp [h0]
/-- Are they the same, cell by cell? -/
theorem same_l0 (a b : List S37) (hn : a.length ≤ 500) (hl : a.length = b.length) : ∀ m i : Nat, m = a.length - i → i ≤ a.length → ∃ c : Bool, (c = true ↔ ∀ j, i ≤ j → j < a.length → A a j = A b j) ∧ Evt (fun k => toponymref02_Same.l0 k i a b) c := by
  intro m
  induction m with
  | zero =>
    intro i hm hi
    refine ⟨true, ⟨fun _ j h1 h2 => absurd h1 (by omega), fun _ => rfl⟩, Evt.step ?_⟩
    simp only [toponymref02_Same.l0]
    exact Evt.ifn (by omega) (Evt.now _)
  | succ m ih =>
    intro i hm hi
    have e1 : wrap64 ((i : Int) + 1) = ((i + 1 : Nat) : Int) := by rw [w64 _ (by omega)]; omega
    by_cases h : A a i = A b i
    · obtain ⟨c, hc, hE⟩ := ih (i + 1) (by omega) (by omega)
      refine ⟨c, ⟨fun e j h1 h2 => ?_, fun e => hc.2 fun j h1 h2 => e j (by omega) h2⟩, Evt.step ?_⟩
      · by_cases e2 : j = i
        · subst e2; exact h
        · exact hc.1 e j (by omega) h2
      simp only [toponymref02_Same.l0, rdA, e1, h]
      exact Evt.ifp (by omega) (Evt.ifp (by omega) (Evt.ifp (by omega) (Evt.ifn (by simp) hE)))
    · refine ⟨false, ⟨fun e => absurd e (by simp), fun e => absurd (e i (Nat.le_refl _) (by omega)) h⟩, Evt.step ?_⟩
      simp only [toponymref02_Same.l0, rdA]
      exact Evt.ifp (by omega) (Evt.ifp (by omega) (Evt.ifp (by omega) (Evt.ifp (ne_of_fields h) (Evt.now _))))
theorem same_ev (a b : List S37) (hn : a.length ≤ 500) : ∃ c : Bool, (c = true ↔ same a b) ∧ Evt (fun k => toponymref02_Same.f k a b) c := by
  unfold toponymref02_Same.f
  by_cases hl : a.length = b.length
  · obtain ⟨c, hc, hE⟩ := same_l0 a b hn hl (a.length - 0) 0 rfl (by omega)
    refine ⟨c, ⟨fun e => ⟨hl, fun i hi => hc.1 e i (by omega) hi⟩, fun e => hc.2 fun j _ h2 => e.2 j h2⟩, Evt.ifp (by omega) hE⟩
  · exact ⟨false, ⟨fun e => absurd e (by simp), fun e => absurd e.1 hl⟩, Evt.ifn (by omega) (Evt.now _)⟩
/-- What is so of two tables that the checks let in. -/
structure Two (a b : List S37) : Prop where
  na : a.length ≤ 500
  ta : tab a
  ca : Evt (fun k => span_Check.f k a) 0
  nb : b.length ≤ 500
  tb : tab b
  cb : Evt (fun k => span_Check.f k b) 0
theorem Two.symm {a b : List S37} (T : Two a b) : Two b a := ⟨T.nb, T.tb, T.cb, T.na, T.ta, T.ca⟩
/-- The tests at one span of the one. -/
theorem tests {a b : List S37} (T : Two a b) (i : Nat) (hi : i < a.length) : ∃ v1 v2 v3 v4, Evt (fun k => span_Find.f k b (A a i).f0) v1 ∧ Evt (fun k => span_Find.f k b (A a i).f1) v2 ∧ Evt (fun k => span_Find.f k b (wrap32 ((A a i).f1 + 1))) v3 ∧ Evt (fun k => span_Find.f k a (wrap32 ((A a i).f1 + 1))) v4 ∧
    (edge a b i ↔ v1 = (A a i).f2 ∧ v2 = (A a i).f2 ∧ v3 = v4) := by
  obtain ⟨g0, g1, g2⟩ := (T.ta i hi).1
  have e3 : wrap32 ((A a i).f1 + 1) = (A a i).f1 + 1 := w32 _ (by omega)
  rw [e3]
  obtain ⟨v1, a1, E1⟩ := find_at b T.tb T.nb T.cb (A a i).f0 (by omega)
  obtain ⟨v2, a2, E2⟩ := find_at b T.tb T.nb T.cb (A a i).f1 (by omega)
  obtain ⟨v3, a3, E3⟩ := find_at b T.tb T.nb T.cb ((A a i).f1 + 1) (by omega)
  obtain ⟨v4, a4, E4⟩ := find_at a T.ta T.na T.ca ((A a i).f1 + 1) (by omega)
  refine ⟨v1, v2, v3, v4, E1, E2, E3, E4, fun h => ⟨At.uniq T.tb a1 h.1, At.uniq T.tb a2 h.2.1, ?_⟩, fun h => ⟨h.1 ▸ a1, h.2.1 ▸ a2, v3, a3, h.2.2 ▸ a4⟩⟩
  obtain ⟨v, h3, h4⟩ := h.2.2
  rw [At.uniq T.tb a3 h3, At.uniq T.ta a4 h4]
theorem go_l1 {a b : List S37} (T : Two a b) : ∀ m i : Nat, ∀ x : Bool, m = b.length - i → i ≤ b.length → ∀ t : Bool, (t = true ↔ same a b) → Evt (fun k => toponymref02_Same.f k a b) t →
    (t = true ↔ x = true ∧ ∀ j, i ≤ j → j < b.length → edge b a j) → Evt (fun k => toponymlaw02_SpanSame.l1 k x i a b) true := by
  intro m
  induction m with
  | zero =>
    intro i x hm hi t ht hS hx
    refine Evt.step ?_
    simp only [toponymlaw02_SpanSame.l1]
    have e : x = t := by
      cases x <;> cases t
      · rfl
      · exact absurd (hx.1 rfl).1 (by simp)
      · exact absurd (hx.2 ⟨rfl, fun j h1 h2 => absurd h1 (by omega)⟩) (by simp)
      · rfl
    refine Evt.ifn (by omega) (Evt.bind hS (Evt.ifp (by rw [e]; simp) (Evt.bind awakeS (Evt.now _))))
  | succ m ih =>
    intro i x hm hi t ht hS hx
    have e1 : wrap64 ((i : Int) + 1) = ((i + 1 : Nat) : Int) := by rw [w64 _ (by have := T.nb; omega)]; omega
    have hlt : i < b.length := by omega
    obtain ⟨v1, v2, v3, v4, E1, E2, E3, E4, hE⟩ := tests T.symm i hlt
    have hfalse : (x = false ∨ ¬ edge b a i) → Evt (fun k => toponymlaw02_SpanSame.l1 k false ((i + 1 : Nat) : Int) a b) true := fun hh => ih (i + 1) false (by omega) (by omega) t ht hS ⟨fun h => by
      have := hx.1 h
      rcases hh with e | e
      · rw [e] at this; exact absurd this.1 (by simp)
      · exact absurd (this.2 i (Nat.le_refl _) hlt) e, fun h => absurd h.1 (by simp)⟩
    refine Evt.step ?_
    simp only [toponymlaw02_SpanSame.l1, rdA, e1]
    refine Evt.ifp (by omega) (Evt.ifp (by omega) ?_)
    by_cases hxx : x = true
    · refine Evt.ifp hxx (Evt.bind E1 ?_)
      by_cases h1 : v1 = (A b i).f2
      · refine Evt.ifp h1 (Evt.bind E2 ?_)
        by_cases h2 : v2 = (A b i).f2
        · refine Evt.ifp h2 (Evt.bind E3 (Evt.bind E4 (ih (i + 1) (v3 == v4) (by omega) (by omega) t ht hS ⟨fun h => ?_, fun h => hx.2 ⟨hxx, fun j j1 j2 => ?_⟩⟩)))
          · have := (hx.1 h).2
            exact ⟨by have := (hE.1 (this i (Nat.le_refl _) hlt)).2.2; simp [this], fun j j1 j2 => this j (by omega) j2⟩
          · by_cases e : j = i
            · subst e
              exact hE.2 ⟨h1, h2, by simpa using h.1⟩
            · exact h.2 j (by omega) j2
        · exact Evt.ifn h2 (hfalse (.inr fun h => h2 (hE.1 h).2.1))
      · exact Evt.ifn h1 (hfalse (.inr fun h => h1 (hE.1 h).1))
    · exact Evt.ifn hxx (hfalse (.inl (by simpa using hxx)))
theorem go_l0 {a b : List S37} (T : Two a b) : ∀ m i : Nat, ∀ x : Bool, m = a.length - i → i ≤ a.length → ∀ t : Bool, (t = true ↔ same a b) → Evt (fun k => toponymref02_Same.f k a b) t →
    (t = true ↔ (x = true ∧ ∀ j, i ≤ j → j < a.length → edge a b j) ∧ ∀ j, j < b.length → edge b a j) → Evt (fun k => toponymlaw02_SpanSame.l0 k x i a b) true := by
  intro m
  induction m with
  | zero =>
    intro i x hm hi t ht hS hx
    refine Evt.step ?_
    simp only [toponymlaw02_SpanSame.l0]
    refine Evt.ifn (by omega) (go_l1 T (b.length - 0) 0 x rfl (by omega) t ht hS ⟨fun h => ?_, fun h => hx.2 ⟨⟨h.1, fun j h1 h2 => absurd h1 (by omega)⟩, fun j hj => h.2 j (by omega) hj⟩⟩)
    exact ⟨(hx.1 h).1.1, fun j _ h2 => (hx.1 h).2 j h2⟩
  | succ m ih =>
    intro i x hm hi t ht hS hx
    have e1 : wrap64 ((i : Int) + 1) = ((i + 1 : Nat) : Int) := by rw [w64 _ (by have := T.na; omega)]; omega
    have hlt : i < a.length := by omega
    obtain ⟨v1, v2, v3, v4, E1, E2, E3, E4, hE⟩ := tests T i hlt
    have hfalse : (x = false ∨ ¬ edge a b i) → Evt (fun k => toponymlaw02_SpanSame.l0 k false ((i + 1 : Nat) : Int) a b) true := fun hh => ih (i + 1) false (by omega) (by omega) t ht hS ⟨fun h => by
      have := (hx.1 h).1
      rcases hh with e | e
      · rw [e] at this; exact absurd this.1 (by simp)
      · exact absurd (this.2 i (Nat.le_refl _) hlt) e, fun h => absurd h.1.1 (by simp)⟩
    refine Evt.step ?_
    simp only [toponymlaw02_SpanSame.l0, rdA, e1]
    refine Evt.ifp (by omega) (Evt.ifp (by omega) ?_)
    by_cases hxx : x = true
    · refine Evt.ifp hxx (Evt.bind E1 ?_)
      by_cases h1 : v1 = (A a i).f2
      · refine Evt.ifp h1 (Evt.bind E2 ?_)
        by_cases h2 : v2 = (A a i).f2
        · refine Evt.ifp h2 (Evt.bind E3 (Evt.bind E4 (ih (i + 1) (v3 == v4) (by omega) (by omega) t ht hS ⟨fun h => ?_, fun h => hx.2 ⟨⟨hxx, fun j j1 j2 => ?_⟩, h.2⟩⟩)))
          · have := (hx.1 h).1.2
            exact ⟨⟨by have := (hE.1 (this i (Nat.le_refl _) hlt)).2.2; simp [this], fun j j1 j2 => this j (by omega) j2⟩, (hx.1 h).2⟩
          · by_cases e : j = i
            · subst e
              exact hE.2 ⟨h1, h2, by simpa using h.1.1⟩
            · exact h.1.2 j (by omega) j2
        · exact Evt.ifn h2 (hfalse (.inr fun h => h2 (hE.1 h).2.1))
      · exact Evt.ifn h1 (hfalse (.inr fun h => h1 (hE.1 h).1))
    · exact Evt.ifn hxx (hfalse (.inl (by simpa using hxx)))
theorem spanSame (a b : List S37) {p0 p1 : Prop} (_ : p0) (_ : p1) : ∃ k, toponymlaw02_SpanSame.f k a b = some true := by
  refine Evt.get (f := fun k => toponymlaw02_SpanSame.f k a b) ?_
  unfold toponymlaw02_SpanSame.f
  have ha : Evt (fun k => (toponymlaw02_awake.f k).bind fun t => some t) true := Evt.bind awakeS (Evt.now _)
  by_cases h1 : (a.length : Int) > 500
  · exact Evt.ifp h1 ha
  refine Evt.ifn h1 ?_
  by_cases h2 : (b.length : Int) > 500
  · exact Evt.ifp h2 ha
  refine Evt.ifn h2 ?_
  obtain ⟨c, hc, hs, _, ht⟩ := checks a
  obtain ⟨d, hd, hs2, _, ht2⟩ := checks b
  refine Evt.bind hs ?_
  rcases hc with rfl | rfl
  · refine Evt.ifp rfl (Evt.bind hs2 ?_)
    rcases hd with rfl | rfl
    · have T : Two a b := ⟨(ht rfl).1, (ht rfl).2, hs, (ht2 rfl).1, (ht2 rfl).2, hs2⟩
      obtain ⟨t, htt, hS⟩ := same_ev a b T.na
      refine Evt.ifp rfl (go_l0 T (a.length - 0) 0 true rfl (by omega) t htt hS ⟨fun h => ?_, fun h => htt.2 ?_⟩)
      · have hsm := htt.1 h
        exact ⟨⟨rfl, fun j _ h2 => edge_of_same T.ta hsm j h2⟩, fun j hj => edge_of_same T.tb hsm.symm j hj⟩
      · exact same_of_edges T.ta T.tb (fun i hi => h.1.2 i (by omega) hi) h.2
    · exact Evt.ifn (by decide) ha
  · exact Evt.ifn (by decide) ha
end Go.Proofs.Ytcokpnajkkjclaa.SpA
