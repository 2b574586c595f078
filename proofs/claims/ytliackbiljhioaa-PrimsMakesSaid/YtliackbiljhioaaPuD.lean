import Derived.Test.YtliackbiljhioaaPuE
import Derived.Test.YtliackbiljhioaaGAF3
import Derived.Test.YtliackbiljhioaaGAF5
/- Plain laws: elements are made, and put together, as the document says. -/
namespace Go.Proofs.Ytliackbiljhioaa.PuA
open Go Go.RowKit Go.Proofs.Ytliackbiljhioaa.GA Go.Proofs.Ytliackbiljhioaa.OA Go.Proofs.YtliackbiljhioaaW.PrintWords Go.Proofs.YtliackbiljhioaaW.PrintLast Go.Proofs.YtliackbiljhioaaW.PrintMore
set_option linter.unusedVariables false
set_option linter.unusedSimpArgs false
def SameSelf (y : S28) : Prop := ∃ k, toponymref15_Same.f k y.f0 y.f1 y.f2 y.f3 y.f4 y.f0 y.f1 y.f2 y.f3 y.f4 = some true
theorem sameAll_l0 (l : List S28) (hl : l.length ≤ 4398046511104) (IH : ∀ y ∈ l, SameSelf y) : ∀ (j : Nat) (i : Int), ((l.length : Int) - i).toNat = j → 0 ≤ i → i ≤ l.length → ∃ k, toponymref15_SameAll.l0 k i l l = some true
  | 0, i, hj, h0, h1 => ⟨1, by unfold toponymref15_SameAll.l0; rw [if_neg (by omega)]⟩
  | j + 1, i, hj, h0, h1 => by
    have hi : i < (l.length : Int) := by omega
    obtain ⟨k1, e1⟩ := IH _ (rd_mem l i h0 hi)
    obtain ⟨k2, e2⟩ := sameAll_l0 l hl IH j (i + 1) (by omega) (by omega) (by omega)
    refine ⟨max k1 k2 + 1, ?_⟩
    unfold toponymref15_SameAll.l0
    rw [if_pos hi, if_pos h0, if_pos hi, up_to (f := fun k => toponymref15_Same.f k _ _ _ _ _ _ _ _ _ _) (fun k => toponymref15_Same.mono _ _ _ _ _ _ _ _ _ _ k) e1 (Nat.le_max_left k1 k2), Option.bind_some, if_pos rfl, IntWalk.wrap64_in (i + 1) (by omega)]
    exact up_to (f := fun k => toponymref15_SameAll.l0 k (i + 1) l l) (fun k => (toponymref15_Same.mono_l k).2.2 _ _ _) e2 (Nat.le_max_right k1 k2)
theorem same_of (a : Int) (b : Bool) (c : Int) (d : ByteArray) (l : List S28) (hl : l.length ≤ 4398046511104) (IH : ∀ y ∈ l, SameSelf y) : ∃ k, toponymref15_Same.f k a b c d l a b c d l = some true := by
  obtain ⟨k, e⟩ := sameAll_l0 l hl IH _ 0 rfl (by omega) (by omega)
  refine ⟨k + 2, ?_⟩
  unfold toponymref15_Same.f
  rw [if_pos rfl, if_pos (by simp), if_pos rfl, if_pos rfl]
  unfold toponymref15_SameAll.f
  rw [if_pos rfl, e]
  rfl
theorem same_self (x : S28) (h : G28 x) : SameSelf x := by
  induction h with
  | mk x _ _ _ h4 _ ih => exact same_of _ _ _ _ _ (by omega) ih
theorem same_up {a : Int} {b : Bool} {c : Int} {d : ByteArray} {l : List S28} {k : Nat} (h : toponymref15_Same.f k a b c d l a b c d l = some true) (k' : Nat) (hk : k ≤ k') : toponymref15_Same.f k' a b c d l a b c d l = some true :=
  up_to (f := fun k => toponymref15_Same.f k _ _ _ _ _ _ _ _ _ _) (fun k => toponymref15_Same.mono _ _ _ _ _ _ _ _ _ _ k) h hk
theorem same_bare (k : Nat) (a : Int) (b : Bool) (c : Int) (d : ByteArray) (hk : 5 ≤ k) : toponymref15_Same.f k a b c d [] a b c d [] = some true := by
  refine same_up (k := 5) ?_ k hk
  simp [toponymref15_Same.f, toponymref15_SameAll.f, toponymref15_SameAll.l0]
theorem sgn_ne : ∀ (l : List Int), l ≠ [] → sgn l ≠ []
  | [], h => absurd rfl h
  | [a], _ => by simp [sgn]
  | a :: b :: l, _ => by
    unfold sgn
    split
    · exact sgn_ne (b :: l) (by simp)
    · simp
theorem son_ne (l : List Int) (h : l ≠ []) : (strOfNums l).toList ≠ ([] : List UInt8) := by
  rw [ByteArray.toList_eq, strOfNums_data]
  simpa using h
theorem int_same (k : Nat) (hk : 30 ≤ k) (c n v : Int) (h0 : -9223372036854775808 ≤ v) (h1 : v ≤ 9223372036854775807) : ∃ a b d s e, prims_Int.f k c n v = some (a, b, d, s, [], e) ∧ toponymref16_Int.f k c n v = some (a, b, d, s, [], e) := by
  unfold prims_Int.f toponymref16_Int.f toponymref16_sort.f
  rw [bytes_f k v h0 h1 (by omega), signed_f k _ (by omega)]
  by_cases hr : -2147483648 ≤ v ∧ v ≤ 2147483647
  · have g1 : ¬ v < -2147483648 := by omega
    have g2 : ¬ v > 2147483647 := by omega
    rw [if_pos hr, if_neg g1, if_neg g2, IntWalk.wrap32_in v hr, Option.bind_some]
    by_cases c0 : c < 0
    · simp only [if_pos c0]; exact ⟨_, _, _, _, _, rfl, rfl⟩
    by_cases c1 : c > 3
    · simp only [if_neg c0, if_pos c1]; exact ⟨_, _, _, _, _, rfl, rfl⟩
    by_cases n0 : n < 0
    · simp only [if_neg c0, if_neg c1, if_pos n0]; exact ⟨_, _, _, _, _, rfl, rfl⟩
    by_cases n1 : n > 30
    · simp only [if_neg c0, if_neg c1, if_neg n0, if_pos n1]; exact ⟨_, _, _, _, _, rfl, rfl⟩
    simp only [if_neg c0, if_neg c1, if_neg n0, if_neg n1, Option.bind_some, if_true, if_neg (son_ne _ (sgn_ne (four v) (by simp [four])))]
    exact ⟨_, _, _, _, _, rfl, rfl⟩
  · have e : prims_Int.f k c n v = some (0, false, 0, (⟨#[]⟩ : ByteArray), [], 2) := by
      unfold prims_Int.f
      by_cases g1 : v < -2147483648
      · rw [if_pos g1]
      · rw [if_neg g1, if_pos (by omega)]
    unfold prims_Int.f at e
    rw [signed_f k _ (by omega)] at e
    rw [e, if_neg hr, Option.bind_some]
    refine ⟨_, _, _, _, _, rfl, ?_⟩
    by_cases c0 : c < 0
    · simp only [if_pos c0]; rfl
    by_cases c1 : c > 3
    · simp only [if_neg c0, if_pos c1]; rfl
    by_cases n0 : n < 0
    · simp only [if_neg c0, if_neg c1, if_pos n0]; rfl
    by_cases n1 : n > 30
    · simp only [if_neg c0, if_neg c1, if_neg n0, if_pos n1]; rfl
    simp only [if_neg c0, if_neg c1, if_neg n0, if_neg n1, Option.bind_some, if_true]
    rw [if_pos (by rw [ByteArray.toList_eq])]
theorem bool_same (c n : Int) (b : Bool) : ∃ a f d s e, prims_Bool.f c n b = some (a, f, d, s, [], e) ∧ toponymref16_Bool.f c n b = some (a, f, d, s, [], e) := by
  unfold prims_Bool.f toponymref16_Bool.f toponymref16_sort.f
  by_cases c0 : c < 0
  · simp only [if_pos c0]; exact ⟨_, _, _, _, _, rfl, rfl⟩
  by_cases c1 : c > 3
  · simp only [if_neg c0, if_pos c1]; exact ⟨_, _, _, _, _, rfl, rfl⟩
  by_cases n0 : n < 0
  · simp only [if_neg c0, if_neg c1, if_pos n0]; exact ⟨_, _, _, _, _, rfl, rfl⟩
  by_cases n1 : n > 30
  · simp only [if_neg c0, if_neg c1, if_neg n0, if_pos n1]; exact ⟨_, _, _, _, _, rfl, rfl⟩
  simp only [if_neg c0, if_neg c1, if_neg n0, if_neg n1, Option.bind_some, if_true]
  cases b
  · exact ⟨_, _, _, _, _, rfl, rfl⟩
  · exact ⟨_, _, _, _, _, rfl, rfl⟩
theorem text_same (c n : Int) (t : ByteArray) : ∃ a f d s e, prims_Text.f c n t = some (a, f, d, s, [], e) ∧ toponymref16_Text.f c n t = some (a, f, d, s, [], e) := by
  unfold prims_Text.f toponymref16_Text.f toponymref16_sort.f
  by_cases c0 : c < 0
  · simp only [if_pos c0]; exact ⟨_, _, _, _, _, rfl, rfl⟩
  by_cases c1 : c > 3
  · simp only [if_neg c0, if_pos c1]; exact ⟨_, _, _, _, _, rfl, rfl⟩
  by_cases n0 : n < 0
  · simp only [if_neg c0, if_neg c1, if_pos n0]; exact ⟨_, _, _, _, _, rfl, rfl⟩
  by_cases n1 : n > 30
  · simp only [if_neg c0, if_neg c1, if_neg n0, if_pos n1]; exact ⟨_, _, _, _, _, rfl, rfl⟩
  simp only [if_neg c0, if_neg c1, if_neg n0, if_neg n1, Option.bind_some, if_true]
  exact ⟨_, _, _, _, _, rfl, rfl⟩
theorem i64_wf (v : Int) (h : (Lit.int .i64 v).wf = true) : -9223372036854775808 ≤ v ∧ v ≤ 9223372036854775807 := by
  simp [Lit.wf, IntKind.min, IntKind.max, IntKind.bits, IntKind.signed] at h
  omega
theorem makes (t : S23) (n : Int) (s : ByteArray) (_ : G23 t) (hn : (Lit.int .i64 n).wf = true) (_ : s.size ≤ 140737488351232) : ∃ k, toponymlaw16_PrimsMakes.f k t.f0 t.f1 n s = some true := by
  obtain ⟨h0, h1⟩ := i64_wf n hn
  refine ⟨40, ?_⟩
  unfold toponymlaw16_PrimsMakes.f
  obtain ⟨a, b, d, u, e, p1, p2⟩ := int_same 40 (by decide) t.f0 t.f1 n h0 h1
  obtain ⟨a', b', d', u', e', q1, q2⟩ := bool_same t.f0 t.f1 (decide (n > 0))
  obtain ⟨a2, b2, d2, u2, e2, r1, r2⟩ := text_same t.f0 t.f1 s
  rw [p1, Option.bind_some, p2, Option.bind_some, q1, Option.bind_some, q2, Option.bind_some, r1, Option.bind_some, r2, Option.bind_some]
  simp only [same_bare 40 _ _ _ _ (by decide), Option.bind_some, if_true, awake_k 40 (by decide)]
#print axioms makes
theorem groups_l0 (c n : Int) (l : List S28) (hl : l.length ≤ 2199023255488) (hg : ∀ y ∈ l, G28 y) : ∀ (j : Nat) (x i : Int), ((l.length : Int) - i).toNat = j → 0 ≤ i → i ≤ l.length → ∃ k, toponymlaw16_PrimsGroups.l0 k x i c n l = some true
  | 0, x, i, hj, h0, h1 => by
    have hi : ¬ i < (l.length : Int) := by omega
    obtain ⟨ka, ea⟩ := same_of c true n (⟨#[]⟩ : ByteArray) l (by omega) (fun y hy => same_self y (hg y hy))
    refine ⟨ka + 41, ?_⟩
    unfold toponymlaw16_PrimsGroups.l0
    rw [if_neg hi]
    by_cases hx : x < 0
    · rw [if_pos hx, awake_k (ka + 40) (by omega)]; rfl
    rw [if_neg hx]
    unfold prims_Group.f toponymref16_Group.f toponymref16_sort.f Clone_31.f
    have hcap : l.length < 2199023255552 := by omega
    have hcap' : ([] : List S28).length + l.length < 2199023255552 := by simp; omega
    by_cases c0 : c < 0
    · simp only [if_pos c0, Option.bind_some, show ¬ ((2 : Int) = 0) by decide, if_false, same_bare (ka + 40) _ _ _ _ (by omega), if_true, prims_Is.f]
      simp [awake_k (ka + 40) (by omega)]
    by_cases c1 : c > 3
    · simp only [if_neg c0, if_pos c1, Option.bind_some, show ¬ ((2 : Int) = 0) by decide, if_false, same_bare (ka + 40) _ _ _ _ (by omega), if_true, prims_Is.f]
      simp [awake_k (ka + 40) (by omega)]
    by_cases n0 : n < 0
    · simp only [if_neg c0, if_neg c1, if_pos n0, Option.bind_some, show ¬ ((2 : Int) = 0) by decide, if_false, same_bare (ka + 40) _ _ _ _ (by omega), if_true, prims_Is.f]
      simp [awake_k (ka + 40) (by omega)]
    by_cases n1 : n > 30
    · simp only [if_neg c0, if_neg c1, if_neg n0, if_pos n1, Option.bind_some, show ¬ ((2 : Int) = 0) by decide, if_false, same_bare (ka + 40) _ _ _ _ (by omega), if_true, prims_Is.f]
      simp [awake_k (ka + 40) (by omega)]
    simp only [if_neg c0, if_neg c1, if_neg n0, if_neg n1, Option.bind_some, if_true, if_pos hcap, if_pos hcap', List.nil_append, same_up ea (ka + 40) (by omega), prims_Is.f]
    simp [awake_k (ka + 40) (by omega)]
  | j + 1, x, i, hj, h0, h1 => by
    have hi : i < (l.length : Int) := by omega
    by_cases hx : x < 0
    · refine ⟨41, ?_⟩
      unfold toponymlaw16_PrimsGroups.l0
      rw [if_pos hi, if_pos hx, awake_k 40 (by omega)]; rfl
    · obtain ⟨k1, r1, e1⟩ := few_f _ (hg _ (rd_mem l i h0 hi)) x
      obtain ⟨k2, e2⟩ := groups_l0 c n l hl hg j r1 (i + 1) (by omega) (by omega) (by omega)
      refine ⟨max k1 k2 + 1, ?_⟩
      unfold toponymlaw16_PrimsGroups.l0
      rw [if_pos hi, if_neg hx, if_pos h0, up_to (f := fun k => toponymlaw15_Few.f k _ _ _ _ _ x) (fun k => toponymlaw15_Few.mono _ _ _ _ _ _ k) e1 (Nat.le_max_left k1 k2), Option.bind_some, IntWalk.wrap64_in (i + 1) (by omega)]
      exact up_to (f := fun k => toponymlaw16_PrimsGroups.l0 k r1 (i + 1) c n l) (fun k => toponymlaw16_PrimsGroups.mono_l k _ _ _ _ _) e2 (Nat.le_max_right k1 k2)
theorem groups (t : S23) (l : List S28) (_ : G23 t) (hl : l.length * 64 ≤ 140737488351232 ∧ ∀ y ∈ l, G28 y) : ∃ k, toponymlaw16_PrimsGroups.f k t.f0 t.f1 l = some true :=
  groups_l0 t.f0 t.f1 l (by omega) hl.2 _ 200 0 rfl (by omega) (by omega)
#print axioms groups
end Go.Proofs.Ytliackbiljhioaa.PuA
