import Derived.Test.YtkbiiijmgbjnkaaPuB
import Derived.Test.YtkbiiijmgbjnkaaGAF3
import Derived.Test.YtkbiiijmgbjnkaaGAF4
/- Plain laws of chapter 3: kinds, and marks. -/
namespace Go.Proofs.Ytkbiiijmgbjnkaa.PuC
open Go Go.RowKit Go.Proofs.Ytkbiiijmgbjnkaa.GA Go.Proofs.Ytkbiiijmgbjnkaa.PuB Go.Proofs.YtkbiiijmgbjnkaaW.PrintWords Go.Proofs.YtkbiiijmgbjnkaaW.PrintLast Go.Proofs.YtkbiiijmgbjnkaaW.PrintMore
set_option linter.unusedVariables false
set_option linter.unusedSimpArgs false
set_option maxRecDepth 100000
set_option maxHeartbeats 4000000
theorem w64 (n : Int) (h : -9223372036854775808 ≤ n ∧ n ≤ 9223372036854775807) : wrap64 n = n := IntWalk.wrap64_in n h
theorem rd_get (l : List Int) (i : Nat) (h : i < l.length) : rd l (i : Int) = l[i] := by
  unfold rd
  rw [List.getD_eq_getElem?_getD, Int.toNat_natCast, List.getElem?_eq_getElem h]
  rfl
theorem drop_get' {α : Type} (l : List α) (i : Nat) (h : i < l.length) : l.drop i = l[i] :: l.drop (i + 1) := List.drop_eq_getElem_cons h
theorem index_l0 (l : List Int) (v : Int) (hl : l.length ≤ 10000) : ∀ (k i : Nat), i ≤ l.length → l.length - i < k → ∃ j, slices_Index_int_int.l0 k (i : Int) v l = some j ∧ (j ≥ 0 ↔ v ∈ l.drop i)
  | 0, i, h1, h2 => by omega
  | k + 1, i, h1, h2 => by
    unfold slices_Index_int_int.l0
    by_cases hi : i < l.length
    · rw [if_pos (by omega), if_pos (by omega), rd_get l i hi, w64 ((i : Int) + 1) (by omega), drop_get' l i hi]
      by_cases he : v = l[i]
      · rw [if_pos he]
        exact ⟨i, rfl, ⟨fun _ => by rw [he]; exact List.mem_cons_self, fun _ => by omega⟩⟩
      · rw [if_neg he]
        obtain ⟨j, e, hj⟩ := index_l0 l v hl k (i + 1) (by omega) (by omega)
        refine ⟨j, e, hj.trans ⟨fun h => List.mem_cons_of_mem _ h, fun h => ?_⟩⟩
        rcases List.mem_cons.1 h with h | h
        · exact absurd h he
        · exact h
    · rw [if_neg (by omega), List.drop_eq_nil_of_le (by omega)]
      exact ⟨-1, rfl, by simp⟩
theorem contains_f (l : List Int) (v : Int) (hl : l.length ≤ 10000) (k : Nat) (hk : 10001 ≤ k) : slices_Contains_int_int.f k l v = some (decide (v ∈ l)) := by
  obtain ⟨j, e, hj⟩ := index_l0 l v hl k 0 (by omega) (by omega)
  unfold slices_Contains_int_int.f slices_Index_int_int.f
  rw [show ((0 : Nat) : Int) = 0 from rfl] at e
  rw [e, Option.bind_some]
  refine congrArg some (decide_eq_decide.2 ?_)
  rwa [List.drop_zero] at hj
theorem is_f (a : Int) (l : List Int) (hl : l.length ≤ 10000) (k : Nat) (hk : 10001 ≤ k) : chars_Is.f k a l = some (decide (knd a ∈ l)) := by
  unfold chars_Is.f
  rw [kind_some a, Option.bind_some, contains_f l _ hl k hk]
  rfl
theorem ris_l0 (l : List Int) (v : Int) (hl : l.length ≤ 10000) : ∀ (k i : Nat), i ≤ l.length → l.length - i < k → toponymref03_Is.l0 k (i : Int) l v = some (decide (v ∈ l.drop i))
  | 0, i, h1, h2 => by omega
  | k + 1, i, h1, h2 => by
    unfold toponymref03_Is.l0
    by_cases hi : i < l.length
    · rw [if_pos (by omega), if_pos (by omega), rd_get l i hi, w64 ((i : Int) + 1) (by omega), drop_get' l i hi]
      by_cases he : l[i] = v
      · rw [if_pos he, decide_eq_true (by rw [he]; exact List.mem_cons_self)]
      · rw [if_neg he]
        have ih := ris_l0 l v hl k (i + 1) (by omega) (by omega)
        rw [show ((i : Int) + 1) = ((i + 1 : Nat) : Int) by omega, ih]
        refine congrArg some (decide_eq_decide.2 ⟨fun h => List.mem_cons_of_mem _ h, fun h => ?_⟩)
        rcases List.mem_cons.1 h with h | h
        · exact absurd h.symm he
        · exact h
    · rw [if_neg (by omega), List.drop_eq_nil_of_le (by omega)]
      simp
theorem ris_f (a : Int) (l : List Int) (hl : l.length ≤ 10000) (k : Nat) (hk : 10201 ≤ k) : toponymref03_Is.f k a l = some (decide (knd a ∈ l)) := by
  unfold toponymref03_Is.f
  rw [kind_ref k (by omega) a, Option.bind_some]
  have := ris_l0 l (knd a) hl k 0 (by omega) (by omega)
  rwa [List.drop_zero] at this
theorem awake_ : toponymlaw03_awake.f 20 = some true := by decide +kernel
theorem awake_k (k : Nat) (hk : 20 ≤ k) : toponymlaw03_awake.f k = some true := up_to (fun k => toponymlaw03_awake.mono k) awake_ hk
/-- CharsKinds. -/
theorem kinds (a : Int) (l : List Int) (ha : (Lit.int .i32 a).wf = true) (h : l.length * 8 ≤ 140737488351232 ∧ ∀ y ∈ l, (Lit.int .i64 y).wf = true) : ∃ k, toponymlaw03_CharsKinds.f k a l = some true := by
  refine ⟨20000, ?_⟩
  unfold toponymlaw03_CharsKinds.f
  rw [kind_some a, Option.bind_some, kind_ref _ (by omega) a, Option.bind_some, if_pos rfl, awake_k _ (by omega), class_some a, class_ref _ (by omega) a]
  by_cases hl : (l.length : Int) > 10000
  · rw [if_pos hl]
    simp
  · rw [if_neg hl, is_f a l (by omega) _ (by omega), ris_f a l (by omega) _ (by omega)]
    simp
/-- CharsMarks. -/
theorem marks_law (a : Int) (ha : (Lit.int .i32 a).wf = true) : ∃ k, toponymlaw03_CharsMarks.f k a = some true := by
  refine ⟨20000, ?_⟩
  have hk := knd_in a
  have hm := marks a
  have ho := outside a
  unfold toponymlaw03_CharsMarks.f
  rw [kind_some a, Option.bind_some, if_neg (by omega), if_neg (by omega), is_f a _ (by simp) _ (by omega), Option.bind_some, if_pos (by simp), w64 (knd a + 1) (by omega), is_f a _ (by simp) _ (by omega), Option.bind_some, if_neg (by simp <;> omega), class_some a, Option.bind_some, if_pos hm, awake_k _ (by omega), Option.bind_some]
  by_cases h0 : a ≥ 0
  · rw [if_pos h0]
    by_cases h1 : a ≤ 1114111
    · rw [if_pos h1]
    · rw [if_neg h1, if_pos (ho (fun h => h1 h.2))]
  · rw [if_neg h0, if_pos (ho (fun h => h0 h.1))]
end Go.Proofs.Ytkbiiijmgbjnkaa.PuC
