import Derived.Test.YtliackbiljhioaaPuB
import Derived.Test.YtliackbiljhioaaOA
import Derived.Test.YtliackbiljhioaaGAF9
/- Plain laws: more rounds tell the same; the count of parts comes to an end. -/
namespace Go.Proofs.Ytliackbiljhioaa.PuA
open Go Go.RowKit Go.Proofs.Ytliackbiljhioaa.GA Go.Proofs.Ytliackbiljhioaa.OA Go.Proofs.YtliackbiljhioaaW.PrintWords Go.Proofs.YtliackbiljhioaaW.PrintLast Go.Proofs.YtliackbiljhioaaW.PrintMore
set_option linter.unusedVariables false
set_option linter.unusedSimpArgs false
theorem up {α : Type} {f : Nat → Option α} (h : ∀ k, LeO (f k) (f (k + 1))) {r : α} {k : Nat} (hr : f k = some r) : ∀ j, f (k + j) = some r
  | 0 => hr
  | j + 1 => h _ _ (up h hr j)
theorem up_to {α : Type} {f : Nat → Option α} (h : ∀ k, LeO (f k) (f (k + 1))) {r : α} {k k' : Nat} (hr : f k = some r) (hk : k ≤ k') : f k' = some r := by
  obtain ⟨j, rfl⟩ := Nat.exists_eq_add_of_le hk
  exact up h hr j
theorem awake_k (k : Nat) (hk : 12 ≤ k) : toponymlaw16_awake.f k = some true := up_to (fun k => toponymlaw16_awake.mono k) awake_ hk
theorem few_l0_mono (k : Nat) (x i : Int) (l : List S28) : LeO (toponymlaw15_Few.l0 k x i l) (toponymlaw15_Few.l0 (k + 1) x i l) := (toponymlaw15_Few.mono_l k).2 x i l
theorem rd_mem (l : List S28) (i : Int) (h0 : 0 ≤ i) (h1 : i < l.length) : rd_T28 l i ∈ l := by
  unfold rd_T28
  rw [List.getD_eq_getElem?_getD, List.getElem?_eq_getElem (by omega)]
  exact List.getElem_mem _
theorem few_list (l : List S28) (hl : l.length ≤ 4611686018427387904) (IH : ∀ y ∈ l, ∀ a, ∃ k r, toponymlaw15_Few.f k y.f0 y.f1 y.f2 y.f3 y.f4 a = some r) :
    ∀ (j : Nat) (x i : Int), ((l.length : Int) - i).toNat = j → 0 ≤ i → i ≤ l.length → ∃ k r, toponymlaw15_Few.l0 k x i l = some r
  | 0, x, i, hj, h0, h1 => ⟨1, x, by unfold toponymlaw15_Few.l0; rw [if_neg (by omega)]⟩
  | j + 1, x, i, hj, h0, h1 => by
    by_cases hx : x ≥ 0
    · obtain ⟨k1, r1, e1⟩ := IH _ (rd_mem l i h0 (by omega)) x
      obtain ⟨k2, r2, e2⟩ := few_list l hl IH j r1 (i + 1) (by omega) (by omega) (by omega)
      refine ⟨max k1 k2 + 1, r2, ?_⟩
      unfold toponymlaw15_Few.l0
      rw [if_pos (by omega), if_pos hx, if_pos h0, up_to (f := fun k => toponymlaw15_Few.f k _ _ _ _ _ x) (fun k => toponymlaw15_Few.mono _ _ _ _ _ _ k) e1 (Nat.le_max_left k1 k2), Option.bind_some, IntWalk.wrap64_in (i + 1) (by omega)]
      exact up_to (f := fun k => toponymlaw15_Few.l0 k r1 (i + 1) l) (fun k => few_l0_mono k _ _ _) e2 (Nat.le_max_right k1 k2)
    · refine ⟨1, x, ?_⟩
      unfold toponymlaw15_Few.l0
      rw [if_pos (by omega), if_neg hx]
theorem few_f (x : S28) (h : G28 x) : ∀ a, ∃ k r, toponymlaw15_Few.f k x.f0 x.f1 x.f2 x.f3 x.f4 a = some r := by
  induction h with
  | mk x _ _ _ h4 _ ih =>
    intro a
    obtain ⟨k, r, e⟩ := few_list x.f4 (by omega) (fun y hy a => ih y hy a) _ (wrap64 (a - 1)) 0 rfl (by omega) (by omega)
    by_cases hs : (x.f3.size : Int) > 5000
    · exact ⟨k + 1, -1, by unfold toponymlaw15_Few.f; rw [if_pos hs]⟩
    · exact ⟨k + 1, r, by unfold toponymlaw15_Few.f; rw [if_neg hs]; exact e⟩
end Go.Proofs.Ytliackbiljhioaa.PuA
