import Derived.Test.YthdcofcikmeeeaaMW
/- Words of this session: a long region of tests, in parts. -/
namespace Go.Proofs.Ythdcofcikmeeeaa.MW
open Go.RowKit Go.Proofs.YthdcofcikmeeeaaW.PrintWords Go.Proofs.YthdcofcikmeeeaaW.PrintLast Go.Proofs.YthdcofcikmeeeaaW.PrintMore
set_option linter.unusedVariables false
/-! ### a long region, in parts -/
section
variable {P : Program} {ops : Array Oper} {Q : Exit → Act → World → Prop}
theorem upon_then {o : Oper} {a : Act} {K next : Act → World → Prop} : ∀ {r : Result Next}, o.upon P a next (Exit.then K Q) r → o.upon P a next Q r
  | .ok (.value _) _, h => h
  | .ok .skip _, h => h
  | .ok (.defer _) _, h => h
  | .ok (.enter _ _) _, h => h
  | .ok (.row _ _) _, h => h
  | .halt _ _, h => by
    unfold Oper.upon at h ⊢
    split at h <;> first | exact h | exact h.elim
theorem list_append {l2 : List Oper} : ∀ (l1 : List Oper) (a : Act) (w : World), wpList P ops (Exit.then (fun a w => wpList P ops Q l2 a w) Q) l1 a w → wpList P ops Q (l1 ++ l2) a w
  | [], _, _, h => h
  | o :: l1, a, w, h => by
    unfold wpList at h
    show wpList P ops Q (o :: (l1 ++ l2)) a w
    unfold wpList
    split at h
    · rename_i hw
      rw [if_pos hw]
      rcases h with h | h
      · exact .inl (Oper.wp_mono (fun a w h => list_append l1 a w h) (upon_then h))
      · exact .inr ⟨h.1, h.2⟩
    · rename_i hw
      rw [if_neg hw]
      exact list_append l1 _ _ h
theorem list_cut (n : Nat) {l : List Oper} {a : Act} {w : World} (K : Act → World → Prop) (seg : ∀ K' : Act → World → Prop, (∀ a w, Stop (K a w) (.mk _) → K' a w) → wpList P ops (Exit.then K' Q) (l.take n) a w)
    (rest : ∀ a w, K a w → wpList P ops Q (l.drop n) a w) : wpList P ops Q l a w := by
  have h := list_append (l2 := l.drop n) (l.take n) a w (seg _ fun _ _ h => rest _ _ h.out)
  rwa [List.take_append_drop] at h
end
end Go.Proofs.Ythdcofcikmeeeaa.MW
