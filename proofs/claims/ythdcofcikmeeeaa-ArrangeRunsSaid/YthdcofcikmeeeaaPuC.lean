import Derived.Test.YthdcofcikmeeeaaPuB
import Derived.Test.YthdcofcikmeeeaaGAF3
import Derived.Test.YthdcofcikmeeeaaGAF4
import Derived.Test.YthdcofcikmeeeaaGAF5
import Derived.Test.YthdcofcikmeeeaaGAF6
/- Plain laws of chapter 6: what the walked functions compute. -/
namespace Go.Proofs.Ythdcofcikmeeeaa.PuC
open Go Go.RowKit Go.Proofs.Ythdcofcikmeeeaa.GA Go.Proofs.Ythdcofcikmeeeaa.PuA Go.Proofs.Ythdcofcikmeeeaa.PuB Go.Proofs.YthdcofcikmeeeaaW.PrintWords Go.Proofs.YthdcofcikmeeeaaW.PrintLast Go.Proofs.YthdcofcikmeeeaaW.PrintMore
set_option linter.unusedVariables false
set_option linter.unusedSimpArgs false
set_option maxRecDepth 100000
set_option maxHeartbeats 4000000
theorem w64 (n : Int) (h : -9223372036854775808 ≤ n ∧ n ≤ 9223372036854775807) : wrap64 n = n := IntWalk.wrap64_in n h
theorem rd_get (l : List Int) (i : Nat) (h : i < l.length) : rd l (i : Int) = l[i] := by
  unfold rd
  rw [List.getD_eq_getElem?_getD, Int.toNat_natCast, List.getElem?_eq_getElem h]
  rfl
theorem rd_mid (q B : List Int) (z : Int) : rd (q ++ z :: B) (q.length : Int) = z := by
  rw [rd_get _ _ (by simp)]
  simp
theorem wrong_f (a b : Int) : arrange_wrong.f a b = some (decide (Wr cls a b)) := by
  unfold arrange_wrong.f Wr
  rw [class_some b, Option.bind_some, class_some a, Option.bind_some]
  split
  · rename_i h
    simp [h]
  · rename_i h
    simp [h]
/-! ### Order -/
theorem gnome_up (z y : Int) (q B : List Int) (h : ¬ Wr cls z y) (hl : q.length + B.length + 2 ≤ 1000000) (k : Nat) :
    arrange_Order.l0 (k + 1) ((q.length + 1 : Nat) : Int) (q ++ z :: y :: B) = arrange_Order.l0 k ((q.length + 2 : Nat) : Int) (q ++ z :: y :: B) := by
  have hlen : ((q ++ z :: y :: B).length : Int) = q.length + B.length + 2 := by simp; omega
  have e1 : rd (q ++ z :: y :: B) (q.length : Int) = z := rd_mid q (y :: B) z
  have e2 : rd (q ++ z :: y :: B) ((q.length + 1 : Nat) : Int) = y := by
    have := rd_mid (q ++ [z]) B y
    simpa using this
  conv => lhs; unfold arrange_Order.l0
  rw [w64 (((q.length + 1 : Nat) : Int) - 1) (by omega), w64 (((q.length + 1 : Nat) : Int) + 1) (by omega)]
  rw [if_neg (by omega), if_pos (by omega), if_pos (by omega), if_pos (by omega), if_pos (by omega), if_pos (by omega)]
  rw [show (((q.length + 1 : Nat) : Int) - 1) = (q.length : Int) by omega, e1, e2, wrong_f, Option.bind_some, decide_eq_false h, if_neg (by simp)]
  rw [show (((q.length + 1 : Nat) : Int) + 1) = ((q.length + 2 : Nat) : Int) by omega]
theorem gnome_down (x y : Int) (q B : List Int) (h : Wr cls y x) (hl : q.length + B.length + 2 ≤ 1000000) (k : Nat) :
    arrange_Order.l0 (k + 1) ((q.length + 1 : Nat) : Int) (q ++ y :: x :: B) = arrange_Order.l0 k (q.length : Int) (q ++ x :: y :: B) := by
  have hlen : ((q ++ y :: x :: B).length : Int) = q.length + B.length + 2 := by simp; omega
  have e1 : rd (q ++ y :: x :: B) (q.length : Int) = y := rd_mid q (x :: B) y
  have e2 : rd (q ++ y :: x :: B) ((q.length + 1 : Nat) : Int) = x := by
    have := rd_mid (q ++ [y]) B x
    simpa using this
  conv => lhs; unfold arrange_Order.l0
  rw [w64 (((q.length + 1 : Nat) : Int) - 1) (by omega)]
  rw [if_neg (by omega), if_pos (by omega), if_pos (by omega), if_pos (by omega), if_pos (by omega), if_pos (by omega)]
  rw [show (((q.length + 1 : Nat) : Int) - 1) = (q.length : Int) by omega, e1, e2, wrong_f, Option.bind_some, decide_eq_true h, if_pos rfl, Option.bind_some, Option.bind_some]
  congr 1
  rw [Int.toNat_natCast, Int.toNat_natCast]
  simp [List.set_append]
theorem gnome_in (x : Int) : ∀ (rv B : List Int), Ord cls rv → rv.length + B.length + 1 ≤ 1000000 →
    ∃ n, ∀ k, arrange_Order.l0 (k + n) (rv.length : Int) (rv.reverse ++ x :: B) = arrange_Order.l0 k ((rv.length + 1 : Nat) : Int) ((ins cls x rv).reverse ++ B)
  | [], B, _, hl => by
    refine ⟨1, fun k => ?_⟩
    conv => lhs; unfold arrange_Order.l0
    rw [if_neg (by simp <;> omega), if_neg (by simp), w64 _ (by simp)]
    simp [ins]
  | y :: ys, B, ho, hl => by
    simp only [List.length_cons] at hl
    by_cases hw : Wr cls y x
    · obtain ⟨n, hn⟩ := gnome_in x ys (y :: B) (ord_tail ho) (by simp only [List.length_cons]; omega)
      obtain ⟨z, q, hq⟩ : ∃ z q, ins cls x ys = z :: q := by
        cases hi : ins cls x ys with
        | nil => have := ins_len (cls := cls) x ys; rw [hi] at this; simp at this
        | cons z q => exact ⟨z, q, rfl⟩
      have hql : q.length = ys.length := by
        have := ins_len (cls := cls) x ys
        rw [hq] at this
        simpa using this
      have hz : ¬ Wr cls z y := by
        rcases ins_head (cls := cls) x ys z (by rw [hq]; rfl) with rfl | hz
        · exact not_back hw
        · cases ys with
          | nil => simp at hz
          | cons u l =>
            have : u = z := by simpa using hz
            subst this
            exact ho.1
      refine ⟨n + 2, fun k => ?_⟩
      rw [show k + (n + 2) = ((k + 1) + n) + 1 by omega, List.reverse_cons, List.append_assoc]
      have h1 := gnome_down x y ys.reverse B hw (by simp; omega) (k + 1 + n)
      rw [List.length_reverse] at h1
      rw [List.length_cons]
      show arrange_Order.l0 (k + 1 + n + 1) _ (ys.reverse ++ y :: x :: B) = _
      rw [h1, hn (k + 1), hq]
      have h2 := gnome_up z y q.reverse B hz (by simp; omega) k
      rw [List.length_reverse, hql] at h2
      rw [List.reverse_cons, List.append_assoc]
      show arrange_Order.l0 (k + 1) _ (q.reverse ++ z :: y :: B) = _
      rw [h2]
      have : ins cls x (y :: ys) = y :: z :: q := by
        show (if Wr cls y x then y :: ins cls x ys else x :: y :: ys) = _
        rw [if_pos hw, hq]
      rw [this]
      simp only [List.reverse_cons, List.append_assoc, List.cons_append, List.nil_append]
      try rfl
    · refine ⟨1, fun k => ?_⟩
      have h1 := gnome_up y x ys.reverse B hw (by simp; omega) k
      rw [List.length_reverse] at h1
      rw [List.length_cons, List.reverse_cons, List.append_assoc]
      show arrange_Order.l0 (k + 1) _ (ys.reverse ++ y :: x :: B) = _
      rw [h1]
      have : ins cls x (y :: ys) = x :: y :: ys := by
        show (if Wr cls y x then y :: ins cls x ys else x :: y :: ys) = _
        rw [if_neg hw]
      rw [this]
      simp only [List.reverse_cons, List.append_assoc, List.cons_append, List.nil_append]
      try rfl
theorem gnome_all : ∀ (B rv : List Int), Ord cls rv → rv.length + B.length ≤ 1000000 → ∃ n, ∀ k, arrange_Order.l0 (k + n) (rv.length : Int) (rv.reverse ++ B) = some (B.foldl (fun rv x => ins cls x rv) rv).reverse
  | [], rv, _, hl => by
    refine ⟨1, fun k => ?_⟩
    unfold arrange_Order.l0
    rw [if_pos (by simp)]
    simp
  | x :: B, rv, ho, hl => by
    simp only [List.length_cons] at hl
    obtain ⟨n1, h1⟩ := gnome_in x rv B ho (by omega)
    obtain ⟨n2, h2⟩ := gnome_all B (ins cls x rv) (ins_ord x rv ho) (by rw [ins_len]; omega)
    refine ⟨n2 + n1, fun k => ?_⟩
    rw [← Nat.add_assoc, h1 (k + n2)]
    rw [ins_len] at h2
    rw [h2 k]
    rfl
theorem order_f (l : List Int) (hl : l.length ≤ 1000) : ∃ k0, ∀ k, k0 ≤ k → arrange_Order.f k l = some (srt cls l).reverse := by
  have : ∃ n, arrange_Order.f n l = some (srt cls l).reverse := by
    unfold arrange_Order.f Clone_17.f
    simp only [if_pos (show l.length < 35184372088832 by omega), Option.bind_some]
    cases l with
    | nil => exact ⟨1, by unfold arrange_Order.l0; rw [if_pos (by simp)]; rfl⟩
    | cons x B =>
      simp only [List.length_cons] at hl
      obtain ⟨n, hn⟩ := gnome_all B [x] trivial (by simp; omega)
      exact ⟨0 + n, hn 0⟩
  obtain ⟨n, hn⟩ := this
  exact ⟨n, fun k hk => up_to (f := fun k => arrange_Order.f k l) (fun k => arrange_Order.mono l k) hn hk⟩
/-! ### Ordered -/
instance decOrd : ∀ l, Decidable (Ord cls l)
  | [] => isTrue trivial
  | [_] => isTrue trivial
  | x :: y :: l => have := decOrd (y :: l); inferInstanceAs (Decidable (_ ∧ _))
theorem ord_drop : ∀ (a b : List Int), Ord cls (a ++ b) → Ord cls b
  | [], _, h => h
  | x :: a, b, h => ord_drop a b (ord_tail h)
theorem take_succ' (l : List Int) (i : Nat) (h : i < l.length) : l.take (i + 1) = l.take i ++ [l[i]] := by
  rw [List.take_add_one, List.getElem?_eq_getElem h]
  rfl
theorem ord_whole (l : List Int) (i : Nat) (h : Ord cls l.reverse) : Ord cls (l.take i).reverse := by
  have : l.reverse = (l.drop i).reverse ++ (l.take i).reverse := by rw [← List.reverse_append, List.take_append_drop]
  rw [this] at h
  exact ord_drop _ _ h
theorem ord_next (l : List Int) (i : Nat) (h1 : 1 ≤ i) (h : i < l.length) : (l.take (i + 1)).reverse = l[i] :: l[i - 1] :: (l.take (i - 1)).reverse := by
  obtain ⟨j, rfl⟩ : ∃ j, i = j + 1 := ⟨i - 1, by omega⟩
  rw [take_succ' l (j + 1) h, take_succ' l j (by omega)]
  simp
theorem ord_step (l : List Int) (i : Nat) (h1 : 1 ≤ i) (h : i < l.length) (ho : Ord cls (l.take i).reverse) (hw : ¬ Wr cls l[i - 1] l[i]) : Ord cls (l.take (i + 1)).reverse := by
  rw [ord_next l i h1 h]
  refine ⟨hw, ?_⟩
  obtain ⟨j, rfl⟩ : ∃ j, i = j + 1 := ⟨i - 1, by omega⟩
  rw [take_succ' l j (by omega), List.reverse_append] at ho
  exact ho
theorem ord_not (l : List Int) (i : Nat) (h1 : 1 ≤ i) (h : i < l.length) (hw : Wr cls l[i - 1] l[i]) : ¬ Ord cls l.reverse := by
  intro ho
  have := ord_whole l (i + 1) ho
  rw [ord_next l i h1 h] at this
  exact this.1 hw
theorem ordered_l0 (l : List Int) (hl : l.length ≤ 1000) : ∀ (k i : Nat), 1 ≤ i → l.length - i < k → Ord cls (l.take i).reverse → arrange_Ordered.l0 k (i : Int) l = some (decide (Ord cls l.reverse))
  | 0, i, h1, h2, _ => by omega
  | k + 1, i, h1, h2, ho => by
    unfold arrange_Ordered.l0
    by_cases hi : i < l.length
    · rw [w64 ((i : Int) - 1) (by omega), w64 ((i : Int) + 1) (by omega)]
      rw [if_pos (by omega), if_pos (by omega), if_pos (by omega), if_pos (by omega)]
      rw [show ((i : Int) - 1) = ((i - 1 : Nat) : Int) by omega, rd_get l (i - 1) (by omega), rd_get l i hi, wrong_f, Option.bind_some]
      by_cases hw : Wr cls l[i - 1] l[i]
      · rw [decide_eq_true hw, if_pos rfl, decide_eq_false (ord_not l i h1 hi hw)]
      · rw [decide_eq_false hw, if_neg (by simp)]
        exact ordered_l0 l hl k (i + 1) (by omega) (by omega) (ord_step l i h1 hi ho hw)
    · rw [if_neg (by omega)]
      rw [List.take_of_length_le (by omega)] at ho
      rw [decide_eq_true ho]
theorem ord_one (l : List Int) : Ord cls (l.take 1).reverse := by
  cases l with
  | nil => trivial
  | cons x l => trivial
theorem ordered_f (l : List Int) (hl : l.length ≤ 1000) (k : Nat) (hk : 1001 ≤ k) : arrange_Ordered.f k l = some (decide (Ord cls l.reverse)) :=
  ordered_l0 l hl k 1 (by omega) (by omega) (ord_one l)
theorem five_nn (x : Int) : cls x = 0 ∨ cls x > 0 := by
  have := cls_five x
  simp only [five, List.mem_cons, List.not_mem_nil, or_false] at this
  omega
theorem rordered_l0 (l : List Int) (hl : l.length ≤ 1000) : ∀ (k i : Nat), 1 ≤ i → l.length - i + 200 < k → Ord cls (l.take i).reverse → toponymref06_Ordered.l0 k (i : Int) l = some (decide (Ord cls l.reverse))
  | 0, i, h1, h2, _ => by omega
  | k + 1, i, h1, h2, ho => by
    unfold toponymref06_Ordered.l0
    by_cases hi : i < l.length
    · have ih := fun ho' => rordered_l0 l hl k (i + 1) (by omega) (by omega) ho'
      rw [w64 ((i : Int) - 1) (by omega), w64 ((i : Int) + 1) (by omega)]
      rw [if_pos (by omega), if_pos (by omega), rd_get l i hi, class_ref k (by omega), Option.bind_some]
      by_cases h0 : cls l[i] = 0
      · rw [if_pos h0]
        exact ih (ord_step l i h1 hi ho (fun hw => by have := hw.1; omega))
      · rw [if_neg h0, if_pos (by omega), if_pos (by omega), show ((i : Int) - 1) = ((i - 1 : Nat) : Int) by omega, rd_get l (i - 1) (by omega), class_ref k (by omega), Option.bind_some]
        by_cases hw : cls l[i - 1] > cls l[i]
        · have h2 := five_nn l[i]
          rw [if_pos hw, decide_eq_false (ord_not l i h1 hi ⟨by omega, hw⟩)]
        · rw [if_neg hw]
          exact ih (ord_step l i h1 hi ho (fun h => hw h.2))
    · rw [if_neg (by omega)]
      rw [List.take_of_length_le (by omega)] at ho
      rw [decide_eq_true ho]
theorem rordered_f (l : List Int) (hl : l.length ≤ 1000) (k : Nat) (hk : 1201 ≤ k) : toponymref06_Ordered.f k l = some (decide (Ord cls l.reverse)) :=
  rordered_l0 l hl k 1 (by omega) (by omega) (ord_one l)
/-! ### Runs -/
theorem runs_count (l : List Int) : (runs_ cls l).1.length ≤ l.length := by
  induction l using snoc_rec with
  | h0 => exact Nat.le_refl _
  | h1 l x ih =>
    rw [runs_snoc]
    unfold stp
    split <;> simp <;> omega
theorem runs_from (l : List Int) : l.drop (runs_ cls l).1.flatten.length = (runs_ cls l).2 := by
  have h := runs_flat (cls := cls) l
  have h2 : ((runs_ cls l).1.flatten ++ (runs_ cls l).2).drop (runs_ cls l).1.flatten.length = (runs_ cls l).2 := List.drop_left
  rwa [h] at h2
theorem runs_flat_len (l : List Int) : (runs_ cls l).1.flatten.length + (runs_ cls l).2.length = l.length := by
  have h := congrArg List.length (runs_flat (cls := cls) l)
  rwa [List.length_append] at h
theorem runs_l0 (l : List Int) (hl : l.length ≤ 1000) (hne : l ≠ []) : ∀ (k i : Nat), 1 ≤ i → i ≤ l.length → l.length - i + 2 ≤ k →
    arrange_Runs.l0 k (runs_ cls (l.take i)).1 ((runs_ cls (l.take i)).1.flatten.length : Nat) (i : Int) l = some (runs cls l)
  | 0, i, h1, h2, h3 => by omega
  | k + 1, i, h1, h2, h3 => by
    have hti : (l.take i).length = i := by rw [List.length_take]; omega
    have hc := runs_count (l.take i)
    have hf := runs_flat_len (l.take i)
    rw [hti] at hc hf
    unfold arrange_Runs.l0
    rw [if_pos (by omega), w64 ((i : Int) + 1) (by omega)]
    by_cases hi : i = l.length
    · rw [if_pos (by omega), if_pos (by omega), if_pos (by omega), Option.bind_some, if_pos (by omega), Option.bind_some]
      obtain ⟨k', rfl⟩ : ∃ k', k = k' + 1 := ⟨k - 1, by omega⟩
      unfold arrange_Runs.l0
      rw [if_neg (by omega)]
      rw [Int.toNat_natCast, Int.toNat_natCast, runs_from (l.take i)]
      rw [List.take_of_length_le (by omega)]
      unfold runs
      rw [if_neg (runs_ne l hne)]
    · have hil : i < l.length := by omega
      rw [if_neg (by omega), if_pos (by omega), if_pos (by omega), rd_get l i hil, class_some, Option.bind_some]
      have ht := take_succ' l i hil
      have ih := runs_l0 l hl hne k (i + 1) (by omega) (by omega) (by omega)
      have hn2 : (runs_ cls (l.take i)).2 ≠ [] := by
        refine runs_ne _ ?_
        intro h
        rw [h] at hti
        simp at hti
        omega
      rw [ht, runs_snoc] at ih
      unfold stp at ih
      by_cases h0 : cls l[i] = 0
      · rw [if_pos ⟨h0, hn2⟩] at ih
        rw [if_pos h0, if_pos (by omega), if_pos (by omega), Option.bind_some, if_pos (by omega), Option.bind_some]
        rw [Int.toNat_natCast, Int.toNat_natCast, runs_from (l.take i)]
        have e : (((runs_ cls (l.take i)).1 ++ [(runs_ cls (l.take i)).2]).flatten.length : Nat) = i := by
          rw [List.flatten_append, List.length_append]
          simpa using hf
        simp only [e] at ih
        exact ih
      · rw [if_neg (fun h => h0 h.1)] at ih
        rw [if_neg h0]
        exact ih
theorem runs_f (l : List Int) (hl : l.length ≤ 1000) (k : Nat) (hk : 1002 ≤ k) : arrange_Runs.f k l = some (runs cls l) := by
  unfold arrange_Runs.f Clone_17.f
  rw [if_pos (by omega), Option.bind_some]
  by_cases hne : l = []
  · subst hne
    obtain ⟨k', rfl⟩ : ∃ k', k = k' + 1 := ⟨k - 1, by omega⟩
    unfold arrange_Runs.l0
    rw [if_neg (by simp)]
    rfl
  · have h1 : 1 ≤ l.length := by
      cases l with
      | nil => exact absurd rfl hne
      | cons x l => simp
    have h := runs_l0 l hl hne k 1 (Nat.le_refl _) h1 (by omega)
    have e : runs_ cls (l.take 1) = ([], l.take 1) := by
      cases l with
      | nil => exact absurd rfl hne
      | cons x l => simp [runs_, stp]
    rw [e] at h
    exact h
theorem rruns_l0 (l : List Int) (hl : l.length ≤ 1000) : ∀ (k i : Nat), i ≤ l.length → l.length - i + 202 ≤ k →
    toponymref06_Runs.l0 k (runs_ cls (l.take i)).1 (runs_ cls (l.take i)).2 (i : Int) l = some (runs cls l)
  | 0, i, h2, h3 => by omega
  | k + 1, i, h2, h3 => by
    have hti : (l.take i).length = i := by rw [List.length_take]; omega
    have hc := runs_count (l.take i)
    have hf := runs_flat_len (l.take i)
    rw [hti] at hc hf
    unfold toponymref06_Runs.l0
    by_cases hil : i < l.length
    · rw [if_pos (by omega), if_pos (by omega), rd_get l i hil, class_ref k (by omega), Option.bind_some, w64 ((i : Int) + 1) (by omega)]
      have ih := rruns_l0 l hl k (i + 1) (by omega) (by omega)
      rw [take_succ' l i hil, runs_snoc] at ih
      unfold stp at ih
      by_cases h0 : cls l[i] = 0
      · rw [if_pos h0]
        by_cases hn : (runs_ cls (l.take i)).2 = []
        · rw [if_neg (fun h => h.2 hn)] at ih
          rw [if_neg (by rw [hn]; simp), if_pos (by rw [hn]; simp), Option.bind_some]
          exact ih
        · rw [if_pos ⟨h0, hn⟩] at ih
          have : 0 < (runs_ cls (l.take i)).2.length := List.length_pos_iff.2 hn
          rw [if_pos (by omega), if_pos (by omega), Option.bind_some, if_pos (by simp), Option.bind_some]
          exact ih
      · rw [if_neg (fun h => h0 h.1)] at ih
        rw [if_neg h0, if_pos (by omega), Option.bind_some]
        exact ih
    · rw [if_neg (by omega)]
      rw [List.take_of_length_le (by omega)] at hc hf ⊢
      unfold runs
      by_cases hn : (runs_ cls l).2 = []
      · rw [if_neg (by rw [hn]; simp), if_pos hn]
      · have : 0 < (runs_ cls l).2.length := List.length_pos_iff.2 hn
        rw [if_pos (by omega), if_pos (by omega), if_neg hn, Option.bind_some]
theorem rruns_f (l : List Int) (hl : l.length ≤ 1000) (k : Nat) (hk : 1202 ≤ k) : toponymref06_Runs.f k l = some (runs cls l) :=
  rruns_l0 l hl k 0 (by omega) (by omega)
/-! ### the document's order -/
theorem rdL_get (l : List (List Int)) (i : Nat) (h : i < l.length) : rd_L1 l (i : Int) = l[i] := by
  unfold rd_L1
  rw [List.getD_eq_getElem?_getD, Int.toNat_natCast, List.getElem?_eq_getElem h]
  rfl
theorem drop_get' {α : Type} (l : List α) (i : Nat) (h : i < l.length) : l.drop i = l[i] :: l.drop (i + 1) := List.drop_eq_getElem_cons h
theorem rorder_l2 (t : List (List Int)) (i : Nat) (hi : i < t.length) (c : Int) (hlr : t[i].length ≤ 1000) : ∀ (d j : Nat) (acc : List Int), t[i].length - j = d → j ≤ t[i].length → acc.length + (t[i].length - j) ≤ 1000000000 →
    ∃ n, ∀ k, 200 ≤ k → toponymref06_Order.l2 (k + n) acc (j : Int) t (i : Int) c = (toponymref06_step.f c).bind fun t62 => toponymref06_Order.l1 k (acc ++ (t[i].drop j).filter (fun y => cls y == c)) (wrap64 (c + t62)) t (i : Int)
  | 0, j, acc, hd, hj, hb => by
    refine ⟨1, fun k hk => ?_⟩
    conv => lhs; unfold toponymref06_Order.l2
    rw [if_pos (by omega), if_pos (by omega), rdL_get t i hi, if_neg (by omega), List.drop_eq_nil_of_le (by omega), List.filter_nil, List.append_nil]
  | d + 1, j, acc, hd, hj, hb => by
    have hjl : j < t[i].length := by omega
    rw [drop_get' t[i] j hjl, List.filter_cons]
    by_cases hc : cls t[i][j] = c
    · obtain ⟨n, hn⟩ := rorder_l2 t i hi c hlr d (j + 1) (acc ++ [t[i][j]]) (by omega) (by omega) (by rw [List.length_append, List.length_singleton]; omega)
      refine ⟨n + 1, fun k hk => ?_⟩
      rw [← Nat.add_assoc]
      conv => lhs; unfold toponymref06_Order.l2
      rw [if_pos (by omega), if_pos (by omega), rdL_get t i hi, if_pos (by omega), if_pos (by omega), rd_get t[i] j hjl, class_ref (k + n) (by omega), Option.bind_some, if_pos hc, if_pos (by omega), Option.bind_some, w64 ((j : Int) + 1) (by omega)]
      rw [show ((j : Int) + 1) = ((j + 1 : Nat) : Int) by omega, hn k hk, if_pos (by simpa using hc), List.append_assoc]
      rfl
    · obtain ⟨n, hn⟩ := rorder_l2 t i hi c hlr d (j + 1) acc (by omega) (by omega) (by omega)
      refine ⟨n + 1, fun k hk => ?_⟩
      rw [← Nat.add_assoc]
      conv => lhs; unfold toponymref06_Order.l2
      rw [if_pos (by omega), if_pos (by omega), rdL_get t i hi, if_pos (by omega), if_pos (by omega), rd_get t[i] j hjl, class_ref (k + n) (by omega), Option.bind_some, if_neg hc, w64 ((j : Int) + 1) (by omega)]
      rw [show ((j : Int) + 1) = ((j + 1 : Nat) : Int) by omega, hn k hk, if_neg (by simpa using hc)]
theorem rorder_class (t : List (List Int)) (i : Nat) (hi : i < t.length) (hlr : t[i].length ≤ 1000) (c s : Int) (hs : toponymref06_step.f c = some s) (h0 : 0 ≤ c) (hc : c ≤ 230) (hs0 : 0 ≤ s ∧ s ≤ 1000) (acc : List Int) (hb : acc.length + t[i].length ≤ 1000000000) :
    ∃ n, ∀ k, 200 ≤ k → toponymref06_Order.l1 (k + n) acc c t (i : Int) = toponymref06_Order.l1 k (acc ++ t[i].filter (fun y => cls y == c)) (c + s) t (i : Int) := by
  obtain ⟨n, hn⟩ := rorder_l2 t i hi c hlr _ 0 acc rfl (by omega) (by omega)
  refine ⟨n + 1, fun k hk => ?_⟩
  rw [← Nat.add_assoc]
  conv => lhs; unfold toponymref06_Order.l1
  rw [if_pos hc]
  have h := hn k hk
  rw [hs, Option.bind_some, w64 (c + s) (by omega), List.drop_zero] at h
  exact h
theorem flt_len (r : List Int) (c : Int) : (r.filter (fun y => cls y == c)).length ≤ r.length := List.length_filter_le _ _
theorem rorder_run (t : List (List Int)) (i : Nat) (hi : i < t.length) (hlr : t[i].length ≤ 1000) (hlt : t.length ≤ 1000) (acc : List Int) (hb : acc.length + 5 * t[i].length ≤ 1000000000) :
    ∃ n, ∀ k, 200 ≤ k → toponymref06_Order.l1 (k + n) acc 0 t (i : Int) = toponymref06_Order.l0 k (acc ++ by5 cls t[i]) ((i + 1 : Nat) : Int) t := by
  have f0 := flt_len t[i] 0
  have f8 := flt_len t[i] 8
  have f202 := flt_len t[i] 202
  have f220 := flt_len t[i] 220
  obtain ⟨n1, h1⟩ := rorder_class t i hi hlr 0 8 rfl (by omega) (by omega) (by omega) acc (by omega)
  obtain ⟨n2, h2⟩ := rorder_class t i hi hlr 8 194 rfl (by omega) (by omega) (by omega) (acc ++ t[i].filter (fun y => cls y == 0)) (by rw [List.length_append]; omega)
  obtain ⟨n3, h3⟩ := rorder_class t i hi hlr 202 18 rfl (by omega) (by omega) (by omega) (acc ++ t[i].filter (fun y => cls y == 0) ++ t[i].filter (fun y => cls y == 8)) (by rw [List.length_append, List.length_append]; omega)
  obtain ⟨n4, h4⟩ := rorder_class t i hi hlr 220 10 rfl (by omega) (by omega) (by omega) (acc ++ t[i].filter (fun y => cls y == 0) ++ t[i].filter (fun y => cls y == 8) ++ t[i].filter (fun y => cls y == 202)) (by rw [List.length_append, List.length_append, List.length_append]; omega)
  obtain ⟨n5, h5⟩ := rorder_class t i hi hlr 230 1 rfl (by omega) (by omega) (by omega) (acc ++ t[i].filter (fun y => cls y == 0) ++ t[i].filter (fun y => cls y == 8) ++ t[i].filter (fun y => cls y == 202) ++ t[i].filter (fun y => cls y == 220)) (by rw [List.length_append, List.length_append, List.length_append, List.length_append]; omega)
  refine ⟨1 + n5 + n4 + n3 + n2 + n1, fun k hk => ?_⟩
  rw [show k + (1 + n5 + n4 + n3 + n2 + n1) = k + 1 + n5 + n4 + n3 + n2 + n1 by omega]
  rw [h1 _ (by omega)]
  rw [show (0 : Int) + 8 = 8 by rfl, h2 _ (by omega)]
  rw [show (8 : Int) + 194 = 202 by rfl, h3 _ (by omega)]
  rw [show (202 : Int) + 18 = 220 by rfl, h4 _ (by omega)]
  rw [show (220 : Int) + 10 = 230 by rfl, h5 _ (by omega)]
  conv => lhs; unfold toponymref06_Order.l1
  rw [if_neg (by omega), w64 ((i : Int) + 1) (by omega)]
  congr 1
  simp [by5, five, List.append_assoc]
theorem by5_len (r : List Int) : (by5 cls r).length ≤ 5 * r.length := by
  have f0 := flt_len r 0
  have f8 := flt_len r 8
  have f202 := flt_len r 202
  have f220 := flt_len r 220
  have f230 := flt_len r 230
  simp only [by5, five, List.flatMap_cons, List.flatMap_nil, List.length_append, List.append_nil]
  omega
theorem rorder_l0 (t : List (List Int)) (hlr : ∀ r ∈ t, r.length ≤ 1000) (hlt : t.length ≤ 1000) : ∀ (d i : Nat) (acc : List Int), t.length - i = d → i ≤ t.length → acc.length + 5000 * (t.length - i) ≤ 100000000 →
    ∃ n, ∀ k, 200 ≤ k → toponymref06_Order.l0 (k + n) acc (i : Int) t = some (acc ++ (t.drop i).flatMap (by5 cls))
  | 0, i, acc, hd, hi, hb => by
    refine ⟨1, fun k hk => ?_⟩
    unfold toponymref06_Order.l0
    rw [if_neg (by omega), List.drop_eq_nil_of_le (by omega)]
    simp
  | d + 1, i, acc, hd, hi, hb => by
    have hil : i < t.length := by omega
    have h1000 := hlr t[i] (List.getElem_mem _)
    have h5 := by5_len t[i]
    obtain ⟨n1, h1⟩ := rorder_run t i hil h1000 hlt acc (by omega)
    obtain ⟨n2, h2⟩ := rorder_l0 t hlr hlt d (i + 1) (acc ++ by5 cls t[i]) (by omega) (by omega) (by rw [List.length_append]; omega)
    refine ⟨n2 + n1 + 1, fun k hk => ?_⟩
    rw [show k + (n2 + n1 + 1) = (k + n2 + n1) + 1 by omega]
    conv => lhs; unfold toponymref06_Order.l0
    rw [if_pos (by omega), h1 (k + n2) (by omega), h2 k hk, drop_get' t i hil, List.flatMap_cons, List.append_assoc]
theorem runs_small (l : List Int) : (∀ r ∈ runs cls l, r.length ≤ l.length) ∧ (runs cls l).length ≤ l.length := by
  have hall := runs_all (cls := cls) l
  have hr : ∀ q ∈ runs cls l, 1 ≤ q.length := by
    have h := runs_rns (cls := cls) l
    intro q hq
    cases hrs : runs cls l with
    | nil => rw [hrs] at hq; simp at hq
    | cons r rs =>
      rw [hrs] at h hq
      rcases List.mem_cons.1 hq with rfl | hq
      · obtain ⟨x, t, rfl, _⟩ := h.1; simp
      · obtain ⟨⟨x, t, rfl, _⟩, _⟩ := h.2 q hq; simp
  generalize runs cls l = rs at hall hr
  subst hall
  induction rs with
  | nil => simp
  | cons r rs ih =>
    obtain ⟨i1, i2⟩ := ih (fun q hq => hr q (by simp [hq]))
    have h1 := hr r (by simp)
    constructor
    · intro q hq
      rcases List.mem_cons.1 hq with rfl | hq
      · simp
      · have := i1 q hq
        simp only [List.flatten_cons, List.length_append]
        omega
    · simp only [List.flatten_cons, List.length_append, List.length_cons]
      omega
theorem rorder_f (l : List Int) (hl : l.length ≤ 1000) : ∃ k0, ∀ k, k0 ≤ k → toponymref06_Order.f k l = some (srt cls l).reverse := by
  have hs := runs_small l
  obtain ⟨n, hn⟩ := rorder_l0 (runs cls l) (fun r hr => Nat.le_trans (hs.1 r hr) hl) (by omega) _ 0 [] rfl (by omega) (by simp; omega)
  have : toponymref06_Order.f (1202 + n) l = some (srt cls l).reverse := by
    unfold toponymref06_Order.f
    rw [rruns_f l hl _ (by omega), Option.bind_some, srt_runs cls_five l]
    have h := hn 1202 (by omega)
    rw [List.nil_append, List.drop_zero] at h
    exact h
  exact ⟨1202 + n, fun k hk => up_to (f := fun k => toponymref06_Order.f k l) (fun k => toponymref06_Order.mono l k) this hk⟩
/-! ### Same, of -/
theorem same_l0 (a b : List Int) (hl : a.length ≤ 1000000) (hab : a.length = b.length) : ∀ (k i : Nat), i ≤ a.length → a.length - i < k → toponymref01_Same.l0 k (i : Int) a b = some (decide (a.drop i = b.drop i))
  | 0, i, h1, h2 => by omega
  | k + 1, i, h1, h2 => by
    unfold toponymref01_Same.l0
    by_cases hi : i < a.length
    · rw [if_pos (by omega), if_pos (by omega), if_pos (by omega), rd_get a i hi, rd_get b i (by omega), w64 ((i : Int) + 1) (by omega), drop_get' a i hi, drop_get' b i (by omega)]
      by_cases he : a[i] = b[i]
      · rw [if_pos he]
        have ih := same_l0 a b hl hab k (i + 1) (by omega) (by omega)
        rw [show ((i : Int) + 1) = ((i + 1 : Nat) : Int) by omega, ih]
        refine congrArg some (decide_eq_decide.2 ?_)
        rw [List.cons.injEq]
        exact ⟨fun h => ⟨he, h⟩, fun h => h.2⟩
      · rw [if_neg he, decide_eq_false (fun h => he (List.cons.inj h).1)]
    · rw [if_neg (by omega), List.drop_eq_nil_of_le (by omega), List.drop_eq_nil_of_le (by omega)]
      simp
theorem same_f (a b : List Int) (hl : a.length ≤ 1000) (k : Nat) (hk : 1001 ≤ k) : toponymref01_Same.f k a b = some (decide (a = b)) := by
  unfold toponymref01_Same.f
  by_cases h : a.length = b.length
  · rw [if_pos (by omega)]
    have := same_l0 a b (by omega) h k 0 (by omega) (by omega)
    rw [List.drop_zero, List.drop_zero] at this
    exact this
  · rw [if_neg (by omega)]
    have : ¬ a = b := fun he => h (by rw [he])
    simp [this]
theorem of_l0 (l : List Int) (c : Int) (hl : l.length ≤ 1000) : ∀ (k i : Nat) (acc : List Int), i ≤ l.length → l.length - i < k → acc.length ≤ i → toponymlaw06_of.l0 k acc (i : Int) c l = some (acc ++ (l.drop i).filter (fun y => cls y == c))
  | 0, i, acc, h1, h2, h3 => by omega
  | k + 1, i, acc, h1, h2, h3 => by
    unfold toponymlaw06_of.l0
    by_cases hi : i < l.length
    · rw [if_pos (by omega), if_pos (by omega), rd_get l i hi, class_some, Option.bind_some, w64 ((i : Int) + 1) (by omega), drop_get' l i hi, List.filter_cons]
      by_cases hc : cls l[i] = c
      · rw [if_pos hc, if_pos (by omega), Option.bind_some, if_pos (by simpa using hc)]
        have ih := of_l0 l c hl k (i + 1) (acc ++ [l[i]]) (by omega) (by omega) (by simp; omega)
        rw [show ((i : Int) + 1) = ((i + 1 : Nat) : Int) by omega, ih, List.append_assoc]
        rfl
      · rw [if_neg hc, if_neg (by simpa using hc)]
        exact of_l0 l c hl k (i + 1) acc (by omega) (by omega) (by omega)
    · rw [if_neg (by omega), List.drop_eq_nil_of_le (by omega)]
      simp
theorem of_f (l : List Int) (c : Int) (hl : l.length ≤ 1000) (k : Nat) (hk : 1001 ≤ k) : toponymlaw06_of.f k l c = some (l.filter (fun y => cls y == c)) := by
  have := of_l0 l c hl k 0 [] (by omega) (by omega) (by simp)
  rw [List.nil_append, List.drop_zero] at this
  exact this
/-! ### the laws -/
theorem awake_ : toponymlaw06_awake.f 40 = some true := by decide +kernel
theorem awake_k (k : Nat) (hk : 40 ≤ k) : toponymlaw06_awake.f k = some true := up_to (fun k => toponymlaw06_awake.mono k) awake_ hk
theorem srt_rev_len (l : List Int) : (srt cls l).reverse.length = l.length := by rw [List.length_reverse, srt_len]
/-- ArrangeOrders. -/
theorem orders (l : List Int) (h : l.length * 4 ≤ 140737488351232 ∧ ∀ y ∈ l, (Lit.int .i32 y).wf = true) : ∃ k, toponymlaw06_ArrangeOrders.f k l = some true := by
  by_cases hl : l.length ≤ 400
  · obtain ⟨k1, e1⟩ := order_f l (by omega)
    obtain ⟨k2, e2⟩ := rorder_f l (by omega)
    refine ⟨k1 + k2 + 2000, ?_⟩
    unfold toponymlaw06_ArrangeOrders.f
    rw [if_neg (by omega), e1 _ (by omega), Option.bind_some, e2 _ (by omega), Option.bind_some, same_f _ _ (by rw [srt_rev_len]; omega) _ (by omega), Option.bind_some, if_pos (by simp), ordered_f l (by omega) _ (by omega), Option.bind_some, rordered_f l (by omega) _ (by omega), Option.bind_some, if_pos (by simp), awake_k _ (by omega)]
    rfl
  · refine ⟨40, ?_⟩
    unfold toponymlaw06_ArrangeOrders.f
    rw [if_pos (by omega), awake_k _ (by omega)]
    rfl
theorem lruns_l0 (t : List (List Int)) (ht : t.length ≤ 1000) (hr : ∀ r ∈ t, r.length ≤ 1000) : ∀ (k i : Nat), i ≤ t.length → t.length - i + 1002 ≤ k → toponymlaw06_ArrangeRuns.l0 k (i : Int) t t = some true
  | 0, i, h1, h2 => by omega
  | k + 1, i, h1, h2 => by
    unfold toponymlaw06_ArrangeRuns.l0
    by_cases hi : i < t.length
    · rw [if_pos (by omega), if_pos (by omega), if_pos (by omega), rdL_get t i hi, same_f _ _ (hr _ (List.getElem_mem _)) _ (by omega), Option.bind_some, if_pos (by simp), w64 ((i : Int) + 1) (by omega)]
      exact lruns_l0 t ht hr k (i + 1) (by omega) (by omega)
    · rw [if_neg (by omega), awake_k _ (by omega)]
      rfl
/-- ArrangeRuns. -/
theorem runs_law (l : List Int) (h : l.length * 4 ≤ 140737488351232 ∧ ∀ y ∈ l, (Lit.int .i32 y).wf = true) : ∃ k, toponymlaw06_ArrangeRuns.f k l = some true := by
  by_cases hl : l.length ≤ 400
  · have hs := runs_small l
    refine ⟨3000, ?_⟩
    unfold toponymlaw06_ArrangeRuns.f
    rw [if_neg (by omega), runs_f l (by omega) _ (by omega), Option.bind_some, rruns_f l (by omega) _ (by omega), Option.bind_some, if_pos rfl]
    exact lruns_l0 (runs cls l) (by omega) (fun r hr => Nat.le_trans (hs.1 r hr) (by omega)) 3000 0 (by omega) (by omega)
  · refine ⟨40, ?_⟩
    unfold toponymlaw06_ArrangeRuns.f
    rw [if_pos (by omega), awake_k _ (by omega)]
    rfl
/-- ArrangeStable. -/
theorem stable (l : List Int) (c : Int) (h : l.length * 4 ≤ 140737488351232 ∧ ∀ y ∈ l, (Lit.int .i32 y).wf = true) (hc : (Lit.int .i64 c).wf = true) : ∃ k, toponymlaw06_ArrangeStable.f k l c = some true := by
  by_cases hl : l.length ≤ 400
  · have hm := srt_rev_len l
    have ho : Ord cls (srt cls l).reverse.reverse := by rw [List.reverse_reverse]; exact srt_ord l
    have hmm : (srt cls (srt cls l).reverse).reverse = (srt cls l).reverse := by rw [srt_of_ord _ ho, List.reverse_reverse]
    obtain ⟨k1, e1⟩ := order_f l (by omega)
    obtain ⟨k2, e2⟩ := order_f (srt cls l).reverse (by omega)
    refine ⟨k1 + k2 + 2000, ?_⟩
    have hdec : decide (Ord cls l.reverse) = decide ((srt cls l).reverse = l) := by
      refine decide_eq_decide.2 ⟨fun h => ?_, fun h => ?_⟩
      · rw [srt_of_ord l h, List.reverse_reverse]
      · have := srt_ord (cls := cls) l
        rw [← h, List.reverse_reverse]
        exact this
    have hfil : (srt cls l).reverse.filter (fun y => cls y == c) = l.filter (fun y => cls y == c) := by
      rw [List.filter_reverse, srt_filter, List.reverse_reverse]
    unfold toponymlaw06_ArrangeStable.f
    rw [if_neg (by omega), e1 _ (by omega), Option.bind_some, ordered_f _ (by omega) _ (by omega), Option.bind_some, decide_eq_true ho, if_pos rfl, e2 _ (by omega), Option.bind_some, same_f _ _ (by rw [hmm]; omega) _ (by omega), Option.bind_some, if_pos (by simp [hmm]), if_pos (by omega), ordered_f l (by omega) _ (by omega), Option.bind_some, same_f _ _ (by omega) _ (by omega), Option.bind_some, hdec, if_pos (by simp), of_f _ c (by omega) _ (by omega), Option.bind_some, of_f l c (by omega) _ (by omega), Option.bind_some, hfil, same_f _ _ (Nat.le_trans (List.length_filter_le _ _) (by omega)) _ (by omega), Option.bind_some, if_pos (by simp), awake_k _ (by omega)]
    rfl
  · refine ⟨40, ?_⟩
    unfold toponymlaw06_ArrangeStable.f
    rw [if_pos (by omega), awake_k _ (by omega)]
    rfl
theorem parts_l2 (l m a b : List Int) (hm : m.length = l.length) (hl : l.length ≤ 1000) (hz : ∀ (i : Nat) (y : Int), l[i]? = some y → cls y = 0 → m[i]? = some y) (ha : a = l) (hb : b = m) :
    ∀ (k i : Nat), i ≤ l.length → l.length - i + 1002 ≤ k → toponymlaw06_ArrangeParts.l2 k (i : Int) l m a b = some true
  | 0, i, h1, h2 => by omega
  | k + 1, i, h1, h2 => by
    unfold toponymlaw06_ArrangeParts.l2
    by_cases hi : i < l.length
    · rw [if_pos (by omega), if_pos (by omega), rd_get l i hi, class_some, Option.bind_some, w64 ((i : Int) + 1) (by omega)]
      have ih := parts_l2 l m a b hm hl hz ha hb k (i + 1) (by omega) (by omega)
      by_cases h0 : cls l[i] = 0
      · have h3 := hz i l[i] (List.getElem?_eq_getElem hi) h0
        rw [List.getElem?_eq_getElem (by omega)] at h3
        have h4 := Option.some.inj h3
        rw [if_pos h0, if_pos (by omega), rd_get m i (by omega), if_pos h4]
        exact ih
      · rw [if_neg h0]
        exact ih
    · subst ha hb
      rw [if_neg (by omega), same_f _ _ hl _ (by omega), Option.bind_some, if_pos (by simp), same_f _ _ (by omega) _ (by omega), Option.bind_some, if_pos (by simp), awake_k _ (by omega)]
      rfl
theorem parts_l1 (l : List Int) (t : List (List Int)) (i : Nat) (hi : i < t.length) (ht : t.length ≤ 1000) (hr : t[i].length ≤ 1000) (hrun : ∀ (j : Nat) (hj : j < t[i].length), (j > 0 ∨ i > 0) → (cls t[i][j] = 0 ↔ j = 0)) (a b : List Int) :
    ∀ (d j : Nat), t[i].length - j = d → j ≤ t[i].length → ∃ n, ∀ k, toponymlaw06_ArrangeParts.l1 (k + n) (j : Int) l t a b (i : Int) = toponymlaw06_ArrangeParts.l1 (k + 1) (t[i].length : Nat) l t a b (i : Int)
  | 0, j, hd, hj => ⟨1, fun k => by rw [show j = t[i].length by omega]⟩
  | d + 1, j, hd, hj => by
    have hjl : j < t[i].length := by omega
    obtain ⟨n, hn⟩ := parts_l1 l t i hi ht hr hrun a b d (j + 1) (by omega) (by omega)
    refine ⟨n + 1, fun k => ?_⟩
    rw [← hn k, ← Nat.add_assoc]
    have hx := hrun j hjl
    have hb' : ∀ (hc : j > 0 ∨ i > 0), ((cls t[i][j] == 0) != ((j : Int) == 0)) = false := by
      intro hc
      have := hx hc
      by_cases hj0 : j = 0
      · subst hj0
        rw [beq_iff_eq.2 (this.2 rfl)]
        rfl
      · rw [beq_eq_false_iff_ne.2 (fun h => hj0 (this.1 h)), beq_eq_false_iff_ne.2 (by omega)]
        rfl
    conv => lhs; unfold toponymlaw06_ArrangeParts.l1
    rw [if_pos (by omega), if_pos (by omega), rdL_get t i hi, if_pos (by omega), rd_get t[i] j hjl, class_some, w64 ((j : Int) + 1) (by omega)]
    simp only [Option.bind_some]
    by_cases hj0 : j > 0
    · rw [if_pos (by omega), if_pos (by omega), hb' (.inl hj0), if_neg (by simp)]
      rfl
    · rw [if_neg (by omega)]
      by_cases hi0 : i > 0
      · rw [if_pos (by omega), if_pos (by omega), hb' (.inr hi0), if_neg (by simp)]
        rfl
      · rw [if_neg (by omega)]
        rfl
theorem parts_l0 (l : List Int) (t : List (List Int)) (ht : t.length ≤ 1000) (hr : ∀ r ∈ t, 1 ≤ r.length ∧ r.length ≤ 1000) (hrun : ∀ (i : Nat) (hi : i < t.length) (j : Nat) (hj : j < t[i].length), (j > 0 ∨ i > 0) → (cls t[i][j] = 0 ↔ j = 0)) :
    ∀ (d i : Nat) (a b : List Int), t.length - i = d → i ≤ t.length → a.length ≤ 1000 * i → b.length ≤ 1000 * i →
    ∃ n k0, ∀ k, k0 ≤ k → toponymlaw06_ArrangeParts.l0 (k + n) a b (i : Int) l t = toponymlaw06_ArrangeParts.l0 (k + 1) (a ++ (t.drop i).flatten) (b ++ (t.drop i).flatMap (fun r => (srt cls r).reverse)) (t.length : Nat) l t
  | 0, i, a, b, hd, hi, ha, hb => ⟨1, 0, fun k _ => by
      rw [show i = t.length by omega, List.drop_eq_nil_of_le (Nat.le_refl _)]
      simp⟩
  | d + 1, i, a, b, hd, hi, ha, hb => by
    have hil : i < t.length := by omega
    obtain ⟨hr1, hr2⟩ := hr t[i] (List.getElem_mem _)
    have hsl := srt_rev_len t[i]
    obtain ⟨n1, h1⟩ := parts_l1 l t i hil ht hr2 (hrun i hil) a b _ 0 rfl (by omega)
    obtain ⟨k1, e1⟩ := order_f t[i] hr2
    obtain ⟨n2, k2, h2⟩ := parts_l0 l t ht hr hrun d (i + 1) (a ++ t[i]) (b ++ (srt cls t[i]).reverse) (by omega) (by omega) (by rw [List.length_append]; omega) (by rw [List.length_append]; omega)
    refine ⟨n2 + n1 + 1, k1 + k2, fun k hk => ?_⟩
    rw [show k + (n2 + n1 + 1) = (k + n2 + n1) + 1 by omega]
    conv => lhs; unfold toponymlaw06_ArrangeParts.l0
    rw [if_pos (by omega), if_pos (by omega), rdL_get t i hil, if_neg (by omega)]
    have := h1 (k + n2)
    rw [show ((0 : Nat) : Int) = 0 from rfl] at this
    rw [this]
    conv => lhs; unfold toponymlaw06_ArrangeParts.l1
    rw [if_pos (by omega), if_pos (by omega), rdL_get t i hil, if_neg (by omega), if_pos (by omega), Option.bind_some, e1 _ (by omega), Option.bind_some, if_pos (by omega), Option.bind_some, w64 ((i : Int) + 1) (by omega)]
    rw [show ((i : Int) + 1) = ((i + 1 : Nat) : Int) by omega, h2 k (by omega), drop_get' t i hil, List.flatten_cons, List.flatMap_cons, List.append_assoc, List.append_assoc]
theorem run_ends (t : List (List Int)) (h : Rns (cls := cls) t) (i : Nat) (hi : i < t.length) (j : Nat) (hj : j < t[i].length) (hc : j > 0 ∨ i > 0) : cls t[i][j] = 0 ↔ j = 0 := by
  have hrun : Run (cls := cls) t[i] ∧ (i > 0 → ∃ x s, t[i] = x :: s ∧ cls x = 0) := by
    cases t with
    | nil => simp at hi
    | cons r rs =>
      cases i with
      | zero => exact ⟨h.1, fun h0 => absurd h0 (by omega)⟩
      | succ i =>
        have hi' : i < rs.length := by simpa using hi
        have := h.2 rs[i] (List.getElem_mem hi')
        exact ⟨this.1, fun _ => this.2⟩
  obtain ⟨⟨x, s, he, hs⟩, h2⟩ := hrun
  generalize t[i] = q at he hj h2
  subst he
  cases j with
  | zero =>
    have hi0 : i > 0 := by omega
    obtain ⟨x', s', he, hx⟩ := h2 hi0
    have : x = x' := (List.cons.inj he).1
    subst this
    simpa using hx
  | succ j =>
    have hj' : j < s.length := by simpa using hj
    have := hs s[j] (List.getElem_mem _)
    simp only [List.getElem_cons_succ]
    constructor
    · intro h; exact absurd h this
    · intro h; omega
/-- ArrangeParts. -/
theorem parts (l : List Int) (h : l.length * 4 ≤ 140737488351232 ∧ ∀ y ∈ l, (Lit.int .i32 y).wf = true) : ∃ k, toponymlaw06_ArrangeParts.f k l = some true := by
  by_cases hl : l.length ≤ 400
  · have hs := runs_small l
    have hrns := runs_rns (cls := cls) l
    have hr1 : ∀ r ∈ runs cls l, 1 ≤ r.length ∧ r.length ≤ 1000 := by
      intro q hq
      refine ⟨?_, Nat.le_trans (hs.1 q hq) (by omega)⟩
      cases hrs : runs cls l with
      | nil => rw [hrs] at hq; simp at hq
      | cons r rs =>
        rw [hrs] at hrns hq
        rcases List.mem_cons.1 hq with rfl | hq
        · obtain ⟨x, t, rfl, _⟩ := hrns.1; simp
        · obtain ⟨⟨x, t, rfl, _⟩, _⟩ := hrns.2 q hq; simp
    obtain ⟨n, k0, hn⟩ := parts_l0 l (runs cls l) (by omega) hr1 (run_ends _ hrns) _ 0 [] [] rfl (by omega) (by simp) (by simp)
    obtain ⟨k1, e1⟩ := order_f l (by omega)
    refine ⟨k0 + k1 + 3000 + n, ?_⟩
    unfold toponymlaw06_ArrangeParts.f
    rw [runs_f l (by omega) _ (by omega), if_neg (by omega), Option.bind_some]
    have h := hn (k0 + k1 + 3000) (by omega)
    rw [show ((0 : Nat) : Int) = 0 from rfl] at h
    rw [h, List.drop_zero, List.nil_append, List.nil_append, runs_all, ← srt_parts cls_five l]
    unfold toponymlaw06_ArrangeParts.l0
    rw [if_neg (by omega), e1 _ (by omega), Option.bind_some, if_pos (by rw [srt_rev_len])]
    exact parts_l2 l _ _ _ (srt_rev_len l) (by omega) (srt_zero l) rfl rfl _ 0 (by omega) (by omega)
  · refine ⟨40, ?_⟩
    unfold toponymlaw06_ArrangeParts.f
    rw [if_pos (by omega), awake_k _ (by omega)]
    rfl
end Go.Proofs.Ythdcofcikmeeeaa.PuC
