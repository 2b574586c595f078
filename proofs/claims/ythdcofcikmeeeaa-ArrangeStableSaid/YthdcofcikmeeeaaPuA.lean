/- Plain laws of chapter 6, no program in sight: marks are put in order by moving each one up; what comes of it. -/
namespace Go.Proofs.Ythdcofcikmeeeaa.PuA
set_option linter.unusedVariables false
section
variable (cls : Int → Int)
/-- A mark b stands wrong behind a. -/
def Wr (a b : Int) : Prop := cls b > 0 ∧ cls a > cls b
instance (a b : Int) : Decidable (Wr cls a b) := inferInstanceAs (Decidable (_ ∧ _))
/-- x comes to the end of a row that is told backwards. -/
def ins (x : Int) : List Int → List Int
  | [] => [x]
  | y :: l => if Wr cls y x then y :: ins x l else x :: y :: l
def srt (l : List Int) : List Int := l.foldl (fun rv x => ins cls x rv) []
/-- No two neighbours stand wrong, told backwards. -/
def Ord : List Int → Prop
  | [] => True
  | [_] => True
  | x :: y :: l => ¬ Wr cls y x ∧ Ord (y :: l)
variable {cls}
theorem ord_tail {x : Int} {l : List Int} (h : Ord cls (x :: l)) : Ord cls l := by
  cases l with
  | nil => trivial
  | cons y l => exact h.2
theorem ord_cons {x : Int} {l : List Int} (h : Ord cls l) (hx : ∀ y, l.head? = some y → ¬ Wr cls y x) : Ord cls (x :: l) := by
  cases l with
  | nil => trivial
  | cons y l => exact ⟨hx y rfl, h⟩
theorem ins_head (x : Int) (l : List Int) (z : Int) (h : (ins cls x l).head? = some z) : z = x ∨ l.head? = some z := by
  cases l with
  | nil => left; simpa [ins] using h.symm
  | cons y l =>
    unfold ins at h
    split at h
    · right; simpa using h
    · left; simpa using h.symm
theorem not_back {x y : Int} (h : Wr cls y x) : ¬ Wr cls x y := by
  intro h2
  have := h.2
  have := h2.2
  omega
theorem ins_ord (x : Int) : ∀ l, Ord cls l → Ord cls (ins cls x l)
  | [], _ => trivial
  | y :: l, h => by
    unfold ins
    split
    · rename_i hw
      refine ord_cons (ins_ord x l (ord_tail h)) ?_
      intro z hz
      rcases ins_head x l z hz with rfl | hz
      · exact not_back hw
      · cases l with
        | nil => simp at hz
        | cons u l =>
          have : u = z := by simpa using hz
          subst this
          exact h.1
    · rename_i hw
      exact ⟨hw, h⟩
theorem ins_len (x : Int) : ∀ l, (ins cls x l).length = l.length + 1
  | [] => rfl
  | y :: l => by
    unfold ins
    split
    · simp [ins_len x l]
    · rfl
theorem srt_snoc (l : List Int) (x : Int) : srt cls (l ++ [x]) = ins cls x (srt cls l) := by simp [srt]
theorem snoc_rec {P : List Int → Prop} (h0 : P []) (h1 : ∀ l x, P l → P (l ++ [x])) (l : List Int) : P l := by
  have : ∀ r : List Int, P r.reverse := by
    intro r
    induction r with
    | nil => exact h0
    | cons x r ih => rw [List.reverse_cons]; exact h1 _ _ ih
  have h := this l.reverse
  rwa [List.reverse_reverse] at h
theorem srt_ord (l : List Int) : Ord cls (srt cls l) := by
  induction l using snoc_rec with
  | h0 => trivial
  | h1 l x ih => rw [srt_snoc]; exact ins_ord x _ ih
theorem srt_len (l : List Int) : (srt cls l).length = l.length := by
  induction l using snoc_rec with
  | h0 => rfl
  | h1 l x ih => rw [srt_snoc, ins_len, ih, List.length_append]; rfl
/-- What is ordered stays as it is. -/
theorem srt_of_ord (l : List Int) : Ord cls l.reverse → srt cls l = l.reverse := by
  induction l using snoc_rec with
  | h0 => intro _; rfl
  | h1 l x ih =>
    intro h
    rw [List.reverse_append] at h
    have h' : Ord cls (x :: l.reverse) := h
    rw [srt_snoc, ih (ord_tail h'), List.reverse_append]
    show ins cls x l.reverse = x :: l.reverse
    cases hr : l.reverse with
    | nil => rfl
    | cons y r =>
      rw [hr] at h'
      unfold ins
      rw [if_neg h'.1]
/-- Those of one class stay as they stood. -/
theorem ins_filter (x c : Int) : ∀ l, (ins cls x l).filter (fun y => cls y == c) = (x :: l).filter (fun y => cls y == c)
  | [] => rfl
  | y :: l => by
    unfold ins
    split
    · rename_i hw
      have hne : cls y ≠ cls x := by have := hw.2; omega
      rw [List.filter_cons, ins_filter x c l, List.filter_cons, List.filter_cons, List.filter_cons]
      by_cases h1 : cls x = c
      · have h2 : cls y ≠ c := by rw [← h1]; exact hne
        simp [h1, h2]
      · simp [h1]
    · rfl
theorem srt_filter (c : Int) (l : List Int) : (srt cls l).filter (fun y => cls y == c) = (l.filter (fun y => cls y == c)).reverse := by
  induction l using snoc_rec with
  | h0 => rfl
  | h1 l x ih =>
    rw [srt_snoc, ins_filter, List.filter_cons, ih, List.filter_append, List.reverse_append, List.filter_cons, List.filter_nil]
    split <;> rfl
theorem ins_split (x : Int) : ∀ l, ∃ a b, l = a ++ b ∧ ins cls x l = a ++ x :: b ∧ ∀ y ∈ a, Wr cls y x
  | [] => ⟨[], [], rfl, rfl, by simp⟩
  | y :: l => by
    unfold ins
    split
    · rename_i hw
      obtain ⟨a, b, e1, e2, h⟩ := ins_split x l
      refine ⟨y :: a, b, by rw [e1]; rfl, by rw [e2]; rfl, ?_⟩
      intro z hz
      rcases List.mem_cons.1 hz with rfl | hz
      · exact hw
      · exact h z hz
    · exact ⟨[], y :: l, rfl, rfl, by simp⟩
/-- Those without a class stay where they are. -/
theorem srt_zero (l : List Int) : ∀ (i : Nat) (y : Int), l[i]? = some y → cls y = 0 → (srt cls l).reverse[i]? = some y := by
  induction l using snoc_rec with
  | h0 => intro i y h; simp at h
  | h1 l x ih =>
    intro i y h hy
    rw [srt_snoc]
    obtain ⟨a, b, e1, e2, hw⟩ := ins_split (cls := cls) x (srt cls l)
    rw [e2]
    have hlen : (srt cls l).length = l.length := srt_len l
    have hab : a.length + b.length = l.length := by rw [← hlen, e1, List.length_append]
    by_cases hi : i < l.length
    · rw [List.getElem?_append_left hi] at h
      have h2 := ih i y h hy
      rw [e1, List.reverse_append] at h2
      have hib : i < b.length := by
        apply Classical.byContradiction
        intro hge
        rw [List.getElem?_append_right (by simpa using Nat.le_of_not_lt hge)] at h2
        have hm : y ∈ a := by simpa using List.mem_of_getElem? h2
        have := (hw y hm).1
        have := (hw y hm).2
        omega
      rw [List.getElem?_append_left (by simpa using hib)] at h2
      rw [List.reverse_append, List.reverse_cons, List.append_assoc, List.getElem?_append_left (by simpa using hib)]
      exact h2
    · rw [List.getElem?_append_right (by omega)] at h
      have hil : i = l.length := by
        have := (List.getElem?_eq_some_iff.1 h).1
        simp at this
        omega
      subst hil
      have hyx : x = y := by simpa using h
      subst hyx
      have ha : a = [] := by
        cases a with
        | nil => rfl
        | cons z a =>
          have := (hw z (by simp)).1
          omega
      subst ha
      simp only [List.nil_append, List.reverse_cons]
      have hbl : b.length = l.length := by simpa using hab
      rw [List.getElem?_append_right (by simp [hbl])]
      simp [hbl]
/-! ### the document's runs -/
def stp (s : List (List Int) × List Int) (x : Int) : List (List Int) × List Int := if cls x = 0 ∧ s.2 ≠ [] then (s.1 ++ [s.2], [x]) else (s.1, s.2 ++ [x])
variable (cls) in
def runs_ (l : List Int) : List (List Int) × List Int := l.foldl (stp (cls := cls)) ([], [])
variable (cls) in
def runs (l : List Int) : List (List Int) := if (runs_ cls l).2 = [] then (runs_ cls l).1 else (runs_ cls l).1 ++ [(runs_ cls l).2]
theorem runs_snoc (l : List Int) (x : Int) : runs_ cls (l ++ [x]) = stp (cls := cls) (runs_ cls l) x := by simp [runs_]
theorem runs_ne (l : List Int) (h : l ≠ []) : (runs_ cls l).2 ≠ [] := by
  induction l using snoc_rec with
  | h0 => exact absurd rfl h
  | h1 l x ih =>
    rw [runs_snoc]
    unfold stp
    split <;> simp
theorem runs_flat (l : List Int) : (runs_ cls l).1.flatten ++ (runs_ cls l).2 = l := by
  induction l using snoc_rec with
  | h0 => rfl
  | h1 l x ih =>
    rw [runs_snoc]
    unfold stp
    split
    · have e := congrArg (· ++ [x]) ih
      simpa using e
    · rw [← List.append_assoc, ih]
/-- A run: an element, and then those with a class. -/
def Run (r : List Int) : Prop := ∃ x t, r = x :: t ∧ ∀ y ∈ t, cls y ≠ 0
def Rns : List (List Int) → Prop
  | [] => True
  | r :: l => Run (cls := cls) r ∧ ∀ q ∈ l, Run (cls := cls) q ∧ ∃ x t, q = x :: t ∧ cls x = 0
theorem rns_snoc {l : List (List Int)} {r : List Int} (h : Rns (cls := cls) l) (hr : Run (cls := cls) r) (h0 : l ≠ [] → ∃ x t, r = x :: t ∧ cls x = 0) : Rns (cls := cls) (l ++ [r]) := by
  cases l with
  | nil => exact ⟨hr, by simp⟩
  | cons q l =>
    refine ⟨h.1, ?_⟩
    intro p hp
    rcases List.mem_append.1 hp with hp | hp
    · exact h.2 p hp
    · have : p = r := by simpa using hp
      subst this
      exact ⟨hr, h0 (by simp)⟩
theorem runs_inv (l : List Int) : Rns (cls := cls) (runs_ cls l).1 ∧ ((runs_ cls l).2 = [] ∧ (runs_ cls l).1 = [] ∨ Run (cls := cls) (runs_ cls l).2 ∧ ((runs_ cls l).1 ≠ [] → ∃ x t, (runs_ cls l).2 = x :: t ∧ cls x = 0)) := by
  induction l using snoc_rec with
  | h0 => exact ⟨trivial, .inl ⟨rfl, rfl⟩⟩
  | h1 l x ih =>
    rw [runs_snoc]
    unfold stp
    split
    · rename_i hc
      rcases ih.2 with ⟨h1, _⟩ | ⟨h1, h2⟩
      · exact absurd h1 hc.2
      · exact ⟨rns_snoc ih.1 h1 h2, .inr ⟨⟨x, [], rfl, by simp⟩, fun _ => ⟨x, [], rfl, hc.1⟩⟩⟩
    · rename_i hc
      refine ⟨ih.1, .inr ?_⟩
      rcases ih.2 with ⟨h1, h2⟩ | ⟨⟨y, t, e, ht⟩, h2⟩
      · rw [h1, h2]
        exact ⟨⟨x, [], rfl, by simp⟩, fun h => absurd rfl h⟩
      · have hne : (runs_ cls l).2 ≠ [] := by rw [e]; simp
        have hx : cls x ≠ 0 := fun h => hc ⟨h, hne⟩
        refine ⟨⟨y, t ++ [x], by rw [e]; rfl, ?_⟩, ?_⟩
        · intro z hz
          rcases List.mem_append.1 hz with hz | hz
          · exact ht z hz
          · have : z = x := by simpa using hz
            rw [this]
            exact hx
        · intro h
          obtain ⟨y', t', e', h'⟩ := h2 h
          exact ⟨y', t' ++ [x], by rw [e']; rfl, h'⟩
/-! ### class by class -/
def five : List Int := [0, 8, 202, 220, 230]
def by5 (f : Int → Int) (r : List Int) : List Int := five.flatMap fun c => r.filter (fun y => f y == c)
theorem ins_past {x : Int} : ∀ (a b : List Int), (∀ y ∈ a, Wr cls y x) → ins cls x (a ++ b) = a ++ ins cls x b
  | [], _, _ => rfl
  | y :: a, b, h => by
    show (if Wr cls y x then y :: ins cls x (a ++ b) else x :: y :: (a ++ b)) = y :: (a ++ ins cls x b)
    rw [if_pos (h y (by simp)), ins_past a b (fun z hz => h z (by simp [hz]))]
theorem ins_stop {x : Int} (b : List Int) (h : ∀ y, b.head? = some y → ¬ Wr cls y x) : ins cls x b = x :: b := by
  cases b with
  | nil => rfl
  | cons y b =>
    unfold ins
    rw [if_neg (h y rfl)]
theorem fl (r : List Int) (c y : Int) (h : y ∈ (r.filter (fun y => cls y == c)).reverse) : cls y = c := by
  have := (List.mem_filter.1 (List.mem_reverse.1 h)).2
  simpa using this
theorem head_or {a b : List Int} {y : Int} (h : (a ++ b).head? = some y) : y ∈ a ∨ a = [] ∧ b.head? = some y := by
  cases a with
  | nil => exact .inr ⟨rfl, h⟩
  | cons z a =>
    left
    have : z = y := by simpa using h
    simp [this]
theorem ins_by5 (hc : ∀ y, cls y ∈ five) (r rest : List Int) (x : Int) (hx : cls x ≠ 0) (hr : rest = [] ∨ ∃ y ∈ r, cls y = 0) :
    ins cls x ((by5 cls r).reverse ++ rest) = (by5 cls (r ++ [x])).reverse ++ rest := by
  have e5 : ∀ q : List Int, (by5 cls q).reverse = (q.filter (fun y => cls y == 230)).reverse ++ ((q.filter (fun y => cls y == 220)).reverse ++ ((q.filter (fun y => cls y == 202)).reverse ++ ((q.filter (fun y => cls y == 8)).reverse ++ (q.filter (fun y => cls y == 0)).reverse))) := by
    intro q
    simp [by5, five, List.append_assoc]
  have hz : ∀ y, ((r.filter (fun y => cls y == 0)).reverse ++ rest).head? = some y → cls y = 0 := by
    intro y hy
    rcases head_or hy with h | ⟨h1, h2⟩
    · exact fl r 0 y h
    · rcases hr with rfl | ⟨z, hz, hz0⟩
      · simp at h2
      · have : z ∈ (r.filter (fun y => cls y == 0)).reverse := by
          rw [List.mem_reverse, List.mem_filter]
          exact ⟨hz, by simpa using hz0⟩
        rw [h1] at this
        simp at this
  have hm := hc x
  simp only [five, List.mem_cons, List.not_mem_nil, or_false] at hm
  rw [e5, e5]
  simp only [List.filter_append, List.filter_cons, List.filter_nil, List.append_assoc, List.reverse_append]
  have W : ∀ (c y : Int), y ∈ (r.filter (fun y => cls y == c)).reverse → cls x < c → Wr cls y x := by
    intro c y hy hlt
    have := fl r c y hy
    refine ⟨?_, by omega⟩
    rcases hm with h | h | h | h | h <;> omega
  have N : ∀ y, cls y ≤ cls x → ¬ Wr cls y x := fun y hle hw => by have := hw.2; omega
  rcases hm with h | h | h | h | h
  · exact absurd h hx
  · rw [ins_past _ _ (fun y hy => W 230 y hy (by omega)), ins_past _ _ (fun y hy => W 220 y hy (by omega)), ins_past _ _ (fun y hy => W 202 y hy (by omega)), ins_stop]
    · simp [h]
    · intro y hy
      rcases head_or hy with h1 | ⟨_, h2⟩
      · have := fl r 8 y h1; exact N y (by omega)
      · have := hz y h2; exact N y (by omega)
  · rw [ins_past _ _ (fun y hy => W 230 y hy (by omega)), ins_past _ _ (fun y hy => W 220 y hy (by omega)), ins_stop]
    · simp [h]
    · intro y hy
      rcases head_or hy with h1 | ⟨_, h2⟩
      · have := fl r 202 y h1; exact N y (by omega)
      · rcases head_or h2 with h1 | ⟨_, h2⟩
        · have := fl r 8 y h1; exact N y (by omega)
        · have := hz y h2; exact N y (by omega)
  · rw [ins_past _ _ (fun y hy => W 230 y hy (by omega)), ins_stop]
    · simp [h]
    · intro y hy
      rcases head_or hy with h1 | ⟨_, h2⟩
      · have := fl r 220 y h1; exact N y (by omega)
      · rcases head_or h2 with h1 | ⟨_, h2⟩
        · have := fl r 202 y h1; exact N y (by omega)
        · rcases head_or h2 with h1 | ⟨_, h2⟩
          · have := fl r 8 y h1; exact N y (by omega)
          · have := hz y h2; exact N y (by omega)
  · rw [ins_stop]
    · simp [h]
    · intro y hy
      rcases head_or hy with h1 | ⟨_, h2⟩
      · have := fl r 230 y h1; exact N y (by omega)
      · rcases head_or h2 with h1 | ⟨_, h2⟩
        · have := fl r 220 y h1; exact N y (by omega)
        · rcases head_or h2 with h1 | ⟨_, h2⟩
          · have := fl r 202 y h1; exact N y (by omega)
          · rcases head_or h2 with h1 | ⟨_, h2⟩
            · have := fl r 8 y h1; exact N y (by omega)
            · have := hz y h2; exact N y (by omega)
theorem by5_one (hc : ∀ y, cls y ∈ five) (x : Int) : by5 cls [x] = [x] := by
  have hm := hc x
  simp only [five, List.mem_cons, List.not_mem_nil, or_false] at hm
  rcases hm with h | h | h | h | h <;> simp [by5, five, h]
/-- The document's order is the same. -/
theorem srt_runs_ (hc : ∀ y, cls y ∈ five) (l : List Int) : srt cls l = (by5 cls (runs_ cls l).2).reverse ++ ((runs_ cls l).1.flatMap (by5 cls)).reverse := by
  induction l using snoc_rec with
  | h0 => rfl
  | h1 l x ih =>
    rw [srt_snoc, ih, runs_snoc]
    have inv := (runs_inv (cls := cls) l).2
    unfold stp
    split
    · rename_i h
      rw [ins_stop]
      · rw [by5_one hc x]; simp
      · intro y _ hw
        have := hw.1
        omega
    · rename_i h
      by_cases hx : cls x = 0
      · have h2 : (runs_ cls l).2 = [] := by
          apply Classical.byContradiction
          intro hne
          exact h ⟨hx, hne⟩
        have h1 : (runs_ cls l).1 = [] := by
          rcases inv with ⟨_, h1⟩ | ⟨⟨y, t, e, _⟩, _⟩
          · exact h1
          · rw [h2] at e; cases e
        rw [h2, h1]
        show ins cls x [] = _
        simp only [List.nil_append, List.flatMap_nil, List.reverse_nil, List.append_nil]
        rw [by5_one hc x]
        rfl
      · refine ins_by5 hc _ _ x hx ?_
        rcases inv with ⟨_, h1⟩ | ⟨_, h2⟩
        · left; rw [h1]; rfl
        · by_cases h1 : (runs_ cls l).1 = []
          · left; rw [h1]; rfl
          · right
            obtain ⟨y, t, e, hy⟩ := h2 h1
            exact ⟨y, by rw [e]; simp, hy⟩
theorem by5_nil : by5 cls [] = [] := rfl
theorem srt_runs (hc : ∀ y, cls y ∈ five) (l : List Int) : (srt cls l).reverse = (runs cls l).flatMap (by5 cls) := by
  rw [srt_runs_ hc l]
  unfold runs
  split
  · rename_i h
    rw [h, by5_nil]
    simp
  · rw [List.flatMap_append]
    simp
theorem runs_rns (l : List Int) : Rns (cls := cls) (runs cls l) := by
  have inv := runs_inv (cls := cls) l
  unfold runs
  split
  · exact inv.1
  · rename_i h
    rcases inv.2 with ⟨h1, _⟩ | ⟨h1, h2⟩
    · exact absurd h1 h
    · exact rns_snoc inv.1 h1 h2
theorem runs_all (l : List Int) : (runs cls l).flatten = l := by
  have h := runs_flat (cls := cls) l
  unfold runs
  split
  · rename_i h2
    rw [h2, List.append_nil] at h
    exact h
  · rw [List.flatten_append]
    simpa using h
theorem runs_run (r : List Int) (h : Run (cls := cls) r) : runs cls r = [r] := by
  obtain ⟨x, t, rfl, ht⟩ := h
  have : ∀ t : List Int, (∀ y ∈ t, cls y ≠ 0) → runs_ cls (x :: t) = ([], x :: t) := by
    intro t
    induction t using snoc_rec with
    | h0 => intro _; simp [runs_, stp]
    | h1 t y ih =>
      intro h
      rw [show x :: (t ++ [y]) = (x :: t) ++ [y] from rfl, runs_snoc, ih (fun z hz => h z (by simp [hz]))]
      unfold stp
      rw [if_neg (fun hh => h y (by simp) hh.1)]
  unfold runs
  rw [this t ht]
  simp
/-- What is put in order is its runs, put in order. -/
theorem srt_parts (hc : ∀ y, cls y ∈ five) (l : List Int) : (srt cls l).reverse = (runs cls l).flatMap (fun r => (srt cls r).reverse) := by
  rw [srt_runs hc l]
  have : ∀ q ∈ runs cls l, Run (cls := cls) q := by
    have h := runs_rns (cls := cls) l
    cases hr : runs cls l with
    | nil => simp
    | cons r rs =>
      rw [hr] at h
      intro q hq
      rcases List.mem_cons.1 hq with rfl | hq
      · exact h.1
      · exact (h.2 q hq).1
  generalize runs cls l = rs at this
  induction rs with
  | nil => rfl
  | cons r rs ih =>
    rw [List.flatMap_cons, List.flatMap_cons, ih (fun q hq => this q (by simp [hq])), srt_runs hc r, runs_run r (this r (by simp))]
    simp
end
end Go.Proofs.Ythdcofcikmeeeaa.PuA
