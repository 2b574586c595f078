import Derived.RangeFuncSeq
import Derived.WalkMore
import Derived.TacticsIn
import Derived.Test.YtapinanmmhdpcaaMW
/- Words of this session: a range over a function, out of the plain walk. -/
namespace Go.Proofs.Ytapinanmmhdpcaa.MQ
open Go.RowKit Go.Proofs.YtapinanmmhdpcaaW.PrintWords Go.Proofs.YtapinanmmhdpcaaW.PrintLast Go.Proofs.YtapinanmmhdpcaaW.PrintMore
set_option linter.unusedVariables false
theorem upon_round {P : Program} {o : Oper} {a : Act} {next next' : Act → World → Prop} {Q : Exit → Act → World → Prop} (hL : ¬ LetsOut Q) (l n : Nat) (hn : ∀ a w, next a w → next' a w) {r : Result Next} (h : o.upon P a next Q r) : o.uponIn (Fence.wide.inRound l) n P a next' Q r := by
  unfold Oper.upon at h
  split at h
  · exact hn _ _ h
  · exact hn _ _ h
  · exact hn _ _ h
  · refine ⟨fun h => by simp [Fence.wide] at h, ?_⟩
    refine (callsIn_wide (n := n - 1)).2 (h.mono ?_)
    intro e w' h'
    cases e with
    | returned v => exact hn _ _ h'
    | panicked c => exact h'
    | outgrown => exact h'
  · exact ⟨fun h => by simp [Fence.wide] at h, fun c cs _ => let ⟨v, w', r, s⟩ := h c cs; ⟨v, w', hn _ _ r, stepsIn_wide.2 s⟩⟩
  · exact h
  · exact h.elim
theorem round_ops {P : Program} {ops : Array Oper} {Q : Exit → Act → World → Prop} (hL : ¬ LetsOut Q) (hd : ∀ (i : Nat) (o : Oper), ops[i]? = some o → ∀ c, o.op ≠ .defer c) (l n : Nat) : ∀ (L : List Nat) (a : Act) (w : World), wpOps P ops Q L a w → wpOpsIn (Fence.wide.inRound l) n P ops Q L a w
  | [], a, w, h => h
  | i :: rest, a, w, h => by
    unfold wpOps at h; unfold wpOpsIn
    cases ho : ops[i]? with
    | none => simp only [ho] at h ⊢; exact round_ops hL hd l n rest a w h
    | some o =>
      simp only [ho] at h ⊢
      split at h
      · rename_i hw
        rw [if_pos hw]
        rcases h with h | ⟨_, h⟩
        · refine ⟨fun _ _ => trivial, ?_⟩
          have hs : o.semAt (some l) a.eval = execOp a.eval o := Oper.semAt_some l _ _ (hd i o ho)
          show o.uponIn _ n P a _ Q ((o.semAt (some l) a.eval).run P w)
          rw [hs]
          exact upon_round hL l n (fun a w h => round_ops hL hd l n rest a w h) h
        · exact absurd h hL
      · rename_i hw
        rw [if_neg hw]
        exact ⟨fun _ _ => trivial, round_ops hL hd l n rest _ w h⟩
theorem round_region {P : Program} {id : Nat} {L : List Oper} {Q : Exit → Act → World → Prop} {a : Act} {w : World} {l n : Nat} (hL : ¬ LetsOut Q) (hd : ∀ o ∈ L, ∀ c, o.op ≠ .defer c) (h : wpList P L.toArray Q L a w) : (Code.region id L.toArray false).wpIn (Fence.wide.inRound l) n P Q a w := by
  refine wpIn_region (round_ops hL ?_ l n _ a w ?_)
  · intro i o ho c
    have : o ∈ L := by
      have := Array.mem_of_getElem? ho
      simpa using this
    exact hd o this c
  · rw [List.range_eq_range', ← Array.length_toList, wpOps_eq_wpList L.toArray.toList 0 (by simp)]
    simpa using h
theorem round_region_k {P : Program} {id : Nat} {L : List Oper} {Q : Exit → Act → World → Prop} {a : Act} {w : World} {l n : Nat} (hL : ¬ LetsOut Q) (hd : ∀ o ∈ L, ∀ c, o.op ≠ .defer c) (h : ∀ Q' : Exit → Act → World → Prop, Aside0 (∀ a w, Q .normal a w → Q' .normal a w) → wpList P L.toArray Q' L a w) : (Code.region id L.toArray false).wpIn (Fence.wide.inRound l) n P Q a w := round_region hL hd (h Q ⟨fun _ _ q => q⟩)
/-- The walk stands still ahead of a region. -/
theorem code_stop {P : Program} {Q : Exit → Act → World → Prop} {a : Act} {w : World} {id : Nat} {ops : Array Oper} {b : Bool} (h : MW.Stop ((Code.region id ops b).wp P Q a w) (.mk _)) : (Code.region id ops b).wp P Q a w := h.out
/-- What abides: all but some blocks. -/
structure Kp (K : Nat → Prop) (W W' : World) : Prop where
  os : W'.os = W.os
  tape : W'.tape = W.tape
  output : W'.output = W.output
  size : W.heap.size ≤ W'.heap.size
  block : ∀ k, K k → k < W.heap.size → W'.heap[k]? = W.heap[k]?
theorem Kp.refl (K : Nat → Prop) (W : World) : Kp K W W := ⟨rfl, rfl, rfl, Nat.le_refl _, fun _ _ _ => rfl⟩
theorem Kp.trans {K : Nat → Prop} {A B C : World} (h : Kp K A B) (k : Kp K B C) : Kp K A C :=
  ⟨k.os.trans h.os, k.tape.trans h.tape, k.output.trans h.output, Nat.le_trans h.size k.size, fun i hi hl => (k.block i hi (Nat.lt_of_lt_of_le hl h.size)).trans (h.block i hi hl)⟩
theorem Kp.mono {K K' : Nat → Prop} {A B : World} (h : Kp K A B) (hk : ∀ k, K' k → K k) : Kp K' A B := ⟨h.os, h.tape, h.output, h.size, fun i hi => h.block i (hk i hi)⟩
theorem Kp.grown {K : Nat → Prop} {A B : World} {row : Option Nat} (h : A.grownBy B row) (hr : ∀ r, row = some r → ¬ K r) : Kp K A B :=
  ⟨h.os, h.tape, h.output, h.size, fun i hi hl => h.block i hl (fun e => hr i e.symm hi)⟩
theorem Kp.alloc {K : Nat → Prop} (W : World) (o : Obj) : Kp K W (W.alloc o) := ⟨rfl, rfl, rfl, by simp, fun k _ hk => Below.heap_alloc W o k hk⟩
theorem Kp.putObj {K : Nat → Prop} (W : World) (r : Nat) (o : Obj) (hr : ¬ K r) : Kp K W (W.putObj r o) := ⟨rfl, rfl, rfl, by simp, fun k hK _ => World.putObj_heap_other (fun e => hr (e ▸ hK))⟩
theorem Kp.below {K : Nat → Prop} {B : Nat} {W W' : World} (h : Below B W W') (hK : ∀ k, K k → k < B) : Kp K W W' := ⟨h.os, h.tape, h.output, h.size, fun k hk _ => h.block k (hK k hk)⟩
theorem Kp.toBelow {K : Nat → Prop} {B : Nat} {W W' : World} (h : Kp K W W') (hB : B ≤ W.heap.size) (hK : ∀ k, k < B → K k) : Below B W W' := ⟨h.os, h.tape, h.output, h.size, fun k hk => h.block k (hK k hk) (Nat.lt_of_lt_of_le hk hB)⟩
theorem Kp.grown0 {W W' : World} (h : Below W.heap.size W W') : W.grownBy W' none := ⟨h.os, h.tape, h.output, h.size, fun k hk _ => h.block k hk⟩
theorem Kp.toBelow2 {K : Nat → Prop} {b : Nat} {W W' : World} (h : Kp K W W') (hb : b ≤ W.heap.size) (hK : ∀ k, k < b → K k) : Below b W W' := ⟨h.os, h.tape, h.output, h.size, fun k hk => h.block k (hK k hk) (Nat.lt_of_lt_of_le hk hb)⟩
theorem Kp.drew {K : Nat → Prop} (W : World) : Kp K W W.drew := ⟨rfl, rfl, rfl, Nat.le_refl _, fun _ _ _ => rfl⟩
/-- The loop's record. -/
abbrev lrec (fn : FuncId) (tmps : Array Value) (ps : Array Tmp) (assign body : Code) (D : Nat) (st : LoopState) (pe : Option Code) : Obj := .loop { state := st, pending := pe, fn, tmps, params := ps, assign, body, defers := D }
/-- How a round's body may be left. E: blocks of the loop's (l is its record) and of the iterator's; K: what the iterator reads; W: where the round began, V: where its body did. -/
def roundEnd {α : Type} (l : Nat) (E K : Nat → Prop) (I : (Nat → Prop) → List α → World → Prop) (Ix : Code → (Nat → Prop) → List α → World → Prop) (xs : List α) (W V : World) : Exit → Act → World → Prop
  | .normal, _, W' => Kp (fun k => (K k ∨ E k) ∧ k ≠ l) W W' ∧ W'.heap[l]? = V.heap[l]? ∧ I E xs W'
  | .ret, _, W' => Kp (fun k => (K k ∨ E k) ∧ k ≠ l) W W' ∧ W'.heap[l]? = V.heap[l]? ∧ Ix .ret E xs W'
  | .exit id, _, W' => Kp (fun k => (K k ∨ E k) ∧ k ≠ l) W W' ∧ W'.heap[l]? = V.heap[l]? ∧ Ix (.exit id) E xs W'
  | .goto t, _, W' => Kp (fun k => (K k ∨ E k) ∧ k ≠ l) W W' ∧ W'.heap[l]? = V.heap[l]? ∧ Ix (.goto t) E xs W'
  | .panic _, _, _ => False
  | .outgrown, _, _ => False
theorem roundEnd_calm {α : Type} {l : Nat} {E K : Nat → Prop} {I : (Nat → Prop) → List α → World → Prop} {Ix : Code → (Nat → Prop) → List α → World → Prop} {xs : List α} {W V : World} : ¬ LetsOut (roundEnd l E K I Ix xs W V) := fun ⟨_, _, h⟩ => h
/-- What the caller says of its own abides the iterator's steps: what lies in E may turn, new blocks may come and go over to E. -/
structure Stab {α : Type} (J : (Nat → Prop) → List α → World → Prop) : Prop where
  step : ∀ E s A A' row, J E s A → A.grownBy A' row → (∀ r, row = some r → E r) → J E s A'
  more : ∀ E s A A' g, J E s A → A.grownBy A' none → A.heap.size ≤ g → g < A'.heap.size → J (fun k => E k ∨ k = g) s A'
/-- A round's parameters are laid into the temporaries. -/
def setAll (ps : Array Tmp) (vs t : Array Value) : Array Value := (ps.zip vs).foldl (fun t (p, v) => t.setIfInBounds p v) t
theorem setAll_one (p : Tmp) (v : Value) (t : Array Value) : setAll #[p] #[v] t = t.setIfInBounds p v := by first | rfl | (simp [setAll]; done) | (simp [setAll, Array.zip, Array.zipWith]; done)
/-- The iterator's contract: what it hands out (xs), what the rounds must keep (K), and what it turns itself (E₀, and what it lays). -/
def Iter {α : Type} (P : Program) (gf : FuncId) (lb : Array Value) (enc : α → Array Value) (E₀ K : Nat → Prop) (xs : List α) (w : World) : Prop :=
  ∀ (l : Nat) (J Jx : (Nat → Prop) → List α → World → Prop) (W : World), Kp (fun k => k < w.heap.size) w W → Stab J →
    (∀ E pre x rest W1, xs = pre ++ x :: rest → J E pre W1 → YieldAt Fence.wide 0 P l (enc x) W1 fun e W' =>
      (e = .returned (.bool true) ∧ J E (pre ++ [x]) W' ∧ Kp (fun k => K k ∨ E k) W1 W') ∨ (e = .returned (.bool false) ∧ Jx E (pre ++ [x]) W')) →
    J E₀ [] W →
    Calls P gf (#[.func (.yield l) #[] #[]] ++ lb) W fun e W' => (∃ v, e = .returned v) ∧ ((∃ E, J E xs W') ∨ (∃ E pre, Jx E pre W'))
theorem range_law {α : Type} {P : Program} {g : Operand} {ps : Array Tmp} {assign body : Code} {Q : Exit → Act → World → Prop} {a : Act} {w : World}
    {gf : Nat} {lb : Array Value} (hg : a.eval g = .func (.func gf) #[] lb) (eg : ∀ args w, (callFunc gf args).run P w = .ok (.enter gf args) w)
    {enc : α → Array Value} {E₀ K : Nat → Prop} {xs : List α} (hit : Iter P gf lb enc E₀ K xs w) (hps : ∀ x, (enc x).size = ps.size)
    (hB : ∀ k, E₀ k → k < w.heap.size) (hK : ∀ k, K k → k < w.heap.size)
    (I : (Nat → Prop) → List α → World → Prop) (Ix : Code → (Nat → Prop) → List α → World → Prop) (hI : Stab I)
    (hIx : ∀ c E s A A' row, Ix c E s A → A.grownBy A' row → (∀ r, row = some r → E r) → Ix c E s A')
    (h0 : I E₀ [] w)
    (hround : ∀ (l : Nat) (E : Nat → Prop) (pre : List α) (x : α) (rest : List α) (W : World), xs = pre ++ x :: rest → I E pre W → E l → l < W.heap.size →
      assign.wpIn (Fence.wide.inRound l) 0 P (Exit.then (fun a₁ W₁ => W₁.heap[l]? = W.heap[l]? ∧ ∀ V, W₁.grownBy V (some l) → body.wpIn (Fence.wide.inRound l) 0 P (roundEnd l E K I Ix (pre ++ [x]) W V) a₁ V) (fun _ _ _ => False))
        { tmps := setAll ps (enc x) a.tmps, defers := [] } W)
    (hdone : ∀ (E : Nat → Prop) (W : World), I E xs W → E w.heap.size → W.heap[w.heap.size]? = some (.deferred (some [])) → Q .normal { a with defers := { target := .collected w.heap.size, args := #[] } :: a.defers } W)
    (hstop : ∀ (c : Code) (E : Nat → Prop) (pre : List α) (W : World), Ix c E pre W → E w.heap.size → W.heap[w.heap.size]? = some (.deferred (some [])) → c.wp P Q { a with defers := { target := .collected w.heap.size, args := #[] } :: a.defers } W) :
    (Code.rangeFunc g ps assign body).wp P Q a w := by
  refine (wpIn_wide (n := 1)).1 (wpIn_rangeFunc ?_)
  intro fn hfn
  obtain ⟨D, hD⟩ : ∃ D, w.heap.size = D := ⟨_, rfl⟩
  rw [hD] at hB hK hdone hstop
  obtain ⟨W0, hW0⟩ : ∃ W0, w.alloc (.deferred (some [])) = W0 := ⟨_, rfl⟩
  obtain ⟨W1, hW1⟩ : ∃ W1, W0.alloc (lrec fn a.tmps ps assign body D .ready none) = W1 := ⟨_, rfl⟩
  have hs0 : W0.heap.size = D + 1 := by rw [← hW0]; simp [hD]
  have hs1 : W1.heap.size = D + 2 := by rw [← hW1]; simp [hs0]
  have hg0 : w.grownBy W0 none := by rw [← hW0]; exact World.grownBy_alloc _ _ none
  have hg1 : W0.grownBy W1 none := by rw [← hW1]; exact World.grownBy_alloc _ _ none
  have hk1 : Kp (fun k => k < w.heap.size) w W1 := by rw [← hW1, ← hW0]; exact (Kp.alloc _ _).trans (Kp.alloc _ _)
  have hL1 : W1.heap[D + 1]? = some (lrec fn a.tmps ps assign body D .ready none) := by
    rw [← hW1, ← hs0]; exact World.alloc_heap_new _ _
  have hK1 : W1.heap[D]? = some (.deferred (some [])) := by
    rw [← hW1, ← hW0, ← hD]; exact (Below.heap_alloc _ _ _ (by simp)).trans (World.alloc_heap_new w _)
  have hset : ∀ (E : Nat → Prop) (g : Nat), (fun k => ((E k ∨ k = D) ∨ k = D + 1) ∨ k = g) = (fun k => ((E k ∨ k = g) ∨ k = D) ∨ k = D + 1) := by
    intro E g; funext k; apply propext; constructor
    · rintro (((h | h) | h) | h) <;> simp [h]
    · rintro (((h | h) | h) | h) <;> simp [h]
  refine ⟨D + 1, [{ target := .collected D, args := #[] }], W1, { target := .fn (.func gf) lb, args := #[.func (.yield (D + 1)) #[] #[]] }, W1, gf,
    #[.func (.yield (D + 1)) #[] #[]] ++ lb, W1, ?_, ?_, ?_, ?_, fun h => by simp [Fence.wide] at h, ?_⟩
  · rw [← hW1, ← hW0, ← hD]; exact run_enterLoop_outer _ _ _ _ _
  · simp only [resolve, hg]
    simp [go_sem]
  · intro f' _; trivial
  · simp [invoke, go_sem, eg]
  · have hput : ∀ (V : World) (o' : Obj), D + 2 ≤ V.heap.size → V.grownBy (V.putObj (D + 1) o') (some (D + 1)) := fun V o' hV => ⟨rfl, rfl, rfl, by simp, fun k _ hk => World.putObj_heap_other (fun e => hk (by rw [e]))⟩
    have hEE : ∀ (E : Nat → Prop) (r : Nat), some (D + 1) = some r → (E r ∨ r = D) ∨ r = D + 1 := fun E r e => by injection e with e; exact .inr e.symm
    refine callsIn_wide.2 ((hit (D + 1)
      (fun E pre W => I (fun k => (E k ∨ k = D) ∨ k = D + 1) pre W ∧ ¬ E D ∧ ¬ E (D + 1) ∧ D + 2 ≤ W.heap.size ∧ W.heap[D + 1]? = some (lrec fn a.tmps ps assign body D .ready none) ∧ W.heap[D]? = some (.deferred (some [])))
      (fun E pre W => ∃ c, Ix c (fun k => (E k ∨ k = D) ∨ k = D + 1) pre W ∧ D + 2 ≤ W.heap.size ∧ W.heap[D + 1]? = some (lrec fn a.tmps ps assign body D .done (some c)) ∧ W.heap[D]? = some (.deferred (some [])))
      W1 hk1 ⟨?_, ?_⟩ ?_ ⟨hI.more _ _ _ _ _ (hI.more _ _ _ _ _ h0 hg0 (by omega) (by omega)) hg1 (by omega) (by omega), fun h => by have := hB _ h; omega, fun h => by have := hB _ h; omega, by omega, hL1, hK1⟩).mono ?_)
    · rintro E s A A' row ⟨hi, hd0, hd1, hz, hl, hd⟩ hg' hr
      exact ⟨hI.step _ _ _ _ _ hi hg' (fun r e => .inl (.inl (hr r e))), hd0, hd1, Nat.le_trans hz hg'.size, (hg'.block _ (by omega) (fun e => hd1 (hr _ e.symm))).trans hl, (hg'.block _ (by omega) (fun e => hd0 (hr _ e.symm))).trans hd⟩
    · rintro E s A A' g ⟨hi, hd0, hd1, hz, hl, hd⟩ hg' hge hlt
      refine ⟨?_, fun h => h.elim hd0 (by omega), fun h => h.elim hd1 (by omega), Nat.le_trans hz hg'.size, (hg'.block _ (by omega) (by simp)).trans hl, (hg'.block _ (by omega) (by simp)).trans hd⟩
      rw [← hset]
      exact hI.more _ _ _ _ _ hi hg' hge hlt
    · rintro E pre x rest W hxs ⟨hi, hd0, hd1, hz, hl, hd⟩
      have hlt : D + 1 < W.heap.size := by omega
      have hy := run_yield (P := P) (args := enc x) hl (hps x)
      refine ⟨fn, _, assign, body, hy, roundIn_of_wpIn (F := Fence.wide) trivial (wpIn_mono (hround (D + 1) _ pre x rest W hxs hi (.inr rfl) hlt) ?_)⟩
      intro e a₁ W₁ hq
      cases e with
      | normal =>
        obtain ⟨hl1, hb⟩ := hq
        have hl1' := hl1.trans hl
        have hlt1 : D + 1 < W₁.heap.size := (Array.getElem?_eq_some_iff.1 hl1').1
        refine ⟨_, run_beginRound hl1' rfl, ?_⟩
        have hlV : (W₁.putObj (D + 1) (lrec fn a.tmps ps assign body D .busy none)).heap[D + 1]? = some (lrec fn a.tmps ps assign body D .busy none) := World.putObj_heap_same hlt1
        refine wpIn_mono (hb _ (hput W₁ _ hlt1)) ?_
        have fin : ∀ (jump : Option Code) (W3 : World), Kp (fun k => (K k ∨ (E k ∨ k = D) ∨ k = D + 1) ∧ k ≠ D + 1) W W3 → W3.heap[D + 1]? = (W₁.putObj (D + 1) (lrec fn a.tmps ps assign body D .busy none)).heap[D + 1]? →
            (Instr.endRound (D + 1) jump).run P W3 = .ok (.bool jump.isNone) (W3.putObj (D + 1) (lrec fn a.tmps ps assign body D (if jump.isNone then .ready else .done) jump)) ∧ D + 2 ≤ W3.heap.size ∧
            (W3.putObj (D + 1) (lrec fn a.tmps ps assign body D (if jump.isNone then .ready else .done) jump)).heap[D + 1]? = some (lrec fn a.tmps ps assign body D (if jump.isNone then .ready else .done) jump) ∧
            (W3.putObj (D + 1) (lrec fn a.tmps ps assign body D (if jump.isNone then .ready else .done) jump)).heap[D]? = some (.deferred (some [])) := fun jump W3 hk3 hl3 => by
          have hz3 : D + 2 ≤ W3.heap.size := Nat.le_trans hz hk3.size
          have hd3 := (hk3.block D ⟨.inr (.inl (.inr rfl)), by omega⟩ (by omega)).trans hd
          exact ⟨run_endRound (P := P) jump (hl3.trans hlV), hz3, World.putObj_heap_same (by omega), (World.putObj_heap_other (by omega)).trans hd3⟩
        rintro e a3 W3 hp
        cases e with
        | normal =>
          obtain ⟨hk3, hl3, hi3⟩ := hp
          obtain ⟨hr, hz3, hl4, hd4⟩ := fin none W3 hk3 hl3
          refine ⟨_, _, hr, .inl ⟨rfl, ⟨hI.step _ _ _ _ _ hi3 (hput W3 _ hz3) (hEE E), hd0, hd1, by simpa using hz3, hl4, hd4⟩, ?_⟩⟩
          have hne : ∀ k, K k ∨ E k → k ≠ D + 1 := fun k h e => by
            subst e
            rcases h with h | h
            · have := hK _ h; omega
            · exact hd1 h
          exact (hk3.mono fun k h => ⟨h.imp id (fun h => .inl (.inl h)), hne k h⟩).trans (Kp.putObj _ _ _ (fun h => hne _ h rfl))
        | ret =>
          obtain ⟨hk3, hl3, hi3⟩ := hp
          obtain ⟨hr, hz3, hl4, hd4⟩ := fin (some .ret) W3 hk3 hl3
          exact ⟨_, _, hr, .inr ⟨rfl, .ret, hIx _ _ _ _ _ _ hi3 (hput W3 _ hz3) (hEE E), by simpa using hz3, hl4, hd4⟩⟩
        | exit id =>
          obtain ⟨hk3, hl3, hi3⟩ := hp
          obtain ⟨hr, hz3, hl4, hd4⟩ := fin (some (.exit id)) W3 hk3 hl3
          exact ⟨_, _, hr, .inr ⟨rfl, .exit id, hIx _ _ _ _ _ _ hi3 (hput W3 _ hz3) (hEE E), by simpa using hz3, hl4, hd4⟩⟩
        | goto t =>
          obtain ⟨hk3, hl3, hi3⟩ := hp
          obtain ⟨hr, hz3, hl4, hd4⟩ := fin (some (.goto t)) W3 hk3 hl3
          exact ⟨_, _, hr, .inr ⟨rfl, .goto t, hIx _ _ _ _ _ _ hi3 (hput W3 _ hz3) (hEE E), by simpa using hz3, hl4, hd4⟩⟩
        | panic ch => exact hp.elim
        | outgrown => exact hp.elim
      | exit id => exact hq.elim
      | goto t => exact hq.elim
      | ret => exact hq.elim
      | panic ch => exact hq.elim
      | outgrown => exact hq.elim
    · rintro e W2 ⟨⟨v, rfl⟩, (⟨E, hi, hd0, hd1, hz, hl, hd⟩ | ⟨E, pre, c, hi, hz, hl, hd⟩)⟩
      · exact ⟨none, _, run_endLoop (P := P) hl (by simp), hdone _ _ (hI.step _ _ _ _ _ hi (hput W2 _ hz) (hEE E)) (.inl (.inr rfl)) ((World.putObj_heap_other (by omega)).trans hd)⟩
      · exact ⟨some c, _, run_endLoop (P := P) hl (by simp), (wpIn_wide (n := 1)).2 (hstop c _ pre _ (hIx _ _ _ _ _ _ hi (hput W2 _ hz) (hEE E)) (.inl (.inr rfl)) ((World.putObj_heap_other (by omega)).trans hd))⟩
/-- A function's way out, with its loops' marks among its deferred calls. -/
abbrev markD (D : Nat) : Deferred := { target := .collected D, args := #[] }
theorem leaves_marks {P : Program} {fn : Func} {tmps : Array Value} {R : Ending → World → Prop} : ∀ (ds : List Nat) (W : World), ds.Nodup → (∀ D ∈ ds, W.heap[D]? = some (.deferred (some []))) →
    (∀ W', Kp (fun k => k ∉ ds) W W' → ∃ v, (results fn tmps).run P W' = .ok v W' ∧ R (.returned v) W') → LeavesInM Fence.wide 0 P fn tmps R (ds.map markD) .returning W
  | [], W, _, _, h => h W (Kp.refl _ _)
  | D :: ds, W, hn, hd, h => by
    refine ⟨by simp, .inl ⟨D, _, rfl, run_takeDeferred (hd D (by simp)), ?_⟩⟩
    have hn' := List.nodup_cons.1 hn
    refine leaves_marks ds _ hn'.2 (fun D' hD' => ?_) (fun W' hk => h W' ((Kp.putObj W D _ (by simp)).trans (hk.mono fun k hk => by simp at hk ⊢; exact hk.2)))
    exact (World.putObj_heap_other (fun e : D' = D => hn'.1 (e ▸ hD'))).trans (hd D' (by simp [hD']))
def postM (P : Program) (fn : Func) (R : Ending → World → Prop) : Exit → Act → World → Prop
  | .normal, a, W | .ret, a, W => ∃ ds : List Nat, a.defers = ds.map markD ∧ ds.Nodup ∧ (∀ D ∈ ds, W.heap[D]? = some (.deferred (some []))) ∧ ∀ W', Kp (fun k => k ∉ ds) W W' → ∃ v, (results fn a.tmps).run P W' = .ok v W' ∧ R (.returned v) W'
  | _, _, _ => False
theorem calls_marks {P : Program} {f : FuncId} {fn : Func} {c : Code} {args : Array Value} {w : World} {R : Ending → World → Prop} (hf : P.funcs[f]? = some fn) (hb : fn.body = some c)
    (h : c.wp P (postM P fn R) { tmps := args ++ Array.replicate (fn.ntmps - args.size) undef, defers := [] } w) : Calls P f args w R := by
  refine (callsIn_wide (n := 0)).1 (callsIn_of_wp_marks hf hb trivial ((wpIn_wide (n := 0)).2 (Code.wp_mono ?_ h)))
  intro e a W q
  cases e with
  | normal => obtain ⟨ds, h1, h2, h3, h4⟩ := q; show LeavesInM _ _ _ _ _ _ _ _ _; rw [h1]; exact leaves_marks ds W h2 h3 h4
  | ret => obtain ⟨ds, h1, h2, h3, h4⟩ := q; show LeavesInM _ _ _ _ _ _ _ _ _; rw [h1]; exact leaves_marks ds W h2 h3 h4
  | exit id => exact q.elim
  | goto t => exact q.elim
  | panic c => exact q.elim
  | outgrown => exact q.elim
/-- The marks' blocks. -/
def Ds (b : Nat) (ds : List Nat) (W : World) : Prop := ds.Nodup ∧ ∀ D ∈ ds, b ≤ D ∧ W.heap[D]? = some (.deferred (some []))
theorem Ds.nil (b : Nat) (W : World) : Ds b [] W := ⟨List.nodup_nil, fun _ h => by simp at h⟩
theorem Ds.keep {b : Nat} {ds : List Nat} {W W' : World} (h : Ds b ds W) (hk : ∀ k, k < W.heap.size → W.heap[k]? = some (.deferred (some [])) → W'.heap[k]? = W.heap[k]?) : Ds b ds W' :=
  ⟨h.1, fun D hD => ⟨(h.2 D hD).1, (hk D (Array.getElem?_eq_some_iff.1 (h.2 D hD).2).1 (h.2 D hD).2).trans (h.2 D hD).2⟩⟩
theorem Ds_drew {b : Nat} {ds : List Nat} {W : World} (h : Ds b ds W) : Ds b ds W.drew := h
theorem Ds_drewN {b : Nat} {ds : List Nat} {W : World} (h : Ds b ds W) (m : Nat) : Ds b ds (W.drewN m) := h.keep fun k hk _ => (pw_below_drewN (Below.refl _ _) m).block k hk
theorem Ds_alloc {b : Nat} {ds : List Nat} {W : World} (h : Ds b ds W) (o : Obj) : Ds b ds (W.alloc o) := h.keep fun k hk _ => Below.heap_alloc _ _ _ hk
theorem zdb {b : Nat} {ds : List Nat} {W W' : World} (h : Aside0 (Ds b ds W)) (hb : Below W.heap.size W W') : Aside0 (Ds b ds W') := ⟨h.out.keep fun k hk _ => hb.block k hk⟩
theorem zdg {b g t : Nat} {ds : List Nat} {W W' : World} {cs : Array Value} (h : Aside0 (Ds b ds W)) (hg : W.grownBy W' (some g)) (hb : W.heap[g]? = some (.cells cs t (0, 0))) : Aside0 (Ds b ds W') :=
  ⟨h.out.keep fun k hk hd => hg.block k hk (fun e => by injection e with e; subst e; rw [hb] at hd; cases hd)⟩
theorem zdr {b : Nat} {ds : List Nat} {W W' : World} {v : Value} (h : Aside0 (Ds b ds W)) (hg : W.grownBy W' v.ownBlock) (hb : ∀ k, v.ownBlock = some k → ∃ cells e, W.heap[k]? = some (.cells cells e (0, 0))) : Aside0 (Ds b ds W') :=
  ⟨h.out.keep fun k hk hd => hg.block k hk (fun e => by obtain ⟨c, t, hc⟩ := hb k e.symm; rw [hc] at hd; cases hd)⟩
theorem N_len {α : Type} {d : Kd α} {e base n c : Nat} {w : World} {ok : Nat → Prop} {A : Option Addr} {xs : List α} (h : Kd.N d e w base ok (.slice A n c) xs) : xs.length = n := by
  obtain ⟨A', c', he⟩ := Kd.N_slice h
  injection he with _ h2 _
  exact h2.symm
theorem inBlock_calm {id : Nat} {Q : Exit → Act → World → Prop} (h : ¬ LetsOut Q) : ¬ LetsOut (Exit.inBlock id Q) := fun ⟨a, w, q⟩ => h ⟨a, w, q⟩
end Go.Proofs.Ytapinanmmhdpcaa.MQ
