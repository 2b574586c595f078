import Derived.Test.YtapinanmmhdpcaaMQ
import Derived.Lib.SliceRun
import Derived.Deep.Cut
/- Words of session 5: a row of functions written out; the head of a row of the call's own. -/
namespace Go.Proofs.Ytapinanmmhdpcaa.MS
open Go.RowKit Go.Proofs.YtapinanmmhdpcaaW.PrintWords Go.Proofs.YtapinanmmhdpcaaW.PrintLast Go.Proofs.YtapinanmmhdpcaaW.PrintMore
set_option linter.unusedVariables false
section
variable {P : Program} {ops : Array Oper} {rest : List Oper} {o : Oper} {a : Act} {Q : Exit → Act → World → Prop} {W : World}
/-- Values written out, a row in a block of its own. -/
theorem zfr (N : Tmp) (t n : Nat) (cs : Array Value)
    (hh : o.dst = some N ∧ Region.wanted o (yielded ops a.tmps) = true ∧ (execOp a.eval { o with guard := none }).run P W = .ok (.value (.slice (some ⟨W.heap.size, 0, none⟩) n n)) (W.alloc (.cells cs t (0, 0))) := by refine ⟨rfl, rfl, ?_⟩; first | (go_simp; done) | (go_simp; rfl))
    (h : ∀ g, Aside0 (g = W.heap.size) → ∀ w1, Aside0 (w1.heap[g]? = some (.cells cs t (0, 0))) → Below W.heap.size W w1 → MW.Stop (wpList P ops Q rest (a.put (some N) (.slice (some ⟨g, 0, none⟩) n n)) w1) (.mk _)) : wpList P ops Q (o :: rest) a W :=
  gate_guard hh.2.1 (Kd.event_run (o := { o with guard := none }) rfl hh.2.2 (by
    have h4 := (h _ ⟨rfl⟩ _ ⟨blk_new W _⟩ (below_alloc (Below.refl _ _) _)).out
    rw [← hh.1] at h4
    exact h4))
end
/-- Cells are laid from place o on: what lies ahead of it stays. -/
theorem setCells_head {g t : Nat} {fz : Nat × Nat} : ∀ (vs : List Value) (o : Nat) (w : World) (cur : Array Value), w.heap[g]? = some (.cells cur t fz) →
    ∃ cur' : Array Value, (w.setCells g o vs).heap[g]? = some (.cells cur' t fz) ∧ cur'.size = cur.size ∧ ∀ j, j < o → cur'[j]? = cur[j]?
  | [], o, w, cur, h => ⟨cur, h, rfl, fun _ _ => rfl⟩
  | v :: vs, o, w, cur, h => by
    have h1 : (w.setCell ⟨g, o, none⟩ v).heap[g]? = some (.cells (cur.setIfInBounds o v) t fz) := by simp [World.setCell, Array.getElem?_modify, h]
    obtain ⟨cur', h2, h3, h4⟩ := setCells_head vs (o + 1) _ _ h1
    refine ⟨cur', h2, by simpa using h3, fun j hj => ?_⟩
    rw [h4 j (by omega), Array.getElem?_setIfInBounds, if_neg (by omega)]
theorem setCells_grown (w : World) (g o : Nat) (vs : List Value) : w.grownBy (w.setCells g o vs) (some g) := by
  have h := fun w0 => World.keptBut_setCells g (may := fun _ => True) vs o w0 (fun _ _ => trivial)
  induction vs generalizing o w with
  | nil => exact ⟨rfl, rfl, rfl, Nat.le_refl _, fun _ _ _ => rfl⟩
  | cons v vs ih =>
    have i := ih (w.setCell ⟨g, o, none⟩ v) (o + 1) (fun w0 => World.keptBut_setCells g (may := fun _ => True) vs (o + 1) w0 (fun _ _ => trivial))
    have s : w.grownBy (w.setCell ⟨g, o, none⟩ v) (some g) := ⟨rfl, rfl, rfl, by simp [World.setCell], fun k hk hne => Below.heap_setCell _ _ _ _ (fun e => hne (congrArg some e))⟩
    exact ⟨i.os.trans s.os, i.tape.trans s.tape, i.output.trans s.output, Nat.le_trans s.size i.size, fun k hk hne => (i.block k (Nat.lt_of_lt_of_le hk s.size) hne).trans (s.block k hk hne)⟩
/-- The head of a row of the call's own, behind it whatever. -/
theorem N_head {α : Type} {d : Kd α} {e base n c g m : Nat} {W W' : World} {ok : Nat → Prop} {xs : List α} (h : Kd.N d e W base ok (.slice (some ⟨g, 0, none⟩) n c) xs) (hm : m ≤ n)
    (hk : ∀ k, k ≠ g → k < W.heap.size → W'.heap[k]? = W.heap[k]?)
    (hc : ∀ cur, W.heap[g]? = some (.cells cur e (0, 0)) → ∃ cur' : Array Value, W'.heap[g]? = some (.cells cur' e (0, 0)) ∧ cur'.size = cur.size ∧ ∀ j, j < m * d.sz → cur'[j]? = cur[j]?) :
    Kd.N d e W' base ok (.slice (some ⟨g, 0, none⟩) m c) (xs.take m) := by
  obtain ⟨h0, rows, hl, ⟨hr0, inner, ⟨hil, ho⟩, hrl, hrp⟩, hf⟩ := h
  have ho' := ho.resolve_left (fun h => by cases h.1)
  obtain ⟨g', cap, cur, hv, hbase, hcur, hn, hcm, hsz, htk⟩ := ho'
  injection hv with hA hn' hcap
  injection hA with hA
  injection hA with hg
  subst hg hcap
  obtain ⟨cur', hcur', hsz', hsame⟩ := hc cur hcur
  have hmr : m ≤ rows.length := by omega
  have e1 : (rows.take m).length = m := by simp; omega
  replace hil : inner.length = rows.length * d.sz := hil
  replace hsz : cur.size = c * d.sz := hsz
  replace htk : List.take (rows.length * d.sz) cur.toList = inner := htk
  refine ⟨fun k hk => h0 k (by simpa [Value.ownBlock] using hk), rows.take m, by simp [hl], ⟨fun k hk => by simpa [Value.ownBlock] using hk.symm, inner.take (m * d.sz), ⟨?_, ?_⟩, ?_, ?_⟩, ?_⟩
  · show (inner.take (m * d.sz)).length = (rows.take m).length * d.sz
    rw [List.length_take, e1, hil]
    exact Nat.min_eq_left (Nat.mul_le_mul_right _ hmr)
  · refine .inr ⟨g, c, cur', by rw [e1], hbase, hcur', by omega, hcm, by rw [hsz', hsz]; rfl, ?_⟩
    show List.take ((rows.take m).length * d.sz) cur'.toList = inner.take (m * d.sz)
    rw [e1, ← htk, List.take_take, Nat.min_eq_left (Nat.mul_le_mul_right _ hmr)]
    apply List.ext_getElem?
    intro j
    rw [List.getElem?_take, List.getElem?_take]
    split
    · rename_i hj
      rw [Array.getElem?_toList, Array.getElem?_toList]
      exact hsame j hj
    · rfl
  · show (inner.take (m * d.sz)).length = (rows.take m).length * d.sz
    rw [List.length_take, e1, hil]
    exact Nat.min_eq_left (Nat.mul_le_mul_right _ hmr)
  · intro j p hp
    rw [List.getElem?_take] at hp
    split at hp
    · rename_i hj
      have := hrp j p hp
      have e2 : ((inner.take (m * d.sz)).drop (j * d.sz)).take d.sz = (inner.drop (j * d.sz)).take d.sz := by
        rw [List.drop_take, List.take_take, Nat.min_eq_left]
        rw [← Nat.sub_mul]
        exact Nat.le_mul_of_pos_left _ (by omega)
      show (Kd.raw d.sz).M W' base _ p (((inner.take (m * d.sz)).drop (j * d.sz)).take d.sz)
      rw [e2]
      exact this
    · cases hp
  · intro j x c' hx hc'
    rw [List.getElem?_take] at hx hc'
    split at hx
    · rename_i hj
      rw [if_pos hj] at hc'
      exact Kd.FK_step (hf j x c' hx hc') (fun k hk2 hlt => hk k (fun e => hk2.2 (by rw [e]; rfl)) hlt)
    · cases hx
section
variable {P : Program} {ops : Array Oper} {rest : List Oper} {o : Oper} {a : Act} {Q : Exit → Act → World → Prop}
/-- One cell of an element of a row of the call's own. -/
theorem ev_field {α : Type} (d : Kd α) {w0 W : World} (base : Nat) (hN : o.dst = none) (hgd : o.guard = none) (t : TypeId) (p x : Operand) (ho : o.op = .store t p x) (e : TypeId) {ad : Addr} {n cap : Nat} (i : Int) (j : Nat) (xs : List α) (z x' : α) (u : Value) (ok : Nat → Prop)
    (haddr : a.eval p = .pointer (some ⟨(ad.add (i.toNat * d.sz)).block, (ad.add (i.toNat * d.sz)).off + j, none⟩)) (hx : a.eval x = u) (hu : u.cells.toList = [u]) (h1 : u.oneCell' = true) (ht : (P.info? t).map (·.size) = some 1)
    (HO : Kd.N d e W base ok (.slice (some ad) n cap) xs) (h0 : 0 ≤ i) (hi : i < n) (hj : j + 1 ≤ d.sz) (hM : ∀ c, Kd.FK d W (fun _ => True) (xs.getD i.toNat z) c → Kd.FK d W (fun _ => False) x' (c.take j ++ [u] ++ c.drop (j + 1))) (HB : Below base w0 W)
    (h : ∀ w1, Kd.N d e w1 base ok (.slice (some ad) n cap) (xs.set i.toNat x') → Below base w0 w1 → W.grownBy w1 (Value.slice (some ad) n cap).ownBlock → wpList P ops Q rest a w1) : wpList P ops Q (o :: rest) a W := by
  obtain ⟨g, rfl⟩ : ∃ g, ad = ⟨g, 0, none⟩ := by
    obtain ⟨_, rows, _, hR, _⟩ := HO
    exact Kd.R_head hR
  obtain ⟨c, hcl, hF, hcc, _⟩ := Kd.N_elem HO z i h0 hi
  refine Kd.N_store d base hN hgd t p x ho e i j xs x' u [u] c ok (fun _ => False) (o' := i.toNat * d.sz + j) ?_ rfl hx hu (by simpa using ht) (fun q hq => by rw [List.mem_singleton.1 hq]; exact h1) HO h0 hi hcl hcc (by simpa using hj) (hM c (Kd.FK_mono hF (fun _ _ => trivial))) (fun _ hk => hk.elim) HB ?_
  · rw [haddr, add_at, Nat.zero_add]
  · intro w1 hn hb hg
    exact h w1 hn hb (by simpa [Value.ownBlock] using hg)
end
theorem ex1 {α : Type} {p : α → Prop} {b : Prop} (h : ∃ x, p x) (k : ∀ x, p x → b) : b := h.elim k
theorem ex8 {α : Type} {p : α → α → α → α → α → α → α → α → Prop} {b : Prop} (h : ∃ x1 x2 x3 x4 x5 x6 x7 x8, p x1 x2 x3 x4 x5 x6 x7 x8) (k : ∀ x1 x2 x3 x4 x5 x6 x7 x8, p x1 x2 x3 x4 x5 x6 x7 x8 → b) : b := by
  obtain ⟨x1, x2, x3, x4, x5, x6, x7, x8, h⟩ := h
  exact k _ _ _ _ _ _ _ _ h
/-- What a region leaves behind, said once. -/
def Joined (R : Act → World → Prop) : Act → World → Prop := R
theorem Joined.mk {R : Act → World → Prop} {a : Act} {w : World} (h : R a w) : Joined R a w := h
theorem join {P : Program} {c : Code} {Q : Exit → Act → World → Prop} {a : Act} {w : World} (R : Act → World → Prop) (hr : c.wp P (Exit.then (Joined R) (fun _ _ _ => False)) a w) (hk : ∀ a' w', R a' w' → Q .normal a' w') : c.wp P Q a w :=
  Code.wp_mono (fun e a' w' h => by cases e with
    | normal => exact hk _ _ h
    | exit id => exact h.elim
    | goto t => exact h.elim
    | ret => exact h.elim
    | panic c => exact h.elim
    | outgrown => exact h.elim) hr
/-- A region is held ahead of its first step. -/
theorem hold {P : Program} {Q : Exit → Act → World → Prop} {a : Act} {w : World} {id : Nat} {l : List Oper} (h : Go.Proofs.Ytapinanmmhdpcaa.MW.Stop ((Code.region id l.toArray false).wp P Q a w) (.mk _)) : (Code.region id l.toArray false).wp P Q a w := h.out
/-- The arms of an 'if' meet. -/
theorem cut {P : Program} {c : Code} {K : Act → World → Prop} {Q : Exit → Act → World → Prop} {a : Act} {w : World} (R : Act → World → Prop) (hr : c.wp P (Exit.then (Joined R) Q) a w) (hk : ∀ a' w', R a' w' → K a' w') : c.wp P (Exit.then K Q) a w :=
  Code.wp_mono (fun e a' w' h => by cases e with
    | normal => exact hk _ _ h
    | exit id => exact h
    | goto t => exact h
    | ret => exact h
    | panic c => exact h
    | outgrown => exact h) hr
theorem drawn_below {w w' : World} (h : Drawn0 w w') : Below w.heap.size w w' := by
  obtain ⟨m, rfl⟩ := h
  exact pw_below_drewN (Below.refl _ _) m
end Go.Proofs.Ytapinanmmhdpcaa.MS
