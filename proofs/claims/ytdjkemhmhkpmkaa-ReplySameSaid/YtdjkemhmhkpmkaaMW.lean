import Derived.Test.YtdjkemhmhkpmkaaWMore
import Derived.Test.YtdjkemhmhkpmkaaWGuard
import Derived.Test.YtdjkemhmhkpmkaaWSized
import Derived.Test.YtdjkemhmhkpmkaaWRepsOne
import Derived.WalkSpells
import Derived.WalkMore
import Derived.ScopeJumps
import Derived.StillTailTactics
import Derived.BigRegion
import Derived.OrdersHeld
import Derived.WalkLawsBesides
namespace Go.Proofs.Ytdjkemhmhkpmkaa.MW
open Go.RowKit Go.Proofs.YtdjkemhmhkpmkaaW.PrintWords Go.Proofs.YtdjkemhmhkpmkaaW.PrintLast Go.Proofs.YtdjkemhmhkpmkaaW.PrintMore
set_option linter.unusedVariables false
/-- The walk stands still here; simp does not go in (what follows depends on it). -/
inductive Mark : Prop → Type where
 | mk (p : Prop) : Mark p
structure Stop (p : Prop) (m : Mark p) : Prop where
 out : p
theorem stop_ {p : Prop} (h : Stop p (.mk p)) : p := h.out
theorem Stop.go {p : Prop} {m : Mark p} (h : p) : Stop p m := ⟨h⟩
section
variable {P : Program} {ops : Array Oper} {rest : List Oper} {o : Oper} {a : Act} {Q : Exit → Act → World → Prop}
/-- A store into a variable in memory (a block whose cells are known). -/
theorem ev_store {W : World} {g off : Nat} {cs : Array Value} {ty : TypeId} (cs' : Array Value) {t : TypeId} {p x : Operand} (hgd : o.guard = none) (ho : o.op = .store t p x) (hN : o.dst = none)
  (hp : a.eval p = .pointer (some ⟨g, off, none⟩)) (hb : W.heap[g]? = some (.cells cs ty (0, 0))) (seg : List Value) (hu : (a.eval x).cells.toList = seg) (ht : (P.info? t).map (·.size) = some seg.length)
  (hfit : off + seg.length ≤ cs.size) (h1 : ∀ q ∈ seg, q.oneCell' = true) (hcs : cs.toList.take off ++ seg ++ cs.toList.drop (off + seg.length) = cs'.toList)
  (h : ∀ w1, w1.heap[g]? = some (.cells cs' ty (0, 0)) → W.grownBy w1 (some g) → wpList P ops Q rest a w1) : wpList P ops Q (o :: rest) a W := by
 have hrun := run_store_run (P := P) t (a.eval x) seg hb hu ht hfit h1
 obtain ⟨cur', h3, h4, h5⟩ := setCells_row seg off W cs hb hfit
 obtain ⟨s1, s2, s3, s4⟩ := setCells_same g seg off W
 have hc : cur' = cs' := by
  apply Array.ext'
  rw [h5, hcs]
 subst hc
 refine wpList_plain hgd fun K hK => ?_
 have hr : (execOp a.eval o).run P W = .ok .skip (W.setCells g off seg) := by
  unfold execOp
  simp [ho, hp, hrun]
 unfold Oper.wp
 rw [hr]
 show K (a.put o.dst undef) _
 rw [hN]
 exact hK _ _ (h _ h3 ⟨s1, s2, s3, by rw [s4]; exact Nat.le_refl _, fun k _ hk => setCells_far _ _ k (fun he => hk (by rw [he]))⟩)
/-- A call of a function value that is written out, in a plain region. -/
theorem goesV_ {oi : Oper} {w : World} (N : Option Tmp) (hd : oi.dst = N) (hg : oi.guard = none) {f : FuncId} {fn : Func} {x : Operand} {as : Array Operand} {ts : Array TypeId} (hf : P.funcs[f]? = some fn) (hname : (fn.name == "runtime.NumGoroutine") = false) (hb : fn.body.isSome = true) (args : Array Value)
  (hop : oi.op = .call { callee := .value x, args := as, argTypes := ts }) (caps : Array Value) (hx : a.eval x = .func (.func f) #[] caps) (hargs : as.map a.eval ++ caps = args)
  (h : Calls P f args w fun e w' => ∃ v, e = .returned v ∧ wpList P ops Q rest (a.put N v) w') : wpList P ops Q (oi :: rest) a w := by
 refine wpList_plain hg fun K hK => ?_
 have he := enters_ hf hname hb args w
 have hrun : (execOp a.eval oi).run P w = .ok (.enter f args) w := by
  unfold execOp
  simp [hop, resolve, hx, Deferred.ofValue, invoke, hargs, he]
 unfold Oper.wp
 rw [hrun, Oper.upon_enter]
 refine h.mono fun e w'' hh => ?_
 obtain ⟨v, rfl, hk⟩ := hh
 subst hd
 exact hK _ _ hk
theorem results_c {fn : Func} {p : Tmp} {ty : TypeId} (h : fn.results = #[.cell p ty]) (tmps : Array Value) (w : World) (g : Nat) (t : TypeId) (cs : Array Value) (fr : Nat × Nat) (d : TypeDesc)
  (hp : tmps.getD p undef = .pointer (some ⟨g, 0, none⟩)) (hg : w.heap[g]? = some (.cells cs t fr))
  (hu : P.underlying ty = some d) (hd : (match d with | .struct _ | .array _ _ => true | _ => false) = true) (hi : (P.info? ty).map (·.size) = some cs.size) :
  (results fn tmps).run P w = .ok (.agg cs) w := by
 have hp' : tmps[p]?.getD undef = .pointer (some ⟨g, 0, none⟩) := by simpa using hp
 simp [results, h, hp', asAddr, run_loadVar_row w g t ty cs fr d hg hu hd hi]
end
namespace Kd
open Go.Proofs.YtdjkemhmhkpmkaaW.PrintWords.Kd
end Kd
theorem bt_at' (s : ByteArray) (i : Int) : ∀ h : i.toNat < s.size, ((s[i.toNat]'h).toNat : Int) = bt s i := bt_at s i
theorem grown_below {W w1 : World} (h : W.grownBy w1 none) : Below W.heap.size W w1 := ⟨h.os, h.tape, h.output, h.size, fun k hk => h.block k hk (by simp)⟩
theorem base_of {W : World} {v1 : Value} (h : ∃ b, v1.ownBlock = some b ∧ W.heap.size ≤ b) : ∀ k, v1.ownBlock = some k → W.heap.size ≤ k := by
 obtain ⟨b, hb, hle⟩ := h
 intro k hk
 rw [hb] at hk
 injection hk with hk
 omega
theorem drawn {P : Program} {f : FuncId} {args : Array Value} {w : World} {v : Value} (h : Calls P f args w fun e w' => e = .returned v ∧ Drawn0 w w') : Calls P f args w fun e w' => e = .returned v ∧ ∃ m, w' = w.drewN m :=
 h.mono fun _ _ ⟨he, hd⟩ => ⟨he, hd.out⟩
theorem quiet_far {P : Program} {f : FuncId} {args : Array Value} {w : World} {m0 n : Nat} {v : Value} (h : Calls P f args (w.drewN (m0 + n)) fun e w' => e = .returned v ∧ ∃ m, w' = (w.drewN (m0 + n)).drewN m) : Calls P f args (w.drewN (m0 + n)) fun e w'' => e = .returned v ∧ ∃ m, w'' = w.drewN (m0 + m) :=
 h.mono fun _ _ ⟨he, m, hm⟩ => ⟨he, n + m, by rw [hm, World.drewN_drewN, Nat.add_assoc]⟩
/-! ### a region whose order is drawn, walked by what may come first -/
section
variable {P : Program} {ops : Array Oper} {Q : Exit → Act → World → Prop} {md : Region.Mode}
theorem any_take {i : Nat} {oi : Oper} {v : Value} {fuel : Nat} {listed listed' : Array Bool} {a a' : Act} {w : World} (hi : ops[i]? = some oi)
  (hs : Region.noSelect ops = true) (hf : Region.free md ops listed i = true) (hr : (Region.ready md ops listed).contains i = true)
  (hQ : ∀ c a w, Q (.panic c) (a.put oi.dst v) w → Q (.panic c) a w) (hy : Yields P ops oi v a) (hl : listed.setIfInBounds i true = listed') (ha : a.put oi.dst v = a')
  (h : wpAny P md ops Q fuel listed' a' w) : wpAny P md ops Q (fuel + 1) listed a w :=
 wpAny_take hi hs hf hr hQ hy (by rw [hl, ha]; exact h)
theorem any_one {i : Nat} {oi : Oper} {v : Value} {fuel : Nat} {listed listed' : Array Bool} {a a' : Act} {w : World} (hi : ops[i]? = some oi) (hr : Region.ready md ops listed = [i])
  (hw : Region.wanted oi (yielded ops a.tmps) = true) (hrun : (execOp a.eval oi).run P w = .ok (.value v) w) (hl : listed.setIfInBounds i true = listed') (ha : a.put oi.dst v = a')
  (h : wpAny P md ops Q fuel listed' a' w) : wpAny P md ops Q (fuel + 1) listed a w := by
 refine wpAny_all hr (by simp) fun j hj => ?_
 have hj' : j = i := by simpa using hj
 subst hj'
 unfold wpOp
 simp only [hi]
 rw [if_pos hw]
 refine .inl ?_
 unfold Oper.wp
 rw [hrun]
 rw [hl]
 show wpAny P md ops Q fuel listed' (a.put oi.dst v) w
 rw [ha]
 exact h
end
/-! ### scopes with labels -/
/-- From label l of the scope's code c on, the run comes to Q. -/
def Lab (P : Program) (c : Code) (Q : Exit → Act → World → Prop) (l : Nat) (a : Act) (w : World) : Prop :=
 ∃ rest, findLabel c l = some rest ∧ ∀ b k cs, ∃ e a' w', Q e a' w' ∧ Arrives P (lone (b.at a (.code rest :: .inScope c :: k)) cs w) b k cs e a' w'
def labs (P : Program) (c : Code) (Q : Exit → Act → World → Prop) : Exit → Act → World → Prop
 | .goto l, a, w => Lab P c Q l a w
 | e, a, w => Q e a w
def backTo (l : Nat) (K : Act → World → Prop) (Q : Exit → Act → World → Prop) : Exit → Act → World → Prop
 | .goto l', a, w => (l' = l ∧ K a w) ∨ Q (.goto l') a w
 | e, a, w => Q e a w
section
variable {P : Program} {c rest : Code} {a : Act} {w : World} {Q : Exit → Act → World → Prop} {K : Act → World → Prop} {l : Nat}
@[go_sem] theorem labs_normal : labs P c Q .normal a w = Q .normal a w := rfl
@[go_sem] theorem labs_exit (id : Nat) : labs P c Q (.exit id) a w = Q (.exit id) a w := rfl
@[go_sem] theorem labs_ret : labs P c Q .ret a w = Q .ret a w := rfl
@[go_sem] theorem labs_panic (ch : List PanicEntry) : labs P c Q (.panic ch) a w = Q (.panic ch) a w := rfl
@[go_sem] theorem backTo_normal : backTo l K Q .normal a w = Q .normal a w := rfl
@[go_sem] theorem backTo_exit (id : Nat) : backTo l K Q (.exit id) a w = Q (.exit id) a w := rfl
@[go_sem] theorem backTo_ret : backTo l K Q .ret a w = Q .ret a w := rfl
@[go_sem] theorem backTo_panic (ch : List PanicEntry) : backTo l K Q (.panic ch) a w = Q (.panic ch) a w := rfl
theorem gotoIn_here {k : List Item} (hf : findLabel c l = some rest) : gotoIn l (.inScope c :: k) = some (.code rest :: .inScope c :: k) := by simp [gotoIn, hf]
theorem scope_labs (h : c.wp P (labs P c Q) a w) : (Code.scope c).wp P Q a w := by
 intro b k cs
 obtain ⟨e, a₁, w₁, hq, harr⟩ := h b (.inScope c :: k) cs
 cases e with
 | normal => exact ⟨.normal, a₁, w₁, hq, .head step_scope (Steps.trans harr (.one step_inScope))⟩
 | exit id => exact ⟨.exit id, a₁, w₁, hq, fun k' hk => .head step_scope (harr k' (by simp [exitTo, hk]))⟩
 | goto l' =>
  obtain ⟨rest', hf', h'⟩ := hq
  obtain ⟨e₂, a₂, w₂, hq₂, harr₂⟩ := h' b k cs
  exact ⟨e₂, a₂, w₂, hq₂, .of_steps (.head step_scope (harr _ (gotoIn_here hf'))) harr₂⟩
 | ret => exact ⟨_, a₁, w₁, hq, .of_steps (.one step_scope) harr⟩
 | panic ch => exact ⟨_, a₁, w₁, hq, .of_steps (.one step_scope) harr⟩
 | outgrown => exact ⟨_, a₁, w₁, hq, .of_steps (.one step_scope) harr⟩
theorem lab_go (hf : findLabel c l = some rest) (h : rest.wp P (labs P c Q) a w) : Lab P c Q l a w := by
 refine ⟨rest, hf, fun b k cs => ?_⟩
 obtain ⟨e, a₁, w₁, hq, harr⟩ := h b (.inScope c :: k) cs
 cases e with
 | normal => exact ⟨.normal, a₁, w₁, hq, Steps.trans harr (.one step_inScope)⟩
 | exit id => exact ⟨.exit id, a₁, w₁, hq, fun k' hk => harr k' (by simp [exitTo, hk])⟩
 | goto l' =>
  obtain ⟨rest', hf', h'⟩ := hq
  obtain ⟨e₂, a₂, w₂, hq₂, harr₂⟩ := h' b k cs
  exact ⟨e₂, a₂, w₂, hq₂, .of_steps (harr _ (gotoIn_here hf')) harr₂⟩
 | ret => exact ⟨_, a₁, w₁, hq, harr⟩
 | panic ch => exact ⟨_, a₁, w₁, hq, harr⟩
 | outgrown => exact ⟨_, a₁, w₁, hq, harr⟩
theorem goto_labs (hf : findLabel c l = some rest) (h : rest.wp P (labs P c Q) a w) : labs P c Q (.goto l) a w := lab_go hf h
end
/-! ### a store into an element of a row of the call's own -/
section
variable {P : Program} {ops : Array Oper} {rest : List Oper} {o : Oper} {a : Act} {Q : Exit → Act → World → Prop}
open Go.Proofs.YtdjkemhmhkpmkaaW.PrintWords.Kd
end
/-! ### own[lo:hi:m] -/
namespace Kd
open Go.Proofs.YtdjkemhmhkpmkaaW.PrintWords.Kd
end Kd
theorem hpos {α : Type} {c : Prop} [Decidable c] {a b x : α} (h : Aside0 ((if c then a else b) = x)) (hc : c) : Aside0 (a = x) := ⟨by have := h.out; rwa [if_pos hc] at this⟩
theorem hneg {α : Type} {c : Prop} [Decidable c] {a b x : α} (h : Aside0 ((if c then a else b) = x)) (hc : ¬ c) : Aside0 (b = x) := ⟨by have := h.out; rwa [if_neg hc] at this⟩
end Go.Proofs.Ytdjkemhmhkpmkaa.MW
