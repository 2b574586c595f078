import Derived.Test.YtliackbiljhioaaWMore
import Derived.Test.YtliackbiljhioaaWGuard
import Derived.Test.YtliackbiljhioaaWSized
import Derived.Test.YtliackbiljhioaaWRepsOne
import Derived.WalkSpells
import Derived.WalkMore
import Derived.ScopeJumps
import Derived.StillTailTactics
import Derived.BigRegion
import Derived.OrdersHeld
import Derived.WalkLawsBesides
/- Words of this session: plain lemmas over the print's words, for the walks that wip/gen.py writes. -/
namespace Go.Proofs.Ytliackbiljhioaa.MW
open Go.RowKit Go.Proofs.YtliackbiljhioaaW.PrintWords Go.Proofs.YtliackbiljhioaaW.PrintLast Go.Proofs.YtliackbiljhioaaW.PrintMore
set_option linter.unusedVariables false
/-- The walk stands still here. -/
def Stop (p : Prop) : Prop := p
theorem stop_ {p : Prop} (h : Stop p) : p := h
theorem Stop.go {p : Prop} (h : p) : Stop p := h
section
variable {P : Program} {ops : Array Oper} {rest : List Oper} {o : Oper} {a : Act} {Q : Exit → Act → World → Prop}
/-- A store into a variable in memory (a block whose cells are known). -/
theorem ev_store {W : World} {g off : Nat} {cs : Array Value} {ty : TypeId} (cs' : Array Value) {t : TypeId} {p x : Operand} (hgd : o.guard = none) (ho : o.op = .store t p x) (hN : o.dst = none)
    (hp : a.eval p = .pointer (some ⟨g, off, none⟩)) (hb : W.heap[g]? = some (.cells cs ty (0, 0))) (seg : List Value) (hu : (a.eval x).cells.toList = seg) (ht : (P.info? t).map (·.size) = some seg.length)
    (hfit : off + seg.length ≤ cs.size) (h1 : ∀ q ∈ seg, q.oneCell' = true) (hcs : cs.toList.take off ++ seg ++ cs.toList.drop (off + seg.length) = cs'.toList)
    (h : ∀ w1, w1.heap[g]? = some (.cells cs' ty (0, 0)) → W.grownBy w1 (some g) → wpList P ops Q rest a w1) : wpList P ops Q (o :: rest) a W := by
  have hrun := run_store_run (P := P) t (a.eval x) seg hb hu ht hfit h1
  obtain ⟨cur', h3, h4, h5⟩ := setCells_row seg off W cs hb hfit
  obtain ⟨s1, s2, s3, s4⟩ := setCells_same g seg off W
  have hc : cur' = cs' := by
    apply Array.ext'
    rw [h5, hcs]
  subst hc
  refine wpList_plain hgd fun K hK => ?_
  have hr : (execOp a.eval o).run P W = .ok .skip (W.setCells g off seg) := by
    unfold execOp
    simp [ho, hp, hrun]
  unfold Oper.wp
  rw [hr]
  show K (a.put o.dst undef) _
  rw [hN]
  exact hK _ _ (h _ h3 ⟨s1, s2, s3, by rw [s4]; exact Nat.le_refl _, fun k _ hk => setCells_far _ _ k (fun he => hk (by rw [he]))⟩)
/-- A call of a function value that is written out, in a plain region. -/
theorem goesV_ {oi : Oper} {w : World} (N : Option Tmp) (hd : oi.dst = N) (hg : oi.guard = none) {f : FuncId} {fn : Func} {x : Operand} {as : Array Operand} {ts : Array TypeId} (hf : P.funcs[f]? = some fn) (hname : (fn.name == "runtime.NumGoroutine") = false) (hb : fn.body.isSome = true) (args : Array Value)
    (hop : oi.op = .call { callee := .value x, args := as, argTypes := ts }) (caps : Array Value) (hx : a.eval x = .func (.func f) #[] caps) (hargs : as.map a.eval ++ caps = args)
    (h : Calls P f args w fun e w' => ∃ v, e = .returned v ∧ wpList P ops Q rest (a.put N v) w') : wpList P ops Q (oi :: rest) a w := by
  refine wpList_plain hg fun K hK => ?_
  have he := enters_ hf hname hb args w
  have hrun : (execOp a.eval oi).run P w = .ok (.enter f args) w := by
    unfold execOp
    simp [hop, resolve, hx, Deferred.ofValue, invoke, hargs, he]
  unfold Oper.wp
  rw [hrun, Oper.upon_enter]
  refine h.mono fun e w'' hh => ?_
  obtain ⟨v, rfl, hk⟩ := hh
  subst hd
  exact hK _ _ hk
theorem results_c {fn : Func} {p : Tmp} {ty : TypeId} (h : fn.results = #[.cell p ty]) (tmps : Array Value) (w : World) (g : Nat) (t : TypeId) (cs : Array Value) (fr : Nat × Nat) (d : TypeDesc)
    (hp : tmps.getD p undef = .pointer (some ⟨g, 0, none⟩)) (hg : w.heap[g]? = some (.cells cs t fr))
    (hu : P.underlying ty = some d) (hd : (match d with | .struct _ | .array _ _ => true | _ => false) = true) (hi : (P.info? ty).map (·.size) = some cs.size) :
    (results fn tmps).run P w = .ok (.agg cs) w := by
  have hp' : tmps[p]?.getD undef = .pointer (some ⟨g, 0, none⟩) := by simpa using hp
  simp [results, h, hp', asAddr, run_loadVar_row w g t ty cs fr d hg hu hd hi]
end
namespace Kd
open Go.Proofs.YtliackbiljhioaaW.PrintWords.Kd
theorem FK_scalar {α : Type} (enc : α → Value) (h1 : ∀ x, (enc x).oneCell' = true) (W : World) (ok : Nat → Prop) (x : α) : FK (scalar enc h1) W ok x [enc x] := fun _ _ => rfl
end Kd
theorem bt_at' (s : ByteArray) (i : Int) : ∀ h : i.toNat < s.size, ((s[i.toNat]'h).toNat : Int) = bt s i := bt_at s i
theorem grown_below {W w1 : World} (h : W.grownBy w1 none) : Below W.heap.size W w1 := ⟨h.os, h.tape, h.output, h.size, fun k hk => h.block k hk (by simp)⟩
theorem base_of {W : World} {v1 : Value} (h : ∃ b, v1.ownBlock = some b ∧ W.heap.size ≤ b) : ∀ k, v1.ownBlock = some k → W.heap.size ≤ k := by
  obtain ⟨b, hb, hle⟩ := h
  intro k hk
  rw [hb] at hk
  injection hk with hk
  omega
theorem drawn {P : Program} {f : FuncId} {args : Array Value} {w : World} {v : Value} (h : Calls P f args w fun e w' => e = .returned v ∧ Drawn0 w w') : Calls P f args w fun e w' => e = .returned v ∧ ∃ m, w' = w.drewN m :=
  h.mono fun _ _ ⟨he, hd⟩ => ⟨he, hd.out⟩
theorem jump_mono {P : Program} {c : Code} {Q Q' : Exit → Act → World → Prop} {a : Act} {w : World} (h : c.wp P Q a w) (hQ : ∀ e a w, Q e a w → Q' e a w) : c.wp P Q' a w := by
  intro b k cs
  obtain ⟨e, a₁, w₁, hq, harr⟩ := h b k cs
  exact ⟨e, a₁, w₁, hQ _ _ _ hq, harr⟩
/-- A label that is come to in its turn, and by jumps. -/
theorem scope_loop {P : Program} {c rest : Code} {a : Act} {w : World} {Q : Exit → Act → World → Prop} (l : Nat) (J : Act → World → Prop) (μ : Act → World → Nat) (hf : findLabel c l = some rest)
    (pass : ∀ a w, J a w → rest.wp P (Exit.jump l (fun a' w' => J a' w' ∧ μ a' w' < μ a w) Q) a w)
    (first : (∀ a w, J a w → rest.wp P (Exit.jump l J Q) a w) → c.wp P (Exit.jump l J Q) a w) : (Code.scope c).wp P Q a w := by
  refine wp_scope_jumps l J μ hf (first fun a w h => jump_mono (pass a w h) ?_) pass
  intro e a' w' h
  cases e with
  | goto l' => exact ⟨h.1, h.2.1⟩
  | normal => exact h
  | exit id => exact h
  | ret => exact h
  | panic ch => exact h
  | outgrown => exact h
end Go.Proofs.Ytliackbiljhioaa.MW
