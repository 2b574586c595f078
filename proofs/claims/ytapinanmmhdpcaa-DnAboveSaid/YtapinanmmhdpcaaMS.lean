import Derived.Test.YtapinanmmhdpcaaMQ
import Derived.Lib.SliceRun
import Derived.Deep.Cut
namespace Go.Proofs.Ytapinanmmhdpcaa.MS
open Go.RowKit Go.Proofs.YtapinanmmhdpcaaW.PrintWords Go.Proofs.YtapinanmmhdpcaaW.PrintLast Go.Proofs.YtapinanmmhdpcaaW.PrintMore
set_option linter.unusedVariables false
section
variable {P : Program} {ops : Array Oper} {rest : List Oper} {o : Oper} {a : Act} {Q : Exit → Act → World → Prop} {W : World}
/-- Values written out, a row in a block of its own. -/
theorem zfr (N:Tmp) (t n:Nat) (cs:Array Value)
  (hh:o.dst=some N∧Region.wanted o (yielded ops a.tmps)=true∧(execOp a.eval {o with guard:=none}).run P W=.ok (.value (.slice (some ⟨W.heap.size,0,none⟩) n n)) (W.alloc (.cells cs t (0,0))):=by refine⟨rfl,rfl,?_⟩;first|(go_simp;done)|(go_simp;rfl))
  (h:∀ g,Aside0 (g=W.heap.size)→∀ w1,Aside0 (w1.heap[g]? =some (.cells cs t (0,0)))→Below W.heap.size W w1→MW.Stop (wpList P ops Q rest (a.put (some N) (.slice (some ⟨g,0,none⟩) n n)) w1) (.mk _)):wpList P ops Q (o::rest) a W:=
 gate_guard hh.2.1 (Kd.event_run (o:={o with guard:=none}) rfl hh.2.2 (by
  have h4:=(h _ ⟨rfl⟩ _ ⟨blk_new W _⟩ (below_alloc (Below.refl _ _) _)).out
  rw[← hh.1] at h4
  exact h4))
end
section
variable {P : Program} {ops : Array Oper} {rest : List Oper} {o : Oper} {a : Act} {Q : Exit → Act → World → Prop}
end
/-- What a region leaves behind, said once. -/
def Joined (R:Act→World→Prop):Act→World→Prop:=R
theorem Joined.mk {R:Act→World→Prop} {a:Act} {w:World} (h:R a w):Joined R a w:=h
theorem join {P:Program} {c:Code} {Q:Exit→Act→World→Prop} {a:Act} {w:World} (R:Act→World→Prop) (hr:c.wp P (Exit.then (Joined R) (fun _ _ _=>False)) a w) (hk:∀ a' w',R a' w'→Q .normal a' w'):c.wp P Q a w:=
 Code.wp_mono (fun e a' w' h=>by cases e with
  |normal=>exact hk _ _ h
  |exit id=>exact h.elim
  |goto t=>exact h.elim
  |ret=>exact h.elim
  |panic c=>exact h.elim
  |outgrown=>exact h.elim) hr
/-- A region is held ahead of its first step. -/
theorem hold {P:Program} {Q:Exit→Act→World→Prop} {a:Act} {w:World} {id:Nat} {l:List Oper} (h:Go.Proofs.Ytapinanmmhdpcaa.MW.Stop ((Code.region id l.toArray false).wp P Q a w) (.mk _)):(Code.region id l.toArray false).wp P Q a w:=h.out
/-- The arms of an 'if' meet. -/
theorem cut {P:Program} {c:Code} {K:Act→World→Prop} {Q:Exit→Act→World→Prop} {a:Act} {w:World} (R:Act→World→Prop) (hr:c.wp P (Exit.then (Joined R) Q) a w) (hk:∀ a' w',R a' w'→K a' w'):c.wp P (Exit.then K Q) a w:=
 Code.wp_mono (fun e a' w' h=>by cases e with
  |normal=>exact hk _ _ h
  |exit id=>exact h
  |goto t=>exact h
  |ret=>exact h
  |panic c=>exact h
  |outgrown=>exact h) hr
theorem drawn_below {w w':World} (h:Drawn0 w w'):Below w.heap.size w w':=by
 obtain⟨m,rfl⟩:=h
 exact pw_below_drewN (Below.refl _ _) m
end Go.Proofs.Ytapinanmmhdpcaa.MS
