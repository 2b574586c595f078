import Derived.Test.YtcokpnajkkjclaaMW
import Derived.Lib.AppendStr
import Derived.Lib.UnsafeStr
import Derived.Lib.Builder
namespace Go.Proofs.Ytcokpnajkkjclaa.MB
open Go.RowKit Go.Proofs.YtcokpnajkkjclaaW.PrintWords Go.Proofs.YtcokpnajkkjclaaW.PrintLast Go.Proofs.YtcokpnajkkjclaaW.PrintMore Go.Proofs.Ytcokpnajkkjclaa.MW
set_option linter.unusedVariables false
section
variable {P : Program} {ops : Array Oper} {rest : List Oper} {o : Oper} {a : Act} {Q : Exit → Act → World → Prop}
open Go.Proofs.YtcokpnajkkjclaaW.PrintWords.Kd
theorem own_of_N {α :Type} {enc: α →Value} {h1:∀ x,(enc x).oneCell'=true} {e base:Nat} {w:World} {ok:Nat→Prop} {v:Value} {xs:List α} (h:N (scalar enc h1) e w base ok v xs):w.ownsRow base e 1 v xs.length (encs enc xs):=by
 obtain⟨h0,rows,hl,⟨_,inner,ho,hr⟩,hf⟩:=h
 refine own_of_R (enc:=enc) (h1:=h1) (ok:=ok) ⟨h0,inner,?_,?_⟩
 ·rw[hl] at ho
  exact ho
 ·refine⟨?_,fun j x hj=>?_⟩
  ·rw[hr.1,hl]
   rfl
  ·have hjl:=(List.getElem?_eq_some_iff.1 hj).1
   have hj2:j<rows.length:=by omega
   have h3:=hr.2 j _ (List.getElem?_eq_getElem hj2)
   have h4:=Kd.FK_now (hf j x _ hj (List.getElem?_eq_getElem hj2))
   have h5:(inner.drop (j*(scalar enc h1).sz)).take (scalar enc h1).sz=rows[j]:=h3.1
   show(inner.drop (j*(scalar enc h1).sz)).take (scalar enc h1).sz=[enc x]
   rw[h5]
   exact h4
theorem N_of_own {α :Type} {enc: α →Value} {h1:∀ x,(enc x).oneCell'=true} {e base:Nat} {w:World} {ok:Nat→Prop} {v:Value} {xs:List α} (ho:w.ownsRow base e 1 v xs.length (encs enc xs)) (hok:∀ k,v.ownBlock=some k→ok k):N (scalar enc h1) e w base ok v xs:=R_N (R_of_own ho hok)
end
/-! ### unsafe.String over a row -/
section
variable {P : Program} (w : World)
end
/-! ### the cells of a variable in memory -/
theorem lz1 {w:World} {g t:Nat} {a0:Value} (h:w.heap[g]? =some (.cells #[a0] t (0,0))):w.cell? ⟨g,0,none⟩=some a0:=(blk_cell h 0).trans rfl
theorem lz2 {w:World} {g t:Nat} {a0 a1:Value} (h:w.heap[g]? =some (.cells #[a0,a1] t (0,0))):w.cell? ⟨g,0,none⟩=some a0∧w.cell? ⟨g,1,none⟩=some a1:=⟨(blk_cell h 0).trans rfl,(blk_cell h 1).trans rfl⟩
theorem lz3 {w:World} {g t:Nat} {a0 a1 a2:Value} (h:w.heap[g]? =some (.cells #[a0,a1,a2] t (0,0))):w.cell? ⟨g,0,none⟩=some a0∧w.cell? ⟨g,1,none⟩=some a1∧w.cell? ⟨g,2,none⟩=some a2:=⟨(blk_cell h 0).trans rfl,(blk_cell h 1).trans rfl,(blk_cell h 2).trans rfl⟩
/-! ### what a call with a pointer leaves as it was -/
theorem bsize {a:Nat} {w W:World} (h:Below a w W):w.heap.size≤W.heap.size:=h.size
theorem below_stepB {B:Nat} {w W w2:World} (hB:B≤w.heap.size) (h:Below B w W) (k:Below W.heap.size W w2):Below B w w2:=below_then h (Nat.le_trans hB h.size) k
theorem below_allocB {B:Nat} {w W:World} (hB:B≤w.heap.size) (h:Below B w W) (o:Obj):Below B w (W.alloc o):=h.alloc (Nat.le_trans hB h.size) o
/-- A fact of the world alone, in the form of a row that is read: the blocks of S are as they were in w0. -/
def frK (w0:World) (S:Nat→Prop):Kd Unit where
 sz:=0
 E:=[]
 K:=fun W _ cs=>cs=[]∧∀ k,S k→k<w0.heap.size→W.heap[k]? =w0.heap[k]?
 M:=fun _ _ _ _ _=>False
 K_len:=fun h=>by rw[h.1];rfl
 K_one:=fun h u hu=>by rw[h.1] at hu;cases hu
 K_below:=fun {w w1 x cs} hb h=>⟨h.1,fun k hk hlt=>by
  have h2:=h.2 k hk hlt
  have:k<w.heap.size:=by
   rcases Nat.lt_or_ge k w.heap.size with h'|h'
   ·exact h'
   ·rw[Array.getElem?_eq_none h',Array.getElem?_eq_getElem hlt] at h2
    cases h2
  exact(hb.block k this).trans h2⟩
 K_of_M:=fun h=>h.elim
 M_mono:=fun _ h=>h
 M_bound:=fun h=>h.elim
 M_move:=fun _ h=>h
 M_lower:=fun _ h=>h
theorem frK_new (w:World) {S ok:Nat→Prop} (h:∀ k,S k→ok k):Kd.F (frK w S) w ok (some ⟨0,0,none⟩) [()].length [()]:=fun W' hW=>
 ⟨rfl,by simp,fun _=>⟨_,rfl,fun j p hj=>⟨[],rfl,⟨rfl,fun k hk hlt=>hW k (h k hk) hlt⟩,fun i u hu=>by simp at hu⟩⟩⟩
theorem frK_out {w W:World} {S ok:Nat→Prop} {A:Option Addr} {n:Nat} (h:Kd.F (frK w S) W ok A n [()]):∀ k,S k→k<w.heap.size→W.heap[k]? =w.heap[k]? :=by
 have h1:=Kd.F_now h
 have hn:0<n:=by have:=h1.1;simp at this;omega
 obtain⟨ad,_,hc⟩:=h1.2.2 hn
 obtain⟨c,_,hK,_⟩:=hc 0 () rfl
 exact hK.2
section
open Go.Proofs.YtcokpnajkkjclaaW.PrintWords.Kd
variable {α : Type} {d : Kd α} {e base n g g2 : Nat} {ok : Nat → Prop} {W w1 : World} {v u : Value} {A : Option Addr} {xs : List α} {o : Obj}
theorem N_only {α :Type} {enc: α →Value} {h1:∀ x,(enc x).oneCell'=true} {xs:List α} (h:N (scalar enc h1) e W base ok v xs):N (scalar enc h1) e W base (fun k=>some k=v.ownBlock) v xs:=N_of_own (own_of_N h) (fun k hk=>hk.symm)
end
/-! ### unsafe.String of a row of the call's own -/
section
variable {P : Program} (w : World)
end
end Go.Proofs.Ytcokpnajkkjclaa.MB
