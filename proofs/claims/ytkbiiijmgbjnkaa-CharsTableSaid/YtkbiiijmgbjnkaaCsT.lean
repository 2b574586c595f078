import Derived.Test.YtkbiiijmgbjnkaaPuEv
import Derived.Test.YtkbiiijmgbjnkaaPuB
import Derived.Test.YtkbiiijmgbjnkaaGM4
/- Plain law of CharsTable: the table is the document's, and in it each number has its kind. -/
namespace Go.Proofs.Ytkbiiijmgbjnkaa.Cs
open Go Go.RowKit Go.Proofs.Ytkbiiijmgbjnkaa.GA Go.Proofs.Ytkbiiijmgbjnkaa.PuE Go.Proofs.Ytkbiiijmgbjnkaa.PuB Go.Proofs.YtkbiiijmgbjnkaaW.PrintWords Go.Proofs.YtkbiiijmgbjnkaaW.PrintLast Go.Proofs.YtkbiiijmgbjnkaaW.PrintMore
set_option linter.unusedVariables false
set_option linter.unusedSimpArgs false
def A (l:List S38) (i:Nat):S38:=rd_T38 l (i:Int)
theorem rdA (l:List S38) (i:Nat):rd_T38 l (i:Int)=A l i:=rfl
def beqS (x y:S38):Bool:=x.f0==y.f0 && (x.f1==y.f1 && x.f2==y.f2)
def beqL:List S38→List S38→Bool
 |[],[]=>true
 |x::s,y::t=>beqS x y && beqL s t
 |_,_=>false
theorem beqS_eq (x y:S38) (h:beqS x y=true):x=y:=by
 cases x;cases y
 simp[beqS] at h
 simp[h]
theorem beqL_eq:∀ (s t:List S38),beqL s t=true→s=t
 |[],[],_=>rfl
 |x::s,y::t,h=>by
  simp only[beqL,Bool.and_eq_true] at h
  rw[beqS_eq x y h.1,beqL_eq s t h.2]
 |[],y::t,h=>by simp[beqL] at h
 |x::s,[],h=>by simp[beqL] at h
def isR (o:Option (List S38)):Bool:=match o with|some t=>beqL t R|none=>false
theorem isR_eq (o:Option (List S38)) (h:isR o=true):o=some R:=by
 cases o with
 |none=>simp[isR] at h
 |some t=>exact congrArg some (beqL_eq t R h)
theorem table:Evt (fun k=>chars_Table.f k) R:=Evt.mono_ (k:=1500) chars_Table.mono (isR_eq _ (by decide+kernel))
theorem awake:Evt (fun k=>toponymlaw03_awake.f k) true:=Evt.mono_ (k:=20) toponymlaw03_awake.mono (by decide+kernel)
theorem drop_A (l:List S38) (i:Nat) (h:i<l.length):l.drop i=A l i::l.drop (i+1):=by
 rw[List.drop_eq_getElem_cons h]
 unfold A rd_T38
 rw[Int.toNat_natCast,List.getD_eq_getElem?_getD,List.getElem?_eq_getElem h]
 rfl
theorem reps2:∀ x ∈ (-1)::B,knd x=PuB.look R x:=by decide+kernel
theorem knd_look (r:Int):knd r=PuB.look R r:=by
 rw[knd_rep r,look_inv (rep_le r) R R_ends]
 exact reps2 _ (rep_mem r)
theorem ref_table:Evt (fun k=>toponymref03_Table.f k) R:=Evt.mono_ (k:=300) toponymref03_Table.mono (isR_eq _ (by decide+kernel))
theorem ref_check:Evt (fun k=>toponymref02_Check.f k R) 0:=Evt.mono_ (k:=150) (fun k=>toponymref02_Check.mono _ k) (by decide+kernel)
theorem same_R:Evt (fun k=>toponymref02_Same.f k R R) true:=Evt.mono_ (k:=150) (fun k=>toponymref02_Same.mono _ _ k) (by decide+kernel)
theorem find_l0 (r:Int):∀ m (i:Nat),m=R.length - i→i≤R.length→Evt (fun k=>toponymref02_Find.l0 k i r R) (PuB.look (R.drop i) r):=by
 have hR:=R_len
 intro m
 induction m with
 |zero=>
  intro i hm hi
  have e:R.drop i=[]:=List.drop_eq_nil_of_le (by omega)
  rw[e]
  refine Evt.step ?_
  simp only[toponymref02_Find.l0,PuB.look]
  exact Evt.ifn (by omega) (Evt.now _)
 |succ m ih=>
  intro i hm hi
  have e1:wrap64 ((i:Int)+1)=((i+1:Nat):Int):=by rw[w64 _ (by omega)];omega
  have hgo:=ih (i+1) (by omega) (by omega)
  refine Evt.step ?_
  simp only[toponymref02_Find.l0,rdA,e1]
  rw[drop_A R i (by omega)]
  unfold PuB.look
  refine Evt.ifp (by omega) (Evt.bind ref_check (Evt.ifp rfl (Evt.ifp (by omega) ?_)))
  by_cases h0:(A R i).f0≤r
  ·rw[if_pos h0]
   by_cases h1:r≤(A R i).f1
   ·rw[if_pos h1]
    exact Evt.ifp h0 (Evt.ifp h1 (Evt.now _))
   ·rw[if_neg h1]
    exact Evt.ifp h0 (Evt.ifn h1 hgo)
  ·rw[if_neg h0]
   exact Evt.ifn h0 hgo
theorem find_R (r:Int):Evt (fun k=>toponymref02_Find.f k R r) (knd r):=by
 unfold toponymref02_Find.f
 rw[knd_look]
 exact find_l0 r _ 0 rfl (by omega)
theorem charsTable (r:Int) {p0:Prop} (_:p0):∃ k,toponymlaw03_CharsTable.f k r=some true:=by
 refine Evt.get (f:=fun k=>toponymlaw03_CharsTable.f k r) ?_
 unfold toponymlaw03_CharsTable.f
 have haw:Evt (fun k=>(toponymlaw03_awake.f k).bind fun t=>some t) true:=Evt.bind awake (Evt.now _)
 refine Evt.bind table (Evt.bind ref_table (Evt.bind same_R (Evt.ifp rfl ?_)))
 exact Evt.bind (find_R r) (Evt.bind (Evt.of_all fun k=>kind_some r) (Evt.ifp rfl haw))
end Go.Proofs.Ytkbiiijmgbjnkaa.Cs
