import Derived.Test.YtcjafemnkhifmaaPxB
import Derived.Test.YtcjafemnkhifmaaGM2
import Derived.Test.YtcjafemnkhifmaaGM1
import Derived.Test.YtcjafemnkhifmaaGAF12
import Derived.Test.YtcjafemnkhifmaaGM1
import Derived.Test.YtcjafemnkhifmaaGM2
import Derived.Test.YtcjafemnkhifmaaGM1
import Derived.Test.YtcjafemnkhifmaaGM2
import Derived.Test.YtcjafemnkhifmaaGAF21
import Derived.Test.YtcjafemnkhifmaaGAF22
import Derived.Test.YtcjafemnkhifmaaGM1
import Derived.Test.YtcjafemnkhifmaaGM1
import Derived.Test.YtcjafemnkhifmaaGM1
/- Plain laws of types: what may be, lines, what lies below. -/
namespace Go.Proofs.Ytcjafemnkhifmaa.PxC
open Go Go.RowKit Go.Proofs.Ytcjafemnkhifmaa.GA Go.Proofs.Ytcjafemnkhifmaa.PuE Go.Proofs.Ytcjafemnkhifmaa.PxA Go.Proofs.Ytcjafemnkhifmaa.PxB Go.Proofs.YtcjafemnkhifmaaW.PrintWords Go.Proofs.YtcjafemnkhifmaaW.PrintLast Go.Proofs.YtcjafemnkhifmaaW.PrintMore
set_option linter.unusedVariables false
set_option linter.unusedSimpArgs false
/-! ### what may be -/
def OKL (L:List S26):Prop:=L.length≤24∧Ris' L∧∀ x ∈ L,gd x=true∧okU' L (L.length+1) x=true
theorem OKL.good {L:List S26} (h:OKL L):PxA.Good S26.f0 S26.f1 S26.f2 L:=PxA.Good.of h.2.1 gd gd_empty h.2.2
theorem ris_snoc {p:List S26} {y z:S26} (h:Ris' (p++[y])) (hl:lt y.f0 z.f0):Ris' (p++[y]++[z]):=by
 refine List.pairwise_append.2 ⟨h,List.pairwise_singleton _ _,fun a ha b hb=>?_⟩
 rw[List.mem_singleton.1 hb]
 rcases List.mem_append.1 ha with ha|ha
 ·exact lt_trans ((List.pairwise_append.1 h).2.2 a ha y (by simp)) hl
 ·rw[List.mem_singleton.1 ha];exact hl
theorem ris_sub {p r:List S26} (h:Ris' (p++r)):Ris' p:=(List.pairwise_append.1 h).1
theorem ris_two {p:List S26} {y z:S26} {r:List S26} (h:Ris' (p++y::z::r)):lt y.f0 z.f0:=(List.pairwise_cons.1 (List.pairwise_append.1 h).2.1).1 z (by simp)
def A (L:List S26) (x:S26):Prop:=gd x=true∧okS' L x=true∧(ln' L x.f0).length≤L.length
theorem chk_l1 (L:List S26) (hL:L.length≤40) (hr:Ris' L):∀ (r p:List S26),L=p++r→((∀ x ∈ r,A L x)→Evt (fun k=>attrs_Check.l1 k (p.length:Int) L) 0)∧(¬ (∀ x ∈ r,A L x)→Evt (fun k=>attrs_Check.l1 k (p.length:Int) L) 190)
 |[],p,hp=>by
  refine⟨fun _=>?_,fun h=>absurd (by simp) h⟩
  refine Evt.step ?_
  have hc: ¬ ((p.length:Int)<(L.length:Int)):=by rw[hp];exact nlt_end p
  simp only[attrs_Check.l1,if_neg hc]
  exact Evt.now _
 |y::r,p,hp=>by
  have ih:=chk_l1 L hL hr r (p++[y]) (by rw[hp];simp)
  have hc:(p.length:Int)<(L.length:Int):=by rw[hp];exact lt_mid p y r
  have hrd:rd_T26 L (p.length:Int)=y:=by rw[hp];exact rdt p y r
  have hnx:wrap64 ((p.length:Int)+1)=((p++[y]).length:Int):=next_len p y r (by rw[← hp];omega)
  have hlen:(ln' L y.f0).length≤L.length+1:=up_len L _ _
  have go:∀ v:Int,(∀ (h:gd y=true∧okS' L y=true),(if attrs_up.cnt (ln' L y.f0).length 0>(L.length:Int) then v=190 else Evt (fun k=>attrs_Check.l1 k ((p++[y]).length:Int) L) v))→(¬ (gd y=true∧okS' L y=true)→v=190)→Evt (fun k=>attrs_Check.l1 k (p.length:Int) L) v:=by
   intro v h1 h2
   refine Evt.step ?_
   simp only[attrs_Check.l1,if_pos hc,if_pos (Int.natCast_nonneg p.length),hrd,hnx]
   refine Evt.bind (sane_ev L hL hr y) ?_
   by_cases hs:gd y=true∧okS' L y=true
   ·refine Evt.ifp (by rw[hs.1,hs.2];rfl) ?_
    refine Evt.bind (seq0_ev L hL hr y.f0) ?_
    have h3:=h1 hs
    by_cases hcn:attrs_up.cnt (ln' L y.f0).length 0>(L.length:Int)
    ·rw[if_pos hcn] at h3
     exact Evt.ifp hcn ((Evt.now _).val h3.symm)
    ·rw[if_neg hcn] at h3
     exact Evt.ifn hcn h3
   ·refine Evt.ifn (fun h=>hs (by simpa using h)) ((Evt.now _).val (h2 hs).symm)
  have hcnt:attrs_up.cnt (ln' L y.f0).length 0>(L.length:Int)↔ ¬ (ln' L y.f0).length≤L.length:=by rw[cnt_eq _ (by omega)];omega
  refine⟨fun h=>go 0 (fun hs=>?_) (fun hs=>absurd ⟨(h y (by simp)).1,(h y (by simp)).2.1⟩ hs),fun h=>go 190 (fun hs=>?_) (fun _=>rfl)⟩
  ·rw[if_neg (fun hh=>hcnt.1 hh (h y (by simp)).2.2)]
   exact ih.1 (fun x hx=>h x (by simp[hx]))
  ·split
   ·rfl
   ·rename_i hn
    exact ih.2 (fun hr'=>h (fun x hx=>by
     rcases List.mem_cons.1 hx with e|hx
     ·rw[e];exact⟨hs.1,hs.2,by have:=(not_congr hcnt).1 hn;omega⟩
     ·exact hr' x hx))
theorem chk_l0 (L:List S26) (hL:L.length≤40) (v:Int) (hg:Ris' L→Evt (fun k=>attrs_Check.l1 k 0 L) v) (hb: ¬ Ris' L→v=190):∀ (r p:List S26) (y:S26),L=p++y::r→Ris' (p++[y])→Evt (fun k=>attrs_Check.l0 k (((p++[y]).length:Nat):Int) L) v
 |[],p,y,hp,hr=>by
  refine Evt.step ?_
  have hc: ¬ ((((p++[y]).length:Nat):Int)<(L.length:Int)):=by rw[hp];simp
  simp only[attrs_Check.l0,if_neg hc]
  exact hg (by rw[hp];exact hr)
 |z::r,p,y,hp,hr=>by
  have hp2:L=(p++[y])++z::r:=by rw[hp];simp
  have hc:(((p++[y]).length:Nat):Int)<(L.length:Int):=by rw[hp2];exact lt_mid _ z r
  have hw:wrap64 ((((p++[y]).length:Nat):Int) - 1)=(p.length:Int):=by
   have:L.length=p.length+r.length+2:=by rw[hp];simp;omega
   rw[w64 _ (by simp;omega)];simp
  have hc1:(p.length:Int)<(L.length:Int):=by rw[hp];exact lt_mid p y _
  have hr1:rd_T26 L (p.length:Int)=y:=by rw[hp];exact rdt p y _
  have hr2:rd_T26 L (((p++[y]).length:Nat):Int)=z:=by rw[hp2];exact rdt _ z r
  have hnx:wrap64 ((((p++[y]).length:Nat):Int)+1)=((((p++[y])++[z]).length:Nat):Int):=next_len (p++[y]) z r (by rw[← hp2];omega)
  refine Evt.step ?_
  simp only[attrs_Check.l0,if_pos hc,hw,if_pos (Int.natCast_nonneg p.length),if_pos hc1,if_pos (Int.natCast_nonneg (p++[y]).length),hr1,hr2,hnx]
  by_cases hl:lt y.f0 z.f0
  ·exact Evt.ifp hl (chk_l0 L hL v hg hb r (p++[y]) z hp2 (ris_snoc hr hl))
  ·exact Evt.ifn hl ((Evt.now _).val (hb (fun h=>hl (ris_two (by rw[hp] at h;exact h)))).symm)
theorem chk_ev (L:List S26) (hL:L.length≤40):(OKL L→Evt (fun k=>attrs_Check.f k L) 0)∧(¬ OKL L→Evt (fun k=>attrs_Check.f k L) 190):=by
 have iff (hr:Ris' L):(∀ x ∈ L,A L x)↔(∀ x ∈ L,gd x=true∧okU' L (L.length+1) x=true):=ok_iff hr gd gd_empty
 have go:∀ v:Int,(L.length≤24→Ris' L→Evt (fun k=>attrs_Check.l1 k 0 L) v)→(L.length≤24→ ¬ Ris' L→v=190)→(¬ L.length≤24→v=190)→Evt (fun k=>attrs_Check.f k L) v:=by
  intro v h1 h2 h3
  by_cases hc:(L.length:Int)>24
  ·exact Evt.ifp hc ((Evt.now _).val (h3 (by omega)).symm)
  ·refine Evt.ifn hc ?_
   have h24:L.length≤24:=by omega
   cases hLe:L with
   |nil=>
    rw[hLe] at h1
    refine Evt.step ?_
    simp only[attrs_Check.l0,List.length_nil]
    exact Evt.ifn (by decide) (h1 (by simp) List.Pairwise.nil)
   |cons y r=>exact hLe ▸ chk_l0 L hL v (h1 h24) (h2 h24) r [] y (by simpa using hLe) (List.pairwise_singleton _ _)
 refine⟨fun h=>go 0 (fun _ hr=>(chk_l1 L hL hr L [] rfl).1 ((iff hr).2 h.2.2)) (fun _ hn=>absurd h.2.1 hn) (fun hn=>absurd h.1 hn),fun h=>go 190 (fun h24 hr=>(chk_l1 L hL hr L [] rfl).2 (fun hA=>h ⟨h24,hr,(iff hr).1 hA⟩)) (fun _ _=>rfl) (fun _=>rfl)⟩
theorem ref_l0 (L:List S26) (hL:L.length≤40) (v:Int) (hg:Ris' L→(∀ x ∈ L,gd x=true∧okU' L (L.length+1) x=true)→v=0) (hb: ¬ (Ris' L∧(∀ x ∈ L,gd x=true∧okU' L (L.length+1) x=true))→v=190):
  ∀ (r p:List S26),L=p++r→Ris' p→(∀ x ∈ p,gd x=true∧okU' L (L.length+1) x=true)→Evt (fun k=>toponymref20_Check.l0 k (p.length:Int) L) v
 |[],p,hp,hr,ho=>by
  refine Evt.step ?_
  have hc: ¬ ((p.length:Int)<(L.length:Int)):=by rw[hp];exact nlt_end p
  simp only[toponymref20_Check.l0,if_neg hc]
  have:L=p:=by rw[hp];simp
  exact(Evt.now _).val (hg (by rw[this];exact hr) (fun x hx=>ho x (by rw[this] at hx;exact hx))).symm
 |z::r,p,hp,hr,ho=>by
  have hc:(p.length:Int)<(L.length:Int):=by rw[hp];exact lt_mid p z r
  have hrd:rd_T26 L (p.length:Int)=z:=by rw[hp];exact rdt p z r
  have hnx:wrap64 ((p.length:Int)+1)=((p++[z]).length:Int):=next_len p z r (by rw[← hp];omega)
  have hmem:z ∈ L:=by rw[hp];simp
  refine Evt.step ?_
  simp only[toponymref20_Check.l0,if_pos hc,if_pos (Int.natCast_nonneg p.length),hrd,hnx]
  refine Evt.bind (one_ev L hL z) ?_
  by_cases ho1:gd z=true∧okU' L (L.length+1) z=true
  ·refine Evt.ifp (by rw[ho1.1,ho1.2];rfl) ?_
   have ho2:∀ x ∈ p++[z],gd x=true∧okU' L (L.length+1) x=true:=fun x hx=>by
    rcases List.mem_append.1 hx with hx|hx
    ·exact ho x hx
    ·rw[List.mem_singleton.1 hx];exact ho1
   rcases List.eq_nil_or_concat p with e|⟨q,y,e⟩
   ·subst e
    exact Evt.ifn (by simp) (ref_l0 L hL v hg hb r [z] hp (List.pairwise_singleton _ _) ho2)
   ·rw[List.concat_eq_append] at e
    have hw:wrap64 ((p.length:Int) - 1)=(q.length:Int):=by
     have:p.length=q.length+1:=by rw[e];simp
     rw[w64 _ (by omega)];omega
    have hc1:(q.length:Int)<(L.length:Int):=by rw[e] at hc;simp at hc;omega
    have hr1:rd_T26 L (q.length:Int)=y:=by rw[hp,e,List.append_assoc];exact rdt q y _
    rw[hw,hr1]
    refine Evt.ifp (by rw[e];simp only[List.length_append,List.length_singleton];omega) (Evt.ifp (by omega) (Evt.ifp hc1 ?_))
    by_cases hl:lt y.f0 z.f0
    ·exact Evt.ifp hl (ref_l0 L hL v hg hb r (p++[z]) (by rw[hp];simp) (by rw[e];exact ris_snoc (by rw[← e];exact hr) hl) ho2)
    ·refine Evt.ifn hl ((Evt.now _).val (hb (fun h=>hl ?_)).symm)
     have h1:=h.1
     rw[hp,e,List.append_assoc] at h1
     exact ris_two h1
  ·exact Evt.ifn (fun h=>ho1 (by simpa using h)) ((Evt.now _).val (hb (fun h=>ho1 (h.2 z hmem))).symm)
theorem refc_ev (L:List S26) (hL:L.length≤40):(OKL L→Evt (fun k=>toponymref20_Check.f k L) 0)∧(¬ OKL L→Evt (fun k=>toponymref20_Check.f k L) 190):=by
 refine⟨fun h=>?_,fun h=>?_⟩
 ·refine Evt.ifn (by have:=h.1;omega) ?_
  exact ref_l0 L hL 0 (fun _ _=>rfl) (fun hn=>absurd h.2 hn) L [] rfl List.Pairwise.nil (fun x hx=>by simp at hx)
 ·by_cases hc:(L.length:Int)>24
  ·exact Evt.ifp hc (Evt.now _)
  ·refine Evt.ifn hc ?_
   exact ref_l0 L hL 190 (fun hr ho=>absurd ⟨by omega,hr,ho⟩ h) (fun _=>rfl) L [] rfl List.Pairwise.nil (fun x hx=>by simp at hx)
/-! ### what is found -/
theorem Find_ev (L:List S26) (hL:L.length≤40) (a:ByteArray):(OKL L→Evt (fun k=>attrs_Find.f k L a) (fv (at' a L)))∧(¬ OKL L→Evt (fun k=>attrs_Find.f k L a) (fv none)):=by
 refine⟨fun h=>?_,fun h=>?_⟩
 ·refine Evt.bind ((chk_ev L hL).1 h) (Evt.ifp rfl ?_)
  exact Evt.bind (find_ev L a hL h.2.1) (Evt.now _)
 ·exact Evt.bind ((chk_ev L hL).2 h) (Evt.ifn (by decide) (Evt.now _))
theorem refF_ev (L:List S26) (hL:L.length≤40) (a:ByteArray):(OKL L→Evt (fun k=>toponymref20_Find.f k L a) (fv (at' a L)))∧(¬ OKL L→Evt (fun k=>toponymref20_Find.f k L a) (fv none)):=by
 refine⟨fun h=>?_,fun h=>?_⟩
 ·refine Evt.bind (at_ev L a hL) (Evt.bind ((refc_ev L hL).1 h) (Evt.ifp rfl ?_))
  rcases ix_cases L a with⟨h1,h2⟩|⟨x,q,s,h1,h2,h3⟩
  ·rw[h1,h2];exact Evt.ifp (by decide) (Evt.now _)
  ·rw[h2,h3]
   have hl:(q.length:Int)<(L.length:Int):=by rw[h1];exact lt_mid q x s
   have hrd:rd_T26 L (q.length:Int)=x:=by rw[h1];exact rdt q x s
   rw[hrd]
   exact Evt.ifn (by omega) (Evt.ifp (by omega) (Evt.ifp hl (Evt.now _)))
 ·exact Evt.bind (at_ev L a hL) (Evt.bind ((refc_ev L hL).2 h) (Evt.ifn (by decide) (Evt.now _)))
/-! ### lines -/
theorem Line_ev (L:List S26) (hL:L.length≤40) (a:ByteArray):(OKL L→Evt (fun k=>attrs_Line.f k L a) ((ln' L a).map S26.f0))∧(¬ OKL L→Evt (fun k=>attrs_Line.f k L a) []):=by
 refine⟨fun h=>?_,fun h=>?_⟩
 ·exact Evt.bind ((chk_ev L hL).1 h) (Evt.ifp rfl (Evt.bind (line_ev L hL h.2.1 a) (Evt.now _)))
 ·exact Evt.bind ((chk_ev L hL).2 h) (Evt.ifn (by decide) (Evt.now _))
def has (l:List ByteArray) (a:ByteArray):Bool:=l.any fun s=>decide (s.toList=a.toList)
theorem has_iff {l:List ByteArray} {a:ByteArray}:has l a=true↔a ∈ l:=by
 unfold has
 simp only[List.any_eq_true,decide_eq_true_eq,tl_inj]
 exact⟨fun ⟨x,h,e⟩=>e ▸ h,fun h=>⟨a,h,rfl⟩⟩
theorem contains_ev (l:List ByteArray) (a:ByteArray) (hl:l.length≤1000):Evt (fun k=>slices_Contains_string_string.f k l a) (has l a):=by
 have key:∀ (r p:List ByteArray),l=p++r→∃ v:Int,(v≥0↔has r a=true)∧Evt (fun k=>slices_Index_string_string.l0 k (p.length:Int) a l) v:=by
  intro r
  induction r with
  |nil=>
   intro p hp
   refine⟨-1,by simp[has],Evt.step ?_⟩
   have hc: ¬ ((p.length:Int)<(l.length:Int)):=by rw[hp];exact nlt_end p
   simp only[slices_Index_string_string.l0,if_neg hc]
   exact Evt.now _
  |cons y r ih=>
   intro p hp
   have hc:(p.length:Int)<(l.length:Int):=by rw[hp];exact lt_mid p y r
   have hrd:rdOf ByteArray.empty l (p.length:Int)=y:=by rw[hp];exact rdO p y r
   have hnx:wrap64 ((p.length:Int)+1)=((p++[y]).length:Int):=next_len p y r (by rw[← hp];omega)
   obtain⟨v,h1,h2⟩:=ih (p++[y]) (by rw[hp];simp)
   by_cases hy:a.toList=y.toList
   ·refine⟨(p.length:Int),⟨fun _=>by simp[has,hy],fun _=>Int.natCast_nonneg _⟩,Evt.step ?_⟩
    simp only[slices_Index_string_string.l0,if_pos hc,if_pos (Int.natCast_nonneg p.length),hrd]
    exact Evt.ifp hy (Evt.now _)
   ·refine⟨v,by rw[h1];unfold has;rw[List.any_cons,decide_eq_false (fun h:y.toList=a.toList=>hy h.symm),Bool.false_or],Evt.step ?_⟩
    simp only[slices_Index_string_string.l0,if_pos hc,if_pos (Int.natCast_nonneg p.length),hrd,hnx]
    exact Evt.ifn hy h2
 obtain⟨v,h1,h2⟩:=key l [] rfl
 refine Evt.bind (f:=fun k=>slices_Index_string_string.f k l a) h2 ((Evt.now _).val ?_)
 cases hh:has l a with
 |true=>exact decide_eq_true (h1.2 hh)
 |false=>exact decide_eq_false (fun h=>by rw[h1.1 h] at hh;cases hh)
theorem is_ev (L:List S26) (hL:L.length≤40) (a b:ByteArray):(OKL L→Evt (fun k=>attrs_Is.f k L a b) (has ((ln' L a).map S26.f0) b))∧(¬ OKL L→Evt (fun k=>attrs_Is.f k L a b) false):=by
 have hlen:(ln' L a).length≤L.length+1:=up_len L _ _
 refine⟨fun h=>?_,fun h=>?_⟩
 ·exact Evt.bind ((Line_ev L hL a).1 h) (Evt.bind (contains_ev _ b (by rw[List.length_map];omega)) (Evt.now _))
 ·exact Evt.bind ((Line_ev L hL a).2 h) (Evt.bind (contains_ev _ b (by simp)) (Evt.now _))
theorem refL_l0 (L:List S26) (hL:L.length≤40):∀ (n:Nat) (acc:List ByteArray) (a:ByteArray),acc.length+n≤1000→(up' L n a).length<n→Evt (fun k=>toponymref20_Line.l0 k acc (ix a L 0) L) (acc++(up' L n a).map S26.f0)
 |0,acc,a,ha,h=>by omega
 |n+1,acc,a,ha,h=>by
  refine Evt.step ?_
  rcases ix_cases L a with⟨h1,h2⟩|⟨x,q,s,h1,h2,h3⟩
  ·rw[show up' L (n+1) a=[] from up_none h1 _,h2]
   simp only[toponymref20_Line.l0]
   exact Evt.ifn (by decide) ((Evt.now _).val (by simp))
  ·have hu:up' L (n+1) a=x::up' L n x.f1:=up_some h2 _
   rw[hu] at h ⊢
   rw[h3]
   have hl:(q.length:Int)<(L.length:Int):=by rw[h1];exact lt_mid q x s
   have hrd:rd_T26 L (q.length:Int)=x:=by rw[h1];exact rdt q x s
   simp only[toponymref20_Line.l0,hrd,Option.bind_some]
   refine Evt.ifp (by omega) (Evt.ifp (by omega) (Evt.ifp hl (Evt.ifp (by omega) ?_)))
   refine Evt.bind (at_ev L x.f1 hL) ?_
   have:=refL_l0 L hL n (acc++[x.f0]) x.f1 (by simp;omega) (by simpa using h)
   simpa using this
theorem refL_ev (L:List S26) (hL:L.length≤40) (a:ByteArray):(OKL L→Evt (fun k=>toponymref20_Line.f k L a) ((ln' L a).map S26.f0))∧(¬ OKL L→Evt (fun k=>toponymref20_Line.f k L a) []):=by
 refine⟨fun h=>?_,fun h=>?_⟩
 ·refine Evt.bind ((refc_ev L hL).1 h) (Evt.ifp rfl (Evt.bind (at_ev L a hL) ?_))
  have hg:=h.good
  exact refL_l0 L hL (L.length+1) [] a (by simp;omega) (by have:=hg.fin a (L.length+1);show(up S26.f0 S26.f1 L _ a).length<_;omega)
 ·exact Evt.bind ((refc_ev L hL).2 h) (Evt.ifn (by decide) (Evt.now _))
theorem refI_ev (L:List S26) (hL:L.length≤40) (a b:ByteArray):(OKL L→Evt (fun k=>toponymref20_Is.f k L a b) (has ((ln' L a).map S26.f0) b))∧(¬ OKL L→Evt (fun k=>toponymref20_Is.f k L a b) false):=by
 have hlen:(ln' L a).length≤L.length+1:=up_len L _ _
 have key:∀ (l:List ByteArray),l.length≤1000→∀ (r p:List ByteArray),l=p++r→Evt (fun k=>toponymref20_Is.l0 k (p.length:Int) b l) (has r b):=by
  intro l hl r
  induction r with
  |nil=>
   intro p hp
   refine Evt.step ?_
   have hc: ¬ ((p.length:Int)<(l.length:Int)):=by rw[hp];exact nlt_end p
   simp only[toponymref20_Is.l0,if_neg hc]
   exact Evt.now _
  |cons y r ih=>
   intro p hp
   have hc:(p.length:Int)<(l.length:Int):=by rw[hp];exact lt_mid p y r
   have hrd:rdOf ByteArray.empty l (p.length:Int)=y:=by rw[hp];exact rdO p y r
   have hnx:wrap64 ((p.length:Int)+1)=((p++[y]).length:Int):=next_len p y r (by rw[← hp];omega)
   refine Evt.step ?_
   simp only[toponymref20_Is.l0,if_pos hc,if_pos (Int.natCast_nonneg p.length),hrd,hnx]
   by_cases hy:y.toList=b.toList
   ·exact Evt.ifp hy ((Evt.now _).val (by simp[has,hy]))
   ·exact Evt.ifn hy ((ih (p++[y]) (by rw[hp];simp)).val (by simp[has,hy]))
 refine⟨fun h=>?_,fun h=>?_⟩
 ·exact Evt.bind ((refL_ev L hL a).1 h) (key _ (by rw[List.length_map];omega) _ [] rfl)
 ·exact Evt.bind ((refL_ev L hL a).2 h) (key _ (by simp) _ [] rfl)
/-! ### what lies below -/
def bw (L:List S26) (names:List ByteArray) (x:S26):Bool:=((ln' L x.f0).map S26.f0).any fun s=>has names s
def below (L:List S26) (names:List ByteArray):List ByteArray:=(L.filter (bw L names)).map S26.f0
theorem below_l0 (L:List S26) (hL:L.length≤40) (hr:Ris' L) (names:List ByteArray) (hn:names.length≤1000):∀ (r p:List S26) (acc:List ByteArray),L=p++r→acc.length≤p.length→Evt (fun k=>attrs_Below.l0 k acc (p.length:Int) L names) (acc++(r.filter (bw L names)).map S26.f0)
 |[],p,acc,hp,ha=>by
  refine Evt.step ?_
  have hc: ¬ ((p.length:Int)<(L.length:Int)):=by rw[hp];exact nlt_end p
  simp only[attrs_Below.l0,if_neg hc]
  exact(Evt.now _).val (by simp)
 |y::r,p,acc,hp,ha=>by
  have hc:(p.length:Int)<(L.length:Int):=by rw[hp];exact lt_mid p y r
  have hrd:rd_T26 L (p.length:Int)=y:=by rw[hp];exact rdt p y r
  have hnx:wrap64 ((p.length:Int)+1)=((p++[y]).length:Int):=next_len p y r (by rw[← hp];omega)
  have ih:=fun acc' (h:acc'.length≤(p++[y]).length)=>below_l0 L hL hr names hn r (p++[y]) acc' (by rw[hp];simp) h
  have hlen:(ln' L y.f0).length≤L.length+1:=up_len L _ _
  refine Evt.step ?_
  simp only[attrs_Below.l0,if_pos hc,if_pos (Int.natCast_nonneg p.length),hrd]
  refine Evt.bind (line_ev L hL hr y.f0) ?_
  have key:∀ (l:List ByteArray),l.length≤1000→∀ (s q:List ByteArray),l=q++s→Evt (fun k=>attrs_Below.l1 k (q.length:Int) L names l acc (p.length:Int)) (if s.any (fun s=>has names s)=true then acc++[y.f0]++(r.filter (bw L names)).map S26.f0 else acc++(r.filter (bw L names)).map S26.f0):=by
   intro l hl s
   induction s with
   |nil=>
    intro q hq
    refine Evt.step ?_
    have hc2: ¬ ((q.length:Int)<(l.length:Int)):=by rw[hq];exact nlt_end q
    simp only[attrs_Below.l1,if_neg hc2,hnx]
    exact(ih acc (by simp;omega)).val (by simp)
   |cons z s ih2=>
    intro q hq
    have hc2:(q.length:Int)<(l.length:Int):=by rw[hq];exact lt_mid q z s
    have hrd2:rdOf ByteArray.empty l (q.length:Int)=z:=by rw[hq];exact rdO q z s
    have hnx2:wrap64 ((q.length:Int)+1)=((q++[z]).length:Int):=next_len q z s (by rw[← hq];omega)
    refine Evt.step ?_
    have hpL:p.length≤L.length:=by rw[hp];simp
    have ha2:acc.length<8796093022208:=by omega
    simp only[attrs_Below.l1,if_pos hc2,if_pos (Int.natCast_nonneg q.length),hrd2,hnx2,hnx,hrd,if_pos ha2,Option.bind_some]
    refine Evt.bind (contains_ev names z hn) ?_
    by_cases hz:has names z=true
    ·exact Evt.ifp hz ((ih (acc++[y.f0]) (by simp;omega)).val (by simp[hz]))
    ·exact Evt.ifn hz ((ih2 (q++[z]) (by rw[hq];simp)).val (by simp[hz]))
  refine(key ((ln' L y.f0).map S26.f0) (by rw[List.length_map];omega) _ [] rfl).val ?_
  by_cases hb:bw L names y=true
  ·have hb2:((ln' L y.f0).map S26.f0).any (fun s=>has names s)=true:=hb
   rw[if_pos hb2,List.filter_cons_of_pos hb];simp
  ·have hb2: ¬ ((ln' L y.f0).map S26.f0).any (fun s=>has names s)=true:=hb
   rw[if_neg hb2,List.filter_cons_of_neg hb]
theorem Below_ev (L:List S26) (hL:L.length≤40) (names:List ByteArray) (hn:names.length≤1000):(OKL L→Evt (fun k=>attrs_Below.f k L names) (below L names))∧(¬ OKL L→Evt (fun k=>attrs_Below.f k L names) []):=by
 refine⟨fun h=>?_,fun h=>?_⟩
 ·refine Evt.bind ((chk_ev L hL).1 h) (Evt.ifp rfl ?_)
  exact below_l0 L hL h.2.1 names hn L [] [] rfl (Nat.le_refl _)
 ·exact Evt.bind ((chk_ev L hL).2 h) (Evt.ifn (by decide) (Evt.now _))
theorem refB_l0 (L:List S26) (hL:L.length≤40) (names:List ByteArray) (hn:names.length≤1000) (c:S26→Bool) (d:S26→ByteArray→Bool) (hd:∀ x ∈ L,∀ b,Evt (fun k=>toponymref20_Is.f k L x.f0 b) (d x b)) (hc:∀ x ∈ L,c x=names.any (d x)):
  ∀ (r p:List S26) (acc:List ByteArray),L=p++r→acc.length≤p.length→Evt (fun k=>toponymref20_Below.l0 k acc (p.length:Int) L names) (acc++(r.filter c).map S26.f0)
 |[],p,acc,hp,ha=>by
  refine Evt.step ?_
  have hc: ¬ ((p.length:Int)<(L.length:Int)):=by rw[hp];exact nlt_end p
  simp only[toponymref20_Below.l0,if_neg hc]
  exact(Evt.now _).val (by simp)
 |y::r,p,acc,hp,ha=>by
  have hcc:(p.length:Int)<(L.length:Int):=by rw[hp];exact lt_mid p y r
  have hrd:rd_T26 L (p.length:Int)=y:=by rw[hp];exact rdt p y r
  have hnx:wrap64 ((p.length:Int)+1)=((p++[y]).length:Int):=next_len p y r (by rw[← hp];omega)
  have hmem:y ∈ L:=by rw[hp];simp
  have ih:=fun acc' (h:acc'.length≤(p++[y]).length)=>refB_l0 L hL names hn c d hd hc r (p++[y]) acc' (by rw[hp];simp) h
  refine Evt.step ?_
  simp only[toponymref20_Below.l0,if_pos hcc]
  have hpL:p.length≤L.length:=by rw[hp];simp
  have ha2:acc.length<8796093022208:=by omega
  have key:∀ (s q:List ByteArray) (m:Bool),names=q++s→Evt (fun k=>toponymref20_Below.l1 k m (q.length:Int) L names acc (p.length:Int)) (if (m || s.any (d y))=true then acc++[y.f0]++(r.filter c).map S26.f0 else acc++(r.filter c).map S26.f0):=by
   intro s
   induction s with
   |nil=>
    intro q m hq
    refine Evt.step ?_
    have hc2: ¬ ((q.length:Int)<(names.length:Int)):=by rw[hq];exact nlt_end q
    simp only[toponymref20_Below.l1,if_neg hc2,hnx,if_pos (Int.natCast_nonneg p.length),if_pos hcc,hrd,if_pos ha2,Option.bind_some]
    cases m with
    |true=>exact Evt.ifp rfl ((ih (acc++[y.f0]) (by simp;omega)).val (by simp))
    |false=>exact Evt.ifn (by simp) ((ih acc (by simp;omega)).val (by simp))
   |cons z s ih2=>
    intro q m hq
    have hc2:(q.length:Int)<(names.length:Int):=by rw[hq];exact lt_mid q z s
    have hrd2:rdOf ByteArray.empty names (q.length:Int)=z:=by rw[hq];exact rdO q z s
    have hnx2:wrap64 ((q.length:Int)+1)=((q++[z]).length:Int):=next_len q z s (by rw[← hq];omega)
    refine Evt.step ?_
    simp only[toponymref20_Below.l1,if_pos hc2,if_pos (Int.natCast_nonneg q.length),hrd2,hnx2,if_pos (Int.natCast_nonneg p.length),if_pos hcc,hrd]
    cases m with
    |true=>exact Evt.ifp rfl ((ih2 (q++[z]) true (by rw[hq];simp)).val (by simp))
    |false=>
     refine Evt.ifn (by simp) (Evt.bind (hd y hmem z) ?_)
     exact(ih2 (q++[z]) (d y z) (by rw[hq];simp)).val (by simp)
  refine(key names [] false rfl).val ?_
  have hcy:=hc y hmem
  by_cases hb:c y=true
  ·rw[if_pos (by rw[Bool.false_or,← hcy];exact hb),List.filter_cons_of_pos hb];simp
  ·rw[if_neg (by rw[Bool.false_or,← hcy];exact hb),List.filter_cons_of_neg hb]
theorem bw_swap (L:List S26) (names:List ByteArray) (x:S26):bw L names x=names.any (fun b=>has ((ln' L x.f0).map S26.f0) b):=by
 rw[Bool.eq_iff_iff]
 unfold bw
 simp only[List.any_eq_true,has_iff]
 exact⟨fun ⟨s,h1,h2⟩=>⟨s,h2,h1⟩,fun ⟨s,h1,h2⟩=>⟨s,h2,h1⟩⟩
theorem refB_ev (L:List S26) (hL:L.length≤40) (names:List ByteArray) (hn:names.length≤1000):(OKL L→Evt (fun k=>toponymref20_Below.f k L names) (below L names))∧(¬ OKL L→Evt (fun k=>toponymref20_Below.f k L names) []):=by
 refine⟨fun h=>?_,fun h=>?_⟩
 ·exact refB_l0 L hL names hn (bw L names) (fun x b=>has ((ln' L x.f0).map S26.f0) b) (fun x _ b=>(refI_ev L hL x.f0 b).1 h) (fun x _=>bw_swap L names x) L [] [] rfl (Nat.le_refl _)
 ·refine(refB_l0 L hL names hn (fun _=>false) (fun _ _=>false) (fun x _ b=>(refI_ev L hL x.f0 b).2 h) (fun x _=>by simp) L [] [] rfl (Nat.le_refl _)).val ?_
  simp
end Go.Proofs.Ytcjafemnkhifmaa.PxC
