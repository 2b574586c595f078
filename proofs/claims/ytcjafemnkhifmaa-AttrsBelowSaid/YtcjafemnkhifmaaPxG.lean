import Derived.Test.YtcjafemnkhifmaaPxD
import Derived.Test.YtcjafemnkhifmaaGM2
/- Plain law of AttrsBelow. -/
namespace Go.Proofs.Ytcjafemnkhifmaa.PxG
open Go Go.RowKit Go.Proofs.Ytcjafemnkhifmaa.GA Go.Proofs.Ytcjafemnkhifmaa.PuE Go.Proofs.Ytcjafemnkhifmaa.PxA Go.Proofs.Ytcjafemnkhifmaa.PxB Go.Proofs.Ytcjafemnkhifmaa.PxC Go.Proofs.Ytcjafemnkhifmaa.PxD Go.Proofs.YtcjafemnkhifmaaW.PrintWords Go.Proofs.YtcjafemnkhifmaaW.PrintLast Go.Proofs.YtcjafemnkhifmaaW.PrintMore
set_option linter.unusedVariables false
set_option linter.unusedSimpArgs false
theorem attrsBelow (L:List S26) (a b:ByteArray) {p0 p1 p2:Prop} (_:p0) (_:p1) (_:p2):∃ k,toponymlaw20_AttrsBelow.f k L a b=some true:=by
 refine Evt.get (f:=fun k=>toponymlaw20_AttrsBelow.f k L a b) ?_
 obtain⟨c,hb,hf⟩:=few_ev L
 refine Evt.bind hf ?_
 cases c with
 |false=>exact Evt.ifn (by simp) (Evt.bind awake_ev (Evt.now _))
 |true=>
  refine Evt.ifp rfl ?_
  have hL:=hb rfl
  have key:∀ (l:List ByteArray) (v:Bool) (o:ByteArray × ByteArray × Int × Int × Bool × Bool × Bool),l.length≤1000→l.Pairwise lt→Evt (fun k=>attrs_Find.f k L b) o→Evt (fun k=>attrs_Is.f k L a b) v→(v=true↔a ∈ l)→o.2.2.2.2.2.2=decide ((l.length:Int)>0)→
    ∀ (r p:List ByteArray) (m:Bool),l=p++r→(m=true↔a ∈ p)→Evt (fun k=>toponymlaw20_AttrsBelow.l0 k m (p.length:Int) a b L l) true:=by
   intro l v o hl hp1 ho hv hva hoo r
   induction r with
   |nil=>
    intro p m hp hm
    refine Evt.step ?_
    have hc: ¬ ((p.length:Int)<(l.length:Int)):=by rw[hp];exact nlt_end p
    simp only[toponymlaw20_AttrsBelow.l0,if_neg hc]
    refine Evt.bind ho (Evt.bind hv ?_)
    have hmv:(m==v)=true:=by
     have:m=v:=by rw[Bool.eq_iff_iff,hm,hva,hp];simp
     rw[this];simp
    refine Evt.ifp hmv (Evt.ifp ?_ (Evt.bind awake_ev (Evt.now _)))
    rw[hoo];simp
   |cons y r ih=>
    intro p m hp hm
    have hc:(p.length:Int)<(l.length:Int):=by rw[hp];exact lt_mid p y r
    have hrd:rdOf ByteArray.empty l (p.length:Int)=y:=by rw[hp];exact rdO p y r
    have hnx:wrap64 ((p.length:Int)+1)=((p++[y]).length:Int):=next_len p y r (by rw[← hp];omega)
    have i1:=ih (p++[y]) true (by rw[hp];simp)
    have i2:=ih (p++[y]) (y.toList==a.toList) (by rw[hp];simp)
    have hprev: ¬ (p.length:Int)>0∨((p.length:Int)>0∧∃ i:Int,wrap64 ((p.length:Int) - 1)=i∧0≤i∧i<(l.length:Int)∧Op.bytesLess ((rdOf ByteArray.empty l i).toList) y.toList=true):=by
     rcases List.eq_nil_or_concat p with e|⟨q,z,e⟩
     ·left;rw[e];simp
     ·rw[List.concat_eq_append] at e
      have hql:p.length=q.length+1:=by rw[e];simp
      right
      refine⟨by omega,(q.length:Int),by rw[w64 _ (by omega)];omega,by omega,by omega,?_⟩
      have hz:rdOf ByteArray.empty l (q.length:Int)=z:=by rw[hp,e,List.append_assoc];exact rdO q z _
      rw[hz]
      rw[hp,e] at hp1
      exact(List.pairwise_append.1 hp1).2.2 z (by simp) y (by simp)
    refine Evt.step ?_
    simp only[toponymlaw20_AttrsBelow.l0,if_pos hc,if_pos (Int.natCast_nonneg p.length),hrd,hnx]
    cases m with
    |true=>
     have hmem:a ∈ p++[y]:=List.mem_append.2 (.inl (hm.1 rfl))
     refine Evt.ifp rfl ?_
     rcases hprev with h|⟨h,i,h1,h2,h3,h4⟩
     ·exact Evt.ifn h (i1 ⟨fun _=>hmem,fun _=>rfl⟩)
     ·rw[h1];exact Evt.ifp h (Evt.ifp h2 (Evt.ifp h3 (Evt.ifp h4 (i1 ⟨fun _=>hmem,fun _=>rfl⟩))))
    |false=>
     have hnm:a ∉ p:=fun h=>by have:=hm.2 h;cases this
     have i3:=i2 (by
      rw[beq_iff_eq,tl_inj]
      constructor
      ·intro e;rw[e];simp
      ·intro h;rcases List.mem_append.1 h with h|h
       ·exact absurd h hnm
       ·exact(List.mem_singleton.1 h).symm)
     refine Evt.ifn (by simp) ?_
     rcases hprev with h|⟨h,i,h1,h2,h3,h4⟩
     ·exact Evt.ifn h i3
     ·rw[h1];exact Evt.ifp h (Evt.ifp h2 (Evt.ifp h3 (Evt.ifp h4 i3)))
  by_cases h:OKL L
  ·refine Evt.bind ((Below_ev L hL [b] (by simp)).1 h) ?_
   have hg:=h.good
   have hlen:=List.length_filter_le (bw L [b]) L
   have hbw:∀ x:S26,bw L [b] x=true↔b ∈ (ln' L x.f0).map S26.f0:=fun x=>by
    rw[bw_swap];simp only[List.any_cons,List.any_nil,Bool.or_false,has_iff]
   refine key (below L [b]) _ _ (by unfold below;rw[List.length_map];omega) ?_ ((Find_ev L hL b).1 h) ((is_ev L hL a b).1 h) ?_ ?_ _ [] false rfl (by simp)
   ·exact List.pairwise_map.2 (List.Pairwise.filter _ h.2.1)
   ·rw[has_iff]
    unfold below
    constructor
    ·intro hm
     cases hx:at' a L with
     |none=>rw[show ln' L a=[] from ln_none hx] at hm;simp at hm
     |some x=>
      obtain⟨h1,h2⟩:=at_mem hx
      refine List.mem_map.2 ⟨x,List.mem_filter.2 ⟨h1,(hbw x).2 (by rw[h2];exact hm)⟩,h2⟩
    ·intro hm
     obtain⟨x,h1,h2⟩:=List.mem_map.1 hm
     have:=(hbw x).1 (List.mem_filter.1 h1).2
     rw[h2] at this;exact this
   ·have hpos:(((below L [b]).length:Int)>0)↔(at' b L).isSome=true:=by
     constructor
     ·intro hp
      cases hbl:below L [b] with
      |nil=>rw[hbl] at hp;simp at hp
      |cons s t=>
       have hs:s ∈ below L [b]:=by rw[hbl];simp
       obtain⟨x,h1,h2⟩:=List.mem_map.1 hs
       obtain⟨y,h3,h4⟩:=List.mem_map.1 ((hbw x).1 (List.mem_filter.1 h1).2)
       have:=at_self h.2.1 (ln_mem h3)
       rw[h4] at this
       rw[show at' b L=some y from this];rfl
     ·intro hs
      cases hx:at' b L with
      |none=>rw[hx] at hs;cases hs
      |some x=>
       obtain⟨h1,h2⟩:=at_mem hx
       have:x.f0 ∈ below L [b]:=List.mem_map.2 ⟨x,List.mem_filter.2 ⟨h1,(hbw x).2 (by
        have e:ln' L x.f0=x::ln S26.f0 S26.f1 L x.f1:=hg.ln_some (at_self h.2.1 h1)
        rw[e,← h2];simp)⟩,rfl⟩
       have:=List.length_pos_of_mem this
       omega
    cases hx:at' b L with
    |none=>
     refine(decide_eq_false (fun hh=>?_)).symm
     have:=hpos.1 hh;rw[hx] at this;cases this
    |some x=>exact(decide_eq_true (hpos.2 (by rw[hx];rfl))).symm
  ·refine Evt.bind ((Below_ev L hL [b] (by simp)).2 h) ?_
   exact key [] false _ (by simp) List.Pairwise.nil ((Find_ev L hL b).2 h) ((is_ev L hL a b).2 h) (by simp) rfl [] [] false rfl (by simp)
end Go.Proofs.Ytcjafemnkhifmaa.PxG
