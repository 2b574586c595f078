import Derived.Test.YtcjafemnkhifmaaPxD
import Derived.Test.YtcjafemnkhifmaaGM1
import Derived.Test.YtcjafemnkhifmaaGM1
import Derived.Test.YtcjafemnkhifmaaGM1
import Derived.Test.YtcjafemnkhifmaaGM1
import Derived.Test.YtcjafemnkhifmaaGM2
/- Plain law of AttrsChecks. -/
namespace Go.Proofs.Ytcjafemnkhifmaa.PxE
open Go Go.RowKit Go.Proofs.Ytcjafemnkhifmaa.GA Go.Proofs.Ytcjafemnkhifmaa.PuE Go.Proofs.Ytcjafemnkhifmaa.PxA Go.Proofs.Ytcjafemnkhifmaa.PxB Go.Proofs.Ytcjafemnkhifmaa.PxC Go.Proofs.Ytcjafemnkhifmaa.PxD Go.Proofs.YtcjafemnkhifmaaW.PrintWords Go.Proofs.YtcjafemnkhifmaaW.PrintLast Go.Proofs.YtcjafemnkhifmaaW.PrintMore
set_option linter.unusedVariables false
set_option linter.unusedSimpArgs false
theorem rules_same (a:Int):attrs_Rules.f a=toponymref20_Rules.f a:=by
 unfold attrs_Rules.f toponymref20_Rules.f syntax_Known.f
 by_cases h1:a=1
 ·simp[h1]
 by_cases h2:a=2
 ·simp[h2]
 by_cases h10:a=10
 ·simp[h10]
 rw[if_neg h1,if_neg h2,if_neg h10,if_neg h1,if_neg h2]
 by_cases h3:a=3
 ·simp[h3]
 by_cases h4:a=4
 ·simp[h4]
 by_cases h5:a=5
 ·simp[h5]
 by_cases h6:a=6
 ·simp[h6]
 by_cases h7:a=7
 ·simp[h7]
 by_cases h8:a=8
 ·simp[h8]
 by_cases h9:a=9
 ·simp[h9]
 rw[if_neg h3,if_neg h4,if_neg h5,if_neg h6,if_neg h7,if_neg h8,if_neg h9,if_neg h10]
 by_cases hg:a≥1
 ·rw[if_pos hg]
  simp only[Option.bind_some,show decide (a≤10)=false from decide_eq_false (by omega)]
  rfl
 ·rw[if_neg hg]
  rfl
theorem rules_some (a:Int):∃ l:List Int,l.length≤3∧toponymref20_Rules.f a=some l:=by
 unfold toponymref20_Rules.f
 repeat' first
 |exact⟨_,by simp,rfl⟩
 |split
theorem cmp_ev (l:List Int) (hl:l.length≤3):Evt (fun k=>toponymref17_Cmp.f k l l) 0:=by
 have key:∀ (r p:List Int),l=p++r→Evt (fun k=>toponymref17_Cmp.l0 k (p.length:Int) l l) 0:=by
  intro r
  induction r with
  |nil=>
   intro p hp
   refine Evt.step ?_
   have hc: ¬ ((p.length:Int)<(l.length:Int)):=by rw[hp];exact nlt_end p
   simp only[toponymref17_Cmp.l0,if_neg hc]
   exact Evt.ifn (by omega) (Evt.ifn (by omega) (Evt.now _))
  |cons y r ih=>
   intro p hp
   have hc:(p.length:Int)<(l.length:Int):=by rw[hp];exact lt_mid p y r
   have hnx:wrap64 ((p.length:Int)+1)=((p++[y]).length:Int):=next_len p y r (by rw[← hp];omega)
   refine Evt.step ?_
   simp only[toponymref17_Cmp.l0,if_pos hc,if_pos (Int.natCast_nonneg p.length),hnx]
   exact Evt.ifn (by omega) (Evt.ifn (by omega) (ih (p++[y]) (by rw[hp];simp)))
 exact key l [] rfl
theorem attrsChecks (L:List S26) (a:ByteArray) (n:Int) {p0 p1 p2:Prop} (_:p0) (_:p1) (_:p2):∃ k,toponymlaw20_AttrsChecks.f k L a n=some true:=by
 refine Evt.get (f:=fun k=>toponymlaw20_AttrsChecks.f k L a n) ?_
 obtain⟨b,hb,hf⟩:=few_ev L
 refine Evt.bind hf ?_
 cases b with
 |false=>exact Evt.ifn (by simp) (Evt.bind awake_ev (Evt.now _))
 |true=>
  refine Evt.ifp rfl ?_
  have hL:=hb rfl
  obtain⟨v,c,h1,h2,h3,h4⟩:∃ v c,Evt (fun k=>attrs_Find.f k L a) v∧Evt (fun k=>toponymref20_Find.f k L a) v∧Evt (fun k=>attrs_Check.f k L) c∧Evt (fun k=>toponymref20_Check.f k L) c:=by
   by_cases h:OKL L
   ·exact⟨_,_,(Find_ev L hL a).1 h,(refF_ev L hL a).1 h,(chk_ev L hL).1 h,(refc_ev L hL).1 h⟩
   ·exact⟨_,_,(Find_ev L hL a).2 h,(refF_ev L hL a).2 h,(chk_ev L hL).2 h,(refc_ev L hL).2 h⟩
  obtain⟨l,hl,hr⟩:=rules_some n
  refine Evt.bind h1 (Evt.bind h2 (Evt.bind h3 (Evt.bind h4 (Evt.ifp rfl (Evt.ifp (by simp) (Evt.ifp (by simp) ?_))))))
  refine Evt.bind (Evt.of_all fun _=>(rules_same n).trans hr) (Evt.bind (Evt.of_all fun _=>hr) (Evt.bind (cmp_ev l hl) (Evt.ifp rfl ?_)))
  exact Evt.bind awake_ev (Evt.now _)
end Go.Proofs.Ytcjafemnkhifmaa.PxE
