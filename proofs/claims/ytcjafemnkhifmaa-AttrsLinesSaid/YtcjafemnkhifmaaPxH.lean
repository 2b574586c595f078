import Derived.Test.YtcjafemnkhifmaaPxD
import Derived.Test.YtcjafemnkhifmaaGAF5
/- Plain law of AttrsLines. -/
namespace Go.Proofs.Ytcjafemnkhifmaa.PxH
open Go Go.RowKit Go.Proofs.Ytcjafemnkhifmaa.GA Go.Proofs.Ytcjafemnkhifmaa.PuE Go.Proofs.Ytcjafemnkhifmaa.PxA Go.Proofs.Ytcjafemnkhifmaa.PxB Go.Proofs.Ytcjafemnkhifmaa.PxC Go.Proofs.Ytcjafemnkhifmaa.PxD Go.Proofs.YtcjafemnkhifmaaW.PrintWords Go.Proofs.YtcjafemnkhifmaaW.PrintLast Go.Proofs.YtcjafemnkhifmaaW.PrintMore
set_option linter.unusedVariables false
set_option linter.unusedSimpArgs false
theorem attrsLines (L:List S26) (a:ByteArray) {p0 p1:Prop} (_:p0) (_:p1):∃ k,toponymlaw20_AttrsLines.f k L a=some true:=by
 refine Evt.get (f:=fun k=>toponymlaw20_AttrsLines.f k L a) ?_
 obtain⟨c,hb,hf⟩:=few_ev L
 refine Evt.bind hf ?_
 cases c with
 |false=>exact Evt.ifn (by simp) (Evt.bind awake_ev (Evt.now _))
 |true=>
  refine Evt.ifp rfl ?_
  have hL:=hb rfl
  have empty:∀ n:Int,Evt (fun k=>toponymlaw20_AttrsLines.l2 k 0 L n []) true:=fun n=>by
   refine Evt.step ?_
   simp only[toponymlaw20_AttrsLines.l2,List.length_nil]
   exact Evt.ifn (by decide) (Evt.bind awake_ev (Evt.now _))
  by_cases h:OKL L
  ·refine Evt.bind ((Line_ev L hL a).1 h) (Evt.bind ((Find_ev L hL a).1 h) ?_)
   have hg:=h.good
   cases hx:at' a L with
   |none=>
    rw[show ln' L a=[] from ln_none hx]
    exact Evt.ifn (by simp[fv]) (Evt.ifn (by simp[fv]) (empty _))
   |some x=>
    have hln:ln' L a=x::ln' L x.f1:=hg.ln_some hx
    obtain⟨hxL,hxa⟩:=at_mem hx
    obtain⟨Y,hY⟩:∃ Y,Y=ln' L a:=⟨_,rfl⟩
    rw[← hY]
    have hYl:Y.length≤1000:=by
     have:(ln' L a).length≤L.length+1:=up_len L _ _
     rw[hY];omega
    have hYc:Y=x::ln' L x.f1:=by rw[hY,hln]
    have hpos:((Y.map S26.f0).length:Int)>0:=by rw[hYc];simp
    refine Evt.ifn ?_ (Evt.ifp rfl (Evt.ifp hpos (Evt.ifp ?_ ?_)))
    ·simp[fv,hYc]
    ·rw[hYc]
     simp only[List.map_cons]
     rw[show rdOf ByteArray.empty (x.f0::(ln' L x.f1).map S26.f0) (0:Int)=x.f0 from rfl,hxa]
    ·show Evt (fun k=>toponymlaw20_AttrsLines.l0 k 0 L x.f2 (Y.map S26.f0)) true
     have key:∀ (r p:List S26),Y=p++r→Evt (fun k=>toponymlaw20_AttrsLines.l0 k (p.length:Int) L x.f2 (Y.map S26.f0)) true:=by
      intro r
      induction r with
      |nil=>
       intro p hp
       refine Evt.step ?_
       have hc: ¬ ((p.length:Int)<((Y.map S26.f0).length:Int)):=by rw[List.length_map,hp];exact nlt_end p
       simp only[toponymlaw20_AttrsLines.l0,if_neg hc]
       exact Evt.bind awake_ev (Evt.now _)
      |cons y r ih=>
       intro p hp
       have hc:(p.length:Int)<((Y.map S26.f0).length:Int):=by rw[List.length_map,hp];exact lt_mid p y r
       have hmap:Y.map S26.f0=p.map S26.f0++y.f0::r.map S26.f0:=by rw[hp];simp
       have hrd:rdOf ByteArray.empty (Y.map S26.f0) (p.length:Int)=y.f0:=by
        have:=rdO (p.map S26.f0) y.f0 (r.map S26.f0)
        rw[List.length_map] at this
        rw[hmap];exact this
       have hnx:wrap64 ((p.length:Int)+1)=((p++[y]).length:Int):=next_len p y r (by rw[← hp];omega)
       have hyL:y ∈ L:=ln_mem (nm:=S26.f0) (ab:=S26.f1) (a:=a) (by rw[show ln S26.f0 S26.f1 L a=Y from hY.symm,hp];simp)
       have hya:at' y.f0 L=some y:=at_self h.2.1 hyL
       have hdrop:ln' L y.f0=y::r:=hg.ln_drop p y r a (by rw[show ln S26.f0 S26.f1 L a=Y from hY.symm,hp])
       have hsyn:y.f2=x.f2:=hg.ln_syn (ln' L x.f1) x y a hln (by rw[← hYc,hp];simp)
       have hdr:List.drop (p.length:Int).toNat (Y.map S26.f0)=(ln' L y.f0).map S26.f0:=by
        rw[hmap,hdrop]
        simp
       have hfind:=(Find_ev L hL y.f0).1 h
       rw[hya] at hfind
       refine Evt.step ?_
       simp only[toponymlaw20_AttrsLines.l0,if_pos hc,if_pos (Int.natCast_nonneg p.length),hrd,hdr,Option.bind_some]
       refine Evt.bind hfind (Evt.ifp rfl (Evt.ifp hsyn (Evt.ifp (by omega) ?_)))
       refine Evt.bind ((Line_ev L hL y.f0).1 h) (Evt.bind (same_ev _ (by rw[hdrop,List.length_map];rw[hp] at hYl;simp at hYl ⊢;omega)) (Evt.ifp rfl ?_))
       have hnd:=hg.ln_nodup a
       rw[show ln S26.f0 S26.f1 L a=Y from hY.symm,hp] at hnd
       have key2:∀ (s q:List S26),p=q++s→Evt (fun k=>toponymlaw20_AttrsLines.l1 k (q.length:Int) L x.f2 (Y.map S26.f0) (p.length:Int)) true:=by
        intro s
        induction s with
        |nil=>
         intro q hq
         refine Evt.step ?_
         have hc2: ¬ ((q.length:Int)<(p.length:Int)):=by rw[hq];simp
         simp only[toponymlaw20_AttrsLines.l1,if_neg hc2,hnx]
         exact ih (p++[y]) (by rw[hp];simp)
        |cons z s ih2=>
         intro q hq
         have hc2:(q.length:Int)<(p.length:Int):=by rw[hq];exact lt_mid q z s
         have hrd2:rdOf ByteArray.empty (Y.map S26.f0) (q.length:Int)=z.f0:=by
          have:=rdO (q.map S26.f0) z.f0 ((s++y::r).map S26.f0)
          rw[List.length_map] at this
          rw[← this]
          congr 1
          rw[hp,hq];simp
         have hpl:p.length≤Y.length:=by rw[hp];simp
         have hnx2:wrap64 ((q.length:Int)+1)=((q++[z]).length:Int):=next_len q z s (by rw[← hq];omega)
         have hzL:z ∈ L:=ln_mem (nm:=S26.f0) (ab:=S26.f1) (a:=a) (by rw[show ln S26.f0 S26.f1 L a=Y from hY.symm,hp,hq];simp)
         have hne: ¬ z.f0.toList=y.f0.toList:=fun e=>by
          have e2:=h.2.1.inj hzL hyL (tl_inj.1 e)
          subst e2
          exact(List.nodup_append.1 hnd).2.2 z (by rw[hq];simp) z (by simp) rfl
         refine Evt.step ?_
         simp only[toponymlaw20_AttrsLines.l1,if_pos hc2,if_pos (Int.natCast_nonneg q.length),if_pos (show(q.length:Int)<((Y.map S26.f0).length:Int) by omega),if_pos (Int.natCast_nonneg p.length),if_pos hc,hrd2,hrd,hnx2]
         exact Evt.ifn hne (ih2 (q++[z]) (by rw[hq];simp))
       exact key2 p [] rfl
     exact key Y [] rfl
  ·refine Evt.bind ((Line_ev L hL a).2 h) (Evt.bind ((Find_ev L hL a).2 h) ?_)
   exact Evt.ifn (by simp[fv]) (Evt.ifn (by simp[fv]) (empty _))
end Go.Proofs.Ytcjafemnkhifmaa.PxH
