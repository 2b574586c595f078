import Derived.Test.YtapinanmmhdpcaaDnG
import Derived.Test.YtapinanmmhdpcaaDnH
import Derived.Test.YtapinanmmhdpcaaGAF8
/- Plain law of names: any name has the document's name above it, and below it, and is the same as another one, or not. -/
namespace Go.Proofs.Ytapinanmmhdpcaa.DnA
open Go Go.RowKit Go.Proofs.Ytapinanmmhdpcaa.GA Go.Proofs.Ytapinanmmhdpcaa.PuE Go.Proofs.Ytapinanmmhdpcaa.DnL Go.Proofs.YtapinanmmhdpcaaW.PrintWords Go.Proofs.YtapinanmmhdpcaaW.PrintLast Go.Proofs.YtapinanmmhdpcaaW.PrintMore
set_option linter.unusedVariables false
set_option linter.unusedSimpArgs false
theorem rabove_ev {L:List (List S53)} (hL:few L):Evt (fun k=>toponymref18_Above.f k L) (aboveR L):=by
 unfold aboveR
 refine Evt.bind (rchk_ev hL) ?_
 cases okN (nm L) with
 |false=>exact Evt.ifn (by decide) (Evt.now _)
 |true=>
  refine Evt.ifp rfl ?_
  by_cases h0:L.length=0
  ·exact Evt.ifp (by omega) ((Evt.now _).val (by simp[h0]))
  ·exact Evt.ifn (by omega) (Evt.ifp (by omega) ((Evt.now _).val (by simp[h0])))
theorem rbelow_ev {L:List (List S53)} {r:List S53} (hL:few L) (hr:few [r]):Evt (fun k=>toponymref18_Below.f k L r) (belowR L r):=by
 unfold belowR
 have hl:=hL.1
 refine Evt.bind (rchk_ev hL) ?_
 cases okN (nm L) with
 |false=>exact Evt.ifn (by decide) (Evt.now _)
 |true=>
  refine Evt.ifp rfl ?_
  by_cases h6:L.length≥6
  ·exact Evt.ifp (by omega) ((Evt.now _).val (by simp[h6]))
  ·refine Evt.ifn (by omega) ?_
   refine Evt.bind (rchk_ev hr) ?_
   cases okN (nm [r]) with
   |false=>exact Evt.ifn (by decide) ((Evt.now _).val (by simp[h6]))
   |true=>
    refine Evt.ifp rfl ?_
    refine Evt.ifp (by simp;omega) ((Evt.now _).val (by simp[h6]))
theorem above_few {L:List (List S53)} (hL:few L):few (aboveR L).1:=by
 unfold aboveR
 split
 ·split
  ·exact few_nil
  ·exact few_sub hL (by simp) (fun r hr=>List.mem_of_mem_drop hr)
 ·exact few_nil
theorem below_few {L:List (List S53)} {r:List S53} (hL:few L) (hr:few [r]):few (belowR L r).1:=by
 unfold belowR
 split
 ·split
  ·exact few_nil
  ·split
   ·rename_i h6 _
    refine⟨by simp;omega,fun x hx=>?_⟩
    rcases List.mem_append.1 hx with hx|hx
    ·exact hr.2 x hx
    ·exact hL.2 x hx
   ·exact few_nil
 ·exact few_nil
theorem dnMoves {p q t:Prop} (a b:List (List S53)) (r:List S53) (_:p) (_:q) (_:t):∃ k,toponymlaw18_DnMoves.f k a b r=some true:=by
 have aw:=Evt.bind awake_ev (g:=fun _ t=>some t) (Evt.now _)
 obtain⟨b1,h1,g1⟩:=few_ev a
 obtain⟨b2,h2,g2⟩:=few_ev b
 obtain⟨b3,h3,g3⟩:=few_ev [r]
 cases b1 with
 |false=>exact Evt.get (Evt.bind h1 (Evt.ifn (by simp) aw))
 |true=>
  cases b2 with
  |false=>exact Evt.get (Evt.bind h1 (Evt.ifp rfl (Evt.bind h2 (Evt.ifn (by simp) aw))))
  |true=>
   cases b3 with
   |false=>exact Evt.get (Evt.bind h1 (Evt.ifp rfl (Evt.bind h2 (Evt.ifp rfl (Evt.bind h3 (Evt.ifn (by simp) aw))))))
   |true=>
    have ha:=g1 rfl
    have hr:=g3 rfl
    have s1:=rsame_ev (aboveR a).1 (aboveR a).1 (above_few ha)
    have s2:=rsame_ev (belowR a r).1 (belowR a r).1 (below_few ha hr)
    rw[sm_self] at s1 s2
    exact Evt.get (Evt.bind h1 (Evt.ifp rfl (Evt.bind h2 (Evt.ifp rfl (Evt.bind h3 (Evt.ifp rfl (Evt.bind (above_ev ha) (Evt.bind (rabove_ev ha) (Evt.bind (below_ev ha hr) (Evt.bind (rbelow_ev ha hr) (Evt.bind s1 (Evt.ifp rfl (Evt.ifp (by simp) (Evt.bind s2 (Evt.ifp rfl (Evt.ifp rfl (Evt.bind (dsame_ev a b ha) (Evt.bind (rsame_ev a b ha) (Evt.ifp (by simp) aw)))))))))))))))))))
end Go.Proofs.Ytapinanmmhdpcaa.DnA
