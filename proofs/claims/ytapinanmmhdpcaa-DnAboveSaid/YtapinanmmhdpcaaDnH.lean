import Derived.Test.YtapinanmmhdpcaaDnF
import Derived.Test.YtapinanmmhdpcaaGM1
import Derived.Test.YtapinanmmhdpcaaGM1
/- Plain laws of names: the names above and below, by the program. -/
namespace Go.Proofs.Ytapinanmmhdpcaa.DnA
open Go Go.RowKit Go.Proofs.Ytapinanmmhdpcaa.GA Go.Proofs.Ytapinanmmhdpcaa.PuE Go.Proofs.Ytapinanmmhdpcaa.DnL Go.Proofs.YtapinanmmhdpcaaW.PrintWords Go.Proofs.YtapinanmmhdpcaaW.PrintLast Go.Proofs.YtapinanmmhdpcaaW.PrintMore
set_option linter.unusedVariables false
set_option linter.unusedSimpArgs false
theorem copied_l0 {L:List (List S53)} (hL:few L):∀ (R P:List (List S53)),L=P++R→Evt (fun k=>dn_copied.l0 k P (P.length:Int) L) L
 |[],P,h=>by
  refine Evt.step (Evt.of_all fun k=>?_)
  rw[dn_copied.l0,if_neg (nltL h)]
  rw[h,List.append_nil]
 |row::R,P,h=>by
  have hl:=hL.1
  have hr:=(hL.2 row (by rw[h];simp)).1
  have hP:P.length≤1000000:=by rw[h] at hl;simp at hl;omega
  have hn:=nxL P row (by omega)
  have ih:=copied_l0 hL R (P++[row]) (by rw[h];simp)
  refine Evt.step (Evt.of_eq ih fun k=>?_)
  rw[dn_copied.l0,if_pos (ltL h),if_pos (Int.natCast_nonneg P.length),rdL h,Clone_33.f,if_pos (by omega),Option.bind_some,if_pos (by omega),Option.bind_some,hn]
theorem copied_ev {L:List (List S53)} (hL:few L):Evt (fun k=>dn_copied.f k L) L:=copied_l0 hL L [] rfl
def aboveR (L:List (List S53)):List (List S53) × Bool:=if okN (nm L) then(if L.length=0 then([],false) else(L.drop 1,true)) else([],false)
theorem above_ev {L:List (List S53)} (hL:few L):Evt (fun k=>dn_Above.f k L) (aboveR L):=by
 unfold aboveR
 refine Evt.bind (chk_ev hL) ?_
 cases okN (nm L) with
 |false=>exact Evt.ifn (by decide) (Evt.now _)
 |true=>
  refine Evt.ifp rfl ?_
  by_cases h0:L.length=0
  ·exact Evt.ifp (by omega) ((Evt.now _).val (by simp[h0]))
  ·refine Evt.ifn (by omega) (Evt.ifp (by omega) ?_)
   have hd:few (L.drop 1):=few_sub hL (by simp) (fun r hr=>List.mem_of_mem_drop hr)
   exact Evt.val (v:=(L.drop 1,true)) (Evt.bind (Evt.of_all fun _=>rfl) (Evt.bind (copied_ev hd) (Evt.now _))) (by simp[h0])
def belowR (L:List (List S53)) (r:List S53):List (List S53) × Int:=if okN (nm L) then(if L.length≥6 then([],220) else if okN (nm [r]) then([r]++L,0) else([],220)) else([],220)
theorem few_one {L:List (List S53)} {r:List S53} (hL:few [r]):few [r]:=hL
theorem below_ev {L:List (List S53)} {r:List S53} (hL:few L) (hr:few [r]):Evt (fun k=>dn_Below.f k L r) (belowR L r):=by
 unfold belowR
 have hl:=hL.1
 have hrl:=(hr.2 r (by simp)).1
 refine Evt.bind (chk_ev hL) ?_
 cases okN (nm L) with
 |false=>exact Evt.ifn (by decide) (Evt.now _)
 |true=>
  refine Evt.ifp rfl ?_
  by_cases h6:L.length≥6
  ·exact Evt.ifp (by omega) ((Evt.now _).val (by simp[h6]))
  ·refine Evt.ifn (by omega) ?_
   refine Evt.bind (chk_ev hr) ?_
   cases okN (nm [r]) with
   |false=>exact Evt.ifn (by decide) ((Evt.now _).val (by simp[h6]))
   |true=>
    refine Evt.ifp rfl ?_
    refine Evt.bind (v:=r) (Evt.of_all fun k=>by rw[Clone_33.f,if_pos (by omega)]) ?_
    refine Evt.bind (copied_ev hL) ?_
    refine Evt.ifp (by simp;omega) ((Evt.now _).val (by simp[h6]))
end Go.Proofs.Ytapinanmmhdpcaa.DnA
