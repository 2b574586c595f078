import Derived.Test.YtapinanmmhdpcaaDnE
import Derived.Test.YtapinanmmhdpcaaGM1
/- Plain laws of names: names of few parts; what was written is read. -/
namespace Go.Proofs.Ytapinanmmhdpcaa.DnA
open Go Go.RowKit Go.Proofs.Ytapinanmmhdpcaa.GA Go.Proofs.Ytapinanmmhdpcaa.PuE Go.Proofs.Ytapinanmmhdpcaa.DnL Go.Proofs.YtapinanmmhdpcaaW.PrintWords Go.Proofs.YtapinanmmhdpcaaW.PrintLast Go.Proofs.YtapinanmmhdpcaaW.PrintMore
set_option linter.unusedVariables false
set_option linter.unusedSimpArgs false
theorem few_l1 {L P R:List (List S53)} {row:List S53} (h:L=P++row::R) (hl:L.length≤10) (hr:row.length≤10) (v:Bool) (hv:Evt (fun k=>toponymlaw18_Few.l0 k ((P++[row]).length:Int) L) v):∀ (q p:List S53),row=p++q→∃ b,Evt (fun k=>toponymlaw18_Few.l1 k (p.length:Int) L (P.length:Int)) b∧(b=true→v=true∧∀ x ∈ q,x.f0.size≤1000∧x.f1.size≤1000)
 |[],p,hp=>by
  have hx:=nxL P row (by rw[h] at hl;simp at hl;omega)
  refine⟨v,Evt.step (Evt.of_eq hv fun k=>?_),fun e=>⟨e,fun x hx=>by simp at hx⟩⟩
  rw[toponymlaw18_Few.l1,if_pos (Int.natCast_nonneg P.length),if_pos (ltL h),rdL h,if_neg (nltL hp),hx]
 |x::q,p,hp=>by
  obtain⟨b,h1,h2⟩:=few_l1 h hl hr v hv q (p++[x]) (by rw[hp];simp)
  have hn:=nxL p x (by rw[hp] at hr;simp at hr;omega)
  have hst:∀ k,toponymlaw18_Few.l1 (k+1) (p.length:Int) L (P.length:Int)=if (x.f0.size:Int)>1000 then some false else if (x.f1.size:Int)>1000 then some false else toponymlaw18_Few.l1 k ((p++[x]).length:Int) L (P.length:Int):=by
   intro k
   rw[toponymlaw18_Few.l1,if_pos (Int.natCast_nonneg P.length),if_pos (ltL h),rdL h,if_pos (ltL hp),if_pos (Int.natCast_nonneg p.length),rdT hp,hn]
  by_cases h3:(x.f0.size:Int)>1000
  ·exact⟨false,Evt.step (Evt.of_eq (Evt.ifp h3 (Evt.now _)) hst),fun e=>by cases e⟩
  ·by_cases h4:(x.f1.size:Int)>1000
   ·exact⟨false,Evt.step (Evt.of_eq (Evt.ifn h3 (Evt.ifp h4 (Evt.now _))) hst),fun e=>by cases e⟩
   ·refine⟨b,Evt.step (Evt.of_eq (Evt.ifn h3 (Evt.ifn h4 h1)) hst),fun e=>⟨(h2 e).1,fun y hy=>?_⟩⟩
    rcases List.mem_cons.1 hy with rfl|hy
    ·omega
    ·exact(h2 e).2 y hy
theorem few_l0 {L:List (List S53)} (hl:L.length≤10):∀ (R P:List (List S53)),L=P++R→∃ b,Evt (fun k=>toponymlaw18_Few.l0 k (P.length:Int) L) b∧(b=true→∀ r ∈ R,r.length≤10∧∀ x ∈ r,x.f0.size≤1000∧x.f1.size≤1000)
 |[],P,h=>by
  refine⟨true,Evt.step (Evt.of_all fun k=>?_),fun _ r hr=>by simp at hr⟩
  rw[toponymlaw18_Few.l0,if_neg (nltL h)]
 |row::R,P,h=>by
  obtain⟨v,h1,h2⟩:=few_l0 hl R (P++[row]) (by rw[h];simp)
  have hst:∀ k,toponymlaw18_Few.l0 (k+1) (P.length:Int) L=if (row.length:Int)>10 then some false else toponymlaw18_Few.l1 k 0 L (P.length:Int):=by
   intro k
   rw[toponymlaw18_Few.l0,if_pos (ltL h),if_pos (Int.natCast_nonneg P.length),rdL h]
  by_cases h3:(row.length:Int)>10
  ·exact⟨false,Evt.step (Evt.of_eq (Evt.ifp h3 (Evt.now _)) hst),fun e=>by cases e⟩
  ·obtain⟨b,h4,h5⟩:=few_l1 h hl (by omega) v h1 row [] rfl
   refine⟨b,Evt.step (Evt.of_eq (Evt.ifn h3 h4) hst),fun e r hr=>?_⟩
   obtain⟨e1,e2⟩:=h5 e
   rcases List.mem_cons.1 hr with rfl|hr
   ·exact⟨by omega,e2⟩
   ·exact h2 e1 r hr
theorem few_ev (L:List (List S53)):∃ b,Evt (fun k=>toponymlaw18_Few.f k L) b∧(b=true→few L):=by
 by_cases h:(L.length:Int)>10
 ·refine⟨false,Evt.of_all fun k=>?_,fun e=>by cases e⟩
  simp only[toponymlaw18_Few.f,if_pos h]
 ·obtain⟨b,h1,h2⟩:=few_l0 (L:=L) (by omega) L [] rfl
  refine⟨b,Evt.of_eq h1 fun k=>?_,fun e=>⟨by omega,fun r hr=>⟨by have:=(h2 e r hr).1;omega,fun x hx=>by have:=(h2 e r hr).2 x hx;omega⟩⟩⟩
  simp only[toponymlaw18_Few.f,if_neg h]
  rfl
/-- What was written is read. -/
theorem nameT_ne {l:List (List Pr)} (h:okN l=true) (hl:l≠[]):nameT l≠[]:=by
 cases l with
 |nil=>exact absurd rfl hl
 |cons r l=>
  have hr:=okR_all ((okN_all h).2 r (by simp))
  cases r with
  |nil=>simp at hr
  |cons p r=>
   have h1:=rowT_len p r
   intro e
   have h2:=congrArg List.length e
   cases l with
   |nil=>simp only[nameT,List.length_nil] at h2;omega
   |cons q l=>simp[nameT] at h2
theorem parR_name {L:List (List S53)} (h:okN (nm L)=true) (hs:(nameT (nm L)).length≤3000):parR (nameT (nm L))=(L,0):=by
 by_cases hL:L=[]
 ·subst hL;rfl
 ·have hne:nm L≠[]:=fun e=>hL (by rw[← toN_nm L,e];rfl)
  unfold parR
  rw[if_neg (by omega),if_neg (nameT_ne h hne)]
  have hall:=okN_all h
  rw[spc_name (nm L) _ hne (fun r hr=>by
   have h1:=okR_all (hall.2 r hr)
   refine⟨fun e=>by rw[e] at h1;simp at h1,fun p hp=>?_⟩
   have h2:=h1.2 p hp
   simp only[okP,Bool.and_eq_true,decide_eq_true_eq] at h2
   exact⟨h2.1.1,by simpa using h2.1.2⟩) (by omega)]
  simp[h,toN_nm]
theorem parR_sound (b:Bs):((parR b).2=0→okN (nm (parR b).1)=true)∧((parR b).2≠0→(parR b).1=[]):=by
 unfold parR
 split
 ·exact⟨fun h=>absurd h (by decide),fun _=>rfl⟩
 ·split
  ·exact⟨fun _=>rfl,fun _=>rfl⟩
  ·split
   ·exact⟨fun h=>absurd h (by decide),fun _=>rfl⟩
   ·rename_i l _
    cases h:okN l with
    |true=>exact⟨fun _=>by simpa [nm_toN] using h,fun hh=>absurd rfl hh⟩
    |false=>exact⟨fun hh=>absurd hh (by simp),fun _=>by simp⟩
end Go.Proofs.Ytapinanmmhdpcaa.DnA
