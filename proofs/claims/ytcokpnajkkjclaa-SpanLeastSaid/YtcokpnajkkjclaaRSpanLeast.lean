/- The law SpanLeast returns true of every input of which the row speaks, and what came in reads as before: the row, out of the plain law and the walk. -/
import Derived.Test.YtcokpnajkkjclaaRows
import Derived.Test.YtcokpnajkkjclaaGM4
import Derived.Test.YtcokpnajkkjclaaSqC
import Derived.Test.YtcokpnajkkjclaaMR
import Derived.Test.YtcokpnajkkjclaaOA
import Derived.WalkKit
import Derived.ProofKit
import Derived.OpenShut
import Derived.ShutString
import Derived.ChangeOld
import Derived.Below
import Derived.SizedLaws
namespace Go.Proofs.Ytcokpnajkkjclaa.spanLeast
open Go.ChangeShapes Go.WideShapes Go.ChangeAt Go.RowKit Go.Proofs.Ytcokpnajkkjclaa Go.Proofs.Ytcokpnajkkjclaa.GA Go.Proofs.YtcokpnajkkjclaaW.PrintWords Go.Proofs.YtcokpnajkkjclaaW.PrintLast Go.Proofs.YtcokpnajkkjclaaW.PrintMore
open Go.Proofs.Ytcokpnajkkjclaa.OA
open Go.ChangeMaps (open_string shut_string)
set_option linter.unusedVariables false
theorem own:ownKnob Try.prog.godebug=none:=by kernel_rfl
theorem laidOut:laidOutB Try.prog=true:=by kernel_rfl
set_option maxRecDepth 100000 in
theorem lifted (os:Os) (started:os.Started) (H:Type) (enc:TypeId × Value→H):
  ReturnsInHanded {} Try.checked os 6 .any (Rows.spanLeastSpec.pre6 enc Try.prog Try.f6 Rows.spanLeastRow.domain false) (Rows.spanLeastSpec.post enc Try.prog Try.f6 false true false false):=by
 refine returnsInHanded_of_change_sized (C:=Try.checked) own started (by kernel_rfl) Try.func6
  (ChangeSpec.witness6 (enc:=enc) (C:=Try.checked) false ⟨#[],#[.slice none 0 0],[]⟩ 8 (by kernel_rfl) (by kernel_rfl) (by kernel_rfl) (by kernel_rfl)) ?_
 intro W base args ds gs before hval0 hW hcnd hsz0 _
 have hsz:(DataW.weightsEach Try.prog (Try.f6.params.toList++Rows.spanLeastSpec.plain.varTypes Try.prog) (ds++gs)).all (· ≤reachBytes)=true:=hsz0
 have hval:∀ (j:Nat) t v,Try.f6.params[j]? =some t→args[j]? =some v→Value.okWide Try.prog W .any base t v:=hval0
 have hW':=hW
 obtain⟨p,q,hA0,hV,rfl,hfz,hnd⟩:=hW
 have hA:DataW.TrodAll enc Try.prog W 0 (fun _=>true) true Try.f6.params.toList args.toList ds p:=hA0
 rw[Try.params6] at hA hval hsz
 obtain⟨v0,vs0,d0,ds0,p0,q0,hargs,rfl,rfl,h0,r0⟩:=trodAll_cons hA
 obtain⟨rfl,rfl,rfl⟩:=trodAll_nil r0
 obtain rfl:args= #[v0]:=by cases args;simp_all
 obtain⟨rfl,rfl⟩:=trodVars_none hV
 have k0:=h0
 have lt0:∀ x ∈ p0,x.block<W.heap.size:=by obtain⟨m,hm⟩:=k0;exact DataW.trod_lt m _ _ _ hm
 obtain⟨fu0,hf0⟩:=h0
 obtain⟨x0,hx0,gx0⟩:=(MR.opens_slice (G:=fun x:S37=>G37 (x)) fu0 Try.underlying22 (by kernel_rfl) (by rw[bytes37];decide) (fun _ _=>(opens37 W _))) enc _ _ hf0 (MR.sized_each hsz (j:=0) (t:=22) rfl rfl)
 obtain⟨a0,len0,cap0,rfl⟩:=okWide_slice Try.underlying22 (hval 0 22 v0 rfl rfl)
 obtain⟨A0,c0,ez0,hl0,hC0⟩:=hx0
 have ey0:[Value.slice a0 len0 cap0]=[_]:=ez0
 injection ey0 with ey0 _
 injection ey0 with e1 e2 e3
 subst e1 e2 e3
 rw[bytes37] at gx0
 obtain⟨kk,hk⟩:=SpA.spanLeast x0 gx0
 clear hA0 hval0 hsz0 hsz
 refine(toponymlaw02_SpanLeast.calls kk (fun k_=>k_<W.heap.size) _ _ x0 true W (Kd.C_F k37_heap hC0) hl0 hk).mono fun e W' ⟨he,bel⟩=>?_
 subst he
 exact⟨_,rfl,_,_,_,[],_,[],hW',trodAll_mk1 (shut_bool Try.underlying4 _),(trodAll_cons_mk (Below.trod laidOut (by kernel_rfl) (of_decide_eq_true (by kernel_rfl)) k0 bel lt0) trodAll_mk0),rfl,bel.frame _,fun h=>by cases h⟩
theorem over:Rows.spanLeastRow.holds Try.pinned (OpenSpec.ofChange Rows.spanLeastSpec):=
 OpenClaim.holds_of_wide 6 Try.f6 rfl rfl rfl rfl rfl rfl rfl ⟨rfl,rfl,rfl,rfl,rfl⟩ rfl rfl rfl rfl rfl (by kernel_rfl) Try.func6 (by kernel_rfl)
  (of_decide_eq_true (by kernel_rfl)) (by unfold Func.isWrapper;first|(rw[if_pos (by decide+kernel)];kernel_rfl)|(rw[if_neg (by decide+kernel)];exact⟨rfl,rfl⟩))
  (fun os started H enc _=>lifted os started H enc)
theorem proved:Rows.SpanLeastSaid:=over
#print axioms proved
end Go.Proofs.Ytcokpnajkkjclaa.spanLeast
namespace Go.Proofs.Ytcokpnajkkjclaa
/-- The row, under a short name, for the claim. -/
theorem spanLeast_holds:Rows.SpanLeastSaid:=spanLeast.proved
end Go.Proofs.Ytcokpnajkkjclaa
