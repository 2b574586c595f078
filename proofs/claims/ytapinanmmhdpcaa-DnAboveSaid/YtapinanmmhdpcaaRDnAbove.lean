/- The law DnAbove returns true of every input of which the row speaks, and what came in reads as before: the row, out of the plain law and the walk. -/
import Derived.Test.YtapinanmmhdpcaaRows
import Derived.Test.YtapinanmmhdpcaaGM2
import Derived.Test.YtapinanmmhdpcaaDnU
import Derived.Test.YtapinanmmhdpcaaMR
import Derived.Test.YtapinanmmhdpcaaOA
import Derived.WalkKit
import Derived.ProofKit
import Derived.OpenShut
import Derived.ShutString
import Derived.ChangeOld
import Derived.Below
import Derived.SizedLaws
namespace Go.Proofs.Ytapinanmmhdpcaa.dnAbove
open Go.ChangeShapes Go.WideShapes Go.ChangeAt Go.RowKit Go.Proofs.Ytapinanmmhdpcaa Go.Proofs.Ytapinanmmhdpcaa.GA Go.Proofs.YtapinanmmhdpcaaW.PrintWords Go.Proofs.YtapinanmmhdpcaaW.PrintLast Go.Proofs.YtapinanmmhdpcaaW.PrintMore
open Go.Proofs.Ytapinanmmhdpcaa.OA
open Go.ChangeMaps (open_string shut_string)
set_option linter.unusedVariables false
theorem own:ownKnob Try.prog.godebug=none:=by kernel_rfl
theorem laidOut:laidOutB Try.prog=true:=by kernel_rfl
set_option maxRecDepth 100000 in
theorem lifted (os:Os) (started:os.Started) (H:Type) (enc:TypeId × Value→H):
  ReturnsInHanded {} Try.checked os 5 .any (Rows.dnAboveSpec.pre6 enc Try.prog Try.f5 Rows.dnAboveRow.domain false) (Rows.dnAboveSpec.post enc Try.prog Try.f5 false true false false):=by
 refine returnsInHanded_of_change_sized (C:=Try.checked) own started (by kernel_rfl) Try.func5
  (ChangeSpec.witness6 (enc:=enc) (C:=Try.checked) false ⟨#[],#[.slice none 0 0,.slice none 0 0],[]⟩ 8 (by kernel_rfl) (by kernel_rfl) (by kernel_rfl) (by kernel_rfl)) ?_
 intro W base args ds gs before hval0 hW hcnd hsz0 _
 have hsz:(DataW.weightsEach Try.prog (Try.f5.params.toList++Rows.dnAboveSpec.plain.varTypes Try.prog) (ds++gs)).all (· ≤reachBytes)=true:=hsz0
 have hval:∀ (j:Nat) t v,Try.f5.params[j]? =some t→args[j]? =some v→Value.okWide Try.prog W .any base t v:=hval0
 have hW':=hW
 obtain⟨p,q,hA0,hV,rfl,hfz,hnd⟩:=hW
 have hA:DataW.TrodAll enc Try.prog W 0 (fun _=>true) true Try.f5.params.toList args.toList ds p:=hA0
 rw[Try.params5] at hA hval hsz
 obtain⟨v0,vs0,d0,ds0,p0,q0,hargs,rfl,rfl,h0,r0⟩:=trodAll_cons hA
 obtain⟨v1,vs1,d1,ds1,p1,q1,rfl,rfl,rfl,h1,r1⟩:=trodAll_cons r0
 obtain⟨rfl,rfl,rfl⟩:=trodAll_nil r1
 obtain rfl:args= #[v0,v1]:=by cases args;simp_all
 obtain⟨rfl,rfl⟩:=trodVars_none hV
 have k0:=h0
 have lt0:∀ x ∈ p0,x.block<W.heap.size:=by obtain⟨m,hm⟩:=k0;exact DataW.trod_lt m _ _ _ hm
 obtain⟨fu0,hf0⟩:=h0
 obtain⟨x0,hx0,gx0⟩:=(MR.opens_slice (G:=fun x:List (S53)=>((x).length*32≤140737488351232∧∀ y ∈ x,G53 (y))) fu0 Try.underlying23 (by kernel_rfl) (by rw[bytes39];decide) (fun _ _=>(MR.opens_slice (G:=fun x:S53=>G53 (x)) _ Try.underlying39 (by kernel_rfl) (by rw[bytes53];decide) (fun _ _=>(opens53 W _))))) enc _ _ hf0 (MR.sized_each hsz (j:=0) (t:=23) rfl rfl)
 obtain⟨a0,len0,cap0,rfl⟩:=okWide_slice Try.underlying23 (hval 0 23 v0 rfl rfl)
 obtain⟨A0,c0,ez0,hl0,hC0⟩:=hx0
 have ey0:[Value.slice a0 len0 cap0]=[_]:=ez0
 injection ey0 with ey0 _
 injection ey0 with e1 e2 e3
 subst e1 e2 e3
 rw[bytes39] at gx0
 have k1:=h1
 have lt1:∀ x ∈ p1,x.block<W.heap.size:=by obtain⟨m,hm⟩:=k1;exact DataW.trod_lt m _ _ _ hm
 obtain⟨fu1,hf1⟩:=h1
 obtain⟨x1,hx1,gx1⟩:=(MR.opens_slice (G:=fun x:S53=>G53 (x)) fu1 Try.underlying39 (by kernel_rfl) (by rw[bytes53];decide) (fun _ _=>(opens53 W _))) enc _ _ hf1 (MR.sized_each hsz (j:=1) (t:=39) rfl rfl)
 obtain⟨a1,len1,cap1,rfl⟩:=okWide_slice Try.underlying39 (hval 1 39 v1 rfl rfl)
 obtain⟨A1,c1,ez1,hl1,hC1⟩:=hx1
 have ey1:[Value.slice a1 len1 cap1]=[_]:=ez1
 injection ey1 with ey1 _
 injection ey1 with e1 e2 e3
 subst e1 e2 e3
 rw[bytes53] at gx1
 obtain⟨kk,hk⟩:=DnA.dnAbove x0 x1 gx0 gx1
 clear hA0 hval0 hsz0 hsz
 refine(toponymlaw18_DnAbove.calls kk (fun k_=>k_<W.heap.size) _ _ x0 _ _ x1 true W (Kd.C_F (Kd.heap_slice 53 k53_heap) hC0) hl0 (Kd.C_F k53_heap hC1) hl1 hk).mono fun e W' ⟨he,bel⟩=>?_
 subst he
 exact⟨_,rfl,_,_,_,[],_,[],hW',trodAll_mk1 (shut_bool Try.underlying4 _),(trodAll_cons_mk (Below.trod laidOut (by kernel_rfl) (of_decide_eq_true (by kernel_rfl)) k0 bel lt0) (trodAll_cons_mk (Below.trod laidOut (by kernel_rfl) (of_decide_eq_true (by kernel_rfl)) k1 bel lt1) trodAll_mk0)),rfl,bel.frame _,fun h=>by cases h⟩
theorem over:Rows.dnAboveRow.holds Try.pinned (OpenSpec.ofChange Rows.dnAboveSpec):=
 OpenClaim.holds_of_wide 5 Try.f5 rfl rfl rfl rfl rfl rfl rfl ⟨rfl,rfl,rfl,rfl,rfl⟩ rfl rfl rfl rfl rfl (by kernel_rfl) Try.func5 (by kernel_rfl)
  (of_decide_eq_true (by kernel_rfl)) (by unfold Func.isWrapper;first|(rw[if_pos (by decide+kernel)];kernel_rfl)|(rw[if_neg (by decide+kernel)];exact⟨rfl,rfl⟩))
  (fun os started H enc _=>lifted os started H enc)
theorem proved:Rows.DnAboveSaid:=over
#print axioms proved
end Go.Proofs.Ytapinanmmhdpcaa.dnAbove
namespace Go.Proofs.Ytapinanmmhdpcaa
/-- The row, under a short name, for the claim. -/
theorem dnAbove_holds:Rows.DnAboveSaid:=dnAbove.proved
end Go.Proofs.Ytapinanmmhdpcaa
