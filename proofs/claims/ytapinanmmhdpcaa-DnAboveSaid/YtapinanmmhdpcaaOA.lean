import Derived.Test.YtapinanmmhdpcaaMR
import Derived.Test.YtapinanmmhdpcaaGA0
/- What came in, of this program's own types, opened. -/
namespace Go.Proofs.Ytapinanmmhdpcaa.OA
open Go.ChangeShapes Go.WideShapes Go.ChangeAt Go.RowKit Go.Proofs.Ytapinanmmhdpcaa Go.Proofs.Ytapinanmmhdpcaa.GA Go.Proofs.YtapinanmmhdpcaaW.PrintWords Go.Proofs.YtapinanmmhdpcaaW.PrintLast Go.Proofs.YtapinanmmhdpcaaW.PrintMore
set_option linter.unusedVariables false
set_option maxRecDepth 100000
inductive G53:S53→Prop
 |mk (x:S53) (h0:((x.f0).size≤140737488351232)) (h1:((x.f1).size≤140737488351232)):G53 x
theorem opens53 (W:World):∀ n,MR.Opens Try.prog W 53 k53 G53 n:=by
 intro n
 induction n using Nat.strongRecOn with
 |_ n ih=>
 intro H enc cs x h hw
 obtain⟨ps,m,rfl,rfl,hl,hps,hf⟩:=DataW.trod_struct Try.underlying53 h
 have hwe:DataW.weights Try.prog 53 (.agg (ps.map (·.1)))=DataW.weightsEach Try.prog [9,9] (ps.map (·.1)):=by rw[DataW.weights,Try.underlying53];rfl
 rw[show Try.prog.cellsOf 53=2 from by kernel_rfl] at hl
 replace hps:ps.length=2:=hps
 obtain⟨x0_,x1_,rfl⟩:∃ x0_ x1_,cs=[x0_,x1_]:=by
  match cs,hl with
  |[x0_,x1_],_=>exact⟨_,_,rfl⟩
 obtain⟨y0,y1,rfl⟩:∃ y0 y1,ps=[y0,y1]:=by
  match ps,hps with
  |[y0,y1],_=>exact⟨_,_,rfl⟩
 have t0:DataW.trod enc Try.prog W 0 (fun _=>true) true m 9 [x0_]=some y0:=by
  have this:DataW.trod enc Try.prog W 0 (fun _=>true) true m 9 (List.take (Try.prog.cellsOf 9) (List.drop 0 [x0_,x1_]))=some y0:=hf 0 _ rfl
  rw[show Try.prog.cellsOf 9=1 from by kernel_rfl] at this
  exact this
 have t1:DataW.trod enc Try.prog W 0 (fun _=>true) true m 9 [x1_]=some y1:=by
  have this:DataW.trod enc Try.prog W 0 (fun _=>true) true m 9 (List.take (Try.prog.cellsOf 9) (List.drop 1 [x0_,x1_]))=some y1:=hf 1 _ rfl
  rw[show Try.prog.cellsOf 9=1 from by kernel_rfl] at this
  exact this
 have s0:∀ q ∈ DataW.weights Try.prog 9 y0.1,q≤140737488351232:=fun q hq=>hw q (by rw[hwe];exact DataW.weights_mem_each (j:=0) rfl rfl q hq)
 obtain⟨v0,k0,g0⟩:=(MR.opens_string _ Try.underlying9) enc _ _ t0 s0
 have e0:[x0_]=_:=k0
 injection e0 with e0 _
 subst e0
 have s1:∀ q ∈ DataW.weights Try.prog 9 y1.1,q≤140737488351232:=fun q hq=>hw q (by rw[hwe];exact DataW.weights_mem_each (j:=1) rfl rfl q hq)
 obtain⟨v1,k1,g1⟩:=(MR.opens_string _ Try.underlying9) enc _ _ t1 s1
 have e1:[x1_]=_:=k1
 injection e1 with e1 _
 subst e1
 exact⟨⟨v0,v1⟩,k53_mk W ⟨v0,v1⟩,.mk _ g0 g1⟩
theorem bytes39:Try.prog.bytesOf 39=24:=by kernel_rfl
theorem bytes53:Try.prog.bytesOf 53=32:=by kernel_rfl
end Go.Proofs.Ytapinanmmhdpcaa.OA
