import Derived.Test.YtcokpnajkkjclaaMR
import Derived.Test.YtcokpnajkkjclaaGA0
/- What came in, of this program's own types, opened. -/
namespace Go.Proofs.Ytcokpnajkkjclaa.OA
open Go.ChangeShapes Go.WideShapes Go.ChangeAt Go.RowKit Go.Proofs.Ytcokpnajkkjclaa Go.Proofs.Ytcokpnajkkjclaa.GA Go.Proofs.YtcokpnajkkjclaaW.PrintWords Go.Proofs.YtcokpnajkkjclaaW.PrintLast Go.Proofs.YtcokpnajkkjclaaW.PrintMore
set_option linter.unusedVariables false
set_option maxRecDepth 100000
inductive G37:S37→Prop
 |mk (x:S37) (h0:((Lit.int .i32 (x.f0)).wf=true)) (h1:((Lit.int .i32 (x.f1)).wf=true)) (h2:((Lit.int .i64 (x.f2)).wf=true)):G37 x
theorem opens37 (W:World):∀ n,MR.Opens Try.prog W 37 k37 G37 n:=by
 intro n
 induction n using Nat.strongRecOn with
 |_ n ih=>
 intro H enc cs x h hw
 obtain⟨ps,m,rfl,rfl,hl,hps,hf⟩:=DataW.trod_struct Try.underlying37 h
 have hwe:DataW.weights Try.prog 37 (.agg (ps.map (·.1)))=DataW.weightsEach Try.prog [21,21,3] (ps.map (·.1)):=by rw[DataW.weights,Try.underlying37];rfl
 rw[show Try.prog.cellsOf 37=3 from by kernel_rfl] at hl
 replace hps:ps.length=3:=hps
 obtain⟨x0_,x1_,x2_,rfl⟩:∃ x0_ x1_ x2_,cs=[x0_,x1_,x2_]:=by
  match cs,hl with
  |[x0_,x1_,x2_],_=>exact⟨_,_,_,rfl⟩
 obtain⟨y0,y1,y2,rfl⟩:∃ y0 y1 y2,ps=[y0,y1,y2]:=by
  match ps,hps with
  |[y0,y1,y2],_=>exact⟨_,_,_,rfl⟩
 have t0:DataW.trod enc Try.prog W 0 (fun _=>true) true m 21 [x0_]=some y0:=by
  have this:DataW.trod enc Try.prog W 0 (fun _=>true) true m 21 (List.take (Try.prog.cellsOf 21) (List.drop 0 [x0_,x1_,x2_]))=some y0:=hf 0 _ rfl
  rw[show Try.prog.cellsOf 21=1 from by kernel_rfl] at this
  exact this
 have t1:DataW.trod enc Try.prog W 0 (fun _=>true) true m 21 [x1_]=some y1:=by
  have this:DataW.trod enc Try.prog W 0 (fun _=>true) true m 21 (List.take (Try.prog.cellsOf 21) (List.drop 1 [x0_,x1_,x2_]))=some y1:=hf 1 _ rfl
  rw[show Try.prog.cellsOf 21=1 from by kernel_rfl] at this
  exact this
 have t2:DataW.trod enc Try.prog W 0 (fun _=>true) true m 3 [x2_]=some y2:=by
  have this:DataW.trod enc Try.prog W 0 (fun _=>true) true m 3 (List.take (Try.prog.cellsOf 3) (List.drop 2 [x0_,x1_,x2_]))=some y2:=hf 2 _ rfl
  rw[show Try.prog.cellsOf 3=1 from by kernel_rfl] at this
  exact this
 have s0:∀ q ∈ DataW.weights Try.prog 21 y0.1,q≤140737488351232:=fun q hq=>hw q (by rw[hwe];exact DataW.weights_mem_each (j:=0) rfl rfl q hq)
 obtain⟨v0,k0,g0⟩:=(MR.opens_int _ Try.underlying21) enc _ _ t0 s0
 have e0:[x0_]=_:=k0
 injection e0 with e0 _
 subst e0
 have s1:∀ q ∈ DataW.weights Try.prog 21 y1.1,q≤140737488351232:=fun q hq=>hw q (by rw[hwe];exact DataW.weights_mem_each (j:=1) rfl rfl q hq)
 obtain⟨v1,k1,g1⟩:=(MR.opens_int _ Try.underlying21) enc _ _ t1 s1
 have e1:[x1_]=_:=k1
 injection e1 with e1 _
 subst e1
 have s2:∀ q ∈ DataW.weights Try.prog 3 y2.1,q≤140737488351232:=fun q hq=>hw q (by rw[hwe];exact DataW.weights_mem_each (j:=2) rfl rfl q hq)
 obtain⟨v2,k2,g2⟩:=(MR.opens_int _ Try.underlying3) enc _ _ t2 s2
 have e2:[x2_]=_:=k2
 injection e2 with e2 _
 subst e2
 exact⟨⟨v0,v1,v2⟩,k37_mk W ⟨v0,v1,v2⟩,.mk _ g0 g1 g2⟩
theorem bytes37:Try.prog.bytesOf 37=16:=by kernel_rfl
end Go.Proofs.Ytcokpnajkkjclaa.OA
