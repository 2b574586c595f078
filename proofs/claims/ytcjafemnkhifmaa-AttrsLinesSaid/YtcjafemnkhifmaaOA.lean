import Derived.Test.YtcjafemnkhifmaaMR
import Derived.Test.YtcjafemnkhifmaaGA0
/- What came in, of this program's own types, opened. -/
namespace Go.Proofs.Ytcjafemnkhifmaa.OA
open Go.ChangeShapes Go.WideShapes Go.ChangeAt Go.RowKit Go.Proofs.Ytcjafemnkhifmaa Go.Proofs.Ytcjafemnkhifmaa.GA Go.Proofs.YtcjafemnkhifmaaW.PrintWords Go.Proofs.YtcjafemnkhifmaaW.PrintLast Go.Proofs.YtcjafemnkhifmaaW.PrintMore
set_option linter.unusedVariables false
set_option maxRecDepth 100000
inductive G26:S26→Prop
 |mk (x:S26) (h0:((x.f0).size≤140737488351232)) (h1:((x.f1).size≤140737488351232)) (h2:((Lit.int .i64 (x.f2)).wf=true)) (h3:((Lit.int .i64 (x.f3)).wf=true)):G26 x
theorem opens26 (W:World):∀ n,MR.Opens Try.prog W 26 k26 G26 n:=by
 intro n
 induction n using Nat.strongRecOn with
 |_ n ih=>
 intro H enc cs x h hw
 obtain⟨ps,m,rfl,rfl,hl,hps,hf⟩:=DataW.trod_struct Try.underlying26 h
 have hwe:DataW.weights Try.prog 26 (.agg (ps.map (·.1)))=DataW.weightsEach Try.prog [9,9,3,3,4,4] (ps.map (·.1)):=by rw[DataW.weights,Try.underlying26];rfl
 rw[show Try.prog.cellsOf 26=6 from by kernel_rfl] at hl
 replace hps:ps.length=6:=hps
 obtain⟨x0_,x1_,x2_,x3_,x4_,x5_,rfl⟩:∃ x0_ x1_ x2_ x3_ x4_ x5_,cs=[x0_,x1_,x2_,x3_,x4_,x5_]:=by
  match cs,hl with
  |[x0_,x1_,x2_,x3_,x4_,x5_],_=>exact⟨_,_,_,_,_,_,rfl⟩
 obtain⟨y0,y1,y2,y3,y4,y5,rfl⟩:∃ y0 y1 y2 y3 y4 y5,ps=[y0,y1,y2,y3,y4,y5]:=by
  match ps,hps with
  |[y0,y1,y2,y3,y4,y5],_=>exact⟨_,_,_,_,_,_,rfl⟩
 have t0:DataW.trod enc Try.prog W 0 (fun _=>true) true m 9 [x0_]=some y0:=by
  have this:DataW.trod enc Try.prog W 0 (fun _=>true) true m 9 (List.take (Try.prog.cellsOf 9) (List.drop 0 [x0_,x1_,x2_,x3_,x4_,x5_]))=some y0:=hf 0 _ rfl
  rw[show Try.prog.cellsOf 9=1 from by kernel_rfl] at this
  exact this
 have t1:DataW.trod enc Try.prog W 0 (fun _=>true) true m 9 [x1_]=some y1:=by
  have this:DataW.trod enc Try.prog W 0 (fun _=>true) true m 9 (List.take (Try.prog.cellsOf 9) (List.drop 1 [x0_,x1_,x2_,x3_,x4_,x5_]))=some y1:=hf 1 _ rfl
  rw[show Try.prog.cellsOf 9=1 from by kernel_rfl] at this
  exact this
 have t2:DataW.trod enc Try.prog W 0 (fun _=>true) true m 3 [x2_]=some y2:=by
  have this:DataW.trod enc Try.prog W 0 (fun _=>true) true m 3 (List.take (Try.prog.cellsOf 3) (List.drop 2 [x0_,x1_,x2_,x3_,x4_,x5_]))=some y2:=hf 2 _ rfl
  rw[show Try.prog.cellsOf 3=1 from by kernel_rfl] at this
  exact this
 have t3:DataW.trod enc Try.prog W 0 (fun _=>true) true m 3 [x3_]=some y3:=by
  have this:DataW.trod enc Try.prog W 0 (fun _=>true) true m 3 (List.take (Try.prog.cellsOf 3) (List.drop 3 [x0_,x1_,x2_,x3_,x4_,x5_]))=some y3:=hf 3 _ rfl
  rw[show Try.prog.cellsOf 3=1 from by kernel_rfl] at this
  exact this
 have t4:DataW.trod enc Try.prog W 0 (fun _=>true) true m 4 [x4_]=some y4:=by
  have this:DataW.trod enc Try.prog W 0 (fun _=>true) true m 4 (List.take (Try.prog.cellsOf 4) (List.drop 4 [x0_,x1_,x2_,x3_,x4_,x5_]))=some y4:=hf 4 _ rfl
  rw[show Try.prog.cellsOf 4=1 from by kernel_rfl] at this
  exact this
 have t5:DataW.trod enc Try.prog W 0 (fun _=>true) true m 4 [x5_]=some y5:=by
  have this:DataW.trod enc Try.prog W 0 (fun _=>true) true m 4 (List.take (Try.prog.cellsOf 4) (List.drop 5 [x0_,x1_,x2_,x3_,x4_,x5_]))=some y5:=hf 5 _ rfl
  rw[show Try.prog.cellsOf 4=1 from by kernel_rfl] at this
  exact this
 have s0:∀ q ∈ DataW.weights Try.prog 9 y0.1,q≤140737488351232:=fun q hq=>hw q (by rw[hwe];exact DataW.weights_mem_each (j:=0) rfl rfl q hq)
 obtain⟨v0,k0,g0⟩:=(MR.opens_string _ Try.underlying9) enc _ _ t0 s0
 have e0:[x0_]=_:=k0
 injection e0 with e0 _
 subst e0
 have s1:∀ q ∈ DataW.weights Try.prog 9 y1.1,q≤140737488351232:=fun q hq=>hw q (by rw[hwe];exact DataW.weights_mem_each (j:=1) rfl rfl q hq)
 obtain⟨v1,k1,g1⟩:=(MR.opens_string _ Try.underlying9) enc _ _ t1 s1
 have e1:[x1_]=_:=k1
 injection e1 with e1 _
 subst e1
 have s2:∀ q ∈ DataW.weights Try.prog 3 y2.1,q≤140737488351232:=fun q hq=>hw q (by rw[hwe];exact DataW.weights_mem_each (j:=2) rfl rfl q hq)
 obtain⟨v2,k2,g2⟩:=(MR.opens_int _ Try.underlying3) enc _ _ t2 s2
 have e2:[x2_]=_:=k2
 injection e2 with e2 _
 subst e2
 have s3:∀ q ∈ DataW.weights Try.prog 3 y3.1,q≤140737488351232:=fun q hq=>hw q (by rw[hwe];exact DataW.weights_mem_each (j:=3) rfl rfl q hq)
 obtain⟨v3,k3,g3⟩:=(MR.opens_int _ Try.underlying3) enc _ _ t3 s3
 have e3:[x3_]=_:=k3
 injection e3 with e3 _
 subst e3
 have s4:∀ q ∈ DataW.weights Try.prog 4 y4.1,q≤140737488351232:=fun q hq=>hw q (by rw[hwe];exact DataW.weights_mem_each (j:=4) rfl rfl q hq)
 obtain⟨v4,k4,g4⟩:=(MR.opens_bool _ Try.underlying4) enc _ _ t4 s4
 have e4:[x4_]=_:=k4
 injection e4 with e4 _
 subst e4
 have s5:∀ q ∈ DataW.weights Try.prog 4 y5.1,q≤140737488351232:=fun q hq=>hw q (by rw[hwe];exact DataW.weights_mem_each (j:=5) rfl rfl q hq)
 obtain⟨v5,k5,g5⟩:=(MR.opens_bool _ Try.underlying4) enc _ _ t5 s5
 have e5:[x5_]=_:=k5
 injection e5 with e5 _
 subst e5
 exact⟨⟨v0,v1,v2,v3,v4,v5⟩,k26_mk W ⟨v0,v1,v2,v3,v4,v5⟩,.mk _ g0 g1 g2 g3⟩
theorem bytes26:Try.prog.bytesOf 26=56:=by kernel_rfl
theorem bytes9:Try.prog.bytesOf 9=16:=by kernel_rfl
end Go.Proofs.Ytcjafemnkhifmaa.OA
