import Derived.Test.YtdjkemhmhkpmkaaMR
import Derived.Test.YtdjkemhmhkpmkaaGA0
/- What came in, of this program's own types, opened. -/
namespace Go.Proofs.Ytdjkemhmhkpmkaa.OA
open Go.ChangeShapes Go.WideShapes Go.ChangeAt Go.RowKit Go.Proofs.Ytdjkemhmhkpmkaa Go.Proofs.Ytdjkemhmhkpmkaa.GA Go.Proofs.YtdjkemhmhkpmkaaW.PrintWords Go.Proofs.YtdjkemhmhkpmkaaW.PrintLast Go.Proofs.YtdjkemhmhkpmkaaW.PrintMore
set_option linter.unusedVariables false
set_option maxRecDepth 100000
theorem bytes9:Try.prog.bytesOf 9=16:=by kernel_rfl
inductive G46:S46→Prop
 |mk (x:S46) (h0:((x.f0).size≤140737488351232)) (h1:(x.f1).length*16≤140737488351232) (h1':∀ y ∈ x.f1,((y).size≤140737488351232)):G46 x
theorem opens46 (W:World):∀ n,MR.Opens Try.prog W 46 k46 G46 n:=by
 intro n
 induction n using Nat.strongRecOn with
 |_ n ih=>
 intro H enc cs x h hw
 obtain⟨ps,m,rfl,rfl,hl,hps,hf⟩:=DataW.trod_struct Try.underlying46 h
 have hwe:DataW.weights Try.prog 46 (.agg (ps.map (·.1)))=DataW.weightsEach Try.prog [9,31] (ps.map (·.1)):=by rw[DataW.weights,Try.underlying46];rfl
 rw[show Try.prog.cellsOf 46=2 from by kernel_rfl] at hl
 replace hps:ps.length=2:=hps
 obtain⟨x0_,x1_,rfl⟩:∃ x0_ x1_,cs=[x0_,x1_]:=by
  match cs,hl with
  |[x0_,x1_],_=>exact⟨_,_,rfl⟩
 obtain⟨y0,y1,rfl⟩:∃ y0 y1,ps=[y0,y1]:=by
  match ps,hps with
  |[y0,y1],_=>exact⟨_,_,rfl⟩
 have t0:DataW.trod enc Try.prog W 0 (fun _=>true) true m 9 [x0_]=some y0:=by
  have this:DataW.trod enc Try.prog W 0 (fun _=>true) true m 9 (List.take (Try.prog.cellsOf 9) (List.drop 0 [x0_,x1_]))=some y0:=hf 0 _ rfl
  rw[show Try.prog.cellsOf 9=1 from by kernel_rfl] at this
  exact this
 have t1:DataW.trod enc Try.prog W 0 (fun _=>true) true m 31 [x1_]=some y1:=by
  have this:DataW.trod enc Try.prog W 0 (fun _=>true) true m 31 (List.take (Try.prog.cellsOf 31) (List.drop 1 [x0_,x1_]))=some y1:=hf 1 _ rfl
  rw[show Try.prog.cellsOf 31=1 from by kernel_rfl] at this
  exact this
 have s0:∀ q ∈ DataW.weights Try.prog 9 y0.1,q≤140737488351232:=fun q hq=>hw q (by rw[hwe];exact DataW.weights_mem_each (j:=0) rfl rfl q hq)
 obtain⟨v0,k0,g0⟩:=(MR.opens_string _ Try.underlying9) enc _ _ t0 s0
 have e0:[x0_]=_:=k0
 injection e0 with e0 _
 subst e0
 have s1:∀ q ∈ DataW.weights Try.prog 31 y1.1,q≤140737488351232:=fun q hq=>hw q (by rw[hwe];exact DataW.weights_mem_each (j:=1) rfl rfl q hq)
 obtain⟨v1,k1,g1⟩:=(MR.opens_slice (G:=fun x:ByteArray=>((x).size≤140737488351232)) _ Try.underlying31 (by kernel_rfl) (by rw[bytes9];decide) (fun _ _=>(MR.opens_string _ Try.underlying9))) enc _ _ t1 s1
 obtain⟨A1,c1,e1,l1,g1_⟩:=k1
 rw[bytes9] at g1
 injection e1 with e1 _
 subst e1
 exact⟨⟨v0,v1⟩,k46_mk W ⟨v0,v1⟩ l1 g1_,.mk _ g0 g1.1 g1.2⟩
theorem bytes46:Try.prog.bytesOf 46=40:=by kernel_rfl
inductive G27:S27→Prop
 |mk (x:S27) (h0:((Lit.int .i64 (x.f0)).wf=true)) (h1:((Lit.int .i64 (x.f1)).wf=true)) (h3:((Lit.int .i64 (x.f3)).wf=true)) (h4:((x.f4).size≤140737488351232)) (h5:((x.f5).size≤140737488351232)) (h6:((x.f6).size≤140737488351232)) (h7:(x.f7).length*40≤140737488351232) (h7':∀ y ∈ x.f7,G46 (y)):G27 x
theorem opens27 (W:World):∀ n,MR.Opens Try.prog W 27 k27 G27 n:=by
 intro n
 induction n using Nat.strongRecOn with
 |_ n ih=>
 intro H enc cs x h hw
 obtain⟨ps,m,rfl,rfl,hl,hps,hf⟩:=DataW.trod_struct Try.underlying27 h
 have hwe:DataW.weights Try.prog 27 (.agg (ps.map (·.1)))=DataW.weightsEach Try.prog [3,3,4,3,9,9,9,25] (ps.map (·.1)):=by rw[DataW.weights,Try.underlying27];rfl
 rw[show Try.prog.cellsOf 27=8 from by kernel_rfl] at hl
 replace hps:ps.length=8:=hps
 obtain⟨x0_,x1_,x2_,x3_,x4_,x5_,x6_,x7_,rfl⟩:∃ x0_ x1_ x2_ x3_ x4_ x5_ x6_ x7_,cs=[x0_,x1_,x2_,x3_,x4_,x5_,x6_,x7_]:=by
  match cs,hl with
  |[x0_,x1_,x2_,x3_,x4_,x5_,x6_,x7_],_=>exact⟨_,_,_,_,_,_,_,_,rfl⟩
 obtain⟨y0,y1,y2,y3,y4,y5,y6,y7,rfl⟩:∃ y0 y1 y2 y3 y4 y5 y6 y7,ps=[y0,y1,y2,y3,y4,y5,y6,y7]:=by
  match ps,hps with
  |[y0,y1,y2,y3,y4,y5,y6,y7],_=>exact⟨_,_,_,_,_,_,_,_,rfl⟩
 have t0:DataW.trod enc Try.prog W 0 (fun _=>true) true m 3 [x0_]=some y0:=by
  have this:DataW.trod enc Try.prog W 0 (fun _=>true) true m 3 (List.take (Try.prog.cellsOf 3) (List.drop 0 [x0_,x1_,x2_,x3_,x4_,x5_,x6_,x7_]))=some y0:=hf 0 _ rfl
  rw[show Try.prog.cellsOf 3=1 from by kernel_rfl] at this
  exact this
 have t1:DataW.trod enc Try.prog W 0 (fun _=>true) true m 3 [x1_]=some y1:=by
  have this:DataW.trod enc Try.prog W 0 (fun _=>true) true m 3 (List.take (Try.prog.cellsOf 3) (List.drop 1 [x0_,x1_,x2_,x3_,x4_,x5_,x6_,x7_]))=some y1:=hf 1 _ rfl
  rw[show Try.prog.cellsOf 3=1 from by kernel_rfl] at this
  exact this
 have t2:DataW.trod enc Try.prog W 0 (fun _=>true) true m 4 [x2_]=some y2:=by
  have this:DataW.trod enc Try.prog W 0 (fun _=>true) true m 4 (List.take (Try.prog.cellsOf 4) (List.drop 2 [x0_,x1_,x2_,x3_,x4_,x5_,x6_,x7_]))=some y2:=hf 2 _ rfl
  rw[show Try.prog.cellsOf 4=1 from by kernel_rfl] at this
  exact this
 have t3:DataW.trod enc Try.prog W 0 (fun _=>true) true m 3 [x3_]=some y3:=by
  have this:DataW.trod enc Try.prog W 0 (fun _=>true) true m 3 (List.take (Try.prog.cellsOf 3) (List.drop 3 [x0_,x1_,x2_,x3_,x4_,x5_,x6_,x7_]))=some y3:=hf 3 _ rfl
  rw[show Try.prog.cellsOf 3=1 from by kernel_rfl] at this
  exact this
 have t4:DataW.trod enc Try.prog W 0 (fun _=>true) true m 9 [x4_]=some y4:=by
  have this:DataW.trod enc Try.prog W 0 (fun _=>true) true m 9 (List.take (Try.prog.cellsOf 9) (List.drop 4 [x0_,x1_,x2_,x3_,x4_,x5_,x6_,x7_]))=some y4:=hf 4 _ rfl
  rw[show Try.prog.cellsOf 9=1 from by kernel_rfl] at this
  exact this
 have t5:DataW.trod enc Try.prog W 0 (fun _=>true) true m 9 [x5_]=some y5:=by
  have this:DataW.trod enc Try.prog W 0 (fun _=>true) true m 9 (List.take (Try.prog.cellsOf 9) (List.drop 5 [x0_,x1_,x2_,x3_,x4_,x5_,x6_,x7_]))=some y5:=hf 5 _ rfl
  rw[show Try.prog.cellsOf 9=1 from by kernel_rfl] at this
  exact this
 have t6:DataW.trod enc Try.prog W 0 (fun _=>true) true m 9 [x6_]=some y6:=by
  have this:DataW.trod enc Try.prog W 0 (fun _=>true) true m 9 (List.take (Try.prog.cellsOf 9) (List.drop 6 [x0_,x1_,x2_,x3_,x4_,x5_,x6_,x7_]))=some y6:=hf 6 _ rfl
  rw[show Try.prog.cellsOf 9=1 from by kernel_rfl] at this
  exact this
 have t7:DataW.trod enc Try.prog W 0 (fun _=>true) true m 25 [x7_]=some y7:=by
  have this:DataW.trod enc Try.prog W 0 (fun _=>true) true m 25 (List.take (Try.prog.cellsOf 25) (List.drop 7 [x0_,x1_,x2_,x3_,x4_,x5_,x6_,x7_]))=some y7:=hf 7 _ rfl
  rw[show Try.prog.cellsOf 25=1 from by kernel_rfl] at this
  exact this
 have s0:∀ q ∈ DataW.weights Try.prog 3 y0.1,q≤140737488351232:=fun q hq=>hw q (by rw[hwe];exact DataW.weights_mem_each (j:=0) rfl rfl q hq)
 obtain⟨v0,k0,g0⟩:=(MR.opens_int _ Try.underlying3) enc _ _ t0 s0
 have e0:[x0_]=_:=k0
 injection e0 with e0 _
 subst e0
 have s1:∀ q ∈ DataW.weights Try.prog 3 y1.1,q≤140737488351232:=fun q hq=>hw q (by rw[hwe];exact DataW.weights_mem_each (j:=1) rfl rfl q hq)
 obtain⟨v1,k1,g1⟩:=(MR.opens_int _ Try.underlying3) enc _ _ t1 s1
 have e1:[x1_]=_:=k1
 injection e1 with e1 _
 subst e1
 have s2:∀ q ∈ DataW.weights Try.prog 4 y2.1,q≤140737488351232:=fun q hq=>hw q (by rw[hwe];exact DataW.weights_mem_each (j:=2) rfl rfl q hq)
 obtain⟨v2,k2,g2⟩:=(MR.opens_bool _ Try.underlying4) enc _ _ t2 s2
 have e2:[x2_]=_:=k2
 injection e2 with e2 _
 subst e2
 have s3:∀ q ∈ DataW.weights Try.prog 3 y3.1,q≤140737488351232:=fun q hq=>hw q (by rw[hwe];exact DataW.weights_mem_each (j:=3) rfl rfl q hq)
 obtain⟨v3,k3,g3⟩:=(MR.opens_int _ Try.underlying3) enc _ _ t3 s3
 have e3:[x3_]=_:=k3
 injection e3 with e3 _
 subst e3
 have s4:∀ q ∈ DataW.weights Try.prog 9 y4.1,q≤140737488351232:=fun q hq=>hw q (by rw[hwe];exact DataW.weights_mem_each (j:=4) rfl rfl q hq)
 obtain⟨v4,k4,g4⟩:=(MR.opens_string _ Try.underlying9) enc _ _ t4 s4
 have e4:[x4_]=_:=k4
 injection e4 with e4 _
 subst e4
 have s5:∀ q ∈ DataW.weights Try.prog 9 y5.1,q≤140737488351232:=fun q hq=>hw q (by rw[hwe];exact DataW.weights_mem_each (j:=5) rfl rfl q hq)
 obtain⟨v5,k5,g5⟩:=(MR.opens_string _ Try.underlying9) enc _ _ t5 s5
 have e5:[x5_]=_:=k5
 injection e5 with e5 _
 subst e5
 have s6:∀ q ∈ DataW.weights Try.prog 9 y6.1,q≤140737488351232:=fun q hq=>hw q (by rw[hwe];exact DataW.weights_mem_each (j:=6) rfl rfl q hq)
 obtain⟨v6,k6,g6⟩:=(MR.opens_string _ Try.underlying9) enc _ _ t6 s6
 have e6:[x6_]=_:=k6
 injection e6 with e6 _
 subst e6
 have s7:∀ q ∈ DataW.weights Try.prog 25 y7.1,q≤140737488351232:=fun q hq=>hw q (by rw[hwe];exact DataW.weights_mem_each (j:=7) rfl rfl q hq)
 obtain⟨v7,k7,g7⟩:=(MR.opens_slice (G:=fun x:S46=>G46 (x)) _ Try.underlying25 (by kernel_rfl) (by rw[bytes46];decide) (fun _ _=>(opens46 W _))) enc _ _ t7 s7
 obtain⟨A7,c7,e7,l7,g7_⟩:=k7
 rw[bytes46] at g7
 injection e7 with e7 _
 subst e7
 exact⟨⟨v0,v1,v2,v3,v4,v5,v6,v7⟩,k27_mk W ⟨v0,v1,v2,v3,v4,v5,v6,v7⟩ l7 g7_,.mk _ g0 g1 g3 g4 g5 g6 g7.1 g7.2⟩
theorem bytes27:Try.prog.bytesOf 27=104:=by kernel_rfl
end Go.Proofs.Ytdjkemhmhkpmkaa.OA
