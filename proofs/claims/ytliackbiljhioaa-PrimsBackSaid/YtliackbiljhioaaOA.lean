import Derived.Test.YtliackbiljhioaaMR
import Derived.Test.YtliackbiljhioaaGA0
/- What came in, of this program's own types, opened. -/
namespace Go.Proofs.Ytliackbiljhioaa.OA
open Go.ChangeShapes Go.WideShapes Go.ChangeAt Go.RowKit Go.Proofs.Ytliackbiljhioaa Go.Proofs.Ytliackbiljhioaa.GA Go.Proofs.YtliackbiljhioaaW.PrintWords Go.Proofs.YtliackbiljhioaaW.PrintLast Go.Proofs.YtliackbiljhioaaW.PrintMore
set_option linter.unusedVariables false
inductive G23 : S23 → Prop
  | mk (x : S23) (h0 : ((Lit.int .i64 (x.f0)).wf = true)) (h1 : ((Lit.int .i64 (x.f1)).wf = true)) : G23 x
theorem opens23 (W : World) : ∀ n, MR.Opens Try.prog W 23 k23 G23 n := by
  intro n
  induction n using Nat.strongRecOn with
  | _ n ih =>
  intro H enc cs x h hw
  obtain ⟨ps, m, rfl, rfl, hl, hps, hf⟩ := DataW.trod_struct Try.underlying23 h
  have hwe : DataW.weights Try.prog 23 (.agg (ps.map (·.1))) = DataW.weightsEach Try.prog [3, 3] (ps.map (·.1)) := by rw [DataW.weights, Try.underlying23]; rfl
  rw [show Try.prog.cellsOf 23 = 2 from by kernel_rfl] at hl
  replace hps : ps.length = 2 := hps
  obtain ⟨x0_, x1_, rfl⟩ : ∃ x0_ x1_, cs = [x0_, x1_] := by
    match cs, hl with
    | [x0_, x1_], _ => exact ⟨_, _, rfl⟩
  obtain ⟨y0, y1, rfl⟩ : ∃ y0 y1, ps = [y0, y1] := by
    match ps, hps with
    | [y0, y1], _ => exact ⟨_, _, rfl⟩
  have t0 : DataW.trod enc Try.prog W 0 (fun _ => true) true m 3 [x0_] = some y0 := by
    have this : DataW.trod enc Try.prog W 0 (fun _ => true) true m 3 (List.take (Try.prog.cellsOf 3) (List.drop 0 [x0_, x1_])) = some y0 := hf 0 _ rfl
    rw [show Try.prog.cellsOf 3 = 1 from by kernel_rfl] at this
    exact this
  have t1 : DataW.trod enc Try.prog W 0 (fun _ => true) true m 3 [x1_] = some y1 := by
    have this : DataW.trod enc Try.prog W 0 (fun _ => true) true m 3 (List.take (Try.prog.cellsOf 3) (List.drop 1 [x0_, x1_])) = some y1 := hf 1 _ rfl
    rw [show Try.prog.cellsOf 3 = 1 from by kernel_rfl] at this
    exact this
  have s0 : ∀ q ∈ DataW.weights Try.prog 3 y0.1, q ≤ 140737488351232 := fun q hq => hw q (by rw [hwe]; exact DataW.weights_mem_each (j := 0) rfl rfl q hq)
  obtain ⟨v0, k0, g0⟩ := (MR.opens_int _ Try.underlying3) enc _ _ t0 s0
  have e0 : [x0_] = _ := k0
  injection e0 with e0 _
  subst e0
  have s1 : ∀ q ∈ DataW.weights Try.prog 3 y1.1, q ≤ 140737488351232 := fun q hq => hw q (by rw [hwe]; exact DataW.weights_mem_each (j := 1) rfl rfl q hq)
  obtain ⟨v1, k1, g1⟩ := (MR.opens_int _ Try.underlying3) enc _ _ t1 s1
  have e1 : [x1_] = _ := k1
  injection e1 with e1 _
  subst e1
  exact ⟨⟨v0, v1⟩, k23_mk W ⟨v0, v1⟩, .mk _ g0 g1⟩
theorem bytes28 : Try.prog.bytesOf 28 = 64 := by kernel_rfl
inductive G28 : S28 → Prop
  | mk (x : S28) (h0 : ((Lit.int .i64 (x.f0)).wf = true)) (h2 : ((Lit.int .i64 (x.f2)).wf = true)) (h3 : ((x.f3).size ≤ 140737488351232)) (h4 : (x.f4).length * 64 ≤ 140737488351232) (h4' : ∀ y ∈ x.f4, G28 (y)) : G28 x
theorem opens28 (W : World) : ∀ n, MR.Opens Try.prog W 28 k28 G28 n := by
  intro n
  induction n using Nat.strongRecOn with
  | _ n ih =>
  intro H enc cs x h hw
  obtain ⟨ps, m, rfl, rfl, hl, hps, hf⟩ := DataW.trod_struct Try.underlying28 h
  have hwe : DataW.weights Try.prog 28 (.agg (ps.map (·.1))) = DataW.weightsEach Try.prog [3, 4, 3, 9, 24] (ps.map (·.1)) := by rw [DataW.weights, Try.underlying28]; rfl
  rw [show Try.prog.cellsOf 28 = 5 from by kernel_rfl] at hl
  replace hps : ps.length = 5 := hps
  obtain ⟨x0_, x1_, x2_, x3_, x4_, rfl⟩ : ∃ x0_ x1_ x2_ x3_ x4_, cs = [x0_, x1_, x2_, x3_, x4_] := by
    match cs, hl with
    | [x0_, x1_, x2_, x3_, x4_], _ => exact ⟨_, _, _, _, _, rfl⟩
  obtain ⟨y0, y1, y2, y3, y4, rfl⟩ : ∃ y0 y1 y2 y3 y4, ps = [y0, y1, y2, y3, y4] := by
    match ps, hps with
    | [y0, y1, y2, y3, y4], _ => exact ⟨_, _, _, _, _, rfl⟩
  have t0 : DataW.trod enc Try.prog W 0 (fun _ => true) true m 3 [x0_] = some y0 := by
    have this : DataW.trod enc Try.prog W 0 (fun _ => true) true m 3 (List.take (Try.prog.cellsOf 3) (List.drop 0 [x0_, x1_, x2_, x3_, x4_])) = some y0 := hf 0 _ rfl
    rw [show Try.prog.cellsOf 3 = 1 from by kernel_rfl] at this
    exact this
  have t1 : DataW.trod enc Try.prog W 0 (fun _ => true) true m 4 [x1_] = some y1 := by
    have this : DataW.trod enc Try.prog W 0 (fun _ => true) true m 4 (List.take (Try.prog.cellsOf 4) (List.drop 1 [x0_, x1_, x2_, x3_, x4_])) = some y1 := hf 1 _ rfl
    rw [show Try.prog.cellsOf 4 = 1 from by kernel_rfl] at this
    exact this
  have t2 : DataW.trod enc Try.prog W 0 (fun _ => true) true m 3 [x2_] = some y2 := by
    have this : DataW.trod enc Try.prog W 0 (fun _ => true) true m 3 (List.take (Try.prog.cellsOf 3) (List.drop 2 [x0_, x1_, x2_, x3_, x4_])) = some y2 := hf 2 _ rfl
    rw [show Try.prog.cellsOf 3 = 1 from by kernel_rfl] at this
    exact this
  have t3 : DataW.trod enc Try.prog W 0 (fun _ => true) true m 9 [x3_] = some y3 := by
    have this : DataW.trod enc Try.prog W 0 (fun _ => true) true m 9 (List.take (Try.prog.cellsOf 9) (List.drop 3 [x0_, x1_, x2_, x3_, x4_])) = some y3 := hf 3 _ rfl
    rw [show Try.prog.cellsOf 9 = 1 from by kernel_rfl] at this
    exact this
  have t4 : DataW.trod enc Try.prog W 0 (fun _ => true) true m 24 [x4_] = some y4 := by
    have this : DataW.trod enc Try.prog W 0 (fun _ => true) true m 24 (List.take (Try.prog.cellsOf 24) (List.drop 4 [x0_, x1_, x2_, x3_, x4_])) = some y4 := hf 4 _ rfl
    rw [show Try.prog.cellsOf 24 = 1 from by kernel_rfl] at this
    exact this
  have s0 : ∀ q ∈ DataW.weights Try.prog 3 y0.1, q ≤ 140737488351232 := fun q hq => hw q (by rw [hwe]; exact DataW.weights_mem_each (j := 0) rfl rfl q hq)
  obtain ⟨v0, k0, g0⟩ := (MR.opens_int _ Try.underlying3) enc _ _ t0 s0
  have e0 : [x0_] = _ := k0
  injection e0 with e0 _
  subst e0
  have s1 : ∀ q ∈ DataW.weights Try.prog 4 y1.1, q ≤ 140737488351232 := fun q hq => hw q (by rw [hwe]; exact DataW.weights_mem_each (j := 1) rfl rfl q hq)
  obtain ⟨v1, k1, g1⟩ := (MR.opens_bool _ Try.underlying4) enc _ _ t1 s1
  have e1 : [x1_] = _ := k1
  injection e1 with e1 _
  subst e1
  have s2 : ∀ q ∈ DataW.weights Try.prog 3 y2.1, q ≤ 140737488351232 := fun q hq => hw q (by rw [hwe]; exact DataW.weights_mem_each (j := 2) rfl rfl q hq)
  obtain ⟨v2, k2, g2⟩ := (MR.opens_int _ Try.underlying3) enc _ _ t2 s2
  have e2 : [x2_] = _ := k2
  injection e2 with e2 _
  subst e2
  have s3 : ∀ q ∈ DataW.weights Try.prog 9 y3.1, q ≤ 140737488351232 := fun q hq => hw q (by rw [hwe]; exact DataW.weights_mem_each (j := 3) rfl rfl q hq)
  obtain ⟨v3, k3, g3⟩ := (MR.opens_string _ Try.underlying9) enc _ _ t3 s3
  have e3 : [x3_] = _ := k3
  injection e3 with e3 _
  subst e3
  have s4 : ∀ q ∈ DataW.weights Try.prog 24 y4.1, q ≤ 140737488351232 := fun q hq => hw q (by rw [hwe]; exact DataW.weights_mem_each (j := 4) rfl rfl q hq)
  obtain ⟨v4, k4, g4⟩ := (MR.opens_slice (G := G28) m Try.underlying24 (by kernel_rfl) (by rw [bytes28]; decide) (fun i hi => ih i (by omega))) enc _ _ t4 s4
  obtain ⟨A4, c4, e4, l4, g4_⟩ := k4
  rw [bytes28] at g4
  injection e4 with e4 _
  subst e4
  exact ⟨⟨v0, v1, v2, v3, v4⟩, k28_mk W ⟨v0, v1, v2, v3, v4⟩ l4 g4_, .mk _ g0 g2 g3 g4.1 g4.2⟩
end Go.Proofs.Ytliackbiljhioaa.OA
