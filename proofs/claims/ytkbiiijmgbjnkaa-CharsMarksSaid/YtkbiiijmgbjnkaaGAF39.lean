-- written by wip/gen.py, a program of this session
import Derived.Test.YtkbiiijmgbjnkaaGA0
namespace Go.Proofs.Ytkbiiijmgbjnkaa.GA
open Go.RowKit Go.Proofs.Ytkbiiijmgbjnkaa Go.Proofs.Ytkbiiijmgbjnkaa.MW Go.Proofs.YtkbiiijmgbjnkaaW.PrintWords Go.Proofs.YtkbiiijmgbjnkaaW.PrintLast Go.Proofs.YtkbiiijmgbjnkaaW.PrintMore
attribute [local go_sem] max2_int min2_int max_two min_two
set_option linter.unusedVariables false
set_option linter.unusedSimpArgs false

/-! ### toponymref03_planes: function 39 -/
def toponymref03_planes.l0 : Nat → (List (S38)) → Int → Option ((List (S38)))
  | 0, _, _ => none
  | k + 1, x1, x4 => if x4 ≤ 16 then (if x1.length < 8796093022208 then ((some (x1 ++ [(⟨wrap32 (wrap64 ((wrap64 (65536 * x4)) + 65534)), wrap32 ((wrap32 (wrap64 ((wrap64 (65536 * x4)) + 65534))) + 1), 7⟩ : S38)] : List (S38))).bind fun y10 => ((toponymref03_planes.l0 k y10 (wrap64 (x4 + 1))))) else (none)) else (some x1)
def toponymref03_planes.f (k : Nat)  : Option ((List (S38))) := (toponymref03_planes.l0 k ([] : List (S38)) 1)
theorem toponymref03_planes.mono_l : ∀ k, (∀ y0 y1, LeO (toponymref03_planes.l0 k y0 y1) (toponymref03_planes.l0 (k + 1) y0 y1))
  | 0 => fun _ _ r h => by simp [toponymref03_planes.l0] at h
  | k + 1 => by
    have ih0 := toponymref03_planes.mono_l k
    · intro y0 y1
      unfold toponymref03_planes.l0
      repeat' first
      | (with_reducible exact ih0 _ _)
      | (with_reducible exact LeO.refl _)
      | (with_reducible exact LeO.none _)
      | (with_reducible refine LeO.ite ?_ ?_)
      | (with_reducible refine LeO.bind ?_ (fun _ => ?_))
      | exact ih0 _ _
      | exact LeO.none _
      | refine LeO.ite ?_ ?_
      | refine LeO.bind ?_ (fun _ => ?_)
theorem toponymref03_planes.mono : ∀ k, LeO (toponymref03_planes.f k ) (toponymref03_planes.f (k + 1) ) := by
  intro  k
  have ih0 := toponymref03_planes.mono_l k
  unfold toponymref03_planes.f
  repeat' first
      | (with_reducible exact ih0 _ _)
      | (with_reducible exact LeO.refl _)
      | (with_reducible exact LeO.none _)
      | (with_reducible refine LeO.ite ?_ ?_)
      | (with_reducible refine LeO.bind ?_ (fun _ => ?_))
      | exact ih0 _ _
      | exact LeO.none _
      | refine LeO.ite ?_ ?_
      | refine LeO.bind ?_ (fun _ => ?_)
set_option maxHeartbeats 8000000 in
set_option maxRecDepth 100000 in
theorem toponymref03_planes.calls (k : Nat) (r : List (S38)) (w : World) (h : toponymref03_planes.f k  = some r) :
    Calls Try.prog 39 #[] w (fun e w' => ∃ v0_ : Value, e = .returned (v0_) ∧ Kd.N k38 38 w' w.heap.size (fun k_ => w.heap.size ≤ k_) v0_ r ∧ Below w.heap.size w w') := by
  have HH := Aside0.mk (show ((toponymref03_planes.l0 k ([] : List (S38)) 1)) = some r from h)
  clear h
  have HB := Aside0.mk (Below.refl w.heap.size w)
  have hu38 := Try.underlying38
  go_enter Try.func39, Try.ntmps39
  go_wp2
  go_loopg [1, 2] k (fun kq u1 u2 w' => ∃ (x1 : List (S38)) (x4 : Int), u2 = .int .i64 x4 ∧ Aside0 ((toponymref03_planes.l0 kq x1 x4) = some r) ∧ Aside0 (kq ≤ k) ∧ Aside0 (Kd.N k38 38 w' w.heap.size (fun k_ => (w.heap.size ≤ k_)) u1 x1) ∧ Aside0 (Below w.heap.size w w'))
  case atStart => exact ⟨([] : List (S38)), 1, (by first | rfl | (simp; done) | (simp [*]; done)), HH, ⟨Nat.le_refl _⟩, ⟨Kd.N_nil _ _ _ _ _⟩, ⟨HB.out⟩⟩
  case round =>
    clear HH
    clear HB
    obtain ⟨x1, x4, rfl, HA, HK0, HN3, HB⟩ := hrel
    obtain ⟨v2, rfl⟩ : ∃ z_ : Value, z_ = u1 := ⟨_, rfl⟩
    obtain ⟨w6, rfl⟩ : ∃ wo_ : World, wo_ = wr := ⟨_, rfl⟩
    cases gk with
    | zero => exact absurd HA.out (by simp [toponymref03_planes.l0])
    | succ k5 =>
      have H := HA.out
      clear HA
      simp only [toponymref03_planes.l0] at H
      have HH := Aside0.mk H
      clear H
      by_cases c7 : x4 ≤ 16
      · have H := HH.out
        rw [if_pos c7] at H
        replace HH := Aside0.mk H
        clear H
        have hk8 : decide (x4 ≤ 16) = true := decide_eq_true c7
        clear c7
        by_cases c9 : x1.length < 8796093022208
        · have H := HH.out
          rw [if_pos c9] at H
          replace HH := Aside0.mk H
          clear H
          have LMc9 := Aside0.mk c9
          clear c9
          obtain ⟨y10, hy10⟩ : ∃ y_ : List (S38), y_ = (x1 ++ [(⟨wrap32 (wrap64 ((wrap64 (65536 * x4)) + 65534)), wrap32 ((wrap32 (wrap64 ((wrap64 (65536 * x4)) + 65534))) + 1), 7⟩ : S38)]) := ⟨_, rfl⟩
          have H : ((toponymref03_planes.l0 k5 y10 (wrap64 (x4 + 1)))) = some r := by rw [hy10]; exact HH.out
          replace HH := Aside0.mk H
          clear H
          have NYy10 := Aside0.mk hy10
          clear hy10
          go_wp2_with (((with_reducible refine gate_dst (N := 18) rfl ?_); (try (refine gate_guard (by rfl) ?_; dsimp only)); refine Kd.N_append k38 w.heap.size rfl _ _ 33 38 (.agg #[(.int .i32 0), (.int .i32 0), (.int .i64 0)]) 16 rfl Try.underlying33 info38 rfl (by decide) (by decide) (v2) x1 (⟨wrap32 (wrap64 ((wrap64 (65536 * x4)) + 65534)), wrap32 ((wrap32 (wrap64 ((wrap64 (65536 * x4)) + 65534))) + 1), 7⟩ : S38) [.int .i32 (wrap32 (wrap64 ((wrap64 (65536 * x4)) + 65534))), .int .i32 (wrap32 ((wrap32 (wrap64 ((wrap64 (65536 * x4)) + 65534))) + 1)), .int .i64 7] (fun k_ => (w.heap.size ≤ k_)) (fun k_ => (fun k_ => (w.heap.size ≤ k_)) k_ ∧ some k_ ≠ (v2 : Value).ownBlock) rfl rfl (k38_mkF _ _ (⟨wrap32 (wrap64 ((wrap64 (65536 * x4)) + 65534)), wrap32 ((wrap32 (wrap64 ((wrap64 (65536 * x4)) + 65534))) + 1), 7⟩ : S38)) (fun _ hk_ => hk_) (fun k_ h_ => (Nat.le_trans (below_size (by repeat (first | (with_reducible first | exact HB.out | apply below_alloc | apply pw_below_drewN | apply below_drew1) | exact HB.out))) h_)) (by (with_reducible repeat (first | apply Kd.N_alloc | apply Kd.N_drewN | apply Kd.N_drew)); exact HN3.out) (by repeat (first | (with_reducible first | exact HB.out | apply below_alloc | apply pw_below_drewN | apply below_drew1) | exact HB.out)) (below_size (by repeat (first | (with_reducible first | exact HB.out | apply below_alloc | apply pw_below_drewN | apply below_drew1) | exact HB.out))) (by first | (have := LMc9.out; omega) | (have := LMc9.out; simp at *; omega)) ?_; intro v11 w12 hn1 hb1 hg1 hat1); replace hat1 := Aside0.mk hat1; refine stop_ ?_)
          refine Stop.go ?_
          replace hat1 := hat1.out
          replace HB := Aside0.mk hb1
          clear HN3
          have HN13 := Aside0.mk hn1
          clear hn1 hb1 hg1 hat1
          replace HN13 := Aside0.mk (by rw [NYy10.out]; exact HN13.out : Kd.N k38 38 w12 w.heap.size (fun k_ => (w.heap.size ≤ k_)) v11 y10)
          go_wp2
          go_roundg k5
          case measure => have := HK0.out; omega
          case rel => exact ⟨y10, wrap64 (x4 + 1), (by first | rfl | (simp; done) | (simp [*]; done)), HH, ⟨by have := HK0.out; omega⟩, ⟨(Kd.N_mono (ok := (fun k_ => (w.heap.size ≤ k_))) HN13.out (fun k_ hk_ => hk_))⟩, ⟨HB.out⟩⟩
        · exact absurd HH.out (by rw [if_neg c9]; simp)
      · have H := HH.out
        rw [if_neg c7] at H
        replace HH := Aside0.mk H
        clear H
        have hk14 : decide (x4 ≤ 16) = false := decide_eq_false c7
        clear c7
        have H := HH.out
        obtain rfl := Option.some.inj H
        clear HH
        go_wp2
        go_ret
        exact ⟨_, by first | rfl | (simp; done) | (simp [*]; done), (Kd.N_mono (ok := (fun k_ => (w.heap.size ≤ k_))) HN3.out (fun k_ hk_ => hk_)), HB.out⟩

end Go.Proofs.Ytkbiiijmgbjnkaa.GA
