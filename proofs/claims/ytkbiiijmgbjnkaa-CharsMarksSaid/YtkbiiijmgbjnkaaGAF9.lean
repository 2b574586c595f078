-- written by wip/gen.py, a program of this session
import Derived.Test.YtkbiiijmgbjnkaaGA0
import Derived.Test.YtkbiiijmgbjnkaaGAF30
import Derived.Test.YtkbiiijmgbjnkaaGAF31
namespace Go.Proofs.Ytkbiiijmgbjnkaa.GA
open Go.RowKit Go.Proofs.Ytkbiiijmgbjnkaa Go.Proofs.Ytkbiiijmgbjnkaa.MW Go.Proofs.YtkbiiijmgbjnkaaW.PrintWords Go.Proofs.YtkbiiijmgbjnkaaW.PrintLast Go.Proofs.YtkbiiijmgbjnkaaW.PrintMore
attribute [local go_sem] max2_int min2_int max_two min_two
set_option linter.unusedVariables false
set_option linter.unusedSimpArgs false

/-! ### toponymref03_Kind: function 9 -/
mutual
def toponymref03_Kind.l0 : Nat → Int → Int → (List (S38)) → Option (Int)
  | 0, _, _, _ => none
  | k + 1, x19, a0, t11 => if x19 < (t11.length : Int) then (if 0 ≤ x19 then (if a0 ≥ ((rd_T38 t11 x19).f0) then (if a0 ≤ ((rd_T38 t11 x19).f1) then (some ((rd_T38 t11 x19).f2)) else ((toponymref03_Kind.l0 k (wrap64 (x19 + 1)) a0 t11))) else ((toponymref03_Kind.l0 k (wrap64 (x19 + 1)) a0 t11))) else (none)) else (some 0)
def toponymref03_Kind.l1 : Nat → Int → Int → (List (S38)) → Option (Int)
  | 0, _, _, _ => none
  | k + 1, x46, a0, t38 => if x46 < (t38.length : Int) then (if 0 ≤ x46 then (if a0 ≥ ((rd_T38 t38 x46).f0) then (if a0 ≤ ((rd_T38 t38 x46).f1) then (some ((rd_T38 t38 x46).f2)) else ((toponymref03_Kind.l1 k (wrap64 (x46 + 1)) a0 t38))) else ((toponymref03_Kind.l1 k (wrap64 (x46 + 1)) a0 t38))) else (none)) else (some 0)
end
def toponymref03_Kind.f (k : Nat) (a0 : Int) : Option (Int) := if a0 ≥ 0 then (if a0 < 128 then ((toponymref03_ascii.f a0).bind fun t6 => (some t6)) else ((toponymref03_Rows.f k ).bind fun t11 => ((toponymref03_Kind.l0 k 0 a0 t11)))) else ((toponymref03_Rows.f k ).bind fun t38 => ((toponymref03_Kind.l1 k 0 a0 t38)))
theorem toponymref03_Kind.mono_l : ∀ k, (∀ y0 y1 y2, LeO (toponymref03_Kind.l0 k y0 y1 y2) (toponymref03_Kind.l0 (k + 1) y0 y1 y2)) ∧ (∀ y0 y1 y2, LeO (toponymref03_Kind.l1 k y0 y1 y2) (toponymref03_Kind.l1 (k + 1) y0 y1 y2))
  | 0 => ⟨fun _ _ _ r h => by simp [toponymref03_Kind.l0] at h, fun _ _ _ r h => by simp [toponymref03_Kind.l1] at h⟩
  | k + 1 => by
    obtain ⟨ih0, ih1⟩ := toponymref03_Kind.mono_l k
    refine ⟨?_, ?_⟩
    · intro y0 y1 y2
      unfold toponymref03_Kind.l0
      repeat' first
      | (with_reducible exact ih0 _ _ _)
      | (with_reducible exact ih1 _ _ _)
      | (with_reducible exact toponymref03_Rows.mono _)
      | (with_reducible exact LeO.refl _)
      | (with_reducible exact LeO.none _)
      | (with_reducible refine LeO.ite ?_ ?_)
      | (with_reducible refine LeO.bind ?_ (fun _ => ?_))
      | exact ih0 _ _ _
      | exact ih1 _ _ _
      | exact toponymref03_Rows.mono _
      | exact LeO.none _
      | refine LeO.ite ?_ ?_
      | refine LeO.bind ?_ (fun _ => ?_)
    · intro y0 y1 y2
      unfold toponymref03_Kind.l1
      repeat' first
      | (with_reducible exact ih0 _ _ _)
      | (with_reducible exact ih1 _ _ _)
      | (with_reducible exact toponymref03_Rows.mono _)
      | (with_reducible exact LeO.refl _)
      | (with_reducible exact LeO.none _)
      | (with_reducible refine LeO.ite ?_ ?_)
      | (with_reducible refine LeO.bind ?_ (fun _ => ?_))
      | exact ih0 _ _ _
      | exact ih1 _ _ _
      | exact toponymref03_Rows.mono _
      | exact LeO.none _
      | refine LeO.ite ?_ ?_
      | refine LeO.bind ?_ (fun _ => ?_)
theorem toponymref03_Kind.mono : ∀ a0_ k, LeO (toponymref03_Kind.f k a0_) (toponymref03_Kind.f (k + 1) a0_) := by
  intro a0_ k
  obtain ⟨ih0, ih1⟩ := toponymref03_Kind.mono_l k
  unfold toponymref03_Kind.f
  repeat' first
      | (with_reducible exact ih0 _ _ _)
      | (with_reducible exact ih1 _ _ _)
      | (with_reducible exact toponymref03_Rows.mono _)
      | (with_reducible exact LeO.refl _)
      | (with_reducible exact LeO.none _)
      | (with_reducible refine LeO.ite ?_ ?_)
      | (with_reducible refine LeO.bind ?_ (fun _ => ?_))
      | exact ih0 _ _ _
      | exact ih1 _ _ _
      | exact toponymref03_Rows.mono _
      | exact LeO.none _
      | refine LeO.ite ?_ ?_
      | refine LeO.bind ?_ (fun _ => ?_)
set_option maxHeartbeats 8000000 in
set_option maxRecDepth 100000 in
theorem toponymref03_Kind.calls (k : Nat) (a0 : Int) (r : Int) (w : World) (h : toponymref03_Kind.f k a0 = some r) :
    Calls Try.prog 9 #[.int .i32 a0] w (fun e w' => e = .returned (.int .i64 r) ∧ Below w.heap.size w w') := by
  have HH := Aside0.mk (show (if a0 ≥ 0 then (if a0 < 128 then ((toponymref03_ascii.f a0).bind fun t6 => (some t6)) else ((toponymref03_Rows.f k ).bind fun t11 => ((toponymref03_Kind.l0 k 0 a0 t11)))) else ((toponymref03_Rows.f k ).bind fun t38 => ((toponymref03_Kind.l1 k 0 a0 t38)))) = some r from h)
  clear h
  have HB := Aside0.mk (Below.refl w.heap.size w)
  go_enter Try.func9, Try.ntmps9
  by_cases c1 : a0 ≥ 0
  · have H := HH.out
    rw [if_pos c1] at H
    replace HH := Aside0.mk H
    clear H
    have hk2 : decide (0 ≤ a0) = true := decide_eq_true c1
    clear c1
    by_cases c3 : a0 < 128
    · have H := HH.out
      rw [if_pos c3] at H
      replace HH := Aside0.mk H
      clear H
      have hk4 : (a0 < 128) = True := eq_true c3
      have hk5 : decide (a0 < 128) = true := decide_eq_true c3
      clear c3
      have H := HH.out
      replace H := Option.bind_eq_some_iff.mp H
      obtain ⟨t6, at_, H⟩ := H
      have At7 := Aside0.mk at_
      clear at_
      replace HH := Aside0.mk (show (some t6) = some r from H)
      clear H
      go_wp2_with (((with_reducible refine gate_callee (f := 30) rfl ?_); (try (refine gate_guard (by rfl) ?_; dsimp only)); refine goesL_ (some 12) rfl rfl Try.func30 (by kernel_rfl) rfl #[.int .i32 a0] rfl (by (try simp only [List.map_toArray, List.map_cons, List.map_nil]); first | done | rfl | (simp only [List.length_drop, List.length_take]; rfl)) ?_; (with_reducible refine (toponymref03_ascii.calls  a0 t6 _  At7.out).mono ?_); rintro e w' ⟨rfl, ⟨nd, rfl⟩⟩; refine ⟨_, rfl, ?_⟩); refine stop_ ?_)
      refine Stop.go ?_
      have H := HH.out
      obtain rfl := Option.some.inj H
      clear HH
      go_wp2
      go_ret
      exact ⟨by first | rfl | (simp; done) | (simp [*]; done), (by repeat (first | (with_reducible first | exact HB.out | apply below_alloc | apply pw_below_drewN | apply below_drew1) | exact HB.out))⟩
    · have H := HH.out
      rw [if_neg c3] at H
      replace HH := Aside0.mk H
      clear H
      have hk9 : (a0 < 128) = False := eq_false c3
      have hk10 : decide (a0 < 128) = false := decide_eq_false c3
      clear c3
      have H := HH.out
      replace H := Option.bind_eq_some_iff.mp H
      obtain ⟨t11, at_, H⟩ := H
      have At12 := Aside0.mk at_
      clear at_
      replace HH := Aside0.mk (show ((toponymref03_Kind.l0 k 0 a0 t11)) = some r from H)
      clear H
      go_wp2_with (((with_reducible refine gate_callee (f := 31) rfl ?_); (try (refine gate_guard (by rfl) ?_; dsimp only)); refine goesL_ (some 13) rfl rfl Try.func31 (by kernel_rfl) rfl #[] rfl (by (try simp only [List.map_toArray, List.map_cons, List.map_nil]); first | done | rfl | (simp only [List.length_drop, List.length_take]; rfl)) ?_; (with_reducible refine (toponymref03_Rows.calls k  t11 _  At12.out).mono ?_); rintro e w13 ⟨v14, rfl, hn14, hb⟩; refine ⟨_, rfl, ?_⟩); refine stop_ ?_)
      refine Stop.go ?_
      have hba := Kd.N_base hn14
      have HN14 := Aside0.mk (Kd.N_mono (Kd.N_lower hn14 (below_size HB.out)) (fun k_ h_ => (Nat.le_trans (below_size HB.out) h_)) : Kd.N k38 38 w13 w.heap.size (fun k_ => (w.heap.size ≤ k_)) v14 t11)
      replace HB := Aside0.mk (below_step HB.out hb)
      clear hn14 hba hb
      obtain ⟨A15, cp16, he_⟩ := Kd.N_slice HN14.out
      subst he_
      have HL18 := Aside0.mk (Kd.N_reads' HN14.out).2.1
      have HF17 := Aside0.mk (Kd.N_F HN14.out)
      clear HN14
      go_wp2
      go_loopg [4] k (fun kq u4 w' => ∃ (x19 : Int), u4 = .int .i64 x19 ∧ Aside0 ((toponymref03_Kind.l0 kq x19 a0 t11) = some r) ∧ Aside0 (kq ≤ k) ∧ Aside0 (Kd.F k38 w' (fun k_ => (w.heap.size ≤ k_)) A15 t11.length t11) ∧ Aside0 (Below w.heap.size w w'))
      case atStart => exact ⟨0, (by first | rfl | (simp; done) | (simp [*]; done)), HH, ⟨Nat.le_refl _⟩, ⟨(Kd.F_mono (ok := (fun k_ => (w.heap.size ≤ k_))) HF17.out (fun k_ hk_ => hk_))⟩, ⟨HB.out⟩⟩
      case round =>
        clear hk2
        clear hk9
        clear hk10
        clear HH
        clear HF17 HB
        obtain ⟨x19, rfl, HA, HK0, HF17, HB⟩ := hrel
        obtain ⟨w21, rfl⟩ : ∃ wo_ : World, wo_ = wr := ⟨_, rfl⟩
        cases gk with
        | zero => exact absurd HA.out (by simp [toponymref03_Kind.l0])
        | succ k20 =>
          have H := HA.out
          clear HA
          simp only [toponymref03_Kind.l0] at H
          have HH := Aside0.mk H
          clear H
          by_cases c22 : x19 < (t11.length : Int)
          · have H := HH.out
            rw [if_pos c22] at H
            replace HH := Aside0.mk H
            clear H
            have hk23 : (x19 < (t11.length : Int)) = True := eq_true c22
            have hk24 : decide (x19 < (t11.length : Int)) = true := decide_eq_true c22
            clear c22
            by_cases c25 : 0 ≤ x19
            · have H := HH.out
              rw [if_pos c25] at H
              replace HH := Aside0.mk H
              clear H
              have hk26 : decide (0 ≤ x19) = true := decide_eq_true c25
              clear c25
              have p27 : 0 ≤ (x19 : Int) := of_decide_eq_true (by first | (with_reducible assumption) | assumption)
              have q27 : x19 < (t11.length : Int) := of_decide_eq_true (by first | (with_reducible assumption) | assumption)
              obtain ⟨ad27, e27, hx27_0, hx27_1, hx27_2⟩ := atF_T38 HF17.out x19 p27 q27
              cases e27
              replace p27 := eq_true p27
              replace q27 := eq_true q27
              by_cases c28 : a0 ≥ ((rd_T38 t11 x19).f0)
              · have H := HH.out
                rw [if_pos c28] at H
                replace HH := Aside0.mk H
                clear H
                have hk29 : decide (((rd_T38 t11 x19).f0) ≤ a0) = true := decide_eq_true c28
                clear c28
                by_cases c30 : a0 ≤ ((rd_T38 t11 x19).f1)
                · have H := HH.out
                  rw [if_pos c30] at H
                  replace HH := Aside0.mk H
                  clear H
                  have hk31 : decide (a0 ≤ ((rd_T38 t11 x19).f1)) = true := decide_eq_true c30
                  clear c30
                  have H := HH.out
                  obtain rfl := Option.some.inj H
                  clear HH
                  go_wp2
                  go_ret
                  exact ⟨by first | rfl | (simp; done) | (simp [*]; done), HB.out⟩
                · have H := HH.out
                  rw [if_neg c30] at H
                  replace HH := Aside0.mk H
                  clear H
                  have hk32 : decide (a0 ≤ ((rd_T38 t11 x19).f1)) = false := decide_eq_false c30
                  clear c30
                  go_wp2
                  go_roundg k20
                  case measure => have := HK0.out; omega
                  case rel => exact ⟨wrap64 (x19 + 1), (by first | rfl | (simp; done) | (simp [*]; done)), HH, ⟨by have := HK0.out; omega⟩, ⟨(Kd.F_mono (ok := (fun k_ => (w.heap.size ≤ k_))) HF17.out (fun k_ hk_ => hk_))⟩, ⟨HB.out⟩⟩
              · have H := HH.out
                rw [if_neg c28] at H
                replace HH := Aside0.mk H
                clear H
                have hk33 : decide (((rd_T38 t11 x19).f0) ≤ a0) = false := decide_eq_false c28
                clear c28
                go_wp2
                go_roundg k20
                case measure => have := HK0.out; omega
                case rel => exact ⟨wrap64 (x19 + 1), (by first | rfl | (simp; done) | (simp [*]; done)), HH, ⟨by have := HK0.out; omega⟩, ⟨(Kd.F_mono (ok := (fun k_ => (w.heap.size ≤ k_))) HF17.out (fun k_ hk_ => hk_))⟩, ⟨HB.out⟩⟩
            · exact absurd HH.out (by rw [if_neg c25]; simp)
          · have H := HH.out
            rw [if_neg c22] at H
            replace HH := Aside0.mk H
            clear H
            have hk35 : (x19 < (t11.length : Int)) = False := eq_false c22
            have hk36 : decide (x19 < (t11.length : Int)) = false := decide_eq_false c22
            clear c22
            have H := HH.out
            obtain rfl := Option.some.inj H
            clear HH
            go_wp2
            go_ret
            exact ⟨by first | rfl | (simp; done) | (simp [*]; done), HB.out⟩
  · have H := HH.out
    rw [if_neg c1] at H
    replace HH := Aside0.mk H
    clear H
    have hk37 : decide (0 ≤ a0) = false := decide_eq_false c1
    clear c1
    have H := HH.out
    replace H := Option.bind_eq_some_iff.mp H
    obtain ⟨t38, at_, H⟩ := H
    have At39 := Aside0.mk at_
    clear at_
    replace HH := Aside0.mk (show ((toponymref03_Kind.l1 k 0 a0 t38)) = some r from H)
    clear H
    go_wp2_with (((with_reducible refine gate_callee (f := 31) rfl ?_); (try (refine gate_guard (by rfl) ?_; dsimp only)); refine goesL_ (some 13) rfl rfl Try.func31 (by kernel_rfl) rfl #[] rfl (by (try simp only [List.map_toArray, List.map_cons, List.map_nil]); first | done | rfl | (simp only [List.length_drop, List.length_take]; rfl)) ?_; (with_reducible refine (toponymref03_Rows.calls k  t38 _  At39.out).mono ?_); rintro e w40 ⟨v41, rfl, hn41, hb⟩; refine ⟨_, rfl, ?_⟩); refine stop_ ?_)
    refine Stop.go ?_
    have hba := Kd.N_base hn41
    have HN41 := Aside0.mk (Kd.N_mono (Kd.N_lower hn41 (below_size HB.out)) (fun k_ h_ => (Nat.le_trans (below_size HB.out) h_)) : Kd.N k38 38 w40 w.heap.size (fun k_ => (w.heap.size ≤ k_)) v41 t38)
    replace HB := Aside0.mk (below_step HB.out hb)
    clear hn41 hba hb
    obtain ⟨A42, cp43, he_⟩ := Kd.N_slice HN41.out
    subst he_
    have HL45 := Aside0.mk (Kd.N_reads' HN41.out).2.1
    have HF44 := Aside0.mk (Kd.N_F HN41.out)
    clear HN41
    go_wp2
    go_loopg [4] k (fun kq u4 w' => ∃ (x46 : Int), u4 = .int .i64 x46 ∧ Aside0 ((toponymref03_Kind.l1 kq x46 a0 t38) = some r) ∧ Aside0 (kq ≤ k) ∧ Aside0 (Kd.F k38 w' (fun k_ => (w.heap.size ≤ k_)) A42 t38.length t38) ∧ Aside0 (Below w.heap.size w w'))
    case atStart => exact ⟨0, (by first | rfl | (simp; done) | (simp [*]; done)), HH, ⟨Nat.le_refl _⟩, ⟨(Kd.F_mono (ok := (fun k_ => (w.heap.size ≤ k_))) HF44.out (fun k_ hk_ => hk_))⟩, ⟨HB.out⟩⟩
    case round =>
      clear hk37
      clear HH
      clear HF44 HB
      obtain ⟨x46, rfl, HA, HK1, HF44, HB⟩ := hrel
      obtain ⟨w48, rfl⟩ : ∃ wo_ : World, wo_ = wr := ⟨_, rfl⟩
      cases gk with
      | zero => exact absurd HA.out (by simp [toponymref03_Kind.l1])
      | succ k47 =>
        have H := HA.out
        clear HA
        simp only [toponymref03_Kind.l1] at H
        have HH := Aside0.mk H
        clear H
        by_cases c49 : x46 < (t38.length : Int)
        · have H := HH.out
          rw [if_pos c49] at H
          replace HH := Aside0.mk H
          clear H
          have hk50 : (x46 < (t38.length : Int)) = True := eq_true c49
          have hk51 : decide (x46 < (t38.length : Int)) = true := decide_eq_true c49
          clear c49
          by_cases c52 : 0 ≤ x46
          · have H := HH.out
            rw [if_pos c52] at H
            replace HH := Aside0.mk H
            clear H
            have hk53 : decide (0 ≤ x46) = true := decide_eq_true c52
            clear c52
            have p54 : 0 ≤ (x46 : Int) := of_decide_eq_true (by first | (with_reducible assumption) | assumption)
            have q54 : x46 < (t38.length : Int) := of_decide_eq_true (by first | (with_reducible assumption) | assumption)
            obtain ⟨ad54, e54, hx54_0, hx54_1, hx54_2⟩ := atF_T38 HF44.out x46 p54 q54
            cases e54
            replace p54 := eq_true p54
            replace q54 := eq_true q54
            by_cases c55 : a0 ≥ ((rd_T38 t38 x46).f0)
            · have H := HH.out
              rw [if_pos c55] at H
              replace HH := Aside0.mk H
              clear H
              have hk56 : decide (((rd_T38 t38 x46).f0) ≤ a0) = true := decide_eq_true c55
              clear c55
              by_cases c57 : a0 ≤ ((rd_T38 t38 x46).f1)
              · have H := HH.out
                rw [if_pos c57] at H
                replace HH := Aside0.mk H
                clear H
                have hk58 : decide (a0 ≤ ((rd_T38 t38 x46).f1)) = true := decide_eq_true c57
                clear c57
                have H := HH.out
                obtain rfl := Option.some.inj H
                clear HH
                go_wp2
                go_ret
                exact ⟨by first | rfl | (simp; done) | (simp [*]; done), HB.out⟩
              · have H := HH.out
                rw [if_neg c57] at H
                replace HH := Aside0.mk H
                clear H
                have hk59 : decide (a0 ≤ ((rd_T38 t38 x46).f1)) = false := decide_eq_false c57
                clear c57
                go_wp2
                go_roundg k47
                case measure => have := HK1.out; omega
                case rel => exact ⟨wrap64 (x46 + 1), (by first | rfl | (simp; done) | (simp [*]; done)), HH, ⟨by have := HK1.out; omega⟩, ⟨(Kd.F_mono (ok := (fun k_ => (w.heap.size ≤ k_))) HF44.out (fun k_ hk_ => hk_))⟩, ⟨HB.out⟩⟩
            · have H := HH.out
              rw [if_neg c55] at H
              replace HH := Aside0.mk H
              clear H
              have hk60 : decide (((rd_T38 t38 x46).f0) ≤ a0) = false := decide_eq_false c55
              clear c55
              go_wp2
              go_roundg k47
              case measure => have := HK1.out; omega
              case rel => exact ⟨wrap64 (x46 + 1), (by first | rfl | (simp; done) | (simp [*]; done)), HH, ⟨by have := HK1.out; omega⟩, ⟨(Kd.F_mono (ok := (fun k_ => (w.heap.size ≤ k_))) HF44.out (fun k_ hk_ => hk_))⟩, ⟨HB.out⟩⟩
          · exact absurd HH.out (by rw [if_neg c52]; simp)
        · have H := HH.out
          rw [if_neg c49] at H
          replace HH := Aside0.mk H
          clear H
          have hk62 : (x46 < (t38.length : Int)) = False := eq_false c49
          have hk63 : decide (x46 < (t38.length : Int)) = false := decide_eq_false c49
          clear c49
          have H := HH.out
          obtain rfl := Option.some.inj H
          clear HH
          go_wp2
          go_ret
          exact ⟨by first | rfl | (simp; done) | (simp [*]; done), HB.out⟩

end Go.Proofs.Ytkbiiijmgbjnkaa.GA
