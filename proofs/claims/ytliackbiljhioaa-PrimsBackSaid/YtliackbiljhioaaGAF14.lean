-- written by wip/gen.py, a program of this session
import Derived.Test.YtliackbiljhioaaGA0
import Derived.Test.YtliackbiljhioaaGAF34
import Derived.Test.YtliackbiljhioaaGAF35
namespace Go.Proofs.Ytliackbiljhioaa.GA
open Go.RowKit Go.Proofs.Ytliackbiljhioaa Go.Proofs.Ytliackbiljhioaa.MW Go.Proofs.YtliackbiljhioaaW.PrintWords Go.Proofs.YtliackbiljhioaaW.PrintLast Go.Proofs.YtliackbiljhioaaW.PrintMore
attribute [local go_sem] max2_int min2_int max_two min_two
set_option linter.unusedVariables false
set_option linter.unusedSimpArgs false


/-! ### prims_AsInt: function 14 -/
def prims_AsInt.l0 : Nat → Int → Int → ByteArray → Option (Int × Int)
  | 0, _, _, _ => none
  | k + 1, x45, x46, a0_3 => if x46 < (a0_3.size : Int) then (if 0 ≤ x46 then ((prims_AsInt.l0 k (Go.bits .or .i32 (wrap32 (x45 * 256)) (wrap32 (bt a0_3 x46))) (wrap64 (x46 + 1)) a0_3)) else (none)) else ((prims_signed.f k x45).bind fun t68 => (if t68.toList = a0_3.toList then (some (wrap64 (x45), 0)) else (some (0, 160))))
def prims_AsInt.f (k : Nat) (a0_0 : Int) (a0_1 : Bool) (a0_2 : Int) (a0_3 : ByteArray) (l0_4 : List (S28)) : Option (Int × Int) := (prims_plain.f a0_0 a0_1 a0_2 a0_3 l0_4).bind fun t13 => (if t13 = true then (if (a0_3.size : Int) < 1 then (some (0, 160)) else (if (a0_3.size : Int) > 4 then (some (0, 160)) else (if 0 < (a0_3.size : Int) then ((prims_AsInt.l0 k (wrap32 (IntKind.i8.wrap (bt a0_3 0))) 1 a0_3)) else (none)))) else (some (0, 160)))
theorem prims_AsInt.mono_l : ∀ k, (∀ y0 y1 y2, LeO (prims_AsInt.l0 k y0 y1 y2) (prims_AsInt.l0 (k + 1) y0 y1 y2))
  | 0 => fun _ _ _ r h => by simp [prims_AsInt.l0] at h
  | k + 1 => by
    have ih0 := prims_AsInt.mono_l k
    · intro y0 y1 y2
      unfold prims_AsInt.l0
      repeat' first
      | (with_reducible exact ih0 _ _ _)
      | (with_reducible exact prims_signed.mono _ _)
      | (with_reducible exact LeO.refl _)
      | (with_reducible exact LeO.none _)
      | (with_reducible refine LeO.ite ?_ ?_)
      | (with_reducible refine LeO.bind ?_ (fun _ => ?_))
      | exact ih0 _ _ _
      | exact prims_signed.mono _ _
      | exact LeO.none _
      | refine LeO.ite ?_ ?_
      | refine LeO.bind ?_ (fun _ => ?_)
theorem prims_AsInt.mono : ∀ a0_ a1_ a2_ a3_ a4_ k, LeO (prims_AsInt.f k a0_ a1_ a2_ a3_ a4_) (prims_AsInt.f (k + 1) a0_ a1_ a2_ a3_ a4_) := by
  intro a0_ a1_ a2_ a3_ a4_ k
  have ih0 := prims_AsInt.mono_l k
  unfold prims_AsInt.f
  repeat' first
      | (with_reducible exact ih0 _ _ _)
      | (with_reducible exact prims_signed.mono _ _)
      | (with_reducible exact LeO.refl _)
      | (with_reducible exact LeO.none _)
      | (with_reducible refine LeO.ite ?_ ?_)
      | (with_reducible refine LeO.bind ?_ (fun _ => ?_))
      | exact ih0 _ _ _
      | exact prims_signed.mono _ _
      | exact LeO.none _
      | refine LeO.ite ?_ ?_
      | refine LeO.bind ?_ (fun _ => ?_)
set_option maxHeartbeats 8000000 in
set_option maxRecDepth 100000 in
theorem prims_AsInt.calls (k : Nat) (P_ : Nat → Prop) (a0_0 : Int) (a0_1 : Bool) (a0_2 : Int) (a0_3 : ByteArray) (A0_4 : Option Addr) (c0_4 : Nat) (l0_4 : List (S28)) (r1 : Int) (r2 : Int) (w : World) (hs0_4 : Kd.F k28 w P_ A0_4 l0_4.length l0_4) (hc0_4 : l0_4.length ≤ c0_4) (h : prims_AsInt.f k a0_0 a0_1 a0_2 a0_3 l0_4 = some (r1, r2)) :
    Calls Try.prog 14 #[.agg #[.int .i64 a0_0, .bool a0_1, .int .i64 a0_2, .string a0_3, .slice A0_4 l0_4.length c0_4]] w (fun e w' => e = .returned (.tuple #[.int .i64 r1, .int .i64 r2]) ∧ Below w.heap.size w w') := by
  have HH := Aside0.mk (show ((prims_plain.f a0_0 a0_1 a0_2 a0_3 l0_4).bind fun t13 => (if t13 = true then (if (a0_3.size : Int) < 1 then (some (0, 160)) else (if (a0_3.size : Int) > 4 then (some (0, 160)) else (if 0 < (a0_3.size : Int) then ((prims_AsInt.l0 k (wrap32 (IntKind.i8.wrap (bt a0_3 0))) 1 a0_3)) else (none)))) else (some (0, 160)))) = some (r1, r2) from h)
  clear h
  have HF0_4 := Aside0.mk (Kd.F_mono hs0_4 (fun k_ hk_ => (.inl hk_ : P_ k_ ∨ w.heap.size ≤ k_)))
  have HL0_4 := Aside0.mk hc0_4
  clear hs0_4 hc0_4
  have HB := Aside0.mk (Below.refl w.heap.size w)
  have hu28 := Try.underlying28
  go_enter Try.func14, Try.ntmps14
  go_wp2_with (((with_reducible refine gate_dst (N := 1) rfl ?_); (try (refine gate_guard (by rfl) ?_; dsimp only)); refine box_event ?hg (N := 1) ?hd (cs := #[.int .i64 a0_0, .bool a0_1, .int .i64 a0_2, .string a0_3, .slice A0_4 l0_4.length c0_4]) (t := 28) ?hr ?_; (case hd => rfl); (case hg => rfl); (case hr => first | (go_simp; done) | (go_simp; rfl)); intro g1 hg w2 hbox hb); replace hg := Aside0.mk hg; replace hbox := Aside0.mk hbox; refine stop_ ?_)
  refine Stop.go ?_
  replace hg := hg.out
  replace hbox := hbox.out
  have GEg1 := Aside0.mk (by rw [hg]; exact (below_size HB.out) : w.heap.size ≤ g1)
  replace HF0_4 := Aside0.mk (Kd.F_elderB HF0_4.out g1 (Nat.le_of_eq hg.symm))
  replace HF0_4 := Aside0.mk (Kd.F_mono HF0_4.out (fun k_ hk_ => ⟨hk_.1, hk_.2⟩) : Kd.F k28 _ (fun k_ => (P_ k_ ∨ w.heap.size ≤ k_) ∧ k_ ≠ g1) _ _ _)
  replace HF0_4 := Aside0.mk (Kd.F_below HF0_4.out hb)
  replace HB := Aside0.mk (below_step HB.out hb)
  have BKg1 := Aside0.mk hbox
  clear hg hbox hb
  obtain ⟨hz3, hz4, hz5, hz6, hz7, hf8, hf9, hf10, hf11, hf12⟩ := MB.lay5 BKg1.out
  have H := HH.out
  replace H := Option.bind_eq_some_iff.mp H
  obtain ⟨t13, at_, H⟩ := H
  have At14 := Aside0.mk at_
  clear at_
  replace HH := Aside0.mk (show (if t13 = true then (if (a0_3.size : Int) < 1 then (some (0, 160)) else (if (a0_3.size : Int) > 4 then (some (0, 160)) else (if 0 < (a0_3.size : Int) then ((prims_AsInt.l0 k (wrap32 (IntKind.i8.wrap (bt a0_3 0))) 1 a0_3)) else (none)))) else (some (0, 160))) = some (r1, r2) from H)
  clear H
  go_wp2_with (((with_reducible refine gate_callee (f := 34) rfl ?_); (try (refine gate_guard (by rfl) ?_; dsimp only)); refine goesL_ (some 10) rfl rfl Try.func34 (by kernel_rfl) rfl #[.agg #[.int .i64 a0_0, .bool a0_1, .int .i64 a0_2, .string a0_3, .slice A0_4 l0_4.length c0_4]] rfl (by (try simp only [List.map_toArray, List.map_cons, List.map_nil]); first | done | rfl | (simp only [List.length_drop, List.length_take]; rfl)) ?_; (with_reducible refine (prims_plain.calls (fun k_ => (P_ k_ ∨ w.heap.size ≤ k_) ∧ k_ ≠ g1) a0_0 a0_1 a0_2 a0_3 _ _ l0_4 t13 _ (Kd.F_mono (ok := (fun k_ => (P_ k_ ∨ w.heap.size ≤ k_) ∧ k_ ≠ g1)) HF0_4.out (fun k_ hk_ => ⟨hk_.1, hk_.2⟩)) HL0_4.out At14.out).mono ?_); rintro e w15 ⟨rfl, hb⟩; refine ⟨_, rfl, ?_⟩); refine stop_ ?_)
  refine Stop.go ?_
  replace HF0_4 := Aside0.mk (Kd.F_below HF0_4.out hb)
  replace BKg1 := Aside0.mk (blk_below (o := .cells #[.int .i64 a0_0, .bool a0_1, .int .i64 a0_2, .string a0_3, .slice A0_4 l0_4.length c0_4] 28 (0, 0)) BKg1.out hb)
  replace HB := Aside0.mk (below_step HB.out hb)
  clear hb
  clear hz3 hz4 hz5 hz6 hz7 hf8 hf9 hf10 hf11 hf12
  obtain ⟨hz16, hz17, hz18, hz19, hz20, hf21, hf22, hf23, hf24, hf25⟩ := MB.lay5 BKg1.out
  by_cases c26 : t13 = true
  · have H := HH.out
    rw [if_pos c26] at H
    replace HH := Aside0.mk H
    clear H
    subst c26
    by_cases c27 : (a0_3.size : Int) < 1
    · have H := HH.out
      rw [if_pos c27] at H
      replace HH := Aside0.mk H
      clear H
      have hk28 : ((a0_3.size : Int) < 1) = True := eq_true c27
      have hk29 : decide ((a0_3.size : Int) < 1) = true := decide_eq_true c27
      have hk30 : decide (a0_3.size < 1) = true := decide_eq_true (by omega)
      clear c27
      have H := HH.out
      simp only [Option.some.injEq, Prod.mk.injEq] at H
      obtain ⟨rfl, rfl⟩ := H
      clear HH
      go_wp2
      go_ret2
      exact ⟨by first | rfl | (simp; done) | (simp [*]; done), HB.out⟩
    · have H := HH.out
      rw [if_neg c27] at H
      replace HH := Aside0.mk H
      clear H
      have hk31 : ((a0_3.size : Int) < 1) = False := eq_false c27
      have hk32 : decide ((a0_3.size : Int) < 1) = false := decide_eq_false c27
      have hk33 : decide (a0_3.size < 1) = false := decide_eq_false (by omega)
      clear c27
      by_cases c34 : (a0_3.size : Int) > 4
      · have H := HH.out
        rw [if_pos c34] at H
        replace HH := Aside0.mk H
        clear H
        have hk35 : decide (4 < (a0_3.size : Int)) = true := decide_eq_true c34
        have hk36 : decide (4 < a0_3.size) = true := decide_eq_true (by omega)
        clear c34
        have H := HH.out
        simp only [Option.some.injEq, Prod.mk.injEq] at H
        obtain ⟨rfl, rfl⟩ := H
        clear HH
        go_wp2
        go_ret2
        exact ⟨by first | rfl | (simp; done) | (simp [*]; done), HB.out⟩
      · have H := HH.out
        rw [if_neg c34] at H
        replace HH := Aside0.mk H
        clear H
        have hk37 : decide (4 < (a0_3.size : Int)) = false := decide_eq_false c34
        have hk38 : decide (4 < a0_3.size) = false := decide_eq_false (by omega)
        clear c34
        by_cases c39 : 0 < (a0_3.size : Int)
        · have H := HH.out
          rw [if_pos c39] at H
          replace HH := Aside0.mk H
          clear H
          have hk40 : (0 < (a0_3.size : Int)) = True := eq_true c39
          have hk41 : (0 < a0_3.size) = True := eq_true (by have := c39; omega)
          have hk42 : decide (0 < (a0_3.size : Int)) = true := decide_eq_true c39
          have hk43 : decide (0 < a0_3.size) = true := decide_eq_true (by omega)
          clear c39
          have p44 : 0 ≤ (0 : Int) := (by omega)
          have q44 : 0 < a0_3.size := (by have : (0 : Int) < (a0_3.size : Int) := of_decide_eq_true (by first | (with_reducible assumption) | assumption); omega)
          have hx44 : ∀ h : 0 < a0_3.size, ((a0_3[0]'h).toNat : Int) = bt a0_3 0 := MW.bt_at' a0_3 0
          clear p44
          have qi44 : (0 < (a0_3.size : Int)) = True := eq_true (of_decide_eq_true (by first | (with_reducible assumption) | assumption))
          replace q44 := eq_true q44
          go_wp2
          go_loopg [5, 6] k (fun kq u5 u6 w' => ∃ (x45 : Int) (x46 : Int), u5 = .int .i32 x45 ∧ u6 = .int .i64 x46 ∧ Aside0 ((prims_AsInt.l0 kq x45 x46 a0_3) = some (r1, r2)) ∧ Aside0 (kq ≤ k) ∧ Aside0 (Kd.F k28 w' (fun k_ => (P_ k_ ∨ w.heap.size ≤ k_) ∧ k_ ≠ g1) A0_4 l0_4.length l0_4) ∧ Aside0 (w'.heap[g1]? = some (.cells #[.int .i64 a0_0, .bool a0_1, .int .i64 a0_2, .string a0_3, .slice A0_4 l0_4.length c0_4] 28 (0, 0))) ∧ Aside0 (Below w.heap.size w w'))
          case atStart => exact ⟨wrap32 (IntKind.i8.wrap (bt a0_3 0)), 1, (by first | rfl | (simp; done) | (simp [*]; done)), (by first | rfl | (simp; done) | (simp [*]; done)), HH, ⟨Nat.le_refl _⟩, ⟨(Kd.F_mono (ok := (fun k_ => (P_ k_ ∨ w.heap.size ≤ k_) ∧ k_ ≠ g1)) HF0_4.out (fun k_ hk_ => ⟨hk_.1, hk_.2⟩))⟩, ⟨BKg1.out⟩, ⟨HB.out⟩⟩
          case round =>
            clear hz16 hz17 hz18 hz19 hz20 hf21 hf22 hf23 hf24 hf25
            clear hk31
            clear hk32
            clear hk33
            clear hk37
            clear hk38
            clear hk40
            clear hk41
            clear hk42
            clear hk43
            clear qi44
            clear q44
            clear hx44
            clear HH
            clear HF0_4 BKg1 HB
            obtain ⟨x45, x46, rfl, rfl, HA, HK0, HF0_4, BKg1, HB⟩ := hrel
            obtain ⟨w48, rfl⟩ : ∃ wo_ : World, wo_ = wr := ⟨_, rfl⟩
            cases gk with
            | zero => exact absurd HA.out (by simp [prims_AsInt.l0])
            | succ k47 =>
              have H := HA.out
              clear HA
              simp only [prims_AsInt.l0] at H
              have HH := Aside0.mk H
              clear H
              obtain ⟨hz49, hz50, hz51, hz52, hz53, hf54, hf55, hf56, hf57, hf58⟩ := MB.lay5 BKg1.out
              by_cases c59 : x46 < (a0_3.size : Int)
              · have H := HH.out
                rw [if_pos c59] at H
                replace HH := Aside0.mk H
                clear H
                have hk60 : (x46 < (a0_3.size : Int)) = True := eq_true c59
                have hk61 : decide (x46 < (a0_3.size : Int)) = true := decide_eq_true c59
                clear c59
                by_cases c62 : 0 ≤ x46
                · have H := HH.out
                  rw [if_pos c62] at H
                  replace HH := Aside0.mk H
                  clear H
                  have hk63 : decide (0 ≤ x46) = true := decide_eq_true c62
                  clear c62
                  have p64 : 0 ≤ (x46 : Int) := of_decide_eq_true (by first | (with_reducible assumption) | assumption)
                  have q64 : x46 < (a0_3.size : Int) := of_decide_eq_true (by first | (with_reducible assumption) | assumption)
                  have hx64 := MW.bt_at' a0_3 x46
                  replace p64 := eq_true p64
                  replace q64 := eq_true q64
                  go_wp2
                  go_roundg k47
                  case measure => have := HK0.out; omega
                  case rel => exact ⟨Go.bits .or .i32 (wrap32 (x45 * 256)) (wrap32 (bt a0_3 x46)), wrap64 (x46 + 1), (by first | rfl | (simp; done) | (simp [*]; done)), (by first | rfl | (simp; done) | (simp [*]; done)), HH, ⟨by have := HK0.out; omega⟩, ⟨(Kd.F_mono (ok := (fun k_ => (P_ k_ ∨ w.heap.size ≤ k_) ∧ k_ ≠ g1)) HF0_4.out (fun k_ hk_ => ⟨hk_.1, hk_.2⟩))⟩, ⟨BKg1.out⟩, ⟨HB.out⟩⟩
                · exact absurd HH.out (by rw [if_neg c62]; simp)
              · have H := HH.out
                rw [if_neg c59] at H
                replace HH := Aside0.mk H
                clear H
                have hk66 : (x46 < (a0_3.size : Int)) = False := eq_false c59
                have hk67 : decide (x46 < (a0_3.size : Int)) = false := decide_eq_false c59
                clear c59
                have H := HH.out
                replace H := Option.bind_eq_some_iff.mp H
                obtain ⟨t68, at_, H⟩ := H
                have At69 := Aside0.mk at_
                clear at_
                replace HH := Aside0.mk (show (if t68.toList = a0_3.toList then (some (wrap64 (x45), 0)) else (some (0, 160))) = some (r1, r2) from H)
                clear H
                go_wp2_with (((with_reducible refine gate_callee (f := 35) rfl ?_); (try (refine gate_guard (by rfl) ?_; dsimp only)); refine goesL_ (some 40) rfl rfl Try.func35 (by kernel_rfl) rfl #[.int .i32 x45] rfl (by (try simp only [List.map_toArray, List.map_cons, List.map_nil]); first | done | rfl | (simp only [List.length_drop, List.length_take]; rfl)) ?_; (with_reducible refine (prims_signed.calls k47  x45 t68 _  At69.out).mono ?_); rintro e w70 ⟨rfl, hb⟩; refine ⟨_, rfl, ?_⟩); refine stop_ ?_)
                refine Stop.go ?_
                replace HF0_4 := Aside0.mk (Kd.F_below HF0_4.out hb)
                replace BKg1 := Aside0.mk (blk_below (o := .cells #[.int .i64 a0_0, .bool a0_1, .int .i64 a0_2, .string a0_3, .slice A0_4 l0_4.length c0_4] 28 (0, 0)) BKg1.out hb)
                replace HB := Aside0.mk (below_step HB.out hb)
                clear hb
                clear hz49 hz50 hz51 hz52 hz53 hf54 hf55 hf56 hf57 hf58
                obtain ⟨hz71, hz72, hz73, hz74, hz75, hf76, hf77, hf78, hf79, hf80⟩ := MB.lay5 BKg1.out
                by_cases c81 : t68.toList = a0_3.toList
                · have H := HH.out
                  rw [if_pos c81] at H
                  replace HH := Aside0.mk H
                  clear H
                  have hk82 : (t68.toList == a0_3.toList) = true := beq_iff_eq.mpr c81
                  have hk83 : (t68.toList != a0_3.toList) = false := bne_eq_false_iff_eq.mpr c81
                  clear c81
                  have H := HH.out
                  simp only [Option.some.injEq, Prod.mk.injEq] at H
                  obtain ⟨rfl, rfl⟩ := H
                  clear HH
                  go_wp2
                  go_ret2
                  exact ⟨by first | rfl | (simp; done) | (simp [*]; done), HB.out⟩
                · have H := HH.out
                  rw [if_neg c81] at H
                  replace HH := Aside0.mk H
                  clear H
                  have hk84 : (t68.toList == a0_3.toList) = false := beq_eq_false_iff_ne.mpr c81
                  have hk85 : (t68.toList != a0_3.toList) = true := bne_iff_ne.mpr c81
                  clear c81
                  have H := HH.out
                  simp only [Option.some.injEq, Prod.mk.injEq] at H
                  obtain ⟨rfl, rfl⟩ := H
                  clear HH
                  go_wp2
                  go_ret2
                  exact ⟨by first | rfl | (simp; done) | (simp [*]; done), HB.out⟩
        · exact absurd HH.out (by rw [if_neg c39]; simp)
  · have H := HH.out
    rw [if_neg c26] at H
    replace HH := Aside0.mk H
    clear H
    replace c26 := Bool.eq_false_iff.mpr c26
    subst c26
    have H := HH.out
    simp only [Option.some.injEq, Prod.mk.injEq] at H
    obtain ⟨rfl, rfl⟩ := H
    clear HH
    go_wp2
    go_ret2
    exact ⟨by first | rfl | (simp; done) | (simp [*]; done), HB.out⟩

end Go.Proofs.Ytliackbiljhioaa.GA
