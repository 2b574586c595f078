-- written by wip/gen.py, a program of this session
import Derived.Test.YtliackbiljhioaaGA0
namespace Go.Proofs.Ytliackbiljhioaa.GA
open Go.RowKit Go.Proofs.Ytliackbiljhioaa Go.Proofs.Ytliackbiljhioaa.MW Go.Proofs.YtliackbiljhioaaW.PrintWords Go.Proofs.YtliackbiljhioaaW.PrintLast Go.Proofs.YtliackbiljhioaaW.PrintMore
attribute [local go_sem] max2_int min2_int max_two min_two
set_option linter.unusedVariables false
set_option linter.unusedSimpArgs false


/-! ### prims_signed: function 35 -/
def prims_signed.l0 : Nat → (List Int) → Option (ByteArray)
  | 0, _ => none
  | k + 1, x8 => if (x8.length : Int) > 1 then (if 0 < (x8.length : Int) then (if (rd x8 (0 : Int)) = 0 then (if 1 < (x8.length : Int) then (if (rd x8 (1 : Int)) < 128 then (if 1 ≤ (x8.length : Int) then ((some (List.drop 1 x8 : List Int)).bind fun y37 => ((prims_signed.l0 k y37))) else (none)) else (if (rd x8 (0 : Int)) = 255 then (if (rd x8 (1 : Int)) ≥ 128 then (if 1 ≤ (x8.length : Int) then ((some (List.drop 1 x8 : List Int)).bind fun y51 => ((prims_signed.l0 k y51))) else (none)) else (some (strOfNums x8))) else (some (strOfNums x8)))) else (none)) else (if (rd x8 (0 : Int)) = 255 then (if 1 < (x8.length : Int) then (if (rd x8 (1 : Int)) ≥ 128 then (if 1 ≤ (x8.length : Int) then ((some (List.drop 1 x8 : List Int)).bind fun y80 => ((prims_signed.l0 k y80))) else (none)) else (some (strOfNums x8))) else (none)) else (some (strOfNums x8)))) else (none)) else (some (strOfNums x8))
def prims_signed.f (k : Nat) (a0 : Int) : Option (ByteArray) := (prims_signed.l0 k ([(a0 / 16777216) % 256, (a0 / 65536) % 256, (a0 / 256) % 256, (a0) % 256] : List Int))
theorem prims_signed.mono_l : ∀ k, (∀ y0, LeO (prims_signed.l0 k y0) (prims_signed.l0 (k + 1) y0))
  | 0 => fun _ r h => by simp [prims_signed.l0] at h
  | k + 1 => by
    have ih0 := prims_signed.mono_l k
    · intro y0
      unfold prims_signed.l0
      repeat' first
      | (with_reducible exact ih0 _)
      | (with_reducible exact LeO.refl _)
      | (with_reducible exact LeO.none _)
      | (with_reducible refine LeO.ite ?_ ?_)
      | (with_reducible refine LeO.bind ?_ (fun _ => ?_))
      | exact ih0 _
      | exact LeO.none _
      | refine LeO.ite ?_ ?_
      | refine LeO.bind ?_ (fun _ => ?_)
theorem prims_signed.mono : ∀ a0_ k, LeO (prims_signed.f k a0_) (prims_signed.f (k + 1) a0_) := by
  intro a0_ k
  have ih0 := prims_signed.mono_l k
  unfold prims_signed.f
  repeat' first
      | (with_reducible exact ih0 _)
      | (with_reducible exact LeO.refl _)
      | (with_reducible exact LeO.none _)
      | (with_reducible refine LeO.ite ?_ ?_)
      | (with_reducible refine LeO.bind ?_ (fun _ => ?_))
      | exact ih0 _
      | exact LeO.none _
      | refine LeO.ite ?_ ?_
      | refine LeO.bind ?_ (fun _ => ?_)
set_option maxHeartbeats 8000000 in
set_option maxRecDepth 100000 in
theorem prims_signed.calls (k : Nat) (a0 : Int) (r : ByteArray) (w : World) (h : prims_signed.f k a0 = some r) :
    Calls Try.prog 35 #[.int .i32 a0] w (fun e w' => e = .returned (.string r) ∧ Below w.heap.size w w') := by
  have HH := Aside0.mk (show ((prims_signed.l0 k ([(a0 / 16777216) % 256, (a0 / 65536) % 256, (a0 / 256) % 256, (a0) % 256] : List Int))) = some r from h)
  clear h
  have HB := Aside0.mk (Below.refl w.heap.size w)
  go_enter Try.func35, Try.ntmps35
  go_wp2_with (((with_reducible refine gate_dst (N := 15) rfl ?_); (try (refine gate_guard (by rfl) ?_; dsimp only)); refine Kd.N_lit (Kd.int .u8) w.heap.size 5 rfl (N' := 15) rfl (xs := ([(a0 / 16777216) % 256, (a0 / 65536) % 256, (a0 / 256) % 256, (a0) % 256] : List Int)) (inner := [.int .u8 ((a0 / 16777216) % 256), .int .u8 ((a0 / 65536) % 256), .int .u8 ((a0 / 256) % 256), .int .u8 ((a0) % 256)]) (ok := (fun k_ => (w.heap.size ≤ k_))) (okp := (fun k_ => (w.heap.size ≤ k_))) ?hr ?hp (fun _ hk_ => hk_) ?hf HB.out (below_size HB.out) (by first | simp | decide) ?_; (case hr => first | (go_simp; done) | (go_simp; rfl)); (case hp => exact (Reps.one (fun _ _ => rfl) (Reps.one (fun _ _ => rfl) (Reps.one (fun _ _ => rfl) (Reps.one (fun _ _ => rfl) (Reps.none _ _)))))); (case hf => exact (show ∀ k_, w.heap.size ≤ k_ → (fun k_ => (w.heap.size ≤ k_)) k_ from fun k_ h_ => (Nat.le_trans (below_size HB.out) h_)) _ (Nat.le_refl _)); intro v1 w2 hn1 hb1 hg1 hat1); replace hat1 := Aside0.mk hat1; refine stop_ ?_)
  refine Stop.go ?_
  replace hat1 := hat1.out
  have hbe := MW.grown_below hg1
  have hba := MW.base_of hat1
  replace HB := Aside0.mk hb1
  have HN3 := Aside0.mk hn1
  clear hn1 hb1 hg1 hat1 hbe hba
  obtain ⟨A4, cp5, he_⟩ := Kd.N_slice HN3.out
  subst he_
  have HL7 := Aside0.mk (Kd.N_reads' HN3.out).2.1
  have HF6 := Aside0.mk (Kd.N_F HN3.out)
  clear HN3
  go_wp2
  go_loopg [3] k (fun kq u3 w' => ∃ (x8 : List Int) (A9 : Option Addr) (cp9 : Nat), u3 = .slice A9 x8.length cp9 ∧ Aside0 ((prims_signed.l0 kq x8) = some r) ∧ Aside0 (kq ≤ k) ∧ Aside0 (Kd.F (Kd.int .u8) w' (fun k_ => (w.heap.size ≤ k_)) A4 ([(a0 / 16777216) % 256, (a0 / 65536) % 256, (a0 / 256) % 256, (a0) % 256] : List Int).length ([(a0 / 16777216) % 256, (a0 / 65536) % 256, (a0 / 256) % 256, (a0) % 256] : List Int)) ∧ Aside0 (x8.length ≤ cp9) ∧ Aside0 (Kd.F (Kd.int .u8) w' (fun k_ => (w.heap.size ≤ k_)) A9 x8.length x8) ∧ Aside0 (Below w.heap.size w w'))
  case atStart => exact ⟨([(a0 / 16777216) % 256, (a0 / 65536) % 256, (a0 / 256) % 256, (a0) % 256] : List Int), A4, cp5, (by first | rfl | (simp; done) | (simp [*]; done)), HH, ⟨Nat.le_refl _⟩, ⟨(Kd.F_mono (ok := (fun k_ => (w.heap.size ≤ k_))) HF6.out (fun k_ hk_ => hk_))⟩, ⟨HL7.out⟩, ⟨(Kd.F_mono (ok := (fun k_ => (w.heap.size ≤ k_))) HF6.out (fun k_ hk_ => hk_))⟩, ⟨HB.out⟩⟩
  case round =>
    clear HH
    clear HF6 HB
    obtain ⟨x8, A9, cp9, rfl, HA, HK0, HF6, HL9, HF9, HB⟩ := hrel
    obtain ⟨w11, rfl⟩ : ∃ wo_ : World, wo_ = wr := ⟨_, rfl⟩
    cases gk with
    | zero => exact absurd HA.out (by simp [prims_signed.l0])
    | succ k10 =>
      have H := HA.out
      clear HA
      simp only [prims_signed.l0] at H
      have HH := Aside0.mk H
      clear H
      by_cases c12 : (x8.length : Int) > 1
      · have H := HH.out
        rw [if_pos c12] at H
        replace HH := Aside0.mk H
        clear H
        have hk13 : decide (1 < (x8.length : Int)) = true := decide_eq_true c12
        have hk14 : decide (1 < x8.length) = true := decide_eq_true (by omega)
        clear c12
        by_cases c15 : 0 < (x8.length : Int)
        · have H := HH.out
          rw [if_pos c15] at H
          replace HH := Aside0.mk H
          clear H
          have hk16 : (0 < (x8.length : Int)) = True := eq_true c15
          have hk17 : (0 < x8.length) = True := eq_true (by have := c15; omega)
          have hk18 : decide (0 < (x8.length : Int)) = true := decide_eq_true c15
          have hk19 : decide (0 < x8.length) = true := decide_eq_true (by omega)
          clear c15
          have p20 : 0 ≤ (0 : Int) := by decide
          have q20 : (0 : Int) < (x8.length : Int) := of_decide_eq_true (by first | (with_reducible assumption) | assumption)
          obtain ⟨ad20, e20, hx20_0⟩ := Kd.at_int (Kd.F_now HF9.out) (0 : Int) p20 q20
          cases e20
          (try simp only [show ((0 : Int)).toNat = 0 from rfl] at hx20_0)
          (try rw [Addr.add_zero'] at hx20_0)
          replace p20 := eq_true p20
          replace q20 := eq_true q20
          by_cases c21 : (rd x8 (0 : Int)) = 0
          · have H := HH.out
            rw [if_pos c21] at H
            replace HH := Aside0.mk H
            clear H
            have hk22 : ((rd x8 (0 : Int)) == 0) = true := beq_iff_eq.mpr c21
            have hk23 : ((rd x8 (0 : Int)) != 0) = false := bne_eq_false_iff_eq.mpr c21
            clear c21
            by_cases c24 : 1 < (x8.length : Int)
            · have H := HH.out
              rw [if_pos c24] at H
              replace HH := Aside0.mk H
              clear H
              have hk25 : (1 < (x8.length : Int)) = True := eq_true c24
              have hk26 : (1 < x8.length) = True := eq_true (by have := c24; omega)
              have hk27 : decide (1 < (x8.length : Int)) = true := decide_eq_true c24
              have hk28 : decide (1 < x8.length) = true := decide_eq_true (by omega)
              clear c24
              have p29 : 0 ≤ (1 : Int) := by decide
              have q29 : (1 : Int) < (x8.length : Int) := of_decide_eq_true (by first | (with_reducible assumption) | assumption)
              obtain ⟨ad29, e29, hx29_0⟩ := Kd.at_int (Kd.F_now HF9.out) (1 : Int) p29 q29
              cases e29
              (try simp only [show ((1 : Int)).toNat = 1 from rfl] at hx29_0)
              (try simp only [Nat.reduceMul, Nat.reduceEqDiff, Go.Addr.add, ↓reduceIte] at hx29_0)
              replace p29 := eq_true p29
              replace q29 := eq_true q29
              by_cases c30 : (rd x8 (1 : Int)) < 128
              · have H := HH.out
                rw [if_pos c30] at H
                replace HH := Aside0.mk H
                clear H
                have hk31 : ((rd x8 (1 : Int)) < 128) = True := eq_true c30
                have hk32 : decide ((rd x8 (1 : Int)) < 128) = true := decide_eq_true c30
                clear c30
                by_cases c34 : 1 ≤ (x8.length : Int)
                · have H := HH.out
                  rw [if_pos c34] at H
                  replace HH := Aside0.mk H
                  clear H
                  have hk35 : decide (1 ≤ (x8.length : Int)) = true := decide_eq_true c34
                  have hk36 : decide (1 ≤ x8.length) = true := decide_eq_true (by omega)
                  clear c34
                  obtain ⟨i033, hi033, _, hsz33, _⟩ := info_parts info5
                  have q033 : 0 ≤ (1 : Int) := (by decide)
                  have ql33 : (1 : Int) ≤ ((x8.length : Int) : Int) := (by first | exact Int.le_refl _ | exact of_decide_eq_true (by first | (with_reducible assumption) | assumption) | (simp; done))
                  have hcut33 := cut_from (P := Try.prog) 77 5 .i64 Try.underlying77 hi033 1 hsz33 (some ad20) x8.length cp9 1 q033 ql33
                  have hr33 : Kd.F (Kd.int .u8) w11 (fun k_ => (w.heap.size ≤ k_)) (if cp9 = 1 then (some ad20) else ((some ad20) : Option Addr).map (·.add (1 * 1))) (List.drop 1 x8).length (List.drop 1 x8) := Kd.F_cut (m := 1) (c := cp9) HF9.out (by omega) HL9.out
                  have hy33 : (List.drop 1 x8).length = x8.length - 1 := List.length_drop
                  have hl33 : (List.drop 1 x8).length ≤ cp9 - 1 := (by have := HL9.out; rw [List.length_drop]; omega)
                  try simp only [show ((1 : Int)).toNat = 1 from rfl] at hcut33
                  rw [← hy33] at hcut33
                  generalize (if cp9 = 1 then (some ad20) else ((some ad20) : Option Addr).map (·.add (1 * 1))) = A33 at hcut33 hr33
                  generalize cp9 - 1 = cp33 at hcut33 hl33
                  clear hy33 q033 ql33
                  have HF33 := Aside0.mk hr33
                  have HL33 := Aside0.mk hl33
                  clear hr33 hl33 hi033 hsz33
                  obtain ⟨y37, hy37⟩ : ∃ y_ : List Int, y_ = List.drop 1 x8 := ⟨_, rfl⟩
                  rw [← hy37] at hcut33 HL33 HF33
                  have H : ((prims_signed.l0 k10 y37)) = some r := by rw [hy37]; exact HH.out
                  replace HH := Aside0.mk H
                  clear H
                  clear hy37
                  go_wp2
                  go_roundg k10
                  case measure => have := HK0.out; omega
                  case rel => exact ⟨y37, A33, cp33, (by first | rfl | (simp; done) | (simp [*]; done)), HH, ⟨by have := HK0.out; omega⟩, ⟨(Kd.F_mono (ok := (fun k_ => (w.heap.size ≤ k_))) HF6.out (fun k_ hk_ => hk_))⟩, ⟨HL33.out⟩, ⟨(Kd.F_mono (ok := (fun k_ => (w.heap.size ≤ k_))) HF33.out (fun k_ hk_ => hk_))⟩, ⟨HB.out⟩⟩
                · exact absurd HH.out (by rw [if_neg c34]; simp)
              · have H := HH.out
                rw [if_neg c30] at H
                replace HH := Aside0.mk H
                clear H
                have hk40 : ((rd x8 (1 : Int)) < 128) = False := eq_false c30
                have hk41 : decide ((rd x8 (1 : Int)) < 128) = false := decide_eq_false c30
                clear c30
                by_cases c42 : (rd x8 (0 : Int)) = 255
                · have H := HH.out
                  rw [if_pos c42] at H
                  replace HH := Aside0.mk H
                  clear H
                  have hk43 : ((rd x8 (0 : Int)) == 255) = true := beq_iff_eq.mpr c42
                  have hk44 : ((rd x8 (0 : Int)) != 255) = false := bne_eq_false_iff_eq.mpr c42
                  clear c42
                  by_cases c45 : (rd x8 (1 : Int)) ≥ 128
                  · have H := HH.out
                    rw [if_pos c45] at H
                    replace HH := Aside0.mk H
                    clear H
                    have hk46 : decide (128 ≤ (rd x8 (1 : Int))) = true := decide_eq_true c45
                    clear c45
                    by_cases c48 : 1 ≤ (x8.length : Int)
                    · have H := HH.out
                      rw [if_pos c48] at H
                      replace HH := Aside0.mk H
                      clear H
                      have hk49 : decide (1 ≤ (x8.length : Int)) = true := decide_eq_true c48
                      have hk50 : decide (1 ≤ x8.length) = true := decide_eq_true (by omega)
                      clear c48
                      obtain ⟨i047, hi047, _, hsz47, _⟩ := info_parts info5
                      have q047 : 0 ≤ (1 : Int) := (by decide)
                      have ql47 : (1 : Int) ≤ ((x8.length : Int) : Int) := (by first | exact Int.le_refl _ | exact of_decide_eq_true (by first | (with_reducible assumption) | assumption) | (simp; done))
                      have hcut47 := cut_from (P := Try.prog) 77 5 .i64 Try.underlying77 hi047 1 hsz47 (some ad20) x8.length cp9 1 q047 ql47
                      have hr47 : Kd.F (Kd.int .u8) w11 (fun k_ => (w.heap.size ≤ k_)) (if cp9 = 1 then (some ad20) else ((some ad20) : Option Addr).map (·.add (1 * 1))) (List.drop 1 x8).length (List.drop 1 x8) := Kd.F_cut (m := 1) (c := cp9) HF9.out (by omega) HL9.out
                      have hy47 : (List.drop 1 x8).length = x8.length - 1 := List.length_drop
                      have hl47 : (List.drop 1 x8).length ≤ cp9 - 1 := (by have := HL9.out; rw [List.length_drop]; omega)
                      try simp only [show ((1 : Int)).toNat = 1 from rfl] at hcut47
                      rw [← hy47] at hcut47
                      generalize (if cp9 = 1 then (some ad20) else ((some ad20) : Option Addr).map (·.add (1 * 1))) = A47 at hcut47 hr47
                      generalize cp9 - 1 = cp47 at hcut47 hl47
                      clear hy47 q047 ql47
                      have HF47 := Aside0.mk hr47
                      have HL47 := Aside0.mk hl47
                      clear hr47 hl47 hi047 hsz47
                      obtain ⟨y51, hy51⟩ : ∃ y_ : List Int, y_ = List.drop 1 x8 := ⟨_, rfl⟩
                      rw [← hy51] at hcut47 HL47 HF47
                      have H : ((prims_signed.l0 k10 y51)) = some r := by rw [hy51]; exact HH.out
                      replace HH := Aside0.mk H
                      clear H
                      clear hy51
                      go_wp2
                      go_roundg k10
                      case measure => have := HK0.out; omega
                      case rel => exact ⟨y51, A47, cp47, (by first | rfl | (simp; done) | (simp [*]; done)), HH, ⟨by have := HK0.out; omega⟩, ⟨(Kd.F_mono (ok := (fun k_ => (w.heap.size ≤ k_))) HF6.out (fun k_ hk_ => hk_))⟩, ⟨HL47.out⟩, ⟨(Kd.F_mono (ok := (fun k_ => (w.heap.size ≤ k_))) HF47.out (fun k_ hk_ => hk_))⟩, ⟨HB.out⟩⟩
                    · exact absurd HH.out (by rw [if_neg c48]; simp)
                  · have H := HH.out
                    rw [if_neg c45] at H
                    replace HH := Aside0.mk H
                    clear H
                    have hk54 : decide (128 ≤ (rd x8 (1 : Int))) = false := decide_eq_false c45
                    clear c45
                    have hcv55 := Kd.C_string (P := Try.prog) (A := (some ad20)) (c := cp9) Try.underlying77 Try.underlying5 Try.underlying9 (Kd.F_now HF9.out)
                    have H := HH.out
                    obtain rfl := Option.some.inj H
                    clear HH
                    go_wp2
                    go_ret
                    exact ⟨by first | rfl | (simp; done) | (simp [*]; done), HB.out⟩
                · have H := HH.out
                  rw [if_neg c42] at H
                  replace HH := Aside0.mk H
                  clear H
                  have hk56 : ((rd x8 (0 : Int)) == 255) = false := beq_eq_false_iff_ne.mpr c42
                  have hk57 : ((rd x8 (0 : Int)) != 255) = true := bne_iff_ne.mpr c42
                  clear c42
                  have hcv58 := Kd.C_string (P := Try.prog) (A := (some ad20)) (c := cp9) Try.underlying77 Try.underlying5 Try.underlying9 (Kd.F_now HF9.out)
                  have H := HH.out
                  obtain rfl := Option.some.inj H
                  clear HH
                  go_wp2
                  go_ret
                  exact ⟨by first | rfl | (simp; done) | (simp [*]; done), HB.out⟩
            · exact absurd HH.out (by rw [if_neg c24]; simp)
          · have H := HH.out
            rw [if_neg c21] at H
            replace HH := Aside0.mk H
            clear H
            have hk63 : ((rd x8 (0 : Int)) == 0) = false := beq_eq_false_iff_ne.mpr c21
            have hk64 : ((rd x8 (0 : Int)) != 0) = true := bne_iff_ne.mpr c21
            clear c21
            by_cases c65 : (rd x8 (0 : Int)) = 255
            · have H := HH.out
              rw [if_pos c65] at H
              replace HH := Aside0.mk H
              clear H
              have hk66 : ((rd x8 (0 : Int)) == 255) = true := beq_iff_eq.mpr c65
              have hk67 : ((rd x8 (0 : Int)) != 255) = false := bne_eq_false_iff_eq.mpr c65
              clear c65
              by_cases c68 : 1 < (x8.length : Int)
              · have H := HH.out
                rw [if_pos c68] at H
                replace HH := Aside0.mk H
                clear H
                have hk69 : (1 < (x8.length : Int)) = True := eq_true c68
                have hk70 : (1 < x8.length) = True := eq_true (by have := c68; omega)
                have hk71 : decide (1 < (x8.length : Int)) = true := decide_eq_true c68
                have hk72 : decide (1 < x8.length) = true := decide_eq_true (by omega)
                clear c68
                have p73 : 0 ≤ (1 : Int) := by decide
                have q73 : (1 : Int) < (x8.length : Int) := of_decide_eq_true (by first | (with_reducible assumption) | assumption)
                obtain ⟨ad73, e73, hx73_0⟩ := Kd.at_int (Kd.F_now HF9.out) (1 : Int) p73 q73
                cases e73
                (try simp only [show ((1 : Int)).toNat = 1 from rfl] at hx73_0)
                (try simp only [Nat.reduceMul, Nat.reduceEqDiff, Go.Addr.add, ↓reduceIte] at hx73_0)
                replace p73 := eq_true p73
                replace q73 := eq_true q73
                by_cases c74 : (rd x8 (1 : Int)) ≥ 128
                · have H := HH.out
                  rw [if_pos c74] at H
                  replace HH := Aside0.mk H
                  clear H
                  have hk75 : decide (128 ≤ (rd x8 (1 : Int))) = true := decide_eq_true c74
                  clear c74
                  by_cases c77 : 1 ≤ (x8.length : Int)
                  · have H := HH.out
                    rw [if_pos c77] at H
                    replace HH := Aside0.mk H
                    clear H
                    have hk78 : decide (1 ≤ (x8.length : Int)) = true := decide_eq_true c77
                    have hk79 : decide (1 ≤ x8.length) = true := decide_eq_true (by omega)
                    clear c77
                    obtain ⟨i076, hi076, _, hsz76, _⟩ := info_parts info5
                    have q076 : 0 ≤ (1 : Int) := (by decide)
                    have ql76 : (1 : Int) ≤ ((x8.length : Int) : Int) := (by first | exact Int.le_refl _ | exact of_decide_eq_true (by first | (with_reducible assumption) | assumption) | (simp; done))
                    have hcut76 := cut_from (P := Try.prog) 77 5 .i64 Try.underlying77 hi076 1 hsz76 (some ad20) x8.length cp9 1 q076 ql76
                    have hr76 : Kd.F (Kd.int .u8) w11 (fun k_ => (w.heap.size ≤ k_)) (if cp9 = 1 then (some ad20) else ((some ad20) : Option Addr).map (·.add (1 * 1))) (List.drop 1 x8).length (List.drop 1 x8) := Kd.F_cut (m := 1) (c := cp9) HF9.out (by omega) HL9.out
                    have hy76 : (List.drop 1 x8).length = x8.length - 1 := List.length_drop
                    have hl76 : (List.drop 1 x8).length ≤ cp9 - 1 := (by have := HL9.out; rw [List.length_drop]; omega)
                    try simp only [show ((1 : Int)).toNat = 1 from rfl] at hcut76
                    rw [← hy76] at hcut76
                    generalize (if cp9 = 1 then (some ad20) else ((some ad20) : Option Addr).map (·.add (1 * 1))) = A76 at hcut76 hr76
                    generalize cp9 - 1 = cp76 at hcut76 hl76
                    clear hy76 q076 ql76
                    have HF76 := Aside0.mk hr76
                    have HL76 := Aside0.mk hl76
                    clear hr76 hl76 hi076 hsz76
                    obtain ⟨y80, hy80⟩ : ∃ y_ : List Int, y_ = List.drop 1 x8 := ⟨_, rfl⟩
                    rw [← hy80] at hcut76 HL76 HF76
                    have H : ((prims_signed.l0 k10 y80)) = some r := by rw [hy80]; exact HH.out
                    replace HH := Aside0.mk H
                    clear H
                    clear hy80
                    go_wp2
                    go_roundg k10
                    case measure => have := HK0.out; omega
                    case rel => exact ⟨y80, A76, cp76, (by first | rfl | (simp; done) | (simp [*]; done)), HH, ⟨by have := HK0.out; omega⟩, ⟨(Kd.F_mono (ok := (fun k_ => (w.heap.size ≤ k_))) HF6.out (fun k_ hk_ => hk_))⟩, ⟨HL76.out⟩, ⟨(Kd.F_mono (ok := (fun k_ => (w.heap.size ≤ k_))) HF76.out (fun k_ hk_ => hk_))⟩, ⟨HB.out⟩⟩
                  · exact absurd HH.out (by rw [if_neg c77]; simp)
                · have H := HH.out
                  rw [if_neg c74] at H
                  replace HH := Aside0.mk H
                  clear H
                  have hk83 : decide (128 ≤ (rd x8 (1 : Int))) = false := decide_eq_false c74
                  clear c74
                  have hcv84 := Kd.C_string (P := Try.prog) (A := (some ad20)) (c := cp9) Try.underlying77 Try.underlying5 Try.underlying9 (Kd.F_now HF9.out)
                  have H := HH.out
                  obtain rfl := Option.some.inj H
                  clear HH
                  go_wp2
                  go_ret
                  exact ⟨by first | rfl | (simp; done) | (simp [*]; done), HB.out⟩
              · exact absurd HH.out (by rw [if_neg c68]; simp)
            · have H := HH.out
              rw [if_neg c65] at H
              replace HH := Aside0.mk H
              clear H
              have hk89 : ((rd x8 (0 : Int)) == 255) = false := beq_eq_false_iff_ne.mpr c65
              have hk90 : ((rd x8 (0 : Int)) != 255) = true := bne_iff_ne.mpr c65
              clear c65
              have hcv91 := Kd.C_string (P := Try.prog) (A := (some ad20)) (c := cp9) Try.underlying77 Try.underlying5 Try.underlying9 (Kd.F_now HF9.out)
              have H := HH.out
              obtain rfl := Option.some.inj H
              clear HH
              go_wp2
              go_ret
              exact ⟨by first | rfl | (simp; done) | (simp [*]; done), HB.out⟩
        · exact absurd HH.out (by rw [if_neg c15]; simp)
      · have H := HH.out
        rw [if_neg c12] at H
        replace HH := Aside0.mk H
        clear H
        have hk96 : decide (1 < (x8.length : Int)) = false := decide_eq_false c12
        have hk97 : decide (1 < x8.length) = false := decide_eq_false (by omega)
        clear c12
        have hcv98 := Kd.C_string (P := Try.prog) (A := A9) (c := cp9) Try.underlying77 Try.underlying5 Try.underlying9 (Kd.F_now HF9.out)
        have H := HH.out
        obtain rfl := Option.some.inj H
        clear HH
        go_wp2
        go_ret
        exact ⟨by first | rfl | (simp; done) | (simp [*]; done), HB.out⟩

end Go.Proofs.Ytliackbiljhioaa.GA
