-- written by wip/gen.py, a program of this session
import Derived.Test.YtliackbiljhioaaGA0
namespace Go.Proofs.Ytliackbiljhioaa.GA
open Go.RowKit Go.Proofs.Ytliackbiljhioaa Go.Proofs.Ytliackbiljhioaa.MW Go.Proofs.YtliackbiljhioaaW.PrintWords Go.Proofs.YtliackbiljhioaaW.PrintLast Go.Proofs.YtliackbiljhioaaW.PrintMore
attribute [local go_sem] max2_int min2_int max_two min_two
set_option linter.unusedVariables false
set_option linter.unusedSimpArgs false

/-! ### toponymref16_digits: function 44 -/
mutual
def toponymref16_digits.l0 : Nat → Int → Int → Int → Int → Option (ByteArray × Bool)
  | 0, _, _, _, _ => none
  | k + 1, x1, x2, a0, a1 => if x2 < a1 then ((toponymref16_digits.l0 k (wrap64 (x1 * 256)) (wrap64 (x2 + 1)) a0 a1)) else (if a0 < (wrap64 (-x1)) then (some ((⟨#[]⟩ : ByteArray), false)) else (if a0 ≥ x1 then (some ((⟨#[]⟩ : ByteArray), false)) else (if a0 < 0 then ((toponymref16_digits.l1 k (wrap64 (a0 + (wrap64 (2 * x1)))) (⟨#[]⟩ : ByteArray) 0 a1)) else ((toponymref16_digits.l2 k a0 (⟨#[]⟩ : ByteArray) 0 a1)))))
def toponymref16_digits.l1 : Nat → Int → ByteArray → Int → Int → Option (ByteArray × Bool)
  | 0, _, _, _, _ => none
  | k + 1, x21, x22, x23, a1 => if x23 < a1 then (if (strOfNums [(Int.tmod x21 256) % 256]).size + x22.size ≤ 9223372036854775807 then ((toponymref16_digits.l1 k (wrap64 (Int.tdiv x21 256)) ((strOfNums [(Int.tmod x21 256) % 256]) ++ x22) (wrap64 (x23 + 1)) a1)) else (none)) else (some (x22, true))
def toponymref16_digits.l2 : Nat → Int → ByteArray → Int → Int → Option (ByteArray × Bool)
  | 0, _, _, _, _ => none
  | k + 1, x46, x47, x48, a1 => if x48 < a1 then (if (strOfNums [(Int.tmod x46 256) % 256]).size + x47.size ≤ 9223372036854775807 then ((toponymref16_digits.l2 k (wrap64 (Int.tdiv x46 256)) ((strOfNums [(Int.tmod x46 256) % 256]) ++ x47) (wrap64 (x48 + 1)) a1)) else (none)) else (some (x47, true))
end
def toponymref16_digits.f (k : Nat) (a0 : Int) (a1 : Int) : Option (ByteArray × Bool) := (toponymref16_digits.l0 k 128 1 a0 a1)
theorem toponymref16_digits.mono_l : ∀ k, (∀ y0 y1 y2 y3, LeO (toponymref16_digits.l0 k y0 y1 y2 y3) (toponymref16_digits.l0 (k + 1) y0 y1 y2 y3)) ∧ (∀ y0 y1 y2 y3, LeO (toponymref16_digits.l1 k y0 y1 y2 y3) (toponymref16_digits.l1 (k + 1) y0 y1 y2 y3)) ∧ (∀ y0 y1 y2 y3, LeO (toponymref16_digits.l2 k y0 y1 y2 y3) (toponymref16_digits.l2 (k + 1) y0 y1 y2 y3))
  | 0 => ⟨fun _ _ _ _ r h => by simp [toponymref16_digits.l0] at h, fun _ _ _ _ r h => by simp [toponymref16_digits.l1] at h, fun _ _ _ _ r h => by simp [toponymref16_digits.l2] at h⟩
  | k + 1 => by
    obtain ⟨ih0, ih1, ih2⟩ := toponymref16_digits.mono_l k
    refine ⟨?_, ?_, ?_⟩
    · intro y0 y1 y2 y3
      unfold toponymref16_digits.l0
      repeat' first
      | (with_reducible exact ih0 _ _ _ _)
      | (with_reducible exact ih1 _ _ _ _)
      | (with_reducible exact ih2 _ _ _ _)
      | (with_reducible exact LeO.refl _)
      | (with_reducible exact LeO.none _)
      | (with_reducible refine LeO.ite ?_ ?_)
      | (with_reducible refine LeO.bind ?_ (fun _ => ?_))
      | exact ih0 _ _ _ _
      | exact ih1 _ _ _ _
      | exact ih2 _ _ _ _
      | exact LeO.none _
      | refine LeO.ite ?_ ?_
      | refine LeO.bind ?_ (fun _ => ?_)
    · intro y0 y1 y2 y3
      unfold toponymref16_digits.l1
      repeat' first
      | (with_reducible exact ih0 _ _ _ _)
      | (with_reducible exact ih1 _ _ _ _)
      | (with_reducible exact ih2 _ _ _ _)
      | (with_reducible exact LeO.refl _)
      | (with_reducible exact LeO.none _)
      | (with_reducible refine LeO.ite ?_ ?_)
      | (with_reducible refine LeO.bind ?_ (fun _ => ?_))
      | exact ih0 _ _ _ _
      | exact ih1 _ _ _ _
      | exact ih2 _ _ _ _
      | exact LeO.none _
      | refine LeO.ite ?_ ?_
      | refine LeO.bind ?_ (fun _ => ?_)
    · intro y0 y1 y2 y3
      unfold toponymref16_digits.l2
      repeat' first
      | (with_reducible exact ih0 _ _ _ _)
      | (with_reducible exact ih1 _ _ _ _)
      | (with_reducible exact ih2 _ _ _ _)
      | (with_reducible exact LeO.refl _)
      | (with_reducible exact LeO.none _)
      | (with_reducible refine LeO.ite ?_ ?_)
      | (with_reducible refine LeO.bind ?_ (fun _ => ?_))
      | exact ih0 _ _ _ _
      | exact ih1 _ _ _ _
      | exact ih2 _ _ _ _
      | exact LeO.none _
      | refine LeO.ite ?_ ?_
      | refine LeO.bind ?_ (fun _ => ?_)
theorem toponymref16_digits.mono : ∀ a0_ a1_ k, LeO (toponymref16_digits.f k a0_ a1_) (toponymref16_digits.f (k + 1) a0_ a1_) := by
  intro a0_ a1_ k
  obtain ⟨ih0, ih1, ih2⟩ := toponymref16_digits.mono_l k
  unfold toponymref16_digits.f
  repeat' first
      | (with_reducible exact ih0 _ _ _ _)
      | (with_reducible exact ih1 _ _ _ _)
      | (with_reducible exact ih2 _ _ _ _)
      | (with_reducible exact LeO.refl _)
      | (with_reducible exact LeO.none _)
      | (with_reducible refine LeO.ite ?_ ?_)
      | (with_reducible refine LeO.bind ?_ (fun _ => ?_))
      | exact ih0 _ _ _ _
      | exact ih1 _ _ _ _
      | exact ih2 _ _ _ _
      | exact LeO.none _
      | refine LeO.ite ?_ ?_
      | refine LeO.bind ?_ (fun _ => ?_)
set_option maxHeartbeats 8000000 in
set_option maxRecDepth 100000 in
theorem toponymref16_digits.calls (k : Nat) (a0 : Int) (a1 : Int) (r1 : ByteArray) (r2 : Bool) (w : World) (h : toponymref16_digits.f k a0 a1 = some (r1, r2)) :
    Calls Try.prog 44 #[.int .i64 a0, .int .i64 a1] w (fun e w' => e = .returned (.tuple #[.string r1, .bool r2]) ∧ Below w.heap.size w w') := by
  have HH := Aside0.mk (show ((toponymref16_digits.l0 k 128 1 a0 a1)) = some (r1, r2) from h)
  clear h
  have HB := Aside0.mk (Below.refl w.heap.size w)
  go_enter Try.func44, Try.ntmps44
  go_wp2
  go_loopg [6, 7] k (fun kq u6 u7 w' => ∃ (x1 : Int) (x2 : Int), u6 = .int .i64 x1 ∧ u7 = .int .i64 x2 ∧ Aside0 ((toponymref16_digits.l0 kq x1 x2 a0 a1) = some (r1, r2)) ∧ Aside0 (kq ≤ k) ∧ Aside0 (Below w.heap.size w w'))
  case atStart => exact ⟨128, 1, (by first | rfl | (simp; done) | (simp [*]; done)), (by first | rfl | (simp; done) | (simp [*]; done)), HH, ⟨Nat.le_refl _⟩, ⟨HB.out⟩⟩
  case round =>
    clear HH
    clear HB
    obtain ⟨x1, x2, rfl, rfl, HA, HK0, HB⟩ := hrel
    obtain ⟨w4, rfl⟩ : ∃ wo_ : World, wo_ = wr := ⟨_, rfl⟩
    cases gk with
    | zero => exact absurd HA.out (by simp [toponymref16_digits.l0])
    | succ k3 =>
      have H := HA.out
      clear HA
      simp only [toponymref16_digits.l0] at H
      have HH := Aside0.mk H
      clear H
      by_cases c5 : x2 < a1
      · have H := HH.out
        rw [if_pos c5] at H
        replace HH := Aside0.mk H
        clear H
        have hk6 : (x2 < a1) = True := eq_true c5
        have hk7 : decide (x2 < a1) = true := decide_eq_true c5
        clear c5
        go_wp2
        go_roundg k3
        case measure => have := HK0.out; omega
        case rel => exact ⟨wrap64 (x1 * 256), wrap64 (x2 + 1), (by first | rfl | (simp; done) | (simp [*]; done)), (by first | rfl | (simp; done) | (simp [*]; done)), HH, ⟨by have := HK0.out; omega⟩, ⟨HB.out⟩⟩
      · have H := HH.out
        rw [if_neg c5] at H
        replace HH := Aside0.mk H
        clear H
        have hk8 : (x2 < a1) = False := eq_false c5
        have hk9 : decide (x2 < a1) = false := decide_eq_false c5
        clear c5
        by_cases c10 : a0 < (wrap64 (-x1))
        · have H := HH.out
          rw [if_pos c10] at H
          replace HH := Aside0.mk H
          clear H
          have hk11 : (a0 < (wrap64 (-x1))) = True := eq_true c10
          have hk12 : decide (a0 < (wrap64 (-x1))) = true := decide_eq_true c10
          clear c10
          have H := HH.out
          simp only [Option.some.injEq, Prod.mk.injEq] at H
          obtain ⟨rfl, rfl⟩ := H
          clear HH
          go_wp2
          go_ret2
          exact ⟨by first | rfl | (simp; done) | (simp [*]; done), HB.out⟩
        · have H := HH.out
          rw [if_neg c10] at H
          replace HH := Aside0.mk H
          clear H
          have hk13 : (a0 < (wrap64 (-x1))) = False := eq_false c10
          have hk14 : decide (a0 < (wrap64 (-x1))) = false := decide_eq_false c10
          clear c10
          by_cases c15 : a0 ≥ x1
          · have H := HH.out
            rw [if_pos c15] at H
            replace HH := Aside0.mk H
            clear H
            have hk16 : decide (x1 ≤ a0) = true := decide_eq_true c15
            clear c15
            have H := HH.out
            simp only [Option.some.injEq, Prod.mk.injEq] at H
            obtain ⟨rfl, rfl⟩ := H
            clear HH
            go_wp2
            go_ret2
            exact ⟨by first | rfl | (simp; done) | (simp [*]; done), HB.out⟩
          · have H := HH.out
            rw [if_neg c15] at H
            replace HH := Aside0.mk H
            clear H
            have hk17 : decide (x1 ≤ a0) = false := decide_eq_false c15
            clear c15
            by_cases c18 : a0 < 0
            · have H := HH.out
              rw [if_pos c18] at H
              replace HH := Aside0.mk H
              clear H
              have hk19 : (a0 < 0) = True := eq_true c18
              have hk20 : decide (a0 < 0) = true := decide_eq_true c18
              clear c18
              go_wp2
              go_loopg [0, 8, 9] k3 (fun kq u0 u8 u9 w' => ∃ (x21 : Int) (x22 : ByteArray) (x23 : Int), u0 = .int .i64 x21 ∧ u8 = .string x22 ∧ u9 = .int .i64 x23 ∧ Aside0 ((toponymref16_digits.l1 kq x21 x22 x23 a1) = some (r1, r2)) ∧ Aside0 (kq ≤ k3) ∧ Aside0 (Below w.heap.size w w'))
              case atStart => exact ⟨wrap64 (a0 + (wrap64 (2 * x1))), (⟨#[]⟩ : ByteArray), 0, (by first | rfl | (simp; done) | (simp [*]; done)), (by first | rfl | (simp; done) | (simp [*]; done)), (by first | rfl | (simp; done) | (simp [*]; done)), HH, ⟨Nat.le_refl _⟩, ⟨HB.out⟩⟩
              case round =>
                clear hk8
                clear hk9
                clear hk13
                clear hk14
                clear hk17
                clear hk19
                clear hk20
                clear HH
                clear HB
                obtain ⟨x21, x22, x23, rfl, rfl, rfl, HA, HK1, HB⟩ := hrel
                obtain ⟨w25, rfl⟩ : ∃ wo_ : World, wo_ = wr := ⟨_, rfl⟩
                cases gk with
                | zero => exact absurd HA.out (by simp [toponymref16_digits.l1])
                | succ k24 =>
                  have H := HA.out
                  clear HA
                  simp only [toponymref16_digits.l1] at H
                  have HH := Aside0.mk H
                  clear H
                  by_cases c26 : x23 < a1
                  · have H := HH.out
                    rw [if_pos c26] at H
                    replace HH := Aside0.mk H
                    clear H
                    have hk27 : (x23 < a1) = True := eq_true c26
                    have hk28 : decide (x23 < a1) = true := decide_eq_true c26
                    clear c26
                    go_wp2_with (((with_reducible refine gate_dst (N := 40) rfl ?_); (try (refine gate_guard (by rfl) ?_; dsimp only)); refine Kd.N_lit (Kd.int .u8) w.heap.size 5 rfl (N' := 40) rfl (xs := [(Int.tmod x21 256) % 256]) (inner := [.int .u8 ((Int.tmod x21 256) % 256)]) (ok := (fun k_ => (w.heap.size ≤ k_))) (okp := (fun k_ => (w.heap.size ≤ k_))) ?hr ?hp (fun _ hk_ => hk_) ?hf HB.out (below_size HB.out) (by first | simp | decide) ?_; (case hr => first | (go_simp; done) | (go_simp; rfl)); (case hp => exact (Reps.one (fun _ _ => rfl) (Reps.none _ _))); (case hf => exact (show ∀ k_, w25.heap.size ≤ k_ → (fun k_ => (w.heap.size ≤ k_)) k_ from fun k_ h_ => (Nat.le_trans (below_size HB.out) h_)) _ (Nat.le_refl _)); intro v29 w30 hn1 hb1 hg1 hat1); replace hat1 := Aside0.mk hat1; refine stop_ ?_)
                    refine Stop.go ?_
                    replace hat1 := hat1.out
                    have hbe := MW.grown_below hg1
                    have hba := MW.base_of hat1
                    replace HB := Aside0.mk hb1
                    have HN31 := Aside0.mk hn1
                    clear hn1 hb1 hg1 hat1 hbe hba
                    obtain ⟨A32, cp33, he_⟩ := Kd.N_slice HN31.out
                    subst he_
                    have HL35 := Aside0.mk (Kd.N_reads' HN31.out).2.1
                    have HF34 := Aside0.mk (Kd.N_F HN31.out)
                    clear HN31
                    have hcv36 := Kd.C_string (P := Try.prog) (A := A32) (c := cp33) Try.underlying77 Try.underlying5 Try.underlying9 (Kd.F_now HF34.out)
                    (try simp only [List.length_cons, List.length_nil, Nat.reduceAdd] at hcv36)
                    by_cases c37 : (strOfNums [(Int.tmod x21 256) % 256]).size + x22.size ≤ 9223372036854775807
                    · have H := HH.out
                      rw [if_pos c37] at H
                      replace HH := Aside0.mk H
                      clear H
                      have hk38 : (9223372036854775807 < (strOfNums [(Int.tmod x21 256) % 256]).size + x22.size) = False := eq_false (Nat.not_lt.2 c37)
                      have hk39 : ((strOfNums [(Int.tmod x21 256) % 256]).size + x22.size ≤ 9223372036854775807) = True := eq_true c37
                      have hk40 : decide ((strOfNums [(Int.tmod x21 256) % 256]).size + x22.size ≤ 9223372036854775807) = true := decide_eq_true c37
                      clear c37
                      go_wp2
                      go_roundg k24
                      case measure => have := HK0.out; have := HK1.out; omega
                      case rel => exact ⟨wrap64 (Int.tdiv x21 256), (strOfNums [(Int.tmod x21 256) % 256]) ++ x22, wrap64 (x23 + 1), (by first | rfl | (simp; done) | (simp [*]; done)), (by first | rfl | (simp; done) | (simp [*]; done)), (by first | rfl | (simp; done) | (simp [*]; done)), HH, ⟨by have := HK0.out; have := HK1.out; omega⟩, ⟨HB.out⟩⟩
                    · exact absurd HH.out (by rw [if_neg c37]; simp)
                  · have H := HH.out
                    rw [if_neg c26] at H
                    replace HH := Aside0.mk H
                    clear H
                    have hk42 : (x23 < a1) = False := eq_false c26
                    have hk43 : decide (x23 < a1) = false := decide_eq_false c26
                    clear c26
                    have H := HH.out
                    simp only [Option.some.injEq, Prod.mk.injEq] at H
                    obtain ⟨rfl, rfl⟩ := H
                    clear HH
                    go_wp2
                    go_ret2
                    exact ⟨by first | rfl | (simp; done) | (simp [*]; done), HB.out⟩
            · have H := HH.out
              rw [if_neg c18] at H
              replace HH := Aside0.mk H
              clear H
              have hk44 : (a0 < 0) = False := eq_false c18
              have hk45 : decide (a0 < 0) = false := decide_eq_false c18
              clear c18
              go_wp2
              go_loopg [0, 8, 9] k3 (fun kq u0 u8 u9 w' => ∃ (x46 : Int) (x47 : ByteArray) (x48 : Int), u0 = .int .i64 x46 ∧ u8 = .string x47 ∧ u9 = .int .i64 x48 ∧ Aside0 ((toponymref16_digits.l2 kq x46 x47 x48 a1) = some (r1, r2)) ∧ Aside0 (kq ≤ k3) ∧ Aside0 (Below w.heap.size w w'))
              case atStart => exact ⟨a0, (⟨#[]⟩ : ByteArray), 0, (by first | rfl | (simp; done) | (simp [*]; done)), (by first | rfl | (simp; done) | (simp [*]; done)), (by first | rfl | (simp; done) | (simp [*]; done)), HH, ⟨Nat.le_refl _⟩, ⟨HB.out⟩⟩
              case round =>
                clear hk8
                clear hk9
                clear hk13
                clear hk14
                clear hk17
                clear hk44
                clear hk45
                clear HH
                clear HB
                obtain ⟨x46, x47, x48, rfl, rfl, rfl, HA, HK2, HB⟩ := hrel
                obtain ⟨w50, rfl⟩ : ∃ wo_ : World, wo_ = wr := ⟨_, rfl⟩
                cases gk with
                | zero => exact absurd HA.out (by simp [toponymref16_digits.l2])
                | succ k49 =>
                  have H := HA.out
                  clear HA
                  simp only [toponymref16_digits.l2] at H
                  have HH := Aside0.mk H
                  clear H
                  by_cases c51 : x48 < a1
                  · have H := HH.out
                    rw [if_pos c51] at H
                    replace HH := Aside0.mk H
                    clear H
                    have hk52 : (x48 < a1) = True := eq_true c51
                    have hk53 : decide (x48 < a1) = true := decide_eq_true c51
                    clear c51
                    go_wp2_with (((with_reducible refine gate_dst (N := 40) rfl ?_); (try (refine gate_guard (by rfl) ?_; dsimp only)); refine Kd.N_lit (Kd.int .u8) w.heap.size 5 rfl (N' := 40) rfl (xs := [(Int.tmod x46 256) % 256]) (inner := [.int .u8 ((Int.tmod x46 256) % 256)]) (ok := (fun k_ => (w.heap.size ≤ k_))) (okp := (fun k_ => (w.heap.size ≤ k_))) ?hr ?hp (fun _ hk_ => hk_) ?hf HB.out (below_size HB.out) (by first | simp | decide) ?_; (case hr => first | (go_simp; done) | (go_simp; rfl)); (case hp => exact (Reps.one (fun _ _ => rfl) (Reps.none _ _))); (case hf => exact (show ∀ k_, w50.heap.size ≤ k_ → (fun k_ => (w.heap.size ≤ k_)) k_ from fun k_ h_ => (Nat.le_trans (below_size HB.out) h_)) _ (Nat.le_refl _)); intro v54 w55 hn1 hb1 hg1 hat1); replace hat1 := Aside0.mk hat1; refine stop_ ?_)
                    refine Stop.go ?_
                    replace hat1 := hat1.out
                    have hbe := MW.grown_below hg1
                    have hba := MW.base_of hat1
                    replace HB := Aside0.mk hb1
                    have HN56 := Aside0.mk hn1
                    clear hn1 hb1 hg1 hat1 hbe hba
                    obtain ⟨A57, cp58, he_⟩ := Kd.N_slice HN56.out
                    subst he_
                    have HL60 := Aside0.mk (Kd.N_reads' HN56.out).2.1
                    have HF59 := Aside0.mk (Kd.N_F HN56.out)
                    clear HN56
                    have hcv61 := Kd.C_string (P := Try.prog) (A := A57) (c := cp58) Try.underlying77 Try.underlying5 Try.underlying9 (Kd.F_now HF59.out)
                    (try simp only [List.length_cons, List.length_nil, Nat.reduceAdd] at hcv61)
                    by_cases c62 : (strOfNums [(Int.tmod x46 256) % 256]).size + x47.size ≤ 9223372036854775807
                    · have H := HH.out
                      rw [if_pos c62] at H
                      replace HH := Aside0.mk H
                      clear H
                      have hk63 : (9223372036854775807 < (strOfNums [(Int.tmod x46 256) % 256]).size + x47.size) = False := eq_false (Nat.not_lt.2 c62)
                      have hk64 : ((strOfNums [(Int.tmod x46 256) % 256]).size + x47.size ≤ 9223372036854775807) = True := eq_true c62
                      have hk65 : decide ((strOfNums [(Int.tmod x46 256) % 256]).size + x47.size ≤ 9223372036854775807) = true := decide_eq_true c62
                      clear c62
                      go_wp2
                      go_roundg k49
                      case measure => have := HK0.out; have := HK2.out; omega
                      case rel => exact ⟨wrap64 (Int.tdiv x46 256), (strOfNums [(Int.tmod x46 256) % 256]) ++ x47, wrap64 (x48 + 1), (by first | rfl | (simp; done) | (simp [*]; done)), (by first | rfl | (simp; done) | (simp [*]; done)), (by first | rfl | (simp; done) | (simp [*]; done)), HH, ⟨by have := HK0.out; have := HK2.out; omega⟩, ⟨HB.out⟩⟩
                    · exact absurd HH.out (by rw [if_neg c62]; simp)
                  · have H := HH.out
                    rw [if_neg c51] at H
                    replace HH := Aside0.mk H
                    clear H
                    have hk67 : (x48 < a1) = False := eq_false c51
                    have hk68 : decide (x48 < a1) = false := decide_eq_false c51
                    clear c51
                    have H := HH.out
                    simp only [Option.some.injEq, Prod.mk.injEq] at H
                    obtain ⟨rfl, rfl⟩ := H
                    clear HH
                    go_wp2
                    go_ret2
                    exact ⟨by first | rfl | (simp; done) | (simp [*]; done), HB.out⟩

end Go.Proofs.Ytliackbiljhioaa.GA
