-- written by wip/gen.py, a program of this session
import Derived.Test.YtliackbiljhioaaGA0
namespace Go.Proofs.Ytliackbiljhioaa.GA
open Go.RowKit Go.Proofs.Ytliackbiljhioaa Go.Proofs.Ytliackbiljhioaa.MW Go.Proofs.YtliackbiljhioaaW.PrintWords Go.Proofs.YtliackbiljhioaaW.PrintLast Go.Proofs.YtliackbiljhioaaW.PrintMore
attribute [local go_sem] max2_int min2_int max_two min_two
set_option linter.unusedVariables false
set_option linter.unusedSimpArgs false


/-! ### ber_length: function 49 -/
def ber_length.f (a0 : Int) : Option (ByteArray) := if a0 < 128 then (some (strOfNums ([(a0) % 256] : List Int))) else (if a0 < 256 then (some (strOfNums ([129, (a0) % 256] : List Int))) else (some (strOfNums ([130, (a0 / 256) % 256, (a0) % 256] : List Int))))
set_option maxHeartbeats 8000000 in
set_option maxRecDepth 100000 in
theorem ber_length.calls (a0 : Int) (r : ByteArray) (w : World) (h : ber_length.f a0 = some r) :
    Calls Try.prog 49 #[.int .i64 a0] w (fun e w' => e = .returned (.string r) ∧ Below w.heap.size w w') := by
  have HH := Aside0.mk (show (if a0 < 128 then (some (strOfNums ([(a0) % 256] : List Int))) else (if a0 < 256 then (some (strOfNums ([129, (a0) % 256] : List Int))) else (some (strOfNums ([130, (a0 / 256) % 256, (a0) % 256] : List Int))))) = some r from h)
  clear h
  have HB := Aside0.mk (Below.refl w.heap.size w)
  go_enter Try.func49, Try.ntmps49
  by_cases c1 : a0 < 128
  · have H := HH.out
    rw [if_pos c1] at H
    replace HH := Aside0.mk H
    clear H
    have hk2 : (a0 < 128) = True := eq_true c1
    have hk3 : decide (a0 < 128) = true := decide_eq_true c1
    clear c1
    go_wp2_with (((with_reducible refine gate_dst (N := 8) rfl ?_); (try (refine gate_guard (by rfl) ?_; dsimp only)); refine Kd.N_lit (Kd.int .u8) w.heap.size 5 rfl (N' := 8) rfl (xs := ([(a0) % 256] : List Int)) (inner := [.int .u8 ((a0) % 256)]) (ok := (fun k_ => (w.heap.size ≤ k_))) (okp := (fun k_ => (w.heap.size ≤ k_))) ?hr ?hp (fun _ hk_ => hk_) ?hf HB.out (below_size HB.out) (by first | simp | decide) ?_; (case hr => first | (go_simp; done) | (go_simp; rfl)); (case hp => exact (Reps.one (fun _ _ => rfl) (Reps.none _ _))); (case hf => exact (show ∀ k_, w.heap.size ≤ k_ → (fun k_ => (w.heap.size ≤ k_)) k_ from fun k_ h_ => (Nat.le_trans (below_size HB.out) h_)) _ (Nat.le_refl _)); intro v4 w5 hn1 hb1 hg1 hat1); replace hat1 := Aside0.mk hat1; refine stop_ ?_)
    refine Stop.go ?_
    replace hat1 := hat1.out
    have hbe := MW.grown_below hg1
    have hba := MW.base_of hat1
    replace HB := Aside0.mk hb1
    have HN6 := Aside0.mk hn1
    clear hn1 hb1 hg1 hat1 hbe hba
    obtain ⟨A7, cp8, he_⟩ := Kd.N_slice HN6.out
    subst he_
    have HL10 := Aside0.mk (Kd.N_reads' HN6.out).2.1
    have HF9 := Aside0.mk (Kd.N_F HN6.out)
    clear HN6
    have hcv11 := Kd.C_string (P := Try.prog) (A := A7) (c := cp8) Try.underlying77 Try.underlying5 Try.underlying9 (Kd.F_now HF9.out)
    (try simp only [List.length_cons, List.length_nil, Nat.reduceAdd] at hcv11)
    have H := HH.out
    obtain rfl := Option.some.inj H
    clear HH
    go_wp2
    go_ret
    exact ⟨by first | rfl | (simp; done) | (simp [*]; done), HB.out⟩
  · have H := HH.out
    rw [if_neg c1] at H
    replace HH := Aside0.mk H
    clear H
    have hk12 : (a0 < 128) = False := eq_false c1
    have hk13 : decide (a0 < 128) = false := decide_eq_false c1
    clear c1
    by_cases c14 : a0 < 256
    · have H := HH.out
      rw [if_pos c14] at H
      replace HH := Aside0.mk H
      clear H
      have hk15 : (a0 < 256) = True := eq_true c14
      have hk16 : decide (a0 < 256) = true := decide_eq_true c14
      clear c14
      go_wp2_with (((with_reducible refine gate_dst (N := 15) rfl ?_); (try (refine gate_guard (by rfl) ?_; dsimp only)); refine Kd.N_lit (Kd.int .u8) w.heap.size 5 rfl (N' := 15) rfl (xs := ([129, (a0) % 256] : List Int)) (inner := [.int .u8 129, .int .u8 ((a0) % 256)]) (ok := (fun k_ => (w.heap.size ≤ k_))) (okp := (fun k_ => (w.heap.size ≤ k_))) ?hr ?hp (fun _ hk_ => hk_) ?hf HB.out (below_size HB.out) (by first | simp | decide) ?_; (case hr => first | (go_simp; done) | (go_simp; rfl)); (case hp => exact (Reps.one (fun _ _ => rfl) (Reps.one (fun _ _ => rfl) (Reps.none _ _)))); (case hf => exact (show ∀ k_, w.heap.size ≤ k_ → (fun k_ => (w.heap.size ≤ k_)) k_ from fun k_ h_ => (Nat.le_trans (below_size HB.out) h_)) _ (Nat.le_refl _)); intro v17 w18 hn1 hb1 hg1 hat1); replace hat1 := Aside0.mk hat1; refine stop_ ?_)
      refine Stop.go ?_
      replace hat1 := hat1.out
      have hbe := MW.grown_below hg1
      have hba := MW.base_of hat1
      replace HB := Aside0.mk hb1
      have HN19 := Aside0.mk hn1
      clear hn1 hb1 hg1 hat1 hbe hba
      obtain ⟨A20, cp21, he_⟩ := Kd.N_slice HN19.out
      subst he_
      have HL23 := Aside0.mk (Kd.N_reads' HN19.out).2.1
      have HF22 := Aside0.mk (Kd.N_F HN19.out)
      clear HN19
      have hcv24 := Kd.C_string (P := Try.prog) (A := A20) (c := cp21) Try.underlying77 Try.underlying5 Try.underlying9 (Kd.F_now HF22.out)
      (try simp only [List.length_cons, List.length_nil, Nat.reduceAdd] at hcv24)
      have H := HH.out
      obtain rfl := Option.some.inj H
      clear HH
      go_wp2
      go_ret
      exact ⟨by first | rfl | (simp; done) | (simp [*]; done), HB.out⟩
    · have H := HH.out
      rw [if_neg c14] at H
      replace HH := Aside0.mk H
      clear H
      have hk25 : (a0 < 256) = False := eq_false c14
      have hk26 : decide (a0 < 256) = false := decide_eq_false c14
      clear c14
      go_wp2_with (((with_reducible refine gate_dst (N := 22) rfl ?_); (try (refine gate_guard (by rfl) ?_; dsimp only)); refine Kd.N_lit (Kd.int .u8) w.heap.size 5 rfl (N' := 22) rfl (xs := ([130, (a0 / 256) % 256, (a0) % 256] : List Int)) (inner := [.int .u8 130, .int .u8 ((a0 / 256) % 256), .int .u8 ((a0) % 256)]) (ok := (fun k_ => (w.heap.size ≤ k_))) (okp := (fun k_ => (w.heap.size ≤ k_))) ?hr ?hp (fun _ hk_ => hk_) ?hf HB.out (below_size HB.out) (by first | simp | decide) ?_; (case hr => first | (go_simp; done) | (go_simp; rfl)); (case hp => exact (Reps.one (fun _ _ => rfl) (Reps.one (fun _ _ => rfl) (Reps.one (fun _ _ => rfl) (Reps.none _ _))))); (case hf => exact (show ∀ k_, w.heap.size ≤ k_ → (fun k_ => (w.heap.size ≤ k_)) k_ from fun k_ h_ => (Nat.le_trans (below_size HB.out) h_)) _ (Nat.le_refl _)); intro v27 w28 hn1 hb1 hg1 hat1); replace hat1 := Aside0.mk hat1; refine stop_ ?_)
      refine Stop.go ?_
      replace hat1 := hat1.out
      have hbe := MW.grown_below hg1
      have hba := MW.base_of hat1
      replace HB := Aside0.mk hb1
      have HN29 := Aside0.mk hn1
      clear hn1 hb1 hg1 hat1 hbe hba
      obtain ⟨A30, cp31, he_⟩ := Kd.N_slice HN29.out
      subst he_
      have HL33 := Aside0.mk (Kd.N_reads' HN29.out).2.1
      have HF32 := Aside0.mk (Kd.N_F HN29.out)
      clear HN29
      have hcv34 := Kd.C_string (P := Try.prog) (A := A30) (c := cp31) Try.underlying77 Try.underlying5 Try.underlying9 (Kd.F_now HF32.out)
      (try simp only [List.length_cons, List.length_nil, Nat.reduceAdd] at hcv34)
      have H := HH.out
      obtain rfl := Option.some.inj H
      clear HH
      go_wp2
      go_ret
      exact ⟨by first | rfl | (simp; done) | (simp [*]; done), HB.out⟩

end Go.Proofs.Ytliackbiljhioaa.GA
