-- written by wip/gen.py, a program of this session
import Derived.Test.YtliackbiljhioaaGA0
import Derived.Test.YtliackbiljhioaaGAF34
namespace Go.Proofs.Ytliackbiljhioaa.GA
open Go.RowKit Go.Proofs.Ytliackbiljhioaa Go.Proofs.Ytliackbiljhioaa.MW Go.Proofs.YtliackbiljhioaaW.PrintWords Go.Proofs.YtliackbiljhioaaW.PrintLast Go.Proofs.YtliackbiljhioaaW.PrintMore
attribute [local go_sem] max2_int min2_int max_two min_two
set_option linter.unusedVariables false
set_option linter.unusedSimpArgs false


/-! ### prims_AsBool: function 22 -/
def prims_AsBool.f (a0_0 : Int) (a0_1 : Bool) (a0_2 : Int) (a0_3 : ByteArray) (l0_4 : List (S28)) : Option (Bool × Int) := (prims_plain.f a0_0 a0_1 a0_2 a0_3 l0_4).bind fun t13 => (if t13 = true then (if (a0_3.size : Int) = 1 then (some ((a0_3.toList != ([0] : List UInt8)), 0)) else (some (false, 160))) else (some (false, 160)))
set_option maxHeartbeats 8000000 in
set_option maxRecDepth 100000 in
theorem prims_AsBool.calls (P_ : Nat → Prop) (a0_0 : Int) (a0_1 : Bool) (a0_2 : Int) (a0_3 : ByteArray) (A0_4 : Option Addr) (c0_4 : Nat) (l0_4 : List (S28)) (r1 : Bool) (r2 : Int) (w : World) (hs0_4 : Kd.F k28 w P_ A0_4 l0_4.length l0_4) (hc0_4 : l0_4.length ≤ c0_4) (h : prims_AsBool.f a0_0 a0_1 a0_2 a0_3 l0_4 = some (r1, r2)) :
    Calls Try.prog 22 #[.agg #[.int .i64 a0_0, .bool a0_1, .int .i64 a0_2, .string a0_3, .slice A0_4 l0_4.length c0_4]] w (fun e w' => e = .returned (.tuple #[.bool r1, .int .i64 r2]) ∧ Below w.heap.size w w') := by
  have HH := Aside0.mk (show ((prims_plain.f a0_0 a0_1 a0_2 a0_3 l0_4).bind fun t13 => (if t13 = true then (if (a0_3.size : Int) = 1 then (some ((a0_3.toList != ([0] : List UInt8)), 0)) else (some (false, 160))) else (some (false, 160)))) = some (r1, r2) from h)
  clear h
  have HF0_4 := Aside0.mk (Kd.F_mono hs0_4 (fun k_ hk_ => (.inl hk_ : P_ k_ ∨ w.heap.size ≤ k_)))
  have HL0_4 := Aside0.mk hc0_4
  clear hs0_4 hc0_4
  have HB := Aside0.mk (Below.refl w.heap.size w)
  have hu28 := Try.underlying28
  go_enter Try.func22, Try.ntmps22
  go_wp2_with (((with_reducible refine gate_dst (N := 1) rfl ?_); (try (refine gate_guard (by rfl) ?_; dsimp only)); refine box_event ?hg (N := 1) ?hd (cs := #[.int .i64 a0_0, .bool a0_1, .int .i64 a0_2, .string a0_3, .slice A0_4 l0_4.length c0_4]) (t := 28) ?hr ?_; (case hd => rfl); (case hg => rfl); (case hr => first | (go_simp; done) | (go_simp; rfl)); intro g1 hg w2 hbox hb); replace hg := Aside0.mk hg; replace hbox := Aside0.mk hbox; refine stop_ ?_)
  refine Stop.go ?_
  replace hg := hg.out
  replace hbox := hbox.out
  have GEg1 := Aside0.mk (by rw [hg]; exact (below_size HB.out) : w.heap.size ≤ g1)
  replace HF0_4 := Aside0.mk (Kd.F_elderB HF0_4.out g1 (Nat.le_of_eq hg.symm))
  replace HF0_4 := Aside0.mk (Kd.F_mono HF0_4.out (fun k_ hk_ => ⟨hk_.1, hk_.2⟩) : Kd.F k28 _ (fun k_ => (P_ k_ ∨ w.heap.size ≤ k_) ∧ k_ ≠ g1) _ _ _)
  replace HF0_4 := Aside0.mk (Kd.F_below HF0_4.out hb)
  replace HB := Aside0.mk (below_step HB.out hb)
  have BKg1 := Aside0.mk hbox
  clear hg hbox hb
  obtain ⟨hz3, hz4, hz5, hz6, hz7, hf8, hf9, hf10, hf11, hf12⟩ := MB.lay5 BKg1.out
  have H := HH.out
  replace H := Option.bind_eq_some_iff.mp H
  obtain ⟨t13, at_, H⟩ := H
  have At14 := Aside0.mk at_
  clear at_
  replace HH := Aside0.mk (show (if t13 = true then (if (a0_3.size : Int) = 1 then (some ((a0_3.toList != ([0] : List UInt8)), 0)) else (some (false, 160))) else (some (false, 160))) = some (r1, r2) from H)
  clear H
  go_wp2_with (((with_reducible refine gate_callee (f := 34) rfl ?_); (try (refine gate_guard (by rfl) ?_; dsimp only)); refine goesL_ (some 5) rfl rfl Try.func34 (by kernel_rfl) rfl #[.agg #[.int .i64 a0_0, .bool a0_1, .int .i64 a0_2, .string a0_3, .slice A0_4 l0_4.length c0_4]] rfl (by (try simp only [List.map_toArray, List.map_cons, List.map_nil]); first | done | rfl | (simp only [List.length_drop, List.length_take]; rfl)) ?_; (with_reducible refine (prims_plain.calls (fun k_ => (P_ k_ ∨ w.heap.size ≤ k_) ∧ k_ ≠ g1) a0_0 a0_1 a0_2 a0_3 _ _ l0_4 t13 _ (Kd.F_mono (ok := (fun k_ => (P_ k_ ∨ w.heap.size ≤ k_) ∧ k_ ≠ g1)) HF0_4.out (fun k_ hk_ => ⟨hk_.1, hk_.2⟩)) HL0_4.out At14.out).mono ?_); rintro e w15 ⟨rfl, hb⟩; refine ⟨_, rfl, ?_⟩); refine stop_ ?_)
  refine Stop.go ?_
  replace HF0_4 := Aside0.mk (Kd.F_below HF0_4.out hb)
  replace BKg1 := Aside0.mk (blk_below (o := .cells #[.int .i64 a0_0, .bool a0_1, .int .i64 a0_2, .string a0_3, .slice A0_4 l0_4.length c0_4] 28 (0, 0)) BKg1.out hb)
  replace HB := Aside0.mk (below_step HB.out hb)
  clear hb
  clear hz3 hz4 hz5 hz6 hz7 hf8 hf9 hf10 hf11 hf12
  obtain ⟨hz16, hz17, hz18, hz19, hz20, hf21, hf22, hf23, hf24, hf25⟩ := MB.lay5 BKg1.out
  by_cases c26 : t13 = true
  · have H := HH.out
    rw [if_pos c26] at H
    replace HH := Aside0.mk H
    clear H
    subst c26
    by_cases c27 : (a0_3.size : Int) = 1
    · have H := HH.out
      rw [if_pos c27] at H
      replace HH := Aside0.mk H
      clear H
      have hk28 : ((a0_3.size : Int) == 1) = true := beq_iff_eq.mpr c27
      have hk29 : ((a0_3.size : Int) != 1) = false := bne_eq_false_iff_eq.mpr c27
      clear c27
      have H := HH.out
      simp only [Option.some.injEq, Prod.mk.injEq] at H
      obtain ⟨rfl, rfl⟩ := H
      clear HH
      go_wp2
      go_ret2
      exact ⟨by first | rfl | (simp; done) | (simp [*]; done), HB.out⟩
    · have H := HH.out
      rw [if_neg c27] at H
      replace HH := Aside0.mk H
      clear H
      have hk30 : ((a0_3.size : Int) == 1) = false := beq_eq_false_iff_ne.mpr c27
      have hk31 : ((a0_3.size : Int) != 1) = true := bne_iff_ne.mpr c27
      clear c27
      have H := HH.out
      simp only [Option.some.injEq, Prod.mk.injEq] at H
      obtain ⟨rfl, rfl⟩ := H
      clear HH
      go_wp2
      go_ret2
      exact ⟨by first | rfl | (simp; done) | (simp [*]; done), HB.out⟩
  · have H := HH.out
    rw [if_neg c26] at H
    replace HH := Aside0.mk H
    clear H
    replace c26 := Bool.eq_false_iff.mpr c26
    subst c26
    have H := HH.out
    simp only [Option.some.injEq, Prod.mk.injEq] at H
    obtain ⟨rfl, rfl⟩ := H
    clear HH
    go_wp2
    go_ret2
    exact ⟨by first | rfl | (simp; done) | (simp [*]; done), HB.out⟩

end Go.Proofs.Ytliackbiljhioaa.GA
