-- written by wip/gen.py, a program of this session
import Derived.Test.YtliackbiljhioaaGA0
import Derived.Test.YtliackbiljhioaaGAF45
import Derived.Test.YtliackbiljhioaaGAF46
import Derived.Test.YtliackbiljhioaaGAF47
namespace Go.Proofs.Ytliackbiljhioaa.GA
open Go.RowKit Go.Proofs.Ytliackbiljhioaa Go.Proofs.Ytliackbiljhioaa.MW Go.Proofs.YtliackbiljhioaaW.PrintWords Go.Proofs.YtliackbiljhioaaW.PrintLast Go.Proofs.YtliackbiljhioaaW.PrintMore
attribute [local go_sem] max2_int min2_int max_two min_two
set_option linter.unusedVariables false
set_option linter.unusedSimpArgs false


/-! ### ber_Check: function 40 -/
def ber_Check.f (k : Nat) (a0_0 : Int) (a0_1 : Bool) (a0_2 : Int) (a0_3 : ByteArray) (l0_4 : List (S28)) : Option (Int) := (ber_Deep.f k a0_0 a0_1 a0_2 a0_3 l0_4).bind fun t13 => (if t13 > 12 then (some 153) else ((ber_sane.f k a0_0 a0_1 a0_2 a0_3 l0_4).bind fun t29 => (if t29 = true then ((ber_one.f k a0_0 a0_1 a0_2 a0_3 l0_4).bind fun bt43 => (if bt43.2 = true then (some 0) else (some 3))) else (some 2))))
theorem ber_Check.mono : ∀ a0_ a1_ a2_ a3_ a4_ k, LeO (ber_Check.f k a0_ a1_ a2_ a3_ a4_) (ber_Check.f (k + 1) a0_ a1_ a2_ a3_ a4_) := by
  intro a0_ a1_ a2_ a3_ a4_ k
  unfold ber_Check.f
  repeat' first
      | (with_reducible exact ber_Deep.mono _ _ _ _ _ _)
      | (with_reducible exact ber_one.mono _ _ _ _ _ _)
      | (with_reducible exact ber_sane.mono _ _ _ _ _ _)
      | (with_reducible exact LeO.refl _)
      | (with_reducible exact LeO.none _)
      | (with_reducible refine LeO.ite ?_ ?_)
      | (with_reducible refine LeO.bind ?_ (fun _ => ?_))
      | exact ber_Deep.mono _ _ _ _ _ _
      | exact ber_one.mono _ _ _ _ _ _
      | exact ber_sane.mono _ _ _ _ _ _
      | exact LeO.none _
      | refine LeO.ite ?_ ?_
      | refine LeO.bind ?_ (fun _ => ?_)
set_option maxHeartbeats 8000000 in
set_option maxRecDepth 100000 in
theorem ber_Check.calls (k : Nat) (P_ : Nat → Prop) (a0_0 : Int) (a0_1 : Bool) (a0_2 : Int) (a0_3 : ByteArray) (A0_4 : Option Addr) (c0_4 : Nat) (l0_4 : List (S28)) (r : Int) (w : World) (hs0_4 : Kd.F k28 w P_ A0_4 l0_4.length l0_4) (hc0_4 : l0_4.length ≤ c0_4) (h : ber_Check.f k a0_0 a0_1 a0_2 a0_3 l0_4 = some r) :
    Calls Try.prog 40 #[.agg #[.int .i64 a0_0, .bool a0_1, .int .i64 a0_2, .string a0_3, .slice A0_4 l0_4.length c0_4]] w (fun e w' => e = .returned (.int .i64 r) ∧ Below w.heap.size w w') := by
  have HH := Aside0.mk (show ((ber_Deep.f k a0_0 a0_1 a0_2 a0_3 l0_4).bind fun t13 => (if t13 > 12 then (some 153) else ((ber_sane.f k a0_0 a0_1 a0_2 a0_3 l0_4).bind fun t29 => (if t29 = true then ((ber_one.f k a0_0 a0_1 a0_2 a0_3 l0_4).bind fun bt43 => (if bt43.2 = true then (some 0) else (some 3))) else (some 2))))) = some r from h)
  clear h
  have HF0_4 := Aside0.mk (Kd.F_mono hs0_4 (fun k_ hk_ => (.inl hk_ : P_ k_ ∨ w.heap.size ≤ k_)))
  have HL0_4 := Aside0.mk hc0_4
  clear hs0_4 hc0_4
  have HB := Aside0.mk (Below.refl w.heap.size w)
  have hu28 := Try.underlying28
  go_enter Try.func40, Try.ntmps40
  go_wp2_with (((with_reducible refine gate_dst (N := 1) rfl ?_); (try (refine gate_guard (by rfl) ?_; dsimp only)); refine box_event ?hg (N := 1) ?hd (cs := #[.int .i64 a0_0, .bool a0_1, .int .i64 a0_2, .string a0_3, .slice A0_4 l0_4.length c0_4]) (t := 28) ?hr ?_; (case hd => rfl); (case hg => rfl); (case hr => first | (go_simp; done) | (go_simp; rfl)); intro g1 hg w2 hbox hb); replace hg := Aside0.mk hg; replace hbox := Aside0.mk hbox; refine stop_ ?_)
  refine Stop.go ?_
  replace hg := hg.out
  replace hbox := hbox.out
  have GEg1 := Aside0.mk (by rw [hg]; exact (below_size HB.out) : w.heap.size ≤ g1)
  replace HF0_4 := Aside0.mk (Kd.F_elderB HF0_4.out g1 (Nat.le_of_eq hg.symm))
  replace HF0_4 := Aside0.mk (Kd.F_mono HF0_4.out (fun k_ hk_ => ⟨hk_.1, hk_.2⟩) : Kd.F k28 _ (fun k_ => (P_ k_ ∨ w.heap.size ≤ k_) ∧ k_ ≠ g1) _ _ _)
  replace HF0_4 := Aside0.mk (Kd.F_below HF0_4.out hb)
  replace HB := Aside0.mk (below_step HB.out hb)
  have BKg1 := Aside0.mk hbox
  clear hg hbox hb
  obtain ⟨hz3, hz4, hz5, hz6, hz7, hf8, hf9, hf10, hf11, hf12⟩ := MB.lay5 BKg1.out
  have H := HH.out
  replace H := Option.bind_eq_some_iff.mp H
  obtain ⟨t13, at_, H⟩ := H
  have At14 := Aside0.mk at_
  clear at_
  replace HH := Aside0.mk (show (if t13 > 12 then (some 153) else ((ber_sane.f k a0_0 a0_1 a0_2 a0_3 l0_4).bind fun t29 => (if t29 = true then ((ber_one.f k a0_0 a0_1 a0_2 a0_3 l0_4).bind fun bt43 => (if bt43.2 = true then (some 0) else (some 3))) else (some 2)))) = some r from H)
  clear H
  go_wp2_with (((with_reducible refine gate_callee (f := 45) rfl ?_); (try (refine gate_guard (by rfl) ?_; dsimp only)); refine goesL_ (some 7) rfl rfl Try.func45 (by kernel_rfl) rfl #[.agg #[.int .i64 a0_0, .bool a0_1, .int .i64 a0_2, .string a0_3, .slice A0_4 l0_4.length c0_4]] rfl (by (try simp only [List.map_toArray, List.map_cons, List.map_nil]); first | done | rfl | (simp only [List.length_drop, List.length_take]; rfl)) ?_; (with_reducible refine (ber_Deep.calls k (fun k_ => (P_ k_ ∨ w.heap.size ≤ k_) ∧ k_ ≠ g1) a0_0 a0_1 a0_2 a0_3 _ _ l0_4 t13 _ (Kd.F_mono (ok := (fun k_ => (P_ k_ ∨ w.heap.size ≤ k_) ∧ k_ ≠ g1)) HF0_4.out (fun k_ hk_ => ⟨hk_.1, hk_.2⟩)) HL0_4.out At14.out).mono ?_); rintro e w15 ⟨rfl, hb⟩; refine ⟨_, rfl, ?_⟩); refine stop_ ?_)
  refine Stop.go ?_
  replace HF0_4 := Aside0.mk (Kd.F_below HF0_4.out hb)
  replace BKg1 := Aside0.mk (blk_below (o := .cells #[.int .i64 a0_0, .bool a0_1, .int .i64 a0_2, .string a0_3, .slice A0_4 l0_4.length c0_4] 28 (0, 0)) BKg1.out hb)
  replace HB := Aside0.mk (below_step HB.out hb)
  clear hb
  clear hz3 hz4 hz5 hz6 hz7 hf8 hf9 hf10 hf11 hf12
  obtain ⟨hz16, hz17, hz18, hz19, hz20, hf21, hf22, hf23, hf24, hf25⟩ := MB.lay5 BKg1.out
  by_cases c26 : t13 > 12
  · have H := HH.out
    rw [if_pos c26] at H
    replace HH := Aside0.mk H
    clear H
    have hk27 : decide (12 < t13) = true := decide_eq_true c26
    clear c26
    have H := HH.out
    obtain rfl := Option.some.inj H
    clear HH
    go_wp2
    go_ret
    exact ⟨by first | rfl | (simp; done) | (simp [*]; done), HB.out⟩
  · have H := HH.out
    rw [if_neg c26] at H
    replace HH := Aside0.mk H
    clear H
    have hk28 : decide (12 < t13) = false := decide_eq_false c26
    clear c26
    have H := HH.out
    replace H := Option.bind_eq_some_iff.mp H
    obtain ⟨t29, at_, H⟩ := H
    have At30 := Aside0.mk at_
    clear at_
    replace HH := Aside0.mk (show (if t29 = true then ((ber_one.f k a0_0 a0_1 a0_2 a0_3 l0_4).bind fun bt43 => (if bt43.2 = true then (some 0) else (some 3))) else (some 2)) = some r from H)
    clear H
    go_wp2_with (((with_reducible refine gate_callee (f := 46) rfl ?_); (try (refine gate_guard (by rfl) ?_; dsimp only)); refine goesL_ (some 11) rfl rfl Try.func46 (by kernel_rfl) rfl #[.agg #[.int .i64 a0_0, .bool a0_1, .int .i64 a0_2, .string a0_3, .slice A0_4 l0_4.length c0_4]] rfl (by (try simp only [List.map_toArray, List.map_cons, List.map_nil]); first | done | rfl | (simp only [List.length_drop, List.length_take]; rfl)) ?_; (with_reducible refine (ber_sane.calls k (fun k_ => (P_ k_ ∨ w.heap.size ≤ k_) ∧ k_ ≠ g1) a0_0 a0_1 a0_2 a0_3 _ _ l0_4 t29 _ (Kd.F_mono (ok := (fun k_ => (P_ k_ ∨ w.heap.size ≤ k_) ∧ k_ ≠ g1)) HF0_4.out (fun k_ hk_ => ⟨hk_.1, hk_.2⟩)) HL0_4.out At30.out).mono ?_); rintro e w31 ⟨rfl, hb⟩; refine ⟨_, rfl, ?_⟩); refine stop_ ?_)
    refine Stop.go ?_
    replace HF0_4 := Aside0.mk (Kd.F_below HF0_4.out hb)
    replace BKg1 := Aside0.mk (blk_below (o := .cells #[.int .i64 a0_0, .bool a0_1, .int .i64 a0_2, .string a0_3, .slice A0_4 l0_4.length c0_4] 28 (0, 0)) BKg1.out hb)
    replace HB := Aside0.mk (below_step HB.out hb)
    clear hb
    clear hz16 hz17 hz18 hz19 hz20 hf21 hf22 hf23 hf24 hf25
    obtain ⟨hz32, hz33, hz34, hz35, hz36, hf37, hf38, hf39, hf40, hf41⟩ := MB.lay5 BKg1.out
    by_cases c42 : t29 = true
    · have H := HH.out
      rw [if_pos c42] at H
      replace HH := Aside0.mk H
      clear H
      subst c42
      have H := HH.out
      replace H := Option.bind_eq_some_iff.mp H
      obtain ⟨⟨t43, t44⟩, at_, H⟩ := H
      have At45 := Aside0.mk at_
      clear at_
      replace HH := Aside0.mk (show (if t44 = true then (some 0) else (some 3)) = some r from H)
      clear H
      go_wp2_with (((with_reducible refine gate_callee (f := 47) rfl ?_); (try (refine gate_guard (by rfl) ?_; dsimp only)); refine goesL_ (some 15) rfl rfl Try.func47 (by kernel_rfl) rfl #[.agg #[.int .i64 a0_0, .bool a0_1, .int .i64 a0_2, .string a0_3, .slice A0_4 l0_4.length c0_4]] rfl (by (try simp only [List.map_toArray, List.map_cons, List.map_nil]); first | done | rfl | (simp only [List.length_drop, List.length_take]; rfl)) ?_; (with_reducible refine (ber_one.calls k (fun k_ => (P_ k_ ∨ w.heap.size ≤ k_) ∧ k_ ≠ g1) a0_0 a0_1 a0_2 a0_3 _ _ l0_4 t43 t44 _ (Kd.F_mono (ok := (fun k_ => (P_ k_ ∨ w.heap.size ≤ k_) ∧ k_ ≠ g1)) HF0_4.out (fun k_ hk_ => ⟨hk_.1, hk_.2⟩)) HL0_4.out At45.out).mono ?_); rintro e w46 ⟨rfl, hb⟩; refine ⟨_, rfl, ?_⟩); refine stop_ ?_)
      refine Stop.go ?_
      replace HF0_4 := Aside0.mk (Kd.F_below HF0_4.out hb)
      replace BKg1 := Aside0.mk (blk_below (o := .cells #[.int .i64 a0_0, .bool a0_1, .int .i64 a0_2, .string a0_3, .slice A0_4 l0_4.length c0_4] 28 (0, 0)) BKg1.out hb)
      replace HB := Aside0.mk (below_step HB.out hb)
      clear hb
      clear hz32 hz33 hz34 hz35 hz36 hf37 hf38 hf39 hf40 hf41
      obtain ⟨hz47, hz48, hz49, hz50, hz51, hf52, hf53, hf54, hf55, hf56⟩ := MB.lay5 BKg1.out
      by_cases c57 : t44 = true
      · have H := HH.out
        rw [if_pos c57] at H
        replace HH := Aside0.mk H
        clear H
        subst c57
        have H := HH.out
        obtain rfl := Option.some.inj H
        clear HH
        go_wp2
        go_ret
        exact ⟨by first | rfl | (simp; done) | (simp [*]; done), HB.out⟩
      · have H := HH.out
        rw [if_neg c57] at H
        replace HH := Aside0.mk H
        clear H
        replace c57 := Bool.eq_false_iff.mpr c57
        subst c57
        have H := HH.out
        obtain rfl := Option.some.inj H
        clear HH
        go_wp2
        go_ret
        exact ⟨by first | rfl | (simp; done) | (simp [*]; done), HB.out⟩
    · have H := HH.out
      rw [if_neg c42] at H
      replace HH := Aside0.mk H
      clear H
      replace c42 := Bool.eq_false_iff.mpr c42
      subst c42
      have H := HH.out
      obtain rfl := Option.some.inj H
      clear HH
      go_wp2
      go_ret
      exact ⟨by first | rfl | (simp; done) | (simp [*]; done), HB.out⟩

end Go.Proofs.Ytliackbiljhioaa.GA
