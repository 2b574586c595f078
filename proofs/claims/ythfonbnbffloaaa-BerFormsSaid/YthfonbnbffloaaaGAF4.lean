-- written by wip/gen.py, a program of this session
import Derived.Test.YthfonbnbffloaaaGA0
import Derived.Test.YthfonbnbffloaaaGAF13
import Derived.Test.YthfonbnbffloaaaGAF15
import Derived.Test.YthfonbnbffloaaaGAF16
import Derived.Test.YthfonbnbffloaaaGAF7
import Derived.Test.YthfonbnbffloaaaGAF8
import Derived.Test.YthfonbnbffloaaaGAF9
namespace Go.Proofs.Ythfonbnbffloaaa.GA
open Go.RowKit Go.Proofs.Ythfonbnbffloaaa Go.Proofs.Ythfonbnbffloaaa.MW Go.Proofs.YthfonbnbffloaaaW.PrintWords Go.Proofs.YthfonbnbffloaaaW.PrintLast Go.Proofs.YthfonbnbffloaaaW.PrintMore
attribute [local go_sem] max2_int min2_int max_two min_two
set_option linter.unusedVariables false
set_option linter.unusedSimpArgs false


/-! ### toponymlaw15_BerBack: function 4 -/
def toponymlaw15_BerBack.f (k : Nat) (a0_0 : Int) (a0_1 : Bool) (a0_2 : Int) (a0_3 : ByteArray) (l0_4 : List (S26)) (a1 : ByteArray) (a2 : ByteArray) : Option (Bool) := (toponymlaw15_Few.f k a0_0 a0_1 a0_2 a0_3 l0_4 300).bind fun t13 => (if t13 < 0 then ((toponymlaw15_awake.f k ).bind fun t29 => (some t29)) else (if (wrap64 ((a1.size : Int) + (a2.size : Int))) > 5000 then ((toponymlaw15_awake.f k ).bind fun t46 => (some t46)) else ((ber_Encode.f k [(⟨a0_0, a0_1, a0_2, a0_3, l0_4⟩ : S26)]).bind fun bt77 => (if bt77.2 = 0 then (if a1.size + bt77.1.size ≤ 9223372036854775807 then (if (a1 ++ bt77.1).size + a2.size ≤ 9223372036854775807 then ((ber_Decode.f k ((a1 ++ bt77.1) ++ a2) (a1.size : Int)).bind fun bt105 => (if bt105.2.2.2.2.2.2 = 0 then (if bt105.2.2.2.2.2.1 = (wrap64 ((a1.size : Int) + (bt77.1.size : Int))) then ((toponymref15_Same.f k bt105.1 bt105.2.1 bt105.2.2.1 bt105.2.2.2.1 bt105.2.2.2.2.1 a0_0 a0_1 a0_2 a0_3 l0_4).bind fun t180 => (if t180 = true then (if (bt77.1.size : Int) ≤ 4000 then ((toponymlaw15_awake.f k ).bind fun t207 => (some t207)) else (some false)) else (some false))) else (some false)) else (some false))) else (none)) else (none)) else (if bt77.1.toList = ([] : List UInt8) then ((ber_Check.f k a0_0 a0_1 a0_2 a0_3 l0_4).bind fun t243 => (if t243 = bt77.2 then ((toponymlaw15_awake.f k ).bind fun t259 => (some t259)) else (some false))) else (some false))))))
theorem toponymlaw15_BerBack.mono : ∀ a0_ a1_ a2_ a3_ a4_ a5_ a6_ k, LeO (toponymlaw15_BerBack.f k a0_ a1_ a2_ a3_ a4_ a5_ a6_) (toponymlaw15_BerBack.f (k + 1) a0_ a1_ a2_ a3_ a4_ a5_ a6_) := by
  intro a0_ a1_ a2_ a3_ a4_ a5_ a6_ k
  unfold toponymlaw15_BerBack.f
  repeat' first
      | (with_reducible exact ber_Check.mono _ _ _ _ _ _)
      | (with_reducible exact ber_Decode.mono _ _ _)
      | (with_reducible exact ber_Encode.mono _ _)
      | (with_reducible exact toponymlaw15_Few.mono _ _ _ _ _ _ _)
      | (with_reducible exact toponymlaw15_awake.mono _)
      | (with_reducible exact toponymref15_Same.mono _ _ _ _ _ _ _ _ _ _ _)
      | (with_reducible exact LeO.refl _)
      | (with_reducible exact LeO.none _)
      | (with_reducible refine LeO.ite ?_ ?_)
      | (with_reducible refine LeO.bind ?_ (fun _ => ?_))
      | exact ber_Check.mono _ _ _ _ _ _
      | exact ber_Decode.mono _ _ _
      | exact ber_Encode.mono _ _
      | exact toponymlaw15_Few.mono _ _ _ _ _ _ _
      | exact toponymlaw15_awake.mono _
      | exact toponymref15_Same.mono _ _ _ _ _ _ _ _ _ _ _
      | exact LeO.none _
      | refine LeO.ite ?_ ?_
      | refine LeO.bind ?_ (fun _ => ?_)
set_option maxHeartbeats 8000000 in
set_option maxRecDepth 100000 in
theorem toponymlaw15_BerBack.calls (k : Nat) (P_ : Nat → Prop) (a0_0 : Int) (a0_1 : Bool) (a0_2 : Int) (a0_3 : ByteArray) (A0_4 : Option Addr) (c0_4 : Nat) (l0_4 : List (S26)) (a1 : ByteArray) (a2 : ByteArray) (r : Bool) (w : World) (hs0_4 : Kd.F k26 w P_ A0_4 l0_4.length l0_4) (hc0_4 : l0_4.length ≤ c0_4) (h : toponymlaw15_BerBack.f k a0_0 a0_1 a0_2 a0_3 l0_4 a1 a2 = some r) :
    Calls Try.prog 4 #[.agg #[.int .i64 a0_0, .bool a0_1, .int .i64 a0_2, .string a0_3, .slice A0_4 l0_4.length c0_4], .string a1, .string a2] w (fun e w' => e = .returned (.bool r) ∧ Below w.heap.size w w') := by
  have HH := Aside0.mk (show ((toponymlaw15_Few.f k a0_0 a0_1 a0_2 a0_3 l0_4 300).bind fun t13 => (if t13 < 0 then ((toponymlaw15_awake.f k ).bind fun t29 => (some t29)) else (if (wrap64 ((a1.size : Int) + (a2.size : Int))) > 5000 then ((toponymlaw15_awake.f k ).bind fun t46 => (some t46)) else ((ber_Encode.f k [(⟨a0_0, a0_1, a0_2, a0_3, l0_4⟩ : S26)]).bind fun bt77 => (if bt77.2 = 0 then (if a1.size + bt77.1.size ≤ 9223372036854775807 then (if (a1 ++ bt77.1).size + a2.size ≤ 9223372036854775807 then ((ber_Decode.f k ((a1 ++ bt77.1) ++ a2) (a1.size : Int)).bind fun bt105 => (if bt105.2.2.2.2.2.2 = 0 then (if bt105.2.2.2.2.2.1 = (wrap64 ((a1.size : Int) + (bt77.1.size : Int))) then ((toponymref15_Same.f k bt105.1 bt105.2.1 bt105.2.2.1 bt105.2.2.2.1 bt105.2.2.2.2.1 a0_0 a0_1 a0_2 a0_3 l0_4).bind fun t180 => (if t180 = true then (if (bt77.1.size : Int) ≤ 4000 then ((toponymlaw15_awake.f k ).bind fun t207 => (some t207)) else (some false)) else (some false))) else (some false)) else (some false))) else (none)) else (none)) else (if bt77.1.toList = ([] : List UInt8) then ((ber_Check.f k a0_0 a0_1 a0_2 a0_3 l0_4).bind fun t243 => (if t243 = bt77.2 then ((toponymlaw15_awake.f k ).bind fun t259 => (some t259)) else (some false))) else (some false))))))) = some r from h)
  clear h
  have HF0_4 := Aside0.mk (Kd.F_mono hs0_4 (fun k_ hk_ => (.inl hk_ : P_ k_ ∨ w.heap.size ≤ k_)))
  have HL0_4 := Aside0.mk hc0_4
  clear hs0_4 hc0_4
  have HB := Aside0.mk (Below.refl w.heap.size w)
  have hu26 := Try.underlying26
  go_enter Try.func4, Try.ntmps4
  go_wp2_with (((with_reducible refine gate_dst (N := 3) rfl ?_); (try (refine gate_guard (by rfl) ?_; dsimp only)); refine box_event ?hg (N := 3) ?hd (cs := #[.int .i64 a0_0, .bool a0_1, .int .i64 a0_2, .string a0_3, .slice A0_4 l0_4.length c0_4]) (t := 26) ?hr ?_; (case hd => rfl); (case hg => rfl); (case hr => first | (go_simp; done) | (go_simp; rfl)); intro g1 hg w2 hbox hb); replace hg := Aside0.mk hg; replace hbox := Aside0.mk hbox; refine stop_ ?_)
  refine Stop.go ?_
  replace hg := hg.out
  replace hbox := hbox.out
  have GEg1 := Aside0.mk (by rw [hg]; exact (below_size HB.out) : w.heap.size ≤ g1)
  replace HF0_4 := Aside0.mk (Kd.F_elderB HF0_4.out g1 (Nat.le_of_eq hg.symm))
  replace HF0_4 := Aside0.mk (Kd.F_mono HF0_4.out (fun k_ hk_ => ⟨hk_.1, hk_.2⟩) : Kd.F k26 _ (fun k_ => (P_ k_ ∨ w.heap.size ≤ k_) ∧ k_ ≠ g1) _ _ _)
  replace HF0_4 := Aside0.mk (Kd.F_below HF0_4.out hb)
  replace HB := Aside0.mk (below_step HB.out hb)
  have BKg1 := Aside0.mk hbox
  clear hg hbox hb
  obtain ⟨hz3, hz4, hz5, hz6, hz7, hf8, hf9, hf10, hf11, hf12⟩ := MB.lay5 BKg1.out
  have H := HH.out
  replace H := Option.bind_eq_some_iff.mp H
  obtain ⟨t13, at_, H⟩ := H
  have At14 := Aside0.mk at_
  clear at_
  replace HH := Aside0.mk (show (if t13 < 0 then ((toponymlaw15_awake.f k ).bind fun t29 => (some t29)) else (if (wrap64 ((a1.size : Int) + (a2.size : Int))) > 5000 then ((toponymlaw15_awake.f k ).bind fun t46 => (some t46)) else ((ber_Encode.f k [(⟨a0_0, a0_1, a0_2, a0_3, l0_4⟩ : S26)]).bind fun bt77 => (if bt77.2 = 0 then (if a1.size + bt77.1.size ≤ 9223372036854775807 then (if (a1 ++ bt77.1).size + a2.size ≤ 9223372036854775807 then ((ber_Decode.f k ((a1 ++ bt77.1) ++ a2) (a1.size : Int)).bind fun bt105 => (if bt105.2.2.2.2.2.2 = 0 then (if bt105.2.2.2.2.2.1 = (wrap64 ((a1.size : Int) + (bt77.1.size : Int))) then ((toponymref15_Same.f k bt105.1 bt105.2.1 bt105.2.2.1 bt105.2.2.2.1 bt105.2.2.2.2.1 a0_0 a0_1 a0_2 a0_3 l0_4).bind fun t180 => (if t180 = true then (if (bt77.1.size : Int) ≤ 4000 then ((toponymlaw15_awake.f k ).bind fun t207 => (some t207)) else (some false)) else (some false))) else (some false)) else (some false))) else (none)) else (none)) else (if bt77.1.toList = ([] : List UInt8) then ((ber_Check.f k a0_0 a0_1 a0_2 a0_3 l0_4).bind fun t243 => (if t243 = bt77.2 then ((toponymlaw15_awake.f k ).bind fun t259 => (some t259)) else (some false))) else (some false)))))) = some r from H)
  clear H
  go_wp2_with (((with_reducible refine gate_callee (f := 8) rfl ?_); (try (refine gate_guard (by rfl) ?_; dsimp only)); refine goesL_ (some 13) rfl rfl Try.func8 (by kernel_rfl) rfl #[.agg #[.int .i64 a0_0, .bool a0_1, .int .i64 a0_2, .string a0_3, .slice A0_4 l0_4.length c0_4], .int .i64 300] rfl (by (try simp only [List.map_toArray, List.map_cons, List.map_nil]); first | done | rfl | (simp only [List.length_drop, List.length_take]; rfl)) ?_; (with_reducible refine (toponymlaw15_Few.calls k (fun k_ => (P_ k_ ∨ w.heap.size ≤ k_) ∧ k_ ≠ g1) a0_0 a0_1 a0_2 a0_3 _ _ l0_4 300 t13 _ (Kd.F_mono (ok := (fun k_ => (P_ k_ ∨ w.heap.size ≤ k_) ∧ k_ ≠ g1)) HF0_4.out (fun k_ hk_ => ⟨hk_.1, hk_.2⟩)) HL0_4.out At14.out).mono ?_); rintro e w15 ⟨rfl, hb⟩; refine ⟨_, rfl, ?_⟩); refine stop_ ?_)
  refine Stop.go ?_
  replace HF0_4 := Aside0.mk (Kd.F_below HF0_4.out hb)
  replace BKg1 := Aside0.mk (blk_below (o := .cells #[.int .i64 a0_0, .bool a0_1, .int .i64 a0_2, .string a0_3, .slice A0_4 l0_4.length c0_4] 26 (0, 0)) BKg1.out hb)
  replace HB := Aside0.mk (below_step HB.out hb)
  clear hb
  clear hz3 hz4 hz5 hz6 hz7 hf8 hf9 hf10 hf11 hf12
  obtain ⟨hz16, hz17, hz18, hz19, hz20, hf21, hf22, hf23, hf24, hf25⟩ := MB.lay5 BKg1.out
  by_cases c26 : t13 < 0
  · have H := HH.out
    rw [if_pos c26] at H
    replace HH := Aside0.mk H
    clear H
    have hk27 : (t13 < 0) = True := eq_true c26
    have hk28 : decide (t13 < 0) = true := decide_eq_true c26
    clear c26
    have H := HH.out
    replace H := Option.bind_eq_some_iff.mp H
    obtain ⟨t29, at_, H⟩ := H
    have At30 := Aside0.mk at_
    clear at_
    replace HH := Aside0.mk (show (some t29) = some r from H)
    clear H
    go_wp2_with (((with_reducible refine gate_callee (f := 7) rfl ?_); (try (refine gate_guard (by rfl) ?_; dsimp only)); refine goesL_ (some 23) rfl rfl Try.func7 (by kernel_rfl) rfl #[] rfl (by (try simp only [List.map_toArray, List.map_cons, List.map_nil]); first | done | rfl | (simp only [List.length_drop, List.length_take]; rfl)) ?_; (with_reducible refine (toponymlaw15_awake.calls k  t29 _  At30.out).mono ?_); rintro e w31 ⟨rfl, hb⟩; refine ⟨_, rfl, ?_⟩); refine stop_ ?_)
    refine Stop.go ?_
    replace HF0_4 := Aside0.mk (Kd.F_below HF0_4.out hb)
    replace BKg1 := Aside0.mk (blk_below (o := .cells #[.int .i64 a0_0, .bool a0_1, .int .i64 a0_2, .string a0_3, .slice A0_4 l0_4.length c0_4] 26 (0, 0)) BKg1.out hb)
    replace HB := Aside0.mk (below_step HB.out hb)
    clear hb
    clear hz16 hz17 hz18 hz19 hz20 hf21 hf22 hf23 hf24 hf25
    obtain ⟨hz32, hz33, hz34, hz35, hz36, hf37, hf38, hf39, hf40, hf41⟩ := MB.lay5 BKg1.out
    have H := HH.out
    obtain rfl := Option.some.inj H
    clear HH
    go_wp2
    go_ret
    exact ⟨by first | rfl | (simp; done) | (simp [*]; done), HB.out⟩
  · have H := HH.out
    rw [if_neg c26] at H
    replace HH := Aside0.mk H
    clear H
    have hk42 : (t13 < 0) = False := eq_false c26
    have hk43 : decide (t13 < 0) = false := decide_eq_false c26
    clear c26
    by_cases c44 : (wrap64 ((a1.size : Int) + (a2.size : Int))) > 5000
    · have H := HH.out
      rw [if_pos c44] at H
      replace HH := Aside0.mk H
      clear H
      have hk45 : decide (5000 < (wrap64 ((a1.size : Int) + (a2.size : Int)))) = true := decide_eq_true c44
      clear c44
      have H := HH.out
      replace H := Option.bind_eq_some_iff.mp H
      obtain ⟨t46, at_, H⟩ := H
      have At47 := Aside0.mk at_
      clear at_
      replace HH := Aside0.mk (show (some t46) = some r from H)
      clear H
      go_wp2_with (((with_reducible refine gate_callee (f := 7) rfl ?_); (try (refine gate_guard (by rfl) ?_; dsimp only)); refine goesL_ (some 23) rfl rfl Try.func7 (by kernel_rfl) rfl #[] rfl (by (try simp only [List.map_toArray, List.map_cons, List.map_nil]); first | done | rfl | (simp only [List.length_drop, List.length_take]; rfl)) ?_; (with_reducible refine (toponymlaw15_awake.calls k  t46 _  At47.out).mono ?_); rintro e w48 ⟨rfl, hb⟩; refine ⟨_, rfl, ?_⟩); refine stop_ ?_)
      refine Stop.go ?_
      replace HF0_4 := Aside0.mk (Kd.F_below HF0_4.out hb)
      replace BKg1 := Aside0.mk (blk_below (o := .cells #[.int .i64 a0_0, .bool a0_1, .int .i64 a0_2, .string a0_3, .slice A0_4 l0_4.length c0_4] 26 (0, 0)) BKg1.out hb)
      replace HB := Aside0.mk (below_step HB.out hb)
      clear hb
      clear hz16 hz17 hz18 hz19 hz20 hf21 hf22 hf23 hf24 hf25
      obtain ⟨hz49, hz50, hz51, hz52, hz53, hf54, hf55, hf56, hf57, hf58⟩ := MB.lay5 BKg1.out
      have H := HH.out
      obtain rfl := Option.some.inj H
      clear HH
      go_wp2
      go_ret
      exact ⟨by first | rfl | (simp; done) | (simp [*]; done), HB.out⟩
    · have H := HH.out
      rw [if_neg c44] at H
      replace HH := Aside0.mk H
      clear H
      have hk59 : decide (5000 < (wrap64 ((a1.size : Int) + (a2.size : Int)))) = false := decide_eq_false c44
      clear c44
      go_wp2_with (((with_reducible refine gate_dst (N := 26) rfl ?_); (try (refine gate_guard (by rfl) ?_; dsimp only)); refine Kd.N_lit k26 w.heap.size 26 rfl (N' := 26) rfl (xs := [(⟨a0_0, a0_1, a0_2, a0_3, l0_4⟩ : S26)]) (inner := [.int .i64 a0_0, .bool a0_1, .int .i64 a0_2, .string a0_3, .slice A0_4 l0_4.length c0_4]) (ok := (fun k_ => (P_ k_ ∨ w.heap.size ≤ k_) ∧ k_ ≠ g1)) (okp := (fun k_ => (P_ k_ ∨ w.heap.size ≤ k_) ∧ k_ ≠ g1)) ?hr ?hp (fun _ hk_ => hk_) ?hf HB.out (below_size HB.out) (by first | simp | decide) ?_; (case hr => first | (go_simp; done) | (go_simp; rfl)); (case hp => exact (Reps.c5 (k26_mkF _ _ (⟨a0_0, a0_1, a0_2, a0_3, l0_4⟩ : S26) HL0_4.out (Kd.F_mono (ok := (fun k_ => (P_ k_ ∨ w.heap.size ≤ k_) ∧ k_ ≠ g1)) HF0_4.out (fun k_ hk_ => ⟨hk_.1, hk_.2⟩))) (Reps.none _ _))); (case hf => exact (show ∀ k_, w15.heap.size ≤ k_ → (fun k_ => (P_ k_ ∨ w.heap.size ≤ k_) ∧ k_ ≠ g1) k_ from fun k_ h_ => ⟨.inr (Nat.le_trans (below_size HB.out) h_), Kd.freshB (o := .cells #[.int .i64 a0_0, .bool a0_1, .int .i64 a0_2, .string a0_3, .slice A0_4 l0_4.length c0_4] 26 (0, 0)) BKg1.out k_ h_⟩) _ (Nat.le_refl _)); intro v60 w61 hn1 hb1 hg1 hat1); replace hat1 := Aside0.mk hat1; refine stop_ ?_)
      refine Stop.go ?_
      replace hat1 := hat1.out
      have hbe := MW.grown_below hg1
      have hba := MW.base_of hat1
      replace HF0_4 := Aside0.mk (Kd.F_mono (Kd.F_elder' (ok := (fun k_ => (P_ k_ ∨ w.heap.size ≤ k_) ∧ k_ ≠ g1)) HF0_4.out hba hbe) (fun k_ hk_ => ⟨hk_.1.1, hk_.1.2, hk_.2⟩) : Kd.F k26 _ (fun k_ => (P_ k_ ∨ w.heap.size ≤ k_) ∧ k_ ≠ g1 ∧ some k_ ≠ (v60 : Value).ownBlock) _ _ _)
      replace BKg1 := Aside0.mk (blk_below (o := .cells #[.int .i64 a0_0, .bool a0_1, .int .i64 a0_2, .string a0_3, .slice A0_4 l0_4.length c0_4] 26 (0, 0)) BKg1.out hbe)
      replace HB := Aside0.mk hb1
      have HN62 := Aside0.mk hn1
      clear hn1 hb1 hg1 hat1 hbe hba
      clear hz16 hz17 hz18 hz19 hz20 hf21 hf22 hf23 hf24 hf25
      obtain ⟨hz63, hz64, hz65, hz66, hz67, hf68, hf69, hf70, hf71, hf72⟩ := MB.lay5 BKg1.out
      obtain ⟨A73, cp74, he_⟩ := Kd.N_slice HN62.out
      subst he_
      have HL76 := Aside0.mk (Kd.N_reads' HN62.out).2.1
      have HF75 := Aside0.mk (Kd.N_F HN62.out)
      clear HN62
      replace HF0_4 := Aside0.mk (Kd.F_mono (ok := (fun k_ => (P_ k_ ∨ w.heap.size ≤ k_) ∧ k_ ≠ g1 ∧ some k_ ≠ ((.slice A73 [(⟨a0_0, a0_1, a0_2, a0_3, l0_4⟩ : S26)].length cp74) : Value).ownBlock)) HF0_4.out (fun k_ hk_ => ⟨hk_.1, hk_.2.1⟩) : Kd.F k26 _ (fun k_ => (P_ k_ ∨ w.heap.size ≤ k_) ∧ k_ ≠ g1) _ _ _)
      have H := HH.out
      replace H := Option.bind_eq_some_iff.mp H
      obtain ⟨⟨t77, t78⟩, at_, H⟩ := H
      have At79 := Aside0.mk at_
      clear at_
      replace HH := Aside0.mk (show (if t78 = 0 then (if a1.size + t77.size ≤ 9223372036854775807 then (if (a1 ++ t77).size + a2.size ≤ 9223372036854775807 then ((ber_Decode.f k ((a1 ++ t77) ++ a2) (a1.size : Int)).bind fun bt105 => (if bt105.2.2.2.2.2.2 = 0 then (if bt105.2.2.2.2.2.1 = (wrap64 ((a1.size : Int) + (t77.size : Int))) then ((toponymref15_Same.f k bt105.1 bt105.2.1 bt105.2.2.1 bt105.2.2.2.1 bt105.2.2.2.2.1 a0_0 a0_1 a0_2 a0_3 l0_4).bind fun t180 => (if t180 = true then (if (t77.size : Int) ≤ 4000 then ((toponymlaw15_awake.f k ).bind fun t207 => (some t207)) else (some false)) else (some false))) else (some false)) else (some false))) else (none)) else (none)) else (if t77.toList = ([] : List UInt8) then ((ber_Check.f k a0_0 a0_1 a0_2 a0_3 l0_4).bind fun t243 => (if t243 = t78 then ((toponymlaw15_awake.f k ).bind fun t259 => (some t259)) else (some false))) else (some false))) = some r from H)
      clear H
      go_wp2_with (((with_reducible refine gate_callee (f := 13) rfl ?_); (try (refine gate_guard (by rfl) ?_; dsimp only)); refine goesL_ (some 27) rfl rfl Try.func13 (by kernel_rfl) rfl #[.slice A73 [(⟨a0_0, a0_1, a0_2, a0_3, l0_4⟩ : S26)].length cp74] rfl (by (try simp only [List.map_toArray, List.map_cons, List.map_nil]); first | done | rfl | (simp only [List.length_drop, List.length_take]; rfl)) ?_; (with_reducible refine (ber_Encode.calls k (fun k_ => (P_ k_ ∨ w.heap.size ≤ k_) ∧ k_ ≠ g1) _ _ [(⟨a0_0, a0_1, a0_2, a0_3, l0_4⟩ : S26)] t77 t78 _ (Kd.F_mono (ok := (fun k_ => (P_ k_ ∨ w.heap.size ≤ k_) ∧ k_ ≠ g1)) HF75.out (fun k_ hk_ => ⟨hk_.1, hk_.2⟩)) HL76.out At79.out).mono ?_); rintro e w80 ⟨rfl, hb⟩; refine ⟨_, rfl, ?_⟩); refine stop_ ?_)
      refine Stop.go ?_
      replace HF0_4 := Aside0.mk (Kd.F_below HF0_4.out hb)
      replace HF75 := Aside0.mk (Kd.F_below HF75.out hb)
      replace BKg1 := Aside0.mk (blk_below (o := .cells #[.int .i64 a0_0, .bool a0_1, .int .i64 a0_2, .string a0_3, .slice A0_4 l0_4.length c0_4] 26 (0, 0)) BKg1.out hb)
      replace HB := Aside0.mk (below_step HB.out hb)
      clear hb
      clear hz63 hz64 hz65 hz66 hz67 hf68 hf69 hf70 hf71 hf72
      obtain ⟨hz81, hz82, hz83, hz84, hz85, hf86, hf87, hf88, hf89, hf90⟩ := MB.lay5 BKg1.out
      by_cases c91 : t78 = 0
      · have H := HH.out
        rw [if_pos c91] at H
        replace HH := Aside0.mk H
        clear H
        have hk92 : (t78 == 0) = true := beq_iff_eq.mpr c91
        have hk93 : (t78 != 0) = false := bne_eq_false_iff_eq.mpr c91
        clear c91
        by_cases c94 : a1.size + t77.size ≤ 9223372036854775807
        · have H := HH.out
          rw [if_pos c94] at H
          replace HH := Aside0.mk H
          clear H
          have hk95 : (9223372036854775807 < a1.size + t77.size) = False := eq_false (Nat.not_lt.2 c94)
          have hk96 : (a1.size + t77.size ≤ 9223372036854775807) = True := eq_true c94
          have hk97 : decide (a1.size + t77.size ≤ 9223372036854775807) = true := decide_eq_true c94
          clear c94
          by_cases c98 : (a1 ++ t77).size + a2.size ≤ 9223372036854775807
          · have H := HH.out
            rw [if_pos c98] at H
            replace HH := Aside0.mk H
            clear H
            have hk99 : (9223372036854775807 < (a1 ++ t77).size + a2.size) = False := eq_false (Nat.not_lt.2 c98)
            have hk100 : ((a1 ++ t77).size + a2.size ≤ 9223372036854775807) = True := eq_true c98
            have hk101 : decide ((a1 ++ t77).size + a2.size ≤ 9223372036854775807) = true := decide_eq_true c98
            try have hk102 : (9223372036854775807 < (a1.size + t77.size) + a2.size) = False := eq_false (Nat.not_lt.2 (show (a1.size + t77.size) + a2.size ≤ 9223372036854775807 from by have h_ := c98; simp only [ByteArray.size_append] at h_; exact h_))
            try have hk103 : ((a1.size + t77.size) + a2.size ≤ 9223372036854775807) = True := eq_true (show (a1.size + t77.size) + a2.size ≤ 9223372036854775807 from by have h_ := c98; simp only [ByteArray.size_append] at h_; exact h_)
            try have hk104 : decide ((a1.size + t77.size) + a2.size ≤ 9223372036854775807) = true := decide_eq_true (show (a1.size + t77.size) + a2.size ≤ 9223372036854775807 from by have h_ := c98; simp only [ByteArray.size_append] at h_; exact h_)
            clear c98
            have H := HH.out
            replace H := Option.bind_eq_some_iff.mp H
            obtain ⟨⟨t105, t106, t107, t108, t109, t110, t111⟩, at_, H⟩ := H
            have At112 := Aside0.mk at_
            clear at_
            replace HH := Aside0.mk (show (if t111 = 0 then (if t110 = (wrap64 ((a1.size : Int) + (t77.size : Int))) then ((toponymref15_Same.f k t105 t106 t107 t108 t109 a0_0 a0_1 a0_2 a0_3 l0_4).bind fun t180 => (if t180 = true then (if (t77.size : Int) ≤ 4000 then ((toponymlaw15_awake.f k ).bind fun t207 => (some t207)) else (some false)) else (some false))) else (some false)) else (some false)) = some r from H)
            clear H
            go_wp2_with (((with_reducible refine gate_callee (f := 15) rfl ?_); (try (refine gate_guard (by rfl) ?_; dsimp only)); refine goesL_ (some 51) rfl rfl Try.func15 (by kernel_rfl) rfl #[.string ((a1 ++ t77) ++ a2), .int .i64 (a1.size : Int)] rfl (by (try simp only [List.map_toArray, List.map_cons, List.map_nil]); first | done | rfl | (simp only [List.length_drop, List.length_take]; rfl)) ?_; (with_reducible refine (ber_Decode.calls k  ((a1 ++ t77) ++ a2) (a1.size : Int) t105 t106 t107 t108 t109 t110 t111 _  At112.out).mono ?_); rintro e w113 ⟨v114, rfl, hn114, hb⟩; refine ⟨_, rfl, ?_⟩); refine stop_ ?_)
            refine Stop.go ?_
            have hba := Kd.N_base hn114
            have HN114 := Aside0.mk (Kd.N_mono (Kd.N_lower hn114 (below_size HB.out)) (fun k_ h_ => ⟨.inr (Nat.le_trans (below_size HB.out) h_), Kd.freshB (o := .cells #[.int .i64 a0_0, .bool a0_1, .int .i64 a0_2, .string a0_3, .slice A0_4 l0_4.length c0_4] 26 (0, 0)) BKg1.out k_ h_⟩) : Kd.N k26 26 w113 w.heap.size (fun k_ => (P_ k_ ∨ w.heap.size ≤ k_) ∧ k_ ≠ g1) v114 t109)
            replace HF0_4 := Aside0.mk (Kd.F_mono (Kd.F_elder' (ok := (fun k_ => (P_ k_ ∨ w.heap.size ≤ k_) ∧ k_ ≠ g1)) HF0_4.out hba hb) (fun k_ hk_ => ⟨hk_.1.1, hk_.1.2, hk_.2⟩) : Kd.F k26 _ (fun k_ => (P_ k_ ∨ w.heap.size ≤ k_) ∧ k_ ≠ g1 ∧ some k_ ≠ (v114 : Value).ownBlock) _ _ _)
            replace HF75 := Aside0.mk (Kd.F_mono (Kd.F_elder' (ok := (fun k_ => (P_ k_ ∨ w.heap.size ≤ k_) ∧ k_ ≠ g1)) HF75.out hba hb) (fun k_ hk_ => ⟨hk_.1.1, hk_.1.2, hk_.2⟩) : Kd.F k26 _ (fun k_ => (P_ k_ ∨ w.heap.size ≤ k_) ∧ k_ ≠ g1 ∧ some k_ ≠ (v114 : Value).ownBlock) _ _ _)
            replace BKg1 := Aside0.mk (blk_below (o := .cells #[.int .i64 a0_0, .bool a0_1, .int .i64 a0_2, .string a0_3, .slice A0_4 l0_4.length c0_4] 26 (0, 0)) BKg1.out hb)
            replace HB := Aside0.mk (below_step HB.out hb)
            clear hn114 hba hb
            clear hz81 hz82 hz83 hz84 hz85 hf86 hf87 hf88 hf89 hf90
            obtain ⟨hz115, hz116, hz117, hz118, hz119, hf120, hf121, hf122, hf123, hf124⟩ := MB.lay5 BKg1.out
            go_wp2_with (((with_reducible refine gate_dst (N := 9) rfl ?_); (try (refine gate_guard (by rfl) ?_; dsimp only)); refine box_event ?hg (N := 9) ?hd (cs := #[.int .i64 0, .bool false, .int .i64 0, .string (⟨#[]⟩ : ByteArray), .slice none 0 0]) (t := 26) ?hr ?_; (case hd => rfl); (case hg => rfl); (case hr => first | (go_simp; done) | (go_simp; rfl)); intro g125 hg w126 hbox hb); replace hg := Aside0.mk hg; replace hbox := Aside0.mk hbox; refine stop_ ?_)
            refine Stop.go ?_
            replace hg := hg.out
            replace hbox := hbox.out
            have GEg125 := Aside0.mk (by rw [hg]; exact (below_size HB.out) : w.heap.size ≤ g125)
            replace HF0_4 := Aside0.mk (Kd.F_elderB HF0_4.out g125 (Nat.le_of_eq hg.symm))
            replace HF0_4 := Aside0.mk (Kd.F_mono HF0_4.out (fun k_ hk_ => ⟨hk_.1.1, hk_.1.2.1, hk_.1.2.2, hk_.2⟩) : Kd.F k26 _ (fun k_ => (P_ k_ ∨ w.heap.size ≤ k_) ∧ k_ ≠ g1 ∧ some k_ ≠ (v114 : Value).ownBlock ∧ k_ ≠ g125) _ _ _)
            replace HF75 := Aside0.mk (Kd.F_elderB HF75.out g125 (Nat.le_of_eq hg.symm))
            replace HF75 := Aside0.mk (Kd.F_mono HF75.out (fun k_ hk_ => ⟨hk_.1.1, hk_.1.2.1, hk_.1.2.2, hk_.2⟩) : Kd.F k26 _ (fun k_ => (P_ k_ ∨ w.heap.size ≤ k_) ∧ k_ ≠ g1 ∧ some k_ ≠ (v114 : Value).ownBlock ∧ k_ ≠ g125) _ _ _)
            replace HN114 := Aside0.mk (Kd.N_elderB HN114.out g125 (Nat.le_of_eq hg.symm))
            replace HN114 := Aside0.mk (Kd.N_mono HN114.out (fun k_ hk_ => ⟨hk_.1.1, hk_.1.2, hk_.2⟩) : Kd.N k26 _ _ _ (fun k_ => (P_ k_ ∨ w.heap.size ≤ k_) ∧ k_ ≠ g1 ∧ k_ ≠ g125) _ _)
            have NEg1_g125 := Aside0.mk (by rw [hg]; exact Nat.ne_of_lt (blk_lt (o := .cells #[.int .i64 a0_0, .bool a0_1, .int .i64 a0_2, .string a0_3, .slice A0_4 l0_4.length c0_4] 26 (0, 0)) BKg1.out) : g1 ≠ g125)
            have NEg125_g1 := Aside0.mk (Ne.symm NEg1_g125.out)
            replace HF0_4 := Aside0.mk (Kd.F_below HF0_4.out hb)
            replace HF75 := Aside0.mk (Kd.F_below HF75.out hb)
            replace HN114 := Aside0.mk (Kd.N_below HN114.out hb)
            replace BKg1 := Aside0.mk (blk_below (o := .cells #[.int .i64 a0_0, .bool a0_1, .int .i64 a0_2, .string a0_3, .slice A0_4 l0_4.length c0_4] 26 (0, 0)) BKg1.out hb)
            replace HB := Aside0.mk (below_step HB.out hb)
            have BKg125 := Aside0.mk hbox
            clear hg hbox hb
            clear hz115 hz116 hz117 hz118 hz119 hf120 hf121 hf122 hf123 hf124
            obtain ⟨hz127, hz128, hz129, hz130, hz131, hf132, hf133, hf134, hf135, hf136⟩ := MB.lay5 BKg1.out
            obtain ⟨hz137, hz138, hz139, hz140, hz141, hf142, hf143, hf144, hf145, hf146⟩ := MB.lay5 BKg125.out
            obtain ⟨A148, cp149, he_⟩ := Kd.N_slice HN114.out
            subst he_
            go_wp2_with (((with_reducible refine gate_store (t := 26) (p := 9) rfl ?_); (try (refine gate_guard (by rfl) ?_; dsimp only)); refine MW.ev_store #[.int .i64 t105, .bool t106, .int .i64 t107, .string t108, (.slice A148 t109.length cp149)] rfl rfl rfl rfl (cs := #[.int .i64 0, .bool false, .int .i64 0, .string (⟨#[]⟩ : ByteArray), .slice none 0 0]) (ty := 26) BKg125.out [.int .i64 t105, .bool t106, .int .i64 t107, .string t108, (.slice A148 t109.length cp149)] rfl (by kernel_rfl) (by simp) (by simp [Value.oneCell']) rfl ?_; intro w147 hbk hg); replace hbk := Aside0.mk hbk; refine stop_ ?_)
            refine Stop.go ?_
            replace hbk := hbk.out
            replace HF0_4 := Aside0.mk (Kd.F_grown (ok := (fun k_ => (P_ k_ ∨ w.heap.size ≤ k_) ∧ k_ ≠ g1 ∧ some k_ ≠ ((.slice A148 t109.length cp149) : Value).ownBlock ∧ k_ ≠ g125)) HF0_4.out hg (fun k_ hk_ he_ => hk_.2.2.2 (Option.some.inj he_)))
            replace HF75 := Aside0.mk (Kd.F_grown (ok := (fun k_ => (P_ k_ ∨ w.heap.size ≤ k_) ∧ k_ ≠ g1 ∧ some k_ ≠ ((.slice A148 t109.length cp149) : Value).ownBlock ∧ k_ ≠ g125)) HF75.out hg (fun k_ hk_ he_ => hk_.2.2.2 (Option.some.inj he_)))
            replace HN114 := Aside0.mk (Kd.N_grown (ok := (fun k_ => (P_ k_ ∨ w.heap.size ≤ k_) ∧ k_ ≠ g1 ∧ k_ ≠ g125)) HN114.out hg (fun k_ hk_ he_ => hk_.2.2 (Option.some.inj he_)))
            replace BKg1 := Aside0.mk (blk_grown (o := .cells #[.int .i64 a0_0, .bool a0_1, .int .i64 a0_2, .string a0_3, .slice A0_4 l0_4.length c0_4] 26 (0, 0)) BKg1.out hg (fun he_ => NEg1_g125.out (Option.some.inj he_)))
            replace HB := Aside0.mk (Below.grown HB.out hg (below_size HB.out) (fun k_ hk_ => by injection hk_ with hk_; rw [← hk_]; exact GEg125.out))
            replace BKg125 := Aside0.mk hbk
            clear hg hbk
            clear hz127 hz128 hz129 hz130 hz131 hf132 hf133 hf134 hf135 hf136 hz137 hz138 hz139 hz140 hz141 hf142 hf143 hf144 hf145 hf146
            obtain ⟨hz150, hz151, hz152, hz153, hz154, hf155, hf156, hf157, hf158, hf159⟩ := MB.lay5 BKg1.out
            obtain ⟨hz160, hz161, hz162, hz163, hz164, hf165, hf166, hf167, hf168, hf169⟩ := MB.lay5 BKg125.out
            by_cases c170 : t111 = 0
            · have H := HH.out
              rw [if_pos c170] at H
              replace HH := Aside0.mk H
              clear H
              have hk171 : (t111 == 0) = true := beq_iff_eq.mpr c170
              have hk172 : (t111 != 0) = false := bne_eq_false_iff_eq.mpr c170
              clear c170
              by_cases c173 : t110 = (wrap64 ((a1.size : Int) + (t77.size : Int)))
              · have H := HH.out
                rw [if_pos c173] at H
                replace HH := Aside0.mk H
                clear H
                have hk174 : (t110 == (wrap64 ((a1.size : Int) + (t77.size : Int)))) = true := beq_iff_eq.mpr c173
                have hk175 : (t110 != (wrap64 ((a1.size : Int) + (t77.size : Int)))) = false := bne_eq_false_iff_eq.mpr c173
                clear c173
                have HL179 := Aside0.mk (Kd.N_reads' HN114.out).2.1
                have HF178 := Aside0.mk (Kd.N_F HN114.out)
                clear HN114
                replace HF0_4 := Aside0.mk (Kd.F_mono (ok := (fun k_ => (P_ k_ ∨ w.heap.size ≤ k_) ∧ k_ ≠ g1 ∧ some k_ ≠ ((.slice A148 t109.length cp149) : Value).ownBlock ∧ k_ ≠ g125)) HF0_4.out (fun k_ hk_ => ⟨hk_.1, hk_.2.1, hk_.2.2.2⟩) : Kd.F k26 _ (fun k_ => (P_ k_ ∨ w.heap.size ≤ k_) ∧ k_ ≠ g1 ∧ k_ ≠ g125) _ _ _)
                replace HF75 := Aside0.mk (Kd.F_mono (ok := (fun k_ => (P_ k_ ∨ w.heap.size ≤ k_) ∧ k_ ≠ g1 ∧ some k_ ≠ ((.slice A148 t109.length cp149) : Value).ownBlock ∧ k_ ≠ g125)) HF75.out (fun k_ hk_ => ⟨hk_.1, hk_.2.1, hk_.2.2.2⟩) : Kd.F k26 _ (fun k_ => (P_ k_ ∨ w.heap.size ≤ k_) ∧ k_ ≠ g1 ∧ k_ ≠ g125) _ _ _)
                have H := HH.out
                replace H := Option.bind_eq_some_iff.mp H
                obtain ⟨t180, at_, H⟩ := H
                have At181 := Aside0.mk at_
                clear at_
                replace HH := Aside0.mk (show (if t180 = true then (if (t77.size : Int) ≤ 4000 then ((toponymlaw15_awake.f k ).bind fun t207 => (some t207)) else (some false)) else (some false)) = some r from H)
                clear H
                go_wp2_with (((with_reducible refine gate_callee (f := 16) rfl ?_); (try (refine gate_guard (by rfl) ?_; dsimp only)); refine goesL_ (some 69) rfl rfl Try.func16 (by kernel_rfl) rfl #[.agg #[.int .i64 t105, .bool t106, .int .i64 t107, .string t108, .slice A148 t109.length cp149], .agg #[.int .i64 a0_0, .bool a0_1, .int .i64 a0_2, .string a0_3, .slice A0_4 l0_4.length c0_4]] rfl (by (try simp only [List.map_toArray, List.map_cons, List.map_nil]); first | done | rfl | (simp only [List.length_drop, List.length_take]; rfl)) ?_; (with_reducible refine (toponymref15_Same.calls k (fun k_ => (P_ k_ ∨ w.heap.size ≤ k_) ∧ k_ ≠ g1 ∧ k_ ≠ g125) t105 t106 t107 t108 _ _ t109 a0_0 a0_1 a0_2 a0_3 _ _ l0_4 t180 _ (Kd.F_mono (ok := (fun k_ => (P_ k_ ∨ w.heap.size ≤ k_) ∧ k_ ≠ g1 ∧ k_ ≠ g125)) HF178.out (fun k_ hk_ => ⟨hk_.1, hk_.2.1, hk_.2.2⟩)) HL179.out (Kd.F_mono (ok := (fun k_ => (P_ k_ ∨ w.heap.size ≤ k_) ∧ k_ ≠ g1 ∧ k_ ≠ g125)) HF0_4.out (fun k_ hk_ => ⟨hk_.1, hk_.2.1, hk_.2.2⟩)) HL0_4.out At181.out).mono ?_); rintro e w182 ⟨rfl, hb⟩; refine ⟨_, rfl, ?_⟩); refine stop_ ?_)
                refine Stop.go ?_
                replace HF0_4 := Aside0.mk (Kd.F_below HF0_4.out hb)
                replace HF75 := Aside0.mk (Kd.F_below HF75.out hb)
                replace HF178 := Aside0.mk (Kd.F_below HF178.out hb)
                replace BKg1 := Aside0.mk (blk_below (o := .cells #[.int .i64 a0_0, .bool a0_1, .int .i64 a0_2, .string a0_3, .slice A0_4 l0_4.length c0_4] 26 (0, 0)) BKg1.out hb)
                replace BKg125 := Aside0.mk (blk_below (o := .cells #[.int .i64 t105, .bool t106, .int .i64 t107, .string t108, .slice A148 t109.length cp149] 26 (0, 0)) BKg125.out hb)
                replace HB := Aside0.mk (below_step HB.out hb)
                clear hb
                clear hz150 hz151 hz152 hz153 hz154 hf155 hf156 hf157 hf158 hf159 hz160 hz161 hz162 hz163 hz164 hf165 hf166 hf167 hf168 hf169
                obtain ⟨hz183, hz184, hz185, hz186, hz187, hf188, hf189, hf190, hf191, hf192⟩ := MB.lay5 BKg1.out
                obtain ⟨hz193, hz194, hz195, hz196, hz197, hf198, hf199, hf200, hf201, hf202⟩ := MB.lay5 BKg125.out
                by_cases c203 : t180 = true
                · have H := HH.out
                  rw [if_pos c203] at H
                  replace HH := Aside0.mk H
                  clear H
                  subst c203
                  by_cases c204 : (t77.size : Int) ≤ 4000
                  · have H := HH.out
                    rw [if_pos c204] at H
                    replace HH := Aside0.mk H
                    clear H
                    have hk205 : decide ((t77.size : Int) ≤ 4000) = true := decide_eq_true c204
                    have hk206 : decide (t77.size ≤ 4000) = true := decide_eq_true (by omega)
                    clear c204
                    have H := HH.out
                    replace H := Option.bind_eq_some_iff.mp H
                    obtain ⟨t207, at_, H⟩ := H
                    have At208 := Aside0.mk at_
                    clear at_
                    replace HH := Aside0.mk (show (some t207) = some r from H)
                    clear H
                    go_wp2_with (((with_reducible refine gate_callee (f := 7) rfl ?_); (try (refine gate_guard (by rfl) ?_; dsimp only)); refine goesL_ (some 77) rfl rfl Try.func7 (by kernel_rfl) rfl #[] rfl (by (try simp only [List.map_toArray, List.map_cons, List.map_nil]); first | done | rfl | (simp only [List.length_drop, List.length_take]; rfl)) ?_; (with_reducible refine (toponymlaw15_awake.calls k  t207 _  At208.out).mono ?_); rintro e w209 ⟨rfl, hb⟩; refine ⟨_, rfl, ?_⟩); refine stop_ ?_)
                    refine Stop.go ?_
                    replace HF0_4 := Aside0.mk (Kd.F_below HF0_4.out hb)
                    replace HF75 := Aside0.mk (Kd.F_below HF75.out hb)
                    replace HF178 := Aside0.mk (Kd.F_below HF178.out hb)
                    replace BKg1 := Aside0.mk (blk_below (o := .cells #[.int .i64 a0_0, .bool a0_1, .int .i64 a0_2, .string a0_3, .slice A0_4 l0_4.length c0_4] 26 (0, 0)) BKg1.out hb)
                    replace BKg125 := Aside0.mk (blk_below (o := .cells #[.int .i64 t105, .bool t106, .int .i64 t107, .string t108, .slice A148 t109.length cp149] 26 (0, 0)) BKg125.out hb)
                    replace HB := Aside0.mk (below_step HB.out hb)
                    clear hb
                    clear hz183 hz184 hz185 hz186 hz187 hf188 hf189 hf190 hf191 hf192 hz193 hz194 hz195 hz196 hz197 hf198 hf199 hf200 hf201 hf202
                    obtain ⟨hz210, hz211, hz212, hz213, hz214, hf215, hf216, hf217, hf218, hf219⟩ := MB.lay5 BKg1.out
                    obtain ⟨hz220, hz221, hz222, hz223, hz224, hf225, hf226, hf227, hf228, hf229⟩ := MB.lay5 BKg125.out
                    have H := HH.out
                    obtain rfl := Option.some.inj H
                    clear HH
                    go_wp2
                    go_ret
                    exact ⟨by first | rfl | (simp; done) | (simp [*]; done), HB.out⟩
                  · have H := HH.out
                    rw [if_neg c204] at H
                    replace HH := Aside0.mk H
                    clear H
                    have hk230 : decide ((t77.size : Int) ≤ 4000) = false := decide_eq_false c204
                    have hk231 : decide (t77.size ≤ 4000) = false := decide_eq_false (by omega)
                    clear c204
                    have H := HH.out
                    obtain rfl := Option.some.inj H
                    clear HH
                    go_wp2
                    go_ret
                    exact ⟨by first | rfl | (simp; done) | (simp [*]; done), HB.out⟩
                · have H := HH.out
                  rw [if_neg c203] at H
                  replace HH := Aside0.mk H
                  clear H
                  replace c203 := Bool.eq_false_iff.mpr c203
                  subst c203
                  have H := HH.out
                  obtain rfl := Option.some.inj H
                  clear HH
                  go_wp2
                  go_ret
                  exact ⟨by first | rfl | (simp; done) | (simp [*]; done), HB.out⟩
              · have H := HH.out
                rw [if_neg c173] at H
                replace HH := Aside0.mk H
                clear H
                have hk232 : (t110 == (wrap64 ((a1.size : Int) + (t77.size : Int)))) = false := beq_eq_false_iff_ne.mpr c173
                have hk233 : (t110 != (wrap64 ((a1.size : Int) + (t77.size : Int)))) = true := bne_iff_ne.mpr c173
                clear c173
                have H := HH.out
                obtain rfl := Option.some.inj H
                clear HH
                go_wp2
                go_ret
                exact ⟨by first | rfl | (simp; done) | (simp [*]; done), HB.out⟩
            · have H := HH.out
              rw [if_neg c170] at H
              replace HH := Aside0.mk H
              clear H
              have hk234 : (t111 == 0) = false := beq_eq_false_iff_ne.mpr c170
              have hk235 : (t111 != 0) = true := bne_iff_ne.mpr c170
              clear c170
              have H := HH.out
              obtain rfl := Option.some.inj H
              clear HH
              go_wp2
              go_ret
              exact ⟨by first | rfl | (simp; done) | (simp [*]; done), HB.out⟩
          · exact absurd HH.out (by rw [if_neg c98]; simp)
        · exact absurd HH.out (by rw [if_neg c94]; simp)
      · have H := HH.out
        rw [if_neg c91] at H
        replace HH := Aside0.mk H
        clear H
        have hk238 : (t78 == 0) = false := beq_eq_false_iff_ne.mpr c91
        have hk239 : (t78 != 0) = true := bne_iff_ne.mpr c91
        clear c91
        by_cases c240 : t77.toList = ([] : List UInt8)
        · have H := HH.out
          rw [if_pos c240] at H
          replace HH := Aside0.mk H
          clear H
          have hk241 : (t77.toList == ([] : List UInt8)) = true := beq_iff_eq.mpr c240
          have hk242 : (t77.toList != ([] : List UInt8)) = false := bne_eq_false_iff_eq.mpr c240
          clear c240
          have H := HH.out
          replace H := Option.bind_eq_some_iff.mp H
          obtain ⟨t243, at_, H⟩ := H
          have At244 := Aside0.mk at_
          clear at_
          replace HH := Aside0.mk (show (if t243 = t78 then ((toponymlaw15_awake.f k ).bind fun t259 => (some t259)) else (some false)) = some r from H)
          clear H
          go_wp2_with (((with_reducible refine gate_callee (f := 9) rfl ?_); (try (refine gate_guard (by rfl) ?_; dsimp only)); refine goesL_ (some 36) rfl rfl Try.func9 (by kernel_rfl) rfl #[.agg #[.int .i64 a0_0, .bool a0_1, .int .i64 a0_2, .string a0_3, .slice A0_4 l0_4.length c0_4]] rfl (by (try simp only [List.map_toArray, List.map_cons, List.map_nil]); first | done | rfl | (simp only [List.length_drop, List.length_take]; rfl)) ?_; (with_reducible refine (ber_Check.calls k (fun k_ => (P_ k_ ∨ w.heap.size ≤ k_) ∧ k_ ≠ g1) a0_0 a0_1 a0_2 a0_3 _ _ l0_4 t243 _ (Kd.F_mono (ok := (fun k_ => (P_ k_ ∨ w.heap.size ≤ k_) ∧ k_ ≠ g1)) HF0_4.out (fun k_ hk_ => ⟨hk_.1, hk_.2⟩)) HL0_4.out At244.out).mono ?_); rintro e w245 ⟨rfl, hb⟩; refine ⟨_, rfl, ?_⟩); refine stop_ ?_)
          refine Stop.go ?_
          replace HF0_4 := Aside0.mk (Kd.F_below HF0_4.out hb)
          replace HF75 := Aside0.mk (Kd.F_below HF75.out hb)
          replace BKg1 := Aside0.mk (blk_below (o := .cells #[.int .i64 a0_0, .bool a0_1, .int .i64 a0_2, .string a0_3, .slice A0_4 l0_4.length c0_4] 26 (0, 0)) BKg1.out hb)
          replace HB := Aside0.mk (below_step HB.out hb)
          clear hb
          clear hz81 hz82 hz83 hz84 hz85 hf86 hf87 hf88 hf89 hf90
          obtain ⟨hz246, hz247, hz248, hz249, hz250, hf251, hf252, hf253, hf254, hf255⟩ := MB.lay5 BKg1.out
          by_cases c256 : t243 = t78
          · have H := HH.out
            rw [if_pos c256] at H
            replace HH := Aside0.mk H
            clear H
            have hk257 : (t243 == t78) = true := beq_iff_eq.mpr c256
            have hk258 : (t243 != t78) = false := bne_eq_false_iff_eq.mpr c256
            clear c256
            have H := HH.out
            replace H := Option.bind_eq_some_iff.mp H
            obtain ⟨t259, at_, H⟩ := H
            have At260 := Aside0.mk at_
            clear at_
            replace HH := Aside0.mk (show (some t259) = some r from H)
            clear H
            go_wp2_with (((with_reducible refine gate_callee (f := 7) rfl ?_); (try (refine gate_guard (by rfl) ?_; dsimp only)); refine goesL_ (some 41) rfl rfl Try.func7 (by kernel_rfl) rfl #[] rfl (by (try simp only [List.map_toArray, List.map_cons, List.map_nil]); first | done | rfl | (simp only [List.length_drop, List.length_take]; rfl)) ?_; (with_reducible refine (toponymlaw15_awake.calls k  t259 _  At260.out).mono ?_); rintro e w261 ⟨rfl, hb⟩; refine ⟨_, rfl, ?_⟩); refine stop_ ?_)
            refine Stop.go ?_
            replace HF0_4 := Aside0.mk (Kd.F_below HF0_4.out hb)
            replace HF75 := Aside0.mk (Kd.F_below HF75.out hb)
            replace BKg1 := Aside0.mk (blk_below (o := .cells #[.int .i64 a0_0, .bool a0_1, .int .i64 a0_2, .string a0_3, .slice A0_4 l0_4.length c0_4] 26 (0, 0)) BKg1.out hb)
            replace HB := Aside0.mk (below_step HB.out hb)
            clear hb
            clear hz246 hz247 hz248 hz249 hz250 hf251 hf252 hf253 hf254 hf255
            obtain ⟨hz262, hz263, hz264, hz265, hz266, hf267, hf268, hf269, hf270, hf271⟩ := MB.lay5 BKg1.out
            have H := HH.out
            obtain rfl := Option.some.inj H
            clear HH
            go_wp2
            go_ret
            exact ⟨by first | rfl | (simp; done) | (simp [*]; done), HB.out⟩
          · have H := HH.out
            rw [if_neg c256] at H
            replace HH := Aside0.mk H
            clear H
            have hk272 : (t243 == t78) = false := beq_eq_false_iff_ne.mpr c256
            have hk273 : (t243 != t78) = true := bne_iff_ne.mpr c256
            clear c256
            have H := HH.out
            obtain rfl := Option.some.inj H
            clear HH
            go_wp2
            go_ret
            exact ⟨by first | rfl | (simp; done) | (simp [*]; done), HB.out⟩
        · have H := HH.out
          rw [if_neg c240] at H
          replace HH := Aside0.mk H
          clear H
          have hk274 : (t77.toList == ([] : List UInt8)) = false := beq_eq_false_iff_ne.mpr c240
          have hk275 : (t77.toList != ([] : List UInt8)) = true := bne_iff_ne.mpr c240
          clear c240
          have H := HH.out
          obtain rfl := Option.some.inj H
          clear HH
          go_wp2
          go_ret
          exact ⟨by first | rfl | (simp; done) | (simp [*]; done), HB.out⟩

end Go.Proofs.Ythfonbnbffloaaa.GA
