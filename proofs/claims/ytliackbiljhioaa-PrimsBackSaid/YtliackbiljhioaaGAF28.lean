-- written by wip/gen.py, a program of this session
import Derived.Test.YtliackbiljhioaaGA0
import Derived.Test.YtliackbiljhioaaGAF43
namespace Go.Proofs.Ytliackbiljhioaa.GA
open Go.RowKit Go.Proofs.Ytliackbiljhioaa Go.Proofs.Ytliackbiljhioaa.MW Go.Proofs.YtliackbiljhioaaW.PrintWords Go.Proofs.YtliackbiljhioaaW.PrintLast Go.Proofs.YtliackbiljhioaaW.PrintMore
attribute [local go_sem] max2_int min2_int max_two min_two
set_option linter.unusedVariables false
set_option linter.unusedSimpArgs false


/-! ### ber_Decode: function 28 -/
def ber_Decode.f (k : Nat) (a0 : ByteArray) (a1 : Int) : Option (Int × Bool × Int × ByteArray × (List (S28)) × Int × Int) := if a1 < 0 then (some (0, false, 0, (⟨#[]⟩ : ByteArray), ([] : List (S28)), 0, 2)) else (if a1 > (a0.size : Int) then (some (0, false, 0, (⟨#[]⟩ : ByteArray), ([] : List (S28)), 0, 2)) else ((ber_take.f k a0 a1 12).bind fun bt43 => (some (bt43.1, bt43.2.1, bt43.2.2.1, bt43.2.2.2.1, bt43.2.2.2.2.1, bt43.2.2.2.2.2.1, bt43.2.2.2.2.2.2))))
theorem ber_Decode.mono : ∀ a0_ a1_ k, LeO (ber_Decode.f k a0_ a1_) (ber_Decode.f (k + 1) a0_ a1_) := by
  intro a0_ a1_ k
  unfold ber_Decode.f
  repeat' first
      | (with_reducible exact ber_take.mono _ _ _ _)
      | (with_reducible exact LeO.refl _)
      | (with_reducible exact LeO.none _)
      | (with_reducible refine LeO.ite ?_ ?_)
      | (with_reducible refine LeO.bind ?_ (fun _ => ?_))
      | exact ber_take.mono _ _ _ _
      | exact LeO.none _
      | refine LeO.ite ?_ ?_
      | refine LeO.bind ?_ (fun _ => ?_)
set_option maxHeartbeats 8000000 in
set_option maxRecDepth 100000 in
theorem ber_Decode.calls (k : Nat) (a0 : ByteArray) (a1 : Int) (r1 : Int) (r2 : Bool) (r3 : Int) (r4 : ByteArray) (r5 : List (S28)) (r6 : Int) (r7 : Int) (w : World) (h : ber_Decode.f k a0 a1 = some (r1, r2, r3, r4, r5, r6, r7)) :
    Calls Try.prog 28 #[.string a0, .int .i64 a1] w (fun e w' => ∃ v4_ : Value, e = .returned (.tuple #[.agg #[.int .i64 r1, .bool r2, .int .i64 r3, .string r4, v4_], .int .i64 r6, .int .i64 r7]) ∧ Kd.N k28 28 w' w.heap.size (fun k_ => w.heap.size ≤ k_) v4_ r5 ∧ Below w.heap.size w w') := by
  have HH := Aside0.mk (show (if a1 < 0 then (some (0, false, 0, (⟨#[]⟩ : ByteArray), ([] : List (S28)), 0, 2)) else (if a1 > (a0.size : Int) then (some (0, false, 0, (⟨#[]⟩ : ByteArray), ([] : List (S28)), 0, 2)) else ((ber_take.f k a0 a1 12).bind fun bt43 => (some (bt43.1, bt43.2.1, bt43.2.2.1, bt43.2.2.2.1, bt43.2.2.2.2.1, bt43.2.2.2.2.2.1, bt43.2.2.2.2.2.2))))) = some (r1, r2, r3, r4, r5, r6, r7) from h)
  clear h
  have HB := Aside0.mk (Below.refl w.heap.size w)
  have hu28 := Try.underlying28
  go_enter Try.func28, Try.ntmps28
  go_wp2_with (((with_reducible refine gate_dst (N := 4) rfl ?_); (try (refine gate_guard (by rfl) ?_; dsimp only)); refine box_event ?hg (N := 4) ?hd (cs := #[.int .i64 0, .bool false, .int .i64 0, .string (⟨#[]⟩ : ByteArray), .slice none 0 0]) (t := 28) ?hr ?_; (case hd => rfl); (case hg => rfl); (case hr => first | (go_simp; done) | (go_simp; rfl)); intro g1 hg w2 hbox hb); replace hg := Aside0.mk hg; replace hbox := Aside0.mk hbox; refine stop_ ?_)
  refine Stop.go ?_
  replace hg := hg.out
  replace hbox := hbox.out
  have GEg1 := Aside0.mk (by rw [hg]; exact (below_size HB.out) : w.heap.size ≤ g1)
  replace HB := Aside0.mk (below_step HB.out hb)
  have BKg1 := Aside0.mk hbox
  clear hg hbox hb
  obtain ⟨hz3, hz4, hz5, hz6, hz7, hf8, hf9, hf10, hf11, hf12⟩ := MB.lay5 BKg1.out
  by_cases c13 : a1 < 0
  · have H := HH.out
    rw [if_pos c13] at H
    replace HH := Aside0.mk H
    clear H
    have hk14 : (a1 < 0) = True := eq_true c13
    have hk15 : decide (a1 < 0) = true := decide_eq_true c13
    clear c13
    go_wp2_with (((with_reducible refine gate_store (t := 28) (p := 4) rfl ?_); (try (refine gate_guard (by rfl) ?_; dsimp only)); refine MW.ev_store #[.int .i64 0, .bool false, .int .i64 0, .string (⟨#[]⟩ : ByteArray), .slice none 0 0] rfl rfl rfl rfl (cs := #[.int .i64 0, .bool false, .int .i64 0, .string (⟨#[]⟩ : ByteArray), .slice none 0 0]) (ty := 28) BKg1.out [.int .i64 0, .bool false, .int .i64 0, .string (⟨#[]⟩ : ByteArray), .slice none 0 0] rfl (by kernel_rfl) (by simp) (by simp [Value.oneCell']) rfl ?_; intro w16 hbk hg); replace hbk := Aside0.mk hbk; refine stop_ ?_)
    refine Stop.go ?_
    replace hbk := hbk.out
    replace HB := Aside0.mk (Below.grown HB.out hg (below_size HB.out) (fun k_ hk_ => by injection hk_ with hk_; rw [← hk_]; exact GEg1.out))
    replace BKg1 := Aside0.mk hbk
    clear hg hbk
    clear hz3 hz4 hz5 hz6 hz7 hf8 hf9 hf10 hf11 hf12
    obtain ⟨hz17, hz18, hz19, hz20, hz21, hf22, hf23, hf24, hf25, hf26⟩ := MB.lay5 BKg1.out
    have H := HH.out
    simp only [Option.some.injEq, Prod.mk.injEq] at H
    obtain ⟨rfl, rfl, rfl, rfl, rfl, rfl, rfl⟩ := H
    clear HH
    go_wp2
    refine bodyPost_ret (results_ctt rfl _ _ g1 28 #[.int .i64 0, .bool false, .int .i64 0, .string (⟨#[]⟩ : ByteArray), .slice none 0 0] (0, 0) _ rfl BKg1.out Try.underlying28 rfl (by kernel_rfl)) rfl ?_
    exact ⟨_, by first | rfl | (simp; done) | (simp [*]; done), (Kd.N_nil _ _ _ _ _), HB.out⟩
  · have H := HH.out
    rw [if_neg c13] at H
    replace HH := Aside0.mk H
    clear H
    have hk27 : (a1 < 0) = False := eq_false c13
    have hk28 : decide (a1 < 0) = false := decide_eq_false c13
    clear c13
    by_cases c29 : a1 > (a0.size : Int)
    · have H := HH.out
      rw [if_pos c29] at H
      replace HH := Aside0.mk H
      clear H
      have hk30 : decide ((a0.size : Int) < a1) = true := decide_eq_true c29
      clear c29
      go_wp2_with (((with_reducible refine gate_store (t := 28) (p := 4) rfl ?_); (try (refine gate_guard (by rfl) ?_; dsimp only)); refine MW.ev_store #[.int .i64 0, .bool false, .int .i64 0, .string (⟨#[]⟩ : ByteArray), .slice none 0 0] rfl rfl rfl rfl (cs := #[.int .i64 0, .bool false, .int .i64 0, .string (⟨#[]⟩ : ByteArray), .slice none 0 0]) (ty := 28) BKg1.out [.int .i64 0, .bool false, .int .i64 0, .string (⟨#[]⟩ : ByteArray), .slice none 0 0] rfl (by kernel_rfl) (by simp) (by simp [Value.oneCell']) rfl ?_; intro w31 hbk hg); replace hbk := Aside0.mk hbk; refine stop_ ?_)
      refine Stop.go ?_
      replace hbk := hbk.out
      replace HB := Aside0.mk (Below.grown HB.out hg (below_size HB.out) (fun k_ hk_ => by injection hk_ with hk_; rw [← hk_]; exact GEg1.out))
      replace BKg1 := Aside0.mk hbk
      clear hg hbk
      clear hz3 hz4 hz5 hz6 hz7 hf8 hf9 hf10 hf11 hf12
      obtain ⟨hz32, hz33, hz34, hz35, hz36, hf37, hf38, hf39, hf40, hf41⟩ := MB.lay5 BKg1.out
      have H := HH.out
      simp only [Option.some.injEq, Prod.mk.injEq] at H
      obtain ⟨rfl, rfl, rfl, rfl, rfl, rfl, rfl⟩ := H
      clear HH
      go_wp2
      refine bodyPost_ret (results_ctt rfl _ _ g1 28 #[.int .i64 0, .bool false, .int .i64 0, .string (⟨#[]⟩ : ByteArray), .slice none 0 0] (0, 0) _ rfl BKg1.out Try.underlying28 rfl (by kernel_rfl)) rfl ?_
      exact ⟨_, by first | rfl | (simp; done) | (simp [*]; done), (Kd.N_nil _ _ _ _ _), HB.out⟩
    · have H := HH.out
      rw [if_neg c29] at H
      replace HH := Aside0.mk H
      clear H
      have hk42 : decide ((a0.size : Int) < a1) = false := decide_eq_false c29
      clear c29
      have H := HH.out
      replace H := Option.bind_eq_some_iff.mp H
      obtain ⟨⟨t43, t44, t45, t46, t47, t48, t49⟩, at_, H⟩ := H
      have At50 := Aside0.mk at_
      clear at_
      replace HH := Aside0.mk (show (some (t43, t44, t45, t46, t47, t48, t49)) = some (r1, r2, r3, r4, r5, r6, r7) from H)
      clear H
      go_wp2_with (((with_reducible refine gate_callee (f := 43) rfl ?_); (try (refine gate_guard (by rfl) ?_; dsimp only)); refine goesL_ (some 18) rfl rfl Try.func43 (by kernel_rfl) rfl #[.string a0, .int .i64 a1, .int .i64 12] rfl (by (try simp only [List.map_toArray, List.map_cons, List.map_nil]); first | done | rfl | (simp only [List.length_drop, List.length_take]; rfl)) ?_; (with_reducible refine (ber_take.calls k  a0 a1 12 t43 t44 t45 t46 t47 t48 t49 _  At50.out).mono ?_); rintro e w51 ⟨v52, rfl, hn52, hb⟩; refine ⟨_, rfl, ?_⟩); refine stop_ ?_)
      refine Stop.go ?_
      have hba := Kd.N_base hn52
      have HN52 := Aside0.mk (Kd.N_mono (Kd.N_lower hn52 (below_size HB.out)) (fun k_ h_ => ⟨(Nat.le_trans (below_size HB.out) h_), Kd.freshB (o := .cells #[.int .i64 0, .bool false, .int .i64 0, .string (⟨#[]⟩ : ByteArray), .slice none 0 0] 28 (0, 0)) BKg1.out k_ h_⟩) : Kd.N k28 28 w51 w.heap.size (fun k_ => (w.heap.size ≤ k_) ∧ k_ ≠ g1) v52 t47)
      replace BKg1 := Aside0.mk (blk_below (o := .cells #[.int .i64 0, .bool false, .int .i64 0, .string (⟨#[]⟩ : ByteArray), .slice none 0 0] 28 (0, 0)) BKg1.out hb)
      replace HB := Aside0.mk (below_step HB.out hb)
      clear hn52 hba hb
      clear hz3 hz4 hz5 hz6 hz7 hf8 hf9 hf10 hf11 hf12
      obtain ⟨hz53, hz54, hz55, hz56, hz57, hf58, hf59, hf60, hf61, hf62⟩ := MB.lay5 BKg1.out
      obtain ⟨A64, cp65, he_⟩ := Kd.N_slice HN52.out
      subst he_
      go_wp2_with (((with_reducible refine gate_store (t := 28) (p := 4) rfl ?_); (try (refine gate_guard (by rfl) ?_; dsimp only)); refine MW.ev_store #[.int .i64 t43, .bool t44, .int .i64 t45, .string t46, (.slice A64 t47.length cp65)] rfl rfl rfl rfl (cs := #[.int .i64 0, .bool false, .int .i64 0, .string (⟨#[]⟩ : ByteArray), .slice none 0 0]) (ty := 28) BKg1.out [.int .i64 t43, .bool t44, .int .i64 t45, .string t46, (.slice A64 t47.length cp65)] rfl (by kernel_rfl) (by simp) (by simp [Value.oneCell']) rfl ?_; intro w63 hbk hg); replace hbk := Aside0.mk hbk; refine stop_ ?_)
      refine Stop.go ?_
      replace hbk := hbk.out
      replace HN52 := Aside0.mk (Kd.N_grown (ok := (fun k_ => (w.heap.size ≤ k_) ∧ k_ ≠ g1)) HN52.out hg (fun k_ hk_ he_ => hk_.2 (Option.some.inj he_)))
      replace HB := Aside0.mk (Below.grown HB.out hg (below_size HB.out) (fun k_ hk_ => by injection hk_ with hk_; rw [← hk_]; exact GEg1.out))
      replace BKg1 := Aside0.mk hbk
      clear hg hbk
      clear hz53 hz54 hz55 hz56 hz57 hf58 hf59 hf60 hf61 hf62
      obtain ⟨hz66, hz67, hz68, hz69, hz70, hf71, hf72, hf73, hf74, hf75⟩ := MB.lay5 BKg1.out
      have H := HH.out
      simp only [Option.some.injEq, Prod.mk.injEq] at H
      obtain ⟨rfl, rfl, rfl, rfl, rfl, rfl, rfl⟩ := H
      clear HH
      go_wp2
      refine bodyPost_ret (results_ctt rfl _ _ g1 28 #[.int .i64 t43, .bool t44, .int .i64 t45, .string t46, (.slice A64 t47.length cp65)] (0, 0) _ rfl BKg1.out Try.underlying28 rfl (by kernel_rfl)) rfl ?_
      exact ⟨_, by first | rfl | (simp; done) | (simp [*]; done), (Kd.N_mono (ok := (fun k_ => (w.heap.size ≤ k_) ∧ k_ ≠ g1)) HN52.out (fun k_ hk_ => hk_.1)), HB.out⟩

end Go.Proofs.Ytliackbiljhioaa.GA
