-- written by wip/gen.py, a program of this session
import Derived.Test.YtliackbiljhioaaGA0
import Derived.Test.YtliackbiljhioaaGAB
import Derived.Test.YtliackbiljhioaaMX
import Derived.Test.YtliackbiljhioaaGAF41
namespace Go.Proofs.Ytliackbiljhioaa.GA
open Go.RowKit Go.Proofs.Ytliackbiljhioaa Go.Proofs.Ytliackbiljhioaa.MW Go.Proofs.YtliackbiljhioaaW.PrintWords Go.Proofs.YtliackbiljhioaaW.PrintLast Go.Proofs.YtliackbiljhioaaW.PrintMore
attribute [local go_sem] max2_int min2_int max_two min_two
set_option linter.unusedVariables false
set_option linter.unusedSimpArgs false


/-! ### ber_one: function 47 -/
def ber_one.f (k : Nat) (a0_0 : Int) (a0_1 : Bool) (a0_2 : Int) (a0_3 : ByteArray) (l0_4 : List (S28)) : Option (ByteArray × Bool) := (ber_sheaf_lay.f k ([] : List Int) false a0_0 a0_1 a0_2 a0_3 l0_4).bind fun bt31 => (some (strOfNums bt31.1, !bt31.2))
theorem ber_one.mono : ∀ a0_ a1_ a2_ a3_ a4_ k, LeO (ber_one.f k a0_ a1_ a2_ a3_ a4_) (ber_one.f (k + 1) a0_ a1_ a2_ a3_ a4_) := by
  intro a0_ a1_ a2_ a3_ a4_ k
  unfold ber_one.f
  repeat' first
      | (with_reducible exact ber_sheaf_lay.mono _ _ _ _ _ _ _ _)
      | (with_reducible exact LeO.refl _)
      | (with_reducible exact LeO.none _)
      | (with_reducible refine LeO.ite ?_ ?_)
      | (with_reducible refine LeO.bind ?_ (fun _ => ?_))
      | exact ber_sheaf_lay.mono _ _ _ _ _ _ _ _
      | exact LeO.none _
      | refine LeO.ite ?_ ?_
      | refine LeO.bind ?_ (fun _ => ?_)
set_option maxHeartbeats 8000000 in
set_option maxRecDepth 100000 in
theorem ber_one.calls (k : Nat) (P_ : Nat → Prop) (a0_0 : Int) (a0_1 : Bool) (a0_2 : Int) (a0_3 : ByteArray) (A0_4 : Option Addr) (c0_4 : Nat) (l0_4 : List (S28)) (r1 : ByteArray) (r2 : Bool) (w : World) (hs0_4 : Kd.F k28 w P_ A0_4 l0_4.length l0_4) (hc0_4 : l0_4.length ≤ c0_4) (h : ber_one.f k a0_0 a0_1 a0_2 a0_3 l0_4 = some (r1, r2)) :
    Calls Try.prog 47 #[.agg #[.int .i64 a0_0, .bool a0_1, .int .i64 a0_2, .string a0_3, .slice A0_4 l0_4.length c0_4]] w (fun e w' => e = .returned (.tuple #[.string r1, .bool r2]) ∧ Below w.heap.size w w') := by
  have HH := Aside0.mk (show ((ber_sheaf_lay.f k ([] : List Int) false a0_0 a0_1 a0_2 a0_3 l0_4).bind fun bt31 => (some (strOfNums bt31.1, !bt31.2))) = some (r1, r2) from h)
  clear h
  have HF0_4 := Aside0.mk (Kd.F_mono hs0_4 (fun k_ hk_ => (.inl hk_ : P_ k_ ∨ w.heap.size ≤ k_)))
  have HL0_4 := Aside0.mk hc0_4
  clear hs0_4 hc0_4
  have HB := Aside0.mk (Below.refl w.heap.size w)
  have hu28 := Try.underlying28
  have hu81 := Try.underlying81
  go_enter Try.func47, Try.ntmps47
  go_wp2_with (((with_reducible refine gate_dst (N := 1) rfl ?_); (try (refine gate_guard (by rfl) ?_; dsimp only)); refine box_event ?hg (N := 1) ?hd (cs := #[.int .i64 a0_0, .bool a0_1, .int .i64 a0_2, .string a0_3, .slice A0_4 l0_4.length c0_4]) (t := 28) ?hr ?_; (case hd => rfl); (case hg => rfl); (case hr => first | (go_simp; done) | (go_simp; rfl)); intro g1 hg w2 hbox hb); replace hg := Aside0.mk hg; replace hbox := Aside0.mk hbox; refine stop_ ?_)
  refine Stop.go ?_
  replace hg := hg.out
  replace hbox := hbox.out
  have GEg1 := Aside0.mk (by rw [hg]; exact (below_size HB.out) : w.heap.size ≤ g1)
  replace HF0_4 := Aside0.mk (Kd.F_elderB HF0_4.out g1 (Nat.le_of_eq hg.symm))
  replace HF0_4 := Aside0.mk (Kd.F_mono HF0_4.out (fun k_ hk_ => ⟨hk_.1, hk_.2⟩) : Kd.F k28 _ (fun k_ => (P_ k_ ∨ w.heap.size ≤ k_) ∧ k_ ≠ g1) _ _ _)
  replace HF0_4 := Aside0.mk (Kd.F_below HF0_4.out hb)
  replace HB := Aside0.mk (below_step HB.out hb)
  have BKg1 := Aside0.mk hbox
  clear hg hbox hb
  obtain ⟨hz3, hz4, hz5, hz6, hz7, hf8, hf9, hf10, hf11, hf12⟩ := MB.lay5 BKg1.out
  go_wp2_with (((with_reducible refine gate_dst (N := 4) rfl ?_); (try (refine gate_guard (by rfl) ?_; dsimp only)); refine box_event ?hg (N := 4) ?hd (cs := #[.pointer none, .slice none 0 0, .bool false]) (t := 81) ?hr ?_; (case hd => rfl); (case hg => rfl); (case hr => first | (go_simp; done) | (go_simp; rfl)); intro g13 hg w14 hbox hb); replace hg := Aside0.mk hg; replace hbox := Aside0.mk hbox; refine stop_ ?_)
  refine Stop.go ?_
  replace hg := hg.out
  replace hbox := hbox.out
  have GEg13 := Aside0.mk (by rw [hg]; exact (below_size HB.out) : w.heap.size ≤ g13)
  replace HF0_4 := Aside0.mk (Kd.F_elderB HF0_4.out g13 (Nat.le_of_eq hg.symm))
  replace HF0_4 := Aside0.mk (Kd.F_mono HF0_4.out (fun k_ hk_ => ⟨hk_.1.1, hk_.1.2, hk_.2⟩) : Kd.F k28 _ (fun k_ => (P_ k_ ∨ w.heap.size ≤ k_) ∧ k_ ≠ g1 ∧ k_ ≠ g13) _ _ _)
  have NEg1_g13 := Aside0.mk (by rw [hg]; exact Nat.ne_of_lt (blk_lt (o := .cells #[.int .i64 a0_0, .bool a0_1, .int .i64 a0_2, .string a0_3, .slice A0_4 l0_4.length c0_4] 28 (0, 0)) BKg1.out) : g1 ≠ g13)
  have NEg13_g1 := Aside0.mk (Ne.symm NEg1_g13.out)
  replace HF0_4 := Aside0.mk (Kd.F_below HF0_4.out hb)
  replace BKg1 := Aside0.mk (blk_below (o := .cells #[.int .i64 a0_0, .bool a0_1, .int .i64 a0_2, .string a0_3, .slice A0_4 l0_4.length c0_4] 28 (0, 0)) BKg1.out hb)
  replace HB := Aside0.mk (below_step HB.out hb)
  have BKg13 := Aside0.mk hbox
  clear hg hbox hb
  clear hz3 hz4 hz5 hz6 hz7 hf8 hf9 hf10 hf11 hf12
  obtain ⟨hz15, hz16, hz17, hz18, hz19, hf20, hf21, hf22, hf23, hf24⟩ := MB.lay5 BKg1.out
  obtain ⟨hz25, hz26, hz27, hf28, hf29, hf30⟩ := MB.lay3 BKg13.out
  have H := HH.out
  replace H := Option.bind_eq_some_iff.mp H
  obtain ⟨⟨t31, t32⟩, at_, H⟩ := H
  have At33 := Aside0.mk at_
  clear at_
  replace HH := Aside0.mk (show (some (strOfNums t31, !t32)) = some (r1, r2) from H)
  clear H
  go_wp2_with (((with_reducible refine gate_callee (f := 41) rfl ?_); (try (refine gate_guard (by rfl) ?_; dsimp only)); refine goesL_ (some 6) rfl rfl Try.func41 (by kernel_rfl) rfl #[.pointer (some ⟨g13, 0, none⟩), .agg #[.int .i64 a0_0, .bool a0_1, .int .i64 a0_2, .string a0_3, .slice A0_4 l0_4.length c0_4]] rfl (by (try simp only [List.map_toArray, List.map_cons, List.map_nil]); first | done | rfl) ?_; refine (ber_sheaf_lay.calls k (fun k_ => (P_ k_ ∨ w.heap.size ≤ k_) ∧ k_ ≠ g1 ∧ k_ ≠ g13) w.heap.size g13 (.pointer none) (.slice none 0 0) ([] : List Int) false a0_0 a0_1 a0_2 a0_3 _ _ l0_4 t31 t32 _ (below_size HB.out) (fun k_ hk_ => hk_.2.2) (fun k_ hk_ => (by simp [Value.ownBlock])) BKg13.out GEg13.out (.inl rfl) (Kd.N_nil _ _ _ _ _) (Kd.F_mono (ok := (fun k_ => (P_ k_ ∨ w.heap.size ≤ k_) ∧ k_ ≠ g1 ∧ k_ ≠ g13)) HF0_4.out (fun k_ hk_ => ⟨hk_.1, hk_.2.1, hk_.2.2⟩)) HL0_4.out At33.out).mono ?_; rintro e w34 ⟨v35, p36, rfl, hn1, hp1, hbk, hfr, hb⟩; refine ⟨_, rfl, ?_⟩); replace hbk := Aside0.mk hbk; replace hfr := Aside0.mk hfr; replace hp1 := Aside0.mk hp1; refine stop_ ?_)
  refine Stop.go ?_
  replace hbk := hbk.out
  replace hfr := hfr.out
  replace hp1 := hp1.out
  have hat1 : ∀ k_ : Nat, (v35 : Value).ownBlock = some k_ → some k_ = (.slice none 0 0 : Value).ownBlock ∨ w14.heap.size ≤ k_ := fun k_ h_ => (hn1.1 k_ h_).2.1
  have HN37 := Aside0.mk (Kd.N_mono hn1 (fun k_ hk_ => hk_.2.1.elim (fun h_ => absurd h_ (by simp [Value.ownBlock])) (fun h_ => ⟨.inr (Nat.le_trans (below_size HB.out) h_), Kd.freshB (o := .cells #[.int .i64 a0_0, .bool a0_1, .int .i64 a0_2, .string a0_3, .slice A0_4 l0_4.length c0_4] 28 (0, 0)) BKg1.out k_ h_, Kd.freshB (o := .cells #[.pointer none, .slice none 0 0, .bool false] 81 (0, 0)) BKg13.out k_ h_⟩)) : Kd.N (Kd.int .u8) 5 w34 w.heap.size (fun k_ => (P_ k_ ∨ w.heap.size ≤ k_) ∧ k_ ≠ g1 ∧ k_ ≠ g13) v35 t31)
  replace HF0_4 := Aside0.mk (Kd.F_mono (MB.F_ptr (ok := (fun k_ => (P_ k_ ∨ w.heap.size ≤ k_) ∧ k_ ≠ g1 ∧ k_ ≠ g13)) HF0_4.out hfr (fun k_ hk_ => hk_.2.2) (fun k_ hk_ => (by simp [Value.ownBlock]))) (fun k_ hk_ => ⟨hk_.1.1, hk_.1.2.1, hk_.1.2.2, (fun he_ => (hat1 k_ he_.symm).elim (fun h_ => absurd h_ (by simp [Value.ownBlock])) (fun h_ => absurd hk_.2 (Nat.not_lt.2 h_)))⟩) : Kd.F k28 _ (fun k_ => (P_ k_ ∨ w.heap.size ≤ k_) ∧ k_ ≠ g1 ∧ k_ ≠ g13 ∧ some k_ ≠ (v35 : Value).ownBlock) _ _ _)
  replace BKg1 := Aside0.mk (MB.blk_ptr (o := .cells #[.int .i64 a0_0, .bool a0_1, .int .i64 a0_2, .string a0_3, .slice A0_4 l0_4.length c0_4] 28 (0, 0)) BKg1.out hfr NEg1_g13.out (by simp [Value.ownBlock]))
  replace HB := Aside0.mk (Below.trans HB.out hb)
  replace BKg13 := Aside0.mk hbk
  have HPp36 := Aside0.mk hp1
  clear hbk hfr hb hp1 hn1 hat1
  clear hz15 hz16 hz17 hz18 hz19 hf20 hf21 hf22 hf23 hf24 hz25 hz26 hz27 hf28 hf29 hf30
  obtain ⟨hz38, hz39, hz40, hz41, hz42, hf43, hf44, hf45, hf46, hf47⟩ := MB.lay5 BKg1.out
  obtain ⟨hz48, hz49, hz50, hf51, hf52, hf53⟩ := MB.lay3 BKg13.out
  go_wp2
  have hwr_ : ∀ n_ : Int, IntKind.i64.wrap n_ = wrap64 n_ := fun n_ => IntWalk.i64_left n_
  refine wp_region_any (by kernel_rfl) ?_
  change wpAny _ _ _ _ 7 #[false, false, false, false, false, false, false] _ w34.drew
  obtain ⟨w54, hw_⟩ : ∃ w_ : World, w_ = w34.drew := ⟨_, rfl⟩
  rw [← hw_]
  have hb : Below w34.heap.size w34 w54 := by rw [hw_]; exact below_drew1 (Below.refl _ _)
  clear hw_
  replace HF0_4 := Aside0.mk (Kd.F_below HF0_4.out hb)
  replace HN37 := Aside0.mk (Kd.N_below HN37.out hb)
  replace BKg1 := Aside0.mk (blk_below (o := .cells #[.int .i64 a0_0, .bool a0_1, .int .i64 a0_2, .string a0_3, .slice A0_4 l0_4.length c0_4] 28 (0, 0)) BKg1.out hb)
  replace BKg13 := Aside0.mk (blk_below (o := .cells #[p36, v35, .bool t32] 81 (0, 0)) BKg13.out hb)
  replace HB := Aside0.mk (below_step HB.out hb)
  clear hb
  clear hz38 hz39 hz40 hz41 hz42 hf43 hf44 hf45 hf46 hf47 hz48 hz49 hz50 hf51 hf52 hf53
  obtain ⟨hz55, hz56, hz57, hz58, hz59, hf60, hf61, hf62, hf63, hf64⟩ := MB.lay5 BKg1.out
  obtain ⟨hz65, hz66, hz67, hf68, hf69, hf70⟩ := MB.lay3 BKg13.out
  refine MW.any_take (i := 0) (v := .pointer (some ⟨g13, 0, none⟩)) (listed' := #[true, false, false, false, false, false, false]) (a' := ⟨[(.agg #[.int .i64 a0_0, .bool a0_1, .int .i64 a0_2, .string a0_3, .slice A0_4 l0_4.length c0_4]), (.pointer (some ⟨g1, 0, none⟩)), (.string (⟨#[]⟩ : ByteArray)), (.bool false), (.pointer (some ⟨g13, 0, none⟩)), (.agg #[.int .i64 a0_0, .bool a0_1, .int .i64 a0_2, .string a0_3, .slice A0_4 l0_4.length c0_4]), (.tuple #[]), (.pointer (some ⟨g13, 0, none⟩)), undef, undef, undef, undef].toArray, []⟩) rfl (by kernel_rfl) (by kernel_rfl) (by kernel_rfl) (fun _ _ _ h_ => h_) (.inl ⟨(by kernel_rfl), fun _ => (by first | rfl | (go_simp; done) | (go_simp; rfl))⟩) (by kernel_rfl) (by kernel_rfl) ?_
  refine MW.any_take (i := 2) (v := .pointer (some ⟨g13, 2, none⟩)) (listed' := #[true, false, true, false, false, false, false]) (a' := ⟨[(.agg #[.int .i64 a0_0, .bool a0_1, .int .i64 a0_2, .string a0_3, .slice A0_4 l0_4.length c0_4]), (.pointer (some ⟨g1, 0, none⟩)), (.string (⟨#[]⟩ : ByteArray)), (.bool false), (.pointer (some ⟨g13, 0, none⟩)), (.agg #[.int .i64 a0_0, .bool a0_1, .int .i64 a0_2, .string a0_3, .slice A0_4 l0_4.length c0_4]), (.tuple #[]), (.pointer (some ⟨g13, 0, none⟩)), undef, (.pointer (some ⟨g13, 2, none⟩)), undef, undef].toArray, []⟩) rfl (by kernel_rfl) (by kernel_rfl) (by kernel_rfl) (fun _ _ _ h_ => h_) (.inl ⟨(by kernel_rfl), fun _ => (by first | rfl | (go_simp; done) | (go_simp; rfl))⟩) (by kernel_rfl) (by kernel_rfl) ?_
  refine MW.any_fork (i := 1) (j := 3) (vj := .bool t32) (Li := #[true, true, true, false, false, false, false]) (Lj := #[true, false, true, true, false, false, false]) (aj := ⟨[(.agg #[.int .i64 a0_0, .bool a0_1, .int .i64 a0_2, .string a0_3, .slice A0_4 l0_4.length c0_4]), (.pointer (some ⟨g1, 0, none⟩)), (.string (⟨#[]⟩ : ByteArray)), (.bool false), (.pointer (some ⟨g13, 0, none⟩)), (.agg #[.int .i64 a0_0, .bool a0_1, .int .i64 a0_2, .string a0_3, .slice A0_4 l0_4.length c0_4]), (.tuple #[]), (.pointer (some ⟨g13, 0, none⟩)), undef, (.pointer (some ⟨g13, 2, none⟩)), (.bool t32), undef].toArray, []⟩) rfl rfl (by first | (left; kernel_rfl) | (right; kernel_rfl)) (by kernel_rfl) (by first | rfl | (go_simp; done) | (go_simp; rfl)) (by kernel_rfl) (by kernel_rfl) (by kernel_rfl) ?fa71 ?fb72
  case fa71 =>
    obtain ⟨A73, cp74, he_⟩ := Kd.N_slice HN37.out
    subst he_
    go_wp2_with (((with_reducible refine gate_callee (f := 42) rfl ?_); (try (refine gate_guard (by rfl) ?_; dsimp only)); refine goesL_ (some 8) rfl rfl Try.func42 (by kernel_rfl) rfl #[.pointer (some ⟨g13, 0, none⟩)] rfl (by (try simp only [List.map_toArray, List.map_cons, List.map_nil]); first | done | rfl) ?_; refine (bString42 g13 81 (p36) ((.slice A73 t31.length cp74)) [.bool t32] w.heap.size (fun k_ => (P_ k_ ∨ w.heap.size ≤ k_) ∧ k_ ≠ g1 ∧ k_ ≠ g13) t31 _ BKg13.out HN37.out).mono ?_; rintro e w75 ⟨rfl, hg⟩; refine ⟨_, rfl, ?_⟩); refine stop_ ?_)
    refine Stop.go ?_
    replace HF0_4 := Aside0.mk (Kd.F_mono (Kd.F_grown (ok := (fun k_ => (P_ k_ ∨ w.heap.size ≤ k_) ∧ k_ ≠ g1 ∧ k_ ≠ g13 ∧ some k_ ≠ ((.slice A73 t31.length cp74) : Value).ownBlock)) HF0_4.out hg (fun k_ hk_ => hk_.2.2.2)) (fun k_ hk_ => ⟨hk_.1, hk_.2.1, hk_.2.2.1⟩) : Kd.F k28 _ (fun k_ => (P_ k_ ∨ w.heap.size ≤ k_) ∧ k_ ≠ g1 ∧ k_ ≠ g13) _ _ _)
    replace BKg1 := Aside0.mk (blk_grown (o := .cells #[.int .i64 a0_0, .bool a0_1, .int .i64 a0_2, .string a0_3, .slice A0_4 l0_4.length c0_4] 28 (0, 0)) BKg1.out hg (Kd.N_away (ok := (fun k_ => (P_ k_ ∨ w.heap.size ≤ k_) ∧ k_ ≠ g1 ∧ k_ ≠ g13)) HN37.out (fun k_ hk_ => hk_.2.1)))
    replace BKg13 := Aside0.mk (blk_grown (o := .cells #[p36, (.slice A73 t31.length cp74), .bool t32] 81 (0, 0)) BKg13.out hg (Kd.N_away (ok := (fun k_ => (P_ k_ ∨ w.heap.size ≤ k_) ∧ k_ ≠ g1 ∧ k_ ≠ g13)) HN37.out (fun k_ hk_ => hk_.2.2)))
    replace HB := Aside0.mk (Below.grown HB.out hg (below_size HB.out) (Kd.N_base HN37.out))
    clear hg HN37
    clear hz55 hz56 hz57 hz58 hz59 hf60 hf61 hf62 hf63 hf64 hz65 hz66 hz67 hf68 hf69 hf70
    obtain ⟨hz76, hz77, hz78, hz79, hz80, hf81, hf82, hf83, hf84, hf85⟩ := MB.lay5 BKg1.out
    obtain ⟨hz86, hz87, hz88, hf89, hf90, hf91⟩ := MB.lay3 BKg13.out
    refine wpList_nil ?_
    change wpAny _ _ _ _ 4 #[true, true, true, false, false, false, false] ⟨[(.agg #[.int .i64 a0_0, .bool a0_1, .int .i64 a0_2, .string a0_3, .slice A0_4 l0_4.length c0_4]), (.pointer (some ⟨g1, 0, none⟩)), (.string (⟨#[]⟩ : ByteArray)), (.bool false), (.pointer (some ⟨g13, 0, none⟩)), (.agg #[.int .i64 a0_0, .bool a0_1, .int .i64 a0_2, .string a0_3, .slice A0_4 l0_4.length c0_4]), (.tuple #[]), (.pointer (some ⟨g13, 0, none⟩)), (.string (strOfNums t31)), (.pointer (some ⟨g13, 2, none⟩)), undef, undef].toArray, []⟩ _
    refine MW.any_take (i := 5) (v := .string (strOfNums t31)) (listed' := #[true, true, true, false, false, true, false]) (a' := ⟨[(.agg #[.int .i64 a0_0, .bool a0_1, .int .i64 a0_2, .string a0_3, .slice A0_4 l0_4.length c0_4]), (.pointer (some ⟨g1, 0, none⟩)), (.string (strOfNums t31)), (.bool false), (.pointer (some ⟨g13, 0, none⟩)), (.agg #[.int .i64 a0_0, .bool a0_1, .int .i64 a0_2, .string a0_3, .slice A0_4 l0_4.length c0_4]), (.tuple #[]), (.pointer (some ⟨g13, 0, none⟩)), (.string (strOfNums t31)), (.pointer (some ⟨g13, 2, none⟩)), undef, undef].toArray, []⟩) rfl (by kernel_rfl) (by kernel_rfl) (by kernel_rfl) (fun _ _ _ h_ => h_) (.inl ⟨(by kernel_rfl), fun _ => (by first | rfl | (go_simp; done) | (go_simp; rfl))⟩) (by kernel_rfl) (by kernel_rfl) ?_
    refine MW.any_one (i := 3) (v := .bool t32) (listed' := #[true, true, true, true, false, true, false]) (a' := ⟨[(.agg #[.int .i64 a0_0, .bool a0_1, .int .i64 a0_2, .string a0_3, .slice A0_4 l0_4.length c0_4]), (.pointer (some ⟨g1, 0, none⟩)), (.string (strOfNums t31)), (.bool false), (.pointer (some ⟨g13, 0, none⟩)), (.agg #[.int .i64 a0_0, .bool a0_1, .int .i64 a0_2, .string a0_3, .slice A0_4 l0_4.length c0_4]), (.tuple #[]), (.pointer (some ⟨g13, 0, none⟩)), (.string (strOfNums t31)), (.pointer (some ⟨g13, 2, none⟩)), (.bool t32), undef].toArray, []⟩) rfl (by kernel_rfl) (by kernel_rfl) (by first | rfl | (go_simp; done) | (go_simp; rfl)) (by kernel_rfl) (by kernel_rfl) ?_
    refine MW.any_take (i := 4) (v := .bool (!t32)) (listed' := #[true, true, true, true, true, true, false]) (a' := ⟨[(.agg #[.int .i64 a0_0, .bool a0_1, .int .i64 a0_2, .string a0_3, .slice A0_4 l0_4.length c0_4]), (.pointer (some ⟨g1, 0, none⟩)), (.string (strOfNums t31)), (.bool false), (.pointer (some ⟨g13, 0, none⟩)), (.agg #[.int .i64 a0_0, .bool a0_1, .int .i64 a0_2, .string a0_3, .slice A0_4 l0_4.length c0_4]), (.tuple #[]), (.pointer (some ⟨g13, 0, none⟩)), (.string (strOfNums t31)), (.pointer (some ⟨g13, 2, none⟩)), (.bool t32), (.bool (!t32))].toArray, []⟩) rfl (by kernel_rfl) (by kernel_rfl) (by kernel_rfl) (fun _ _ _ h_ => h_) (.inl ⟨(by kernel_rfl), fun _ => (by first | rfl | (go_simp; done) | (go_simp; rfl))⟩) (by kernel_rfl) (by kernel_rfl) ?_
    refine MW.any_take (i := 6) (v := .bool (!t32)) (listed' := #[true, true, true, true, true, true, true]) (a' := ⟨[(.agg #[.int .i64 a0_0, .bool a0_1, .int .i64 a0_2, .string a0_3, .slice A0_4 l0_4.length c0_4]), (.pointer (some ⟨g1, 0, none⟩)), (.string (strOfNums t31)), (.bool (!t32)), (.pointer (some ⟨g13, 0, none⟩)), (.agg #[.int .i64 a0_0, .bool a0_1, .int .i64 a0_2, .string a0_3, .slice A0_4 l0_4.length c0_4]), (.tuple #[]), (.pointer (some ⟨g13, 0, none⟩)), (.string (strOfNums t31)), (.pointer (some ⟨g13, 2, none⟩)), (.bool t32), (.bool (!t32))].toArray, []⟩) rfl (by kernel_rfl) (by kernel_rfl) (by kernel_rfl) (fun _ _ _ h_ => h_) (.inl ⟨(by kernel_rfl), fun _ => (by first | rfl | (go_simp; done) | (go_simp; rfl))⟩) (by kernel_rfl) (by kernel_rfl) ?_
    refine wpAny_done (by kernel_rfl) ?_ _
    clear hwr_
    have H := HH.out
    simp only [Option.some.injEq, Prod.mk.injEq] at H
    obtain ⟨rfl, rfl⟩ := H
    clear HH
    go_wp2
    go_ret2
    exact ⟨by first | rfl | (simp; done) | (simp [*]; done), HB.out⟩
  case fb72 =>
    refine MW.any_take (i := 4) (v := .bool (!t32)) (listed' := #[true, false, true, true, true, false, false]) (a' := ⟨[(.agg #[.int .i64 a0_0, .bool a0_1, .int .i64 a0_2, .string a0_3, .slice A0_4 l0_4.length c0_4]), (.pointer (some ⟨g1, 0, none⟩)), (.string (⟨#[]⟩ : ByteArray)), (.bool false), (.pointer (some ⟨g13, 0, none⟩)), (.agg #[.int .i64 a0_0, .bool a0_1, .int .i64 a0_2, .string a0_3, .slice A0_4 l0_4.length c0_4]), (.tuple #[]), (.pointer (some ⟨g13, 0, none⟩)), undef, (.pointer (some ⟨g13, 2, none⟩)), (.bool t32), (.bool (!t32))].toArray, []⟩) rfl (by kernel_rfl) (by kernel_rfl) (by kernel_rfl) (fun _ _ _ h_ => h_) (.inl ⟨(by kernel_rfl), fun _ => (by first | rfl | (go_simp; done) | (go_simp; rfl))⟩) (by kernel_rfl) (by kernel_rfl) ?_
    refine MW.any_act (i := 1) (listed' := #[true, true, true, true, true, false, false]) rfl (by kernel_rfl) (by kernel_rfl) ?_
    obtain ⟨A92, cp93, he_⟩ := Kd.N_slice HN37.out
    subst he_
    go_wp2_with (((with_reducible refine gate_callee (f := 42) rfl ?_); (try (refine gate_guard (by rfl) ?_; dsimp only)); refine goesL_ (some 8) rfl rfl Try.func42 (by kernel_rfl) rfl #[.pointer (some ⟨g13, 0, none⟩)] rfl (by (try simp only [List.map_toArray, List.map_cons, List.map_nil]); first | done | rfl) ?_; refine (bString42 g13 81 (p36) ((.slice A92 t31.length cp93)) [.bool t32] w.heap.size (fun k_ => (P_ k_ ∨ w.heap.size ≤ k_) ∧ k_ ≠ g1 ∧ k_ ≠ g13) t31 _ BKg13.out HN37.out).mono ?_; rintro e w94 ⟨rfl, hg⟩; refine ⟨_, rfl, ?_⟩); refine stop_ ?_)
    refine Stop.go ?_
    replace HF0_4 := Aside0.mk (Kd.F_mono (Kd.F_grown (ok := (fun k_ => (P_ k_ ∨ w.heap.size ≤ k_) ∧ k_ ≠ g1 ∧ k_ ≠ g13 ∧ some k_ ≠ ((.slice A92 t31.length cp93) : Value).ownBlock)) HF0_4.out hg (fun k_ hk_ => hk_.2.2.2)) (fun k_ hk_ => ⟨hk_.1, hk_.2.1, hk_.2.2.1⟩) : Kd.F k28 _ (fun k_ => (P_ k_ ∨ w.heap.size ≤ k_) ∧ k_ ≠ g1 ∧ k_ ≠ g13) _ _ _)
    replace BKg1 := Aside0.mk (blk_grown (o := .cells #[.int .i64 a0_0, .bool a0_1, .int .i64 a0_2, .string a0_3, .slice A0_4 l0_4.length c0_4] 28 (0, 0)) BKg1.out hg (Kd.N_away (ok := (fun k_ => (P_ k_ ∨ w.heap.size ≤ k_) ∧ k_ ≠ g1 ∧ k_ ≠ g13)) HN37.out (fun k_ hk_ => hk_.2.1)))
    replace BKg13 := Aside0.mk (blk_grown (o := .cells #[p36, (.slice A92 t31.length cp93), .bool t32] 81 (0, 0)) BKg13.out hg (Kd.N_away (ok := (fun k_ => (P_ k_ ∨ w.heap.size ≤ k_) ∧ k_ ≠ g1 ∧ k_ ≠ g13)) HN37.out (fun k_ hk_ => hk_.2.2)))
    replace HB := Aside0.mk (Below.grown HB.out hg (below_size HB.out) (Kd.N_base HN37.out))
    clear hg HN37
    clear hz55 hz56 hz57 hz58 hz59 hf60 hf61 hf62 hf63 hf64 hz65 hz66 hz67 hf68 hf69 hf70
    obtain ⟨hz95, hz96, hz97, hz98, hz99, hf100, hf101, hf102, hf103, hf104⟩ := MB.lay5 BKg1.out
    obtain ⟨hz105, hz106, hz107, hf108, hf109, hf110⟩ := MB.lay3 BKg13.out
    refine wpList_nil ?_
    change wpAny _ _ _ _ 2 #[true, true, true, true, true, false, false] ⟨[(.agg #[.int .i64 a0_0, .bool a0_1, .int .i64 a0_2, .string a0_3, .slice A0_4 l0_4.length c0_4]), (.pointer (some ⟨g1, 0, none⟩)), (.string (⟨#[]⟩ : ByteArray)), (.bool false), (.pointer (some ⟨g13, 0, none⟩)), (.agg #[.int .i64 a0_0, .bool a0_1, .int .i64 a0_2, .string a0_3, .slice A0_4 l0_4.length c0_4]), (.tuple #[]), (.pointer (some ⟨g13, 0, none⟩)), (.string (strOfNums t31)), (.pointer (some ⟨g13, 2, none⟩)), (.bool t32), (.bool (!t32))].toArray, []⟩ _
    refine MW.any_take (i := 5) (v := .string (strOfNums t31)) (listed' := #[true, true, true, true, true, true, false]) (a' := ⟨[(.agg #[.int .i64 a0_0, .bool a0_1, .int .i64 a0_2, .string a0_3, .slice A0_4 l0_4.length c0_4]), (.pointer (some ⟨g1, 0, none⟩)), (.string (strOfNums t31)), (.bool false), (.pointer (some ⟨g13, 0, none⟩)), (.agg #[.int .i64 a0_0, .bool a0_1, .int .i64 a0_2, .string a0_3, .slice A0_4 l0_4.length c0_4]), (.tuple #[]), (.pointer (some ⟨g13, 0, none⟩)), (.string (strOfNums t31)), (.pointer (some ⟨g13, 2, none⟩)), (.bool t32), (.bool (!t32))].toArray, []⟩) rfl (by kernel_rfl) (by kernel_rfl) (by kernel_rfl) (fun _ _ _ h_ => h_) (.inl ⟨(by kernel_rfl), fun _ => (by first | rfl | (go_simp; done) | (go_simp; rfl))⟩) (by kernel_rfl) (by kernel_rfl) ?_
    refine MW.any_take (i := 6) (v := .bool (!t32)) (listed' := #[true, true, true, true, true, true, true]) (a' := ⟨[(.agg #[.int .i64 a0_0, .bool a0_1, .int .i64 a0_2, .string a0_3, .slice A0_4 l0_4.length c0_4]), (.pointer (some ⟨g1, 0, none⟩)), (.string (strOfNums t31)), (.bool (!t32)), (.pointer (some ⟨g13, 0, none⟩)), (.agg #[.int .i64 a0_0, .bool a0_1, .int .i64 a0_2, .string a0_3, .slice A0_4 l0_4.length c0_4]), (.tuple #[]), (.pointer (some ⟨g13, 0, none⟩)), (.string (strOfNums t31)), (.pointer (some ⟨g13, 2, none⟩)), (.bool t32), (.bool (!t32))].toArray, []⟩) rfl (by kernel_rfl) (by kernel_rfl) (by kernel_rfl) (fun _ _ _ h_ => h_) (.inl ⟨(by kernel_rfl), fun _ => (by first | rfl | (go_simp; done) | (go_simp; rfl))⟩) (by kernel_rfl) (by kernel_rfl) ?_
    refine wpAny_done (by kernel_rfl) ?_ _
    clear hwr_
    have H := HH.out
    simp only [Option.some.injEq, Prod.mk.injEq] at H
    obtain ⟨rfl, rfl⟩ := H
    clear HH
    go_wp2
    go_ret2
    exact ⟨by first | rfl | (simp; done) | (simp [*]; done), HB.out⟩

end Go.Proofs.Ytliackbiljhioaa.GA
