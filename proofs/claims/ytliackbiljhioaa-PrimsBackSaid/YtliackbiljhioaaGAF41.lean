-- written by wip/gen.py, a program of this session
import Derived.Test.YtliackbiljhioaaGA0
import Derived.Test.YtliackbiljhioaaGAB
import Derived.Test.YtliackbiljhioaaGAF48
import Derived.Test.YtliackbiljhioaaGAF49
namespace Go.Proofs.Ytliackbiljhioaa.GA
open Go.RowKit Go.Proofs.Ytliackbiljhioaa Go.Proofs.Ytliackbiljhioaa.MW Go.Proofs.YtliackbiljhioaaW.PrintWords Go.Proofs.YtliackbiljhioaaW.PrintLast Go.Proofs.YtliackbiljhioaaW.PrintMore
attribute [local go_sem] max2_int min2_int max_two min_two
set_option linter.unusedVariables false
set_option linter.unusedSimpArgs false


/-! ### ber_sheaf_lay: function 41 -/
mutual
def ber_sheaf_lay.l0 : Nat → Int → (List Int) → Bool → Int → Int → (List Int) → (List (S28)) → Option (List Int × Bool)
  | 0, _, _, _, _, _, _, _ => none
  | k + 1, x54, x55, x57, a1_0, a1_2, l0_1, l1_4 => if x54 < (l1_4.length : Int) then (if 0 ≤ x54 then ((ber_sheaf_lay.f k x55 x57 ((rd_T28 l1_4 x54).f0) ((rd_T28 l1_4 x54).f1) ((rd_T28 l1_4 x54).f2) ((rd_T28 l1_4 x54).f3) ((rd_T28 l1_4 x54).f4)).bind fun bt157 => ((ber_sheaf_lay.l0 k (wrap64 (x54 + 1)) bt157.1 bt157.2 a1_0 a1_2 l0_1 l1_4))) else (none)) else ((ber_sheaf_put.f l0_1 x57 (strOfNums ([Go.bits .or .u8 ((Go.bits .or .i64 (wrap64 (a1_0 * 64)) a1_2) % 256) 32] : List Int))).bind fun bt279 => (if 65535 < ((strOfNums x55).size : Int) then ((ber_length.f 65535).bind fun t313 => ((ber_sheaf_put.f bt279.1 bt279.2 t313).bind fun bt340 => ((ber_sheaf_put.f bt340.1 bt340.2 (strOfNums x55)).bind fun bt371 => (some (bt371.1, bt371.2))))) else ((ber_length.f ((strOfNums x55).size : Int)).bind fun t404 => ((ber_sheaf_put.f bt279.1 bt279.2 t404).bind fun bt431 => ((ber_sheaf_put.f bt431.1 bt431.2 (strOfNums x55)).bind fun bt462 => (some (bt462.1, bt462.2)))))))
def ber_sheaf_lay.f : Nat → (List Int) → Bool → Int → Bool → Int → ByteArray → (List (S28)) → Option (List Int × Bool)
  | 0, _, _, _, _, _, _, _ => none
  | k + 1, l0_1, a0_2, a1_0, a1_1, a1_2, a1_3, l1_4 => if a0_2 = true then (some (l0_1, true)) else (if a1_1 = true then ((ber_sheaf_lay.l0 k 0 ([] : List Int) false a1_0 a1_2 l0_1 l1_4)) else ((ber_sheaf_put.f l0_1 false (strOfNums ([(Go.bits .or .i64 (wrap64 (a1_0 * 64)) a1_2) % 256] : List Int))).bind fun bt517 => (if 65535 < (a1_3.size : Int) then ((ber_length.f 65535).bind fun t545 => ((ber_sheaf_put.f bt517.1 bt517.2 t545).bind fun bt566 => ((ber_sheaf_put.f bt566.1 bt566.2 a1_3).bind fun bt591 => (some (bt591.1, bt591.2))))) else ((ber_length.f (a1_3.size : Int)).bind fun t618 => ((ber_sheaf_put.f bt517.1 bt517.2 t618).bind fun bt639 => ((ber_sheaf_put.f bt639.1 bt639.2 a1_3).bind fun bt664 => (some (bt664.1, bt664.2))))))))
end
theorem ber_sheaf_lay.mono_l : ∀ k, (∀ y0 y1 y2 y3 y4 y5 y6, LeO (ber_sheaf_lay.f k y0 y1 y2 y3 y4 y5 y6) (ber_sheaf_lay.f (k + 1) y0 y1 y2 y3 y4 y5 y6)) ∧ (∀ y0 y1 y2 y3 y4 y5 y6, LeO (ber_sheaf_lay.l0 k y0 y1 y2 y3 y4 y5 y6) (ber_sheaf_lay.l0 (k + 1) y0 y1 y2 y3 y4 y5 y6))
  | 0 => ⟨fun _ _ _ _ _ _ _ r h => by simp [ber_sheaf_lay.f] at h, fun _ _ _ _ _ _ _ r h => by simp [ber_sheaf_lay.l0] at h⟩
  | k + 1 => by
    obtain ⟨ih0, ih1⟩ := ber_sheaf_lay.mono_l k
    refine ⟨?_, ?_⟩
    · intro y0 y1 y2 y3 y4 y5 y6
      unfold ber_sheaf_lay.f
      repeat' first
      | (with_reducible exact ih0 _ _ _ _ _ _ _)
      | (with_reducible exact ih1 _ _ _ _ _ _ _)
      | (with_reducible exact LeO.refl _)
      | (with_reducible exact LeO.none _)
      | (with_reducible refine LeO.ite ?_ ?_)
      | (with_reducible refine LeO.bind ?_ (fun _ => ?_))
      | exact ih0 _ _ _ _ _ _ _
      | exact ih1 _ _ _ _ _ _ _
      | exact LeO.none _
      | refine LeO.ite ?_ ?_
      | refine LeO.bind ?_ (fun _ => ?_)
    · intro y0 y1 y2 y3 y4 y5 y6
      unfold ber_sheaf_lay.l0
      repeat' first
      | (with_reducible exact ih0 _ _ _ _ _ _ _)
      | (with_reducible exact ih1 _ _ _ _ _ _ _)
      | (with_reducible exact LeO.refl _)
      | (with_reducible exact LeO.none _)
      | (with_reducible refine LeO.ite ?_ ?_)
      | (with_reducible refine LeO.bind ?_ (fun _ => ?_))
      | exact ih0 _ _ _ _ _ _ _
      | exact ih1 _ _ _ _ _ _ _
      | exact LeO.none _
      | refine LeO.ite ?_ ?_
      | refine LeO.bind ?_ (fun _ => ?_)
theorem ber_sheaf_lay.mono : ∀ a0_ a1_ a2_ a3_ a4_ a5_ a6_ k, LeO (ber_sheaf_lay.f k a0_ a1_ a2_ a3_ a4_ a5_ a6_) (ber_sheaf_lay.f (k + 1) a0_ a1_ a2_ a3_ a4_ a5_ a6_) := by
  intro a0_ a1_ a2_ a3_ a4_ a5_ a6_ k
  obtain ⟨ih0, ih1⟩ := ber_sheaf_lay.mono_l k
  exact ih0 a0_ a1_ a2_ a3_ a4_ a5_ a6_
def ber_sheaf_lay.Post (P_ : Nat → Prop) (B_ : Nat) (g0 : Nat) (p0_0 : Value) (v0_1 : Value) (l0_1 : List Int) (a0_2 : Bool) (a1_0 : Int) (a1_1 : Bool) (a1_2 : Int) (a1_3 : ByteArray) (A1_4 : Option Addr) (c1_4 : Nat) (l1_4 : List (S28)) (w : World) (r1 : List Int) (r2 : Bool) (e : Ending) (w' : World) : Prop := ∃ v1'_ : Value, ∃ p0'_ : Value, e = .returned (.tuple #[]) ∧ Kd.N (Kd.int .u8) 5 w' B_ (fun k_ => True ∧ (some k_ = (v0_1 : Value).ownBlock ∨ w.heap.size ≤ k_) ∧ k_ ≠ g0) v1'_ r1 ∧ (p0'_ = .pointer none ∨ p0'_ = .pointer (some ⟨g0, 0, none⟩)) ∧ w'.heap[g0]? = some (.cells #[p0'_, v1'_, .bool r2] 81 (0, 0)) ∧ (∀ k_ : Nat, k_ ≠ g0 → some k_ ≠ (v0_1 : Value).ownBlock → k_ < w.heap.size → w'.heap[k_]? = w.heap[k_]?) ∧ Below B_ w w'
set_option maxHeartbeats 8000000 in
set_option maxRecDepth 100000 in
theorem ber_sheaf_lay.calls (k : Nat) : ∀ (P_ : Nat → Prop) (B_ : Nat) (g0 : Nat) (p0_0 : Value) (v0_1 : Value) (l0_1 : List Int) (a0_2 : Bool) (a1_0 : Int) (a1_1 : Bool) (a1_2 : Int) (a1_3 : ByteArray) (A1_4 : Option Addr) (c1_4 : Nat) (l1_4 : List (S28)) (r1 : List Int) (r2 : Bool) (w : World) (hB0 : B_ ≤ w.heap.size) (hPg : ∀ k_, P_ k_ → k_ ≠ g0) (hPv : ∀ k_, P_ k_ → some k_ ≠ (v0_1 : Value).ownBlock) (hb0 : w.heap[g0]? = some (.cells #[p0_0, v0_1, .bool a0_2] 81 (0, 0))) (hge0 : B_ ≤ g0) (hp0_0 : p0_0 = .pointer none ∨ p0_0 = .pointer (some ⟨g0, 0, none⟩)) (hn0_1 : Kd.N (Kd.int .u8) 5 w B_ (fun k_ => True ∧ (some k_ = (v0_1 : Value).ownBlock ∨ w.heap.size ≤ k_) ∧ k_ ≠ g0) v0_1 l0_1) (hs1_4 : Kd.F k28 w P_ A1_4 l1_4.length l1_4) (hc1_4 : l1_4.length ≤ c1_4) (h : ber_sheaf_lay.f k l0_1 a0_2 a1_0 a1_1 a1_2 a1_3 l1_4 = some (r1, r2)),
    Calls Try.prog 41 #[.pointer (some ⟨g0, 0, none⟩), .agg #[.int .i64 a1_0, .bool a1_1, .int .i64 a1_2, .string a1_3, .slice A1_4 l1_4.length c1_4]] w (fun e w' => ber_sheaf_lay.Post P_ B_ g0 p0_0 v0_1 l0_1 a0_2 a1_0 a1_1 a1_2 a1_3 A1_4 c1_4 l1_4 w r1 r2 e w') := by
  induction k using Nat.strongRecOn with
  | _ k ih =>
  intro P_ B_ g0 p0_0 v0_1 l0_1 a0_2 a1_0 a1_1 a1_2 a1_3 A1_4 c1_4 l1_4 r1 r2 w hB0 hPg hPv hb0 hge0 hp0_0 hn0_1 hs1_4 hc1_4 h
  cases k with
  | zero => exact absurd h (by simp [ber_sheaf_lay.f])
  | succ k1 =>
  simp only [ber_sheaf_lay.f] at h
  have HH := Aside0.mk h
  clear h
  obtain ⟨P0_, HPO⟩ : ∃ P0_ : Nat → Prop, P0_ = (fun k_ => k_ ≠ g0 ∧ some k_ ≠ (v0_1 : Value).ownBlock) := ⟨_, rfl⟩
  have HFfr := Aside0.mk (MB.frK_new w (fun k_ hk_ => by rw [HPO] at hk_; exact ⟨trivial, hk_.2, hk_.1⟩) : Kd.F (MB.frK w P0_) w (fun k_ => True ∧ some k_ ≠ (v0_1 : Value).ownBlock ∧ k_ ≠ g0) (some ⟨0, 0, none⟩) [()].length [()])
  replace HPO := Aside0.mk HPO
  have hB_ := Aside0.mk hB0
  have HPp0_0 := Aside0.mk hp0_0
  clear hp0_0
  have HN0_1 := Aside0.mk hn0_1
  clear hn0_1
  have BKg0 := Aside0.mk hb0
  have GEg0 := Aside0.mk hge0
  clear hb0 hge0
  obtain ⟨hz1, hz2, hz3, hf4, hf5, hf6⟩ := MB.lay3 BKg0.out
  have HF1_4 := Aside0.mk (Kd.F_mono hs1_4 (ok' := (fun k_ => True ∧ (P_ k_ ∨ w.heap.size ≤ k_) ∧ some k_ ≠ (v0_1 : Value).ownBlock ∧ k_ ≠ g0)) (fun k_ hk_ => ⟨trivial, .inl hk_, hPv k_ hk_, hPg k_ hk_⟩))
  have HL1_4 := Aside0.mk hc1_4
  clear hs1_4 hc1_4
  have HB := Aside0.mk (Below.refl B_ w)
  have hu28 := Try.underlying28
  have hu81 := Try.underlying81
  go_enter Try.func41, Try.ntmps41
  go_wp2_with (((with_reducible refine gate_dst (N := 3) rfl ?_); (try (refine gate_guard (by rfl) ?_; dsimp only)); refine box_event ?hg (N := 3) ?hd (cs := #[.int .i64 a1_0, .bool a1_1, .int .i64 a1_2, .string a1_3, .slice A1_4 l1_4.length c1_4]) (t := 28) ?hr ?_; (case hd => rfl); (case hg => rfl); (case hr => first | (go_simp; done) | (go_simp; rfl)); intro g7 hg w8 hbox hb); replace hg := Aside0.mk hg; replace hbox := Aside0.mk hbox; refine stop_ ?_)
  refine Stop.go ?_
  replace hg := hg.out
  replace hbox := hbox.out
  have GEg7 := Aside0.mk (by rw [hg]; exact (Nat.le_trans hB_.out (MB.bsize (a := B_) HB.out)) : B_ ≤ g7)
  replace HFfr := Aside0.mk (Kd.F_elderB HFfr.out g7 (Nat.le_of_eq hg.symm))
  replace HFfr := Aside0.mk (Kd.F_mono HFfr.out (fun k_ hk_ => ⟨hk_.1.1, hk_.1.2.1, hk_.1.2.2, hk_.2⟩) : Kd.F (MB.frK w P0_) _ (fun k_ => True ∧ some k_ ≠ (v0_1 : Value).ownBlock ∧ k_ ≠ g0 ∧ k_ ≠ g7) _ _ _)
  replace HF1_4 := Aside0.mk (Kd.F_elderB HF1_4.out g7 (Nat.le_of_eq hg.symm))
  replace HF1_4 := Aside0.mk (Kd.F_mono HF1_4.out (fun k_ hk_ => ⟨hk_.1.1, hk_.1.2.1, hk_.1.2.2.1, hk_.1.2.2.2, hk_.2⟩) : Kd.F k28 _ (fun k_ => True ∧ (P_ k_ ∨ w.heap.size ≤ k_) ∧ some k_ ≠ (v0_1 : Value).ownBlock ∧ k_ ≠ g0 ∧ k_ ≠ g7) _ _ _)
  replace HN0_1 := Aside0.mk (Kd.N_elderB HN0_1.out g7 (Nat.le_of_eq hg.symm))
  replace HN0_1 := Aside0.mk (Kd.N_mono HN0_1.out (fun k_ hk_ => ⟨hk_.1.1, hk_.1.2.1, hk_.1.2.2, hk_.2⟩) : Kd.N (Kd.int .u8) _ _ _ (fun k_ => True ∧ (some k_ = (v0_1 : Value).ownBlock ∨ w.heap.size ≤ k_) ∧ k_ ≠ g0 ∧ k_ ≠ g7) _ _)
  have NEg0_g7 := Aside0.mk (by rw [hg]; exact Nat.ne_of_lt (blk_lt (o := .cells #[p0_0, v0_1, .bool a0_2] 81 (0, 0)) BKg0.out) : g0 ≠ g7)
  have NEg7_g0 := Aside0.mk (Ne.symm NEg0_g7.out)
  replace HFfr := Aside0.mk (Kd.F_below HFfr.out hb)
  replace HF1_4 := Aside0.mk (Kd.F_below HF1_4.out hb)
  replace HN0_1 := Aside0.mk (Kd.N_below HN0_1.out hb)
  replace BKg0 := Aside0.mk (blk_below (o := .cells #[p0_0, v0_1, .bool a0_2] 81 (0, 0)) BKg0.out hb)
  replace HB := Aside0.mk (MB.below_stepB hB_.out HB.out hb)
  have BKg7 := Aside0.mk hbox
  clear hg hbox hb
  clear hz1 hz2 hz3 hf4 hf5 hf6
  obtain ⟨hz9, hz10, hz11, hf12, hf13, hf14⟩ := MB.lay3 BKg0.out
  obtain ⟨hz15, hz16, hz17, hz18, hz19, hf20, hf21, hf22, hf23, hf24⟩ := MB.lay5 BKg7.out
  by_cases c25 : a0_2 = true
  · have H := HH.out
    rw [if_pos c25] at H
    replace HH := Aside0.mk H
    clear H
    subst c25
    have H := HH.out
    simp only [Option.some.injEq, Prod.mk.injEq] at H
    obtain ⟨rfl, rfl⟩ := H
    clear HH
    go_wp2
    go_end0
    unfold ber_sheaf_lay.Post
    exact ⟨(v0_1), (p0_0), by first | rfl | (simp; done) | (simp [*]; done), (Kd.N_mono (ok := (fun k_ => True ∧ (some k_ = (v0_1 : Value).ownBlock ∨ w.heap.size ≤ k_) ∧ k_ ≠ g0 ∧ k_ ≠ g7)) HN0_1.out (fun k_ hk_ => ⟨trivial, hk_.2.1, hk_.2.2.1⟩)), HPp0_0.out, (by first | exact BKg0.out | (have h_ := BKg0.out; simp only [*] at h_; exact h_) | (have h_ := BKg0.out; simp [*] at h_ ⊢; exact h_)), (fun k_ hg_ hv_ hlt_ => MB.frK_out HFfr.out k_ (by rw [HPO.out]; exact ⟨hg_, hv_⟩) hlt_), HB.out⟩
  · have H := HH.out
    rw [if_neg c25] at H
    replace HH := Aside0.mk H
    clear H
    replace c25 := Bool.eq_false_iff.mpr c25
    subst c25
    by_cases c26 : a1_1 = true
    · have H := HH.out
      rw [if_pos c26] at H
      replace HH := Aside0.mk H
      clear H
      subst c26
      go_wp2_with (((with_reducible refine gate_dst (N := 6) rfl ?_); (try (refine gate_guard (by rfl) ?_; dsimp only)); refine box_event ?hg (N := 6) ?hd (cs := #[.pointer none, .slice none 0 0, .bool false]) (t := 81) ?hr ?_; (case hd => rfl); (case hg => rfl); (case hr => first | (go_simp; done) | (go_simp; rfl)); intro g27 hg w28 hbox hb); replace hg := Aside0.mk hg; replace hbox := Aside0.mk hbox; refine stop_ ?_)
      refine Stop.go ?_
      replace hg := hg.out
      replace hbox := hbox.out
      have GEg27 := Aside0.mk (by rw [hg]; exact (Nat.le_trans hB_.out (MB.bsize (a := B_) HB.out)) : B_ ≤ g27)
      replace HFfr := Aside0.mk (Kd.F_elderB HFfr.out g27 (Nat.le_of_eq hg.symm))
      replace HFfr := Aside0.mk (Kd.F_mono HFfr.out (fun k_ hk_ => ⟨hk_.1.1, hk_.1.2.1, hk_.1.2.2.1, hk_.1.2.2.2, hk_.2⟩) : Kd.F (MB.frK w P0_) _ (fun k_ => True ∧ some k_ ≠ (v0_1 : Value).ownBlock ∧ k_ ≠ g0 ∧ k_ ≠ g7 ∧ k_ ≠ g27) _ _ _)
      replace HF1_4 := Aside0.mk (Kd.F_elderB HF1_4.out g27 (Nat.le_of_eq hg.symm))
      replace HF1_4 := Aside0.mk (Kd.F_mono HF1_4.out (fun k_ hk_ => ⟨hk_.1.1, hk_.1.2.1, hk_.1.2.2.1, hk_.1.2.2.2.1, hk_.1.2.2.2.2, hk_.2⟩) : Kd.F k28 _ (fun k_ => True ∧ (P_ k_ ∨ w.heap.size ≤ k_) ∧ some k_ ≠ (v0_1 : Value).ownBlock ∧ k_ ≠ g0 ∧ k_ ≠ g7 ∧ k_ ≠ g27) _ _ _)
      replace HN0_1 := Aside0.mk (Kd.N_elderB HN0_1.out g27 (Nat.le_of_eq hg.symm))
      replace HN0_1 := Aside0.mk (Kd.N_mono HN0_1.out (fun k_ hk_ => ⟨hk_.1.1, hk_.1.2.1, hk_.1.2.2.1, hk_.1.2.2.2, hk_.2⟩) : Kd.N (Kd.int .u8) _ _ _ (fun k_ => True ∧ (some k_ = (v0_1 : Value).ownBlock ∨ w.heap.size ≤ k_) ∧ k_ ≠ g0 ∧ k_ ≠ g7 ∧ k_ ≠ g27) _ _)
      have NEg0_g27 := Aside0.mk (by rw [hg]; exact Nat.ne_of_lt (blk_lt (o := .cells #[p0_0, v0_1, .bool false] 81 (0, 0)) BKg0.out) : g0 ≠ g27)
      have NEg27_g0 := Aside0.mk (Ne.symm NEg0_g27.out)
      have NEg7_g27 := Aside0.mk (by rw [hg]; exact Nat.ne_of_lt (blk_lt (o := .cells #[.int .i64 a1_0, .bool true, .int .i64 a1_2, .string a1_3, .slice A1_4 l1_4.length c1_4] 28 (0, 0)) BKg7.out) : g7 ≠ g27)
      have NEg27_g7 := Aside0.mk (Ne.symm NEg7_g27.out)
      replace HFfr := Aside0.mk (Kd.F_below HFfr.out hb)
      replace HF1_4 := Aside0.mk (Kd.F_below HF1_4.out hb)
      replace HN0_1 := Aside0.mk (Kd.N_below HN0_1.out hb)
      replace BKg0 := Aside0.mk (blk_below (o := .cells #[p0_0, v0_1, .bool false] 81 (0, 0)) BKg0.out hb)
      replace BKg7 := Aside0.mk (blk_below (o := .cells #[.int .i64 a1_0, .bool true, .int .i64 a1_2, .string a1_3, .slice A1_4 l1_4.length c1_4] 28 (0, 0)) BKg7.out hb)
      replace HB := Aside0.mk (MB.below_stepB hB_.out HB.out hb)
      have BKg27 := Aside0.mk hbox
      clear hg hbox hb
      clear hz9 hz10 hz11 hf12 hf13 hf14 hz15 hz16 hz17 hz18 hz19 hf20 hf21 hf22 hf23 hf24
      obtain ⟨hz29, hz30, hz31, hf32, hf33, hf34⟩ := MB.lay3 BKg0.out
      obtain ⟨hz35, hz36, hz37, hz38, hz39, hf40, hf41, hf42, hf43, hf44⟩ := MB.lay5 BKg7.out
      obtain ⟨hz45, hz46, hz47, hf48, hf49, hf50⟩ := MB.lay3 BKg27.out
      go_wp2
      go_loopg [29] k1 (fun kq u29 w' => ∃ (x54 : Int) (x55 : List Int) (x57 : Bool) (v51 : Value) (p52 : Value) (p53 : Value), u29 = .int .i64 x54 ∧ Aside0 ((ber_sheaf_lay.l0 kq x54 x55 x57 a1_0 a1_2 l0_1 l1_4) = some (r1, r2)) ∧ Aside0 (kq ≤ k1) ∧ Aside0 (Kd.F (MB.frK w P0_) w' (fun k_ => True ∧ some k_ ≠ (v0_1 : Value).ownBlock ∧ some k_ ≠ (v51 : Value).ownBlock ∧ k_ ≠ g0 ∧ k_ ≠ g7 ∧ k_ ≠ g27) (some ⟨0, 0, none⟩) [()].length [()]) ∧ Aside0 (Kd.F k28 w' (fun k_ => True ∧ (P_ k_ ∨ w.heap.size ≤ k_) ∧ some k_ ≠ (v0_1 : Value).ownBlock ∧ some k_ ≠ (v51 : Value).ownBlock ∧ k_ ≠ g0 ∧ k_ ≠ g7 ∧ k_ ≠ g27) A1_4 l1_4.length l1_4) ∧ Aside0 (Kd.N (Kd.int .u8) 5 w' B_ (fun k_ => True ∧ (some k_ = (v0_1 : Value).ownBlock ∨ w.heap.size ≤ k_) ∧ some k_ ≠ (v51 : Value).ownBlock ∧ k_ ≠ g0 ∧ k_ ≠ g7 ∧ k_ ≠ g27) v0_1 l0_1) ∧ Aside0 (Kd.N (Kd.int .u8) 5 w' B_ (fun k_ => True ∧ (P_ k_ ∨ w.heap.size ≤ k_) ∧ some k_ ≠ (v0_1 : Value).ownBlock ∧ k_ ≠ g0 ∧ k_ ≠ g7 ∧ k_ ≠ g27) v51 x55) ∧ Aside0 (p52 = .pointer none ∨ p52 = .pointer (some ⟨g0, 0, none⟩)) ∧ Aside0 (p53 = .pointer none ∨ p53 = .pointer (some ⟨g27, 0, none⟩)) ∧ Aside0 (w'.heap[g0]? = some (.cells #[p52, v0_1, .bool false] 81 (0, 0))) ∧ Aside0 (w'.heap[g7]? = some (.cells #[.int .i64 a1_0, .bool true, .int .i64 a1_2, .string a1_3, .slice A1_4 l1_4.length c1_4] 28 (0, 0))) ∧ Aside0 (w'.heap[g27]? = some (.cells #[p53, v51, .bool x57] 81 (0, 0))) ∧ Aside0 (Below B_ w w'))
      case atStart => exact ⟨0, ([] : List Int), false, .slice none 0 0, p0_0, .pointer none, (by first | rfl | (simp; done) | (simp [*]; done)), HH, ⟨Nat.le_refl _⟩, ⟨(Kd.F_mono (ok := (fun k_ => True ∧ some k_ ≠ (v0_1 : Value).ownBlock ∧ k_ ≠ g0 ∧ k_ ≠ g7 ∧ k_ ≠ g27)) HFfr.out (fun k_ hk_ => ⟨hk_.1, hk_.2.1, (by simp [Value.ownBlock]), hk_.2.2.1, hk_.2.2.2.1, hk_.2.2.2.2⟩))⟩, ⟨(Kd.F_mono (ok := (fun k_ => True ∧ (P_ k_ ∨ w.heap.size ≤ k_) ∧ some k_ ≠ (v0_1 : Value).ownBlock ∧ k_ ≠ g0 ∧ k_ ≠ g7 ∧ k_ ≠ g27)) HF1_4.out (fun k_ hk_ => ⟨hk_.1, hk_.2.1, hk_.2.2.1, (by simp [Value.ownBlock]), hk_.2.2.2.1, hk_.2.2.2.2.1, hk_.2.2.2.2.2⟩))⟩, ⟨(Kd.N_mono (ok := (fun k_ => True ∧ (some k_ = (v0_1 : Value).ownBlock ∨ w.heap.size ≤ k_) ∧ k_ ≠ g0 ∧ k_ ≠ g7 ∧ k_ ≠ g27)) HN0_1.out (fun k_ hk_ => ⟨hk_.1, hk_.2.1, (by simp [Value.ownBlock]), hk_.2.2.1, hk_.2.2.2.1, hk_.2.2.2.2⟩))⟩, ⟨Kd.N_nil _ _ _ _ _⟩, ⟨HPp0_0.out⟩, ⟨(.inl rfl)⟩, ⟨BKg0.out⟩, ⟨BKg7.out⟩, ⟨BKg27.out⟩, ⟨HB.out⟩⟩
      case round =>
        clear hz29 hz30 hz31 hf32 hf33 hf34 hz35 hz36 hz37 hz38 hz39 hf40 hf41 hf42 hf43 hf44 hz45 hz46 hz47 hf48 hf49 hf50
        clear HH
        clear HFfr HF1_4 HN0_1 BKg0 BKg7 BKg27 HB
        obtain ⟨x54, x55, x57, v51, p52, p53, rfl, HA, HK0, HFfr, HF1_4, HN0_1, HN56, HPp52, HPp53, BKg0, BKg7, BKg27, HB⟩ := hrel
        obtain ⟨w59, rfl⟩ : ∃ wo_ : World, wo_ = wr := ⟨_, rfl⟩
        cases gk with
        | zero => exact absurd HA.out (by simp [ber_sheaf_lay.l0])
        | succ k58 =>
          have H := HA.out
          clear HA
          simp only [ber_sheaf_lay.l0] at H
          have HH := Aside0.mk H
          clear H
          obtain ⟨hz60, hz61, hz62, hf63, hf64, hf65⟩ := MB.lay3 BKg0.out
          obtain ⟨hz66, hz67, hz68, hz69, hz70, hf71, hf72, hf73, hf74, hf75⟩ := MB.lay5 BKg7.out
          obtain ⟨hz76, hz77, hz78, hf79, hf80, hf81⟩ := MB.lay3 BKg27.out
          by_cases c82 : x54 < (l1_4.length : Int)
          · have H := HH.out
            rw [if_pos c82] at H
            replace HH := Aside0.mk H
            clear H
            have hk83 : (x54 < (l1_4.length : Int)) = True := eq_true c82
            have hk84 : decide (x54 < (l1_4.length : Int)) = true := decide_eq_true c82
            clear c82
            by_cases c85 : 0 ≤ x54
            · have H := HH.out
              rw [if_pos c85] at H
              replace HH := Aside0.mk H
              clear H
              have hk86 : decide (0 ≤ x54) = true := decide_eq_true c85
              clear c85
              have p87 : 0 ≤ (x54 : Int) := of_decide_eq_true (by first | (with_reducible assumption) | assumption)
              have q87 : x54 < (l1_4.length : Int) := of_decide_eq_true (by first | (with_reducible assumption) | assumption)
              obtain ⟨ad87, A87_4, c87_4, e87, hx87_0, hx87_1, hx87_2, hx87_3, hx87_4, hl87_4, hi87_4⟩ := atF_T28 HF1_4.out x54 p87 q87
              cases e87
              have HF87_4 := Aside0.mk hi87_4
              have HL87_4 := Aside0.mk hl87_4
              clear hi87_4 hl87_4
              replace p87 := eq_true p87
              replace q87 := eq_true q87
              go_wp2_with (((with_reducible refine gate_dst (N := 8) rfl ?_); (try (refine gate_guard (by rfl) ?_; dsimp only)); refine box_event ?hg (N := 8) ?hd (cs := #[.int .i64 0, .bool false, .int .i64 0, .string (⟨#[]⟩ : ByteArray), .slice none 0 0]) (t := 28) ?hr ?_; (case hd => rfl); (case hg => rfl); (case hr => first | (go_simp; done) | (go_simp; rfl)); intro g88 hg w89 hbox hb); replace hg := Aside0.mk hg; replace hbox := Aside0.mk hbox; refine stop_ ?_)
              refine Stop.go ?_
              replace hg := hg.out
              replace hbox := hbox.out
              have GEg88 := Aside0.mk (by rw [hg]; exact (Nat.le_trans hB_.out (MB.bsize (a := B_) HB.out)) : B_ ≤ g88)
              replace HFfr := Aside0.mk (Kd.F_elderB HFfr.out g88 (Nat.le_of_eq hg.symm))
              replace HFfr := Aside0.mk (Kd.F_mono HFfr.out (fun k_ hk_ => ⟨hk_.1.1, hk_.1.2.1, hk_.1.2.2.1, hk_.1.2.2.2.1, hk_.1.2.2.2.2.1, hk_.1.2.2.2.2.2, hk_.2⟩) : Kd.F (MB.frK w P0_) _ (fun k_ => True ∧ some k_ ≠ (v0_1 : Value).ownBlock ∧ some k_ ≠ (v51 : Value).ownBlock ∧ k_ ≠ g0 ∧ k_ ≠ g7 ∧ k_ ≠ g27 ∧ k_ ≠ g88) _ _ _)
              replace HF1_4 := Aside0.mk (Kd.F_elderB HF1_4.out g88 (Nat.le_of_eq hg.symm))
              replace HF1_4 := Aside0.mk (Kd.F_mono HF1_4.out (fun k_ hk_ => ⟨hk_.1.1, hk_.1.2.1, hk_.1.2.2.1, hk_.1.2.2.2.1, hk_.1.2.2.2.2.1, hk_.1.2.2.2.2.2.1, hk_.1.2.2.2.2.2.2, hk_.2⟩) : Kd.F k28 _ (fun k_ => True ∧ (P_ k_ ∨ w.heap.size ≤ k_) ∧ some k_ ≠ (v0_1 : Value).ownBlock ∧ some k_ ≠ (v51 : Value).ownBlock ∧ k_ ≠ g0 ∧ k_ ≠ g7 ∧ k_ ≠ g27 ∧ k_ ≠ g88) _ _ _)
              replace HF87_4 := Aside0.mk (Kd.F_elderB HF87_4.out g88 (Nat.le_of_eq hg.symm))
              replace HF87_4 := Aside0.mk (Kd.F_mono HF87_4.out (fun k_ hk_ => ⟨hk_.1.1, hk_.1.2.1, hk_.1.2.2.1, hk_.1.2.2.2.1, hk_.1.2.2.2.2.1, hk_.1.2.2.2.2.2.1, hk_.1.2.2.2.2.2.2, hk_.2⟩) : Kd.F k28 _ (fun k_ => True ∧ (P_ k_ ∨ w.heap.size ≤ k_) ∧ some k_ ≠ (v0_1 : Value).ownBlock ∧ some k_ ≠ (v51 : Value).ownBlock ∧ k_ ≠ g0 ∧ k_ ≠ g7 ∧ k_ ≠ g27 ∧ k_ ≠ g88) _ _ _)
              replace HN0_1 := Aside0.mk (Kd.N_elderB HN0_1.out g88 (Nat.le_of_eq hg.symm))
              replace HN0_1 := Aside0.mk (Kd.N_mono HN0_1.out (fun k_ hk_ => ⟨hk_.1.1, hk_.1.2.1, hk_.1.2.2.1, hk_.1.2.2.2.1, hk_.1.2.2.2.2.1, hk_.1.2.2.2.2.2, hk_.2⟩) : Kd.N (Kd.int .u8) _ _ _ (fun k_ => True ∧ (some k_ = (v0_1 : Value).ownBlock ∨ w.heap.size ≤ k_) ∧ some k_ ≠ (v51 : Value).ownBlock ∧ k_ ≠ g0 ∧ k_ ≠ g7 ∧ k_ ≠ g27 ∧ k_ ≠ g88) _ _)
              replace HN56 := Aside0.mk (Kd.N_elderB HN56.out g88 (Nat.le_of_eq hg.symm))
              replace HN56 := Aside0.mk (Kd.N_mono HN56.out (fun k_ hk_ => ⟨hk_.1.1, hk_.1.2.1, hk_.1.2.2.1, hk_.1.2.2.2.1, hk_.1.2.2.2.2.1, hk_.1.2.2.2.2.2, hk_.2⟩) : Kd.N (Kd.int .u8) _ _ _ (fun k_ => True ∧ (P_ k_ ∨ w.heap.size ≤ k_) ∧ some k_ ≠ (v0_1 : Value).ownBlock ∧ k_ ≠ g0 ∧ k_ ≠ g7 ∧ k_ ≠ g27 ∧ k_ ≠ g88) _ _)
              have NEg0_g88 := Aside0.mk (by rw [hg]; exact Nat.ne_of_lt (blk_lt (o := .cells #[p52, v0_1, .bool false] 81 (0, 0)) BKg0.out) : g0 ≠ g88)
              have NEg88_g0 := Aside0.mk (Ne.symm NEg0_g88.out)
              have NEg7_g88 := Aside0.mk (by rw [hg]; exact Nat.ne_of_lt (blk_lt (o := .cells #[.int .i64 a1_0, .bool true, .int .i64 a1_2, .string a1_3, .slice (some ad87) l1_4.length c1_4] 28 (0, 0)) BKg7.out) : g7 ≠ g88)
              have NEg88_g7 := Aside0.mk (Ne.symm NEg7_g88.out)
              have NEg27_g88 := Aside0.mk (by rw [hg]; exact Nat.ne_of_lt (blk_lt (o := .cells #[p53, v51, .bool x57] 81 (0, 0)) BKg27.out) : g27 ≠ g88)
              have NEg88_g27 := Aside0.mk (Ne.symm NEg27_g88.out)
              replace HFfr := Aside0.mk (Kd.F_below HFfr.out hb)
              replace HF1_4 := Aside0.mk (Kd.F_below HF1_4.out hb)
              replace HF87_4 := Aside0.mk (Kd.F_below HF87_4.out hb)
              replace HN0_1 := Aside0.mk (Kd.N_below HN0_1.out hb)
              replace HN56 := Aside0.mk (Kd.N_below HN56.out hb)
              replace BKg0 := Aside0.mk (blk_below (o := .cells #[p52, v0_1, .bool false] 81 (0, 0)) BKg0.out hb)
              replace BKg7 := Aside0.mk (blk_below (o := .cells #[.int .i64 a1_0, .bool true, .int .i64 a1_2, .string a1_3, .slice (some ad87) l1_4.length c1_4] 28 (0, 0)) BKg7.out hb)
              replace BKg27 := Aside0.mk (blk_below (o := .cells #[p53, v51, .bool x57] 81 (0, 0)) BKg27.out hb)
              replace HB := Aside0.mk (MB.below_stepB hB_.out HB.out hb)
              have BKg88 := Aside0.mk hbox
              clear hg hbox hb
              clear hz60 hz61 hz62 hf63 hf64 hf65 hz66 hz67 hz68 hz69 hz70 hf71 hf72 hf73 hf74 hf75 hz76 hz77 hz78 hf79 hf80 hf81 hx87_0 hx87_1 hx87_2 hx87_3 hx87_4 p87 q87
              obtain ⟨hz90, hz91, hz92, hf93, hf94, hf95⟩ := MB.lay3 BKg0.out
              obtain ⟨hz96, hz97, hz98, hz99, hz100, hf101, hf102, hf103, hf104, hf105⟩ := MB.lay5 BKg7.out
              obtain ⟨hz106, hz107, hz108, hf109, hf110, hf111⟩ := MB.lay3 BKg27.out
              obtain ⟨hz112, hz113, hz114, hz115, hz116, hf117, hf118, hf119, hf120, hf121⟩ := MB.lay5 BKg88.out
              go_wp2_with (((with_reducible refine gate_store (t := 28) (p := 8) rfl ?_); (try (refine gate_guard (by rfl) ?_; dsimp only)); refine MW.ev_store #[.int .i64 ((rd_T28 l1_4 x54).f0), .bool ((rd_T28 l1_4 x54).f1), .int .i64 ((rd_T28 l1_4 x54).f2), .string ((rd_T28 l1_4 x54).f3), .slice A87_4 ((rd_T28 l1_4 x54).f4).length c87_4] rfl rfl rfl rfl (cs := #[.int .i64 0, .bool false, .int .i64 0, .string (⟨#[]⟩ : ByteArray), .slice none 0 0]) (ty := 28) BKg88.out [.int .i64 ((rd_T28 l1_4 x54).f0), .bool ((rd_T28 l1_4 x54).f1), .int .i64 ((rd_T28 l1_4 x54).f2), .string ((rd_T28 l1_4 x54).f3), .slice A87_4 ((rd_T28 l1_4 x54).f4).length c87_4] rfl (by kernel_rfl) (by simp) (by simp [Value.oneCell']) rfl ?_; intro w122 hbk hg); replace hbk := Aside0.mk hbk; refine stop_ ?_)
              refine Stop.go ?_
              replace hbk := hbk.out
              replace HFfr := Aside0.mk (Kd.F_grown (ok := (fun k_ => True ∧ some k_ ≠ (v0_1 : Value).ownBlock ∧ some k_ ≠ (v51 : Value).ownBlock ∧ k_ ≠ g0 ∧ k_ ≠ g7 ∧ k_ ≠ g27 ∧ k_ ≠ g88)) HFfr.out hg (fun k_ hk_ he_ => hk_.2.2.2.2.2.2 (Option.some.inj he_)))
              replace HF1_4 := Aside0.mk (Kd.F_grown (ok := (fun k_ => True ∧ (P_ k_ ∨ w.heap.size ≤ k_) ∧ some k_ ≠ (v0_1 : Value).ownBlock ∧ some k_ ≠ (v51 : Value).ownBlock ∧ k_ ≠ g0 ∧ k_ ≠ g7 ∧ k_ ≠ g27 ∧ k_ ≠ g88)) HF1_4.out hg (fun k_ hk_ he_ => hk_.2.2.2.2.2.2.2 (Option.some.inj he_)))
              replace HF87_4 := Aside0.mk (Kd.F_grown (ok := (fun k_ => True ∧ (P_ k_ ∨ w.heap.size ≤ k_) ∧ some k_ ≠ (v0_1 : Value).ownBlock ∧ some k_ ≠ (v51 : Value).ownBlock ∧ k_ ≠ g0 ∧ k_ ≠ g7 ∧ k_ ≠ g27 ∧ k_ ≠ g88)) HF87_4.out hg (fun k_ hk_ he_ => hk_.2.2.2.2.2.2.2 (Option.some.inj he_)))
              replace HN0_1 := Aside0.mk (Kd.N_grown (ok := (fun k_ => True ∧ (some k_ = (v0_1 : Value).ownBlock ∨ w.heap.size ≤ k_) ∧ some k_ ≠ (v51 : Value).ownBlock ∧ k_ ≠ g0 ∧ k_ ≠ g7 ∧ k_ ≠ g27 ∧ k_ ≠ g88)) HN0_1.out hg (fun k_ hk_ he_ => hk_.2.2.2.2.2.2 (Option.some.inj he_)))
              replace HN56 := Aside0.mk (Kd.N_grown (ok := (fun k_ => True ∧ (P_ k_ ∨ w.heap.size ≤ k_) ∧ some k_ ≠ (v0_1 : Value).ownBlock ∧ k_ ≠ g0 ∧ k_ ≠ g7 ∧ k_ ≠ g27 ∧ k_ ≠ g88)) HN56.out hg (fun k_ hk_ he_ => hk_.2.2.2.2.2.2 (Option.some.inj he_)))
              replace BKg0 := Aside0.mk (blk_grown (o := .cells #[p52, v0_1, .bool false] 81 (0, 0)) BKg0.out hg (fun he_ => NEg0_g88.out (Option.some.inj he_)))
              replace BKg7 := Aside0.mk (blk_grown (o := .cells #[.int .i64 a1_0, .bool true, .int .i64 a1_2, .string a1_3, .slice (some ad87) l1_4.length c1_4] 28 (0, 0)) BKg7.out hg (fun he_ => NEg7_g88.out (Option.some.inj he_)))
              replace BKg27 := Aside0.mk (blk_grown (o := .cells #[p53, v51, .bool x57] 81 (0, 0)) BKg27.out hg (fun he_ => NEg27_g88.out (Option.some.inj he_)))
              replace HB := Aside0.mk (Below.grown HB.out hg (Nat.le_trans hB_.out (MB.bsize (a := B_) HB.out)) (fun k_ hk_ => by injection hk_ with hk_; rw [← hk_]; exact GEg88.out))
              replace BKg88 := Aside0.mk hbk
              clear hg hbk
              clear hz90 hz91 hz92 hf93 hf94 hf95 hz96 hz97 hz98 hz99 hz100 hf101 hf102 hf103 hf104 hf105 hz106 hz107 hz108 hf109 hf110 hf111 hz112 hz113 hz114 hz115 hz116 hf117 hf118 hf119 hf120 hf121
              obtain ⟨hz123, hz124, hz125, hf126, hf127, hf128⟩ := MB.lay3 BKg0.out
              obtain ⟨hz129, hz130, hz131, hz132, hz133, hf134, hf135, hf136, hf137, hf138⟩ := MB.lay5 BKg7.out
              obtain ⟨hz139, hz140, hz141, hf142, hf143, hf144⟩ := MB.lay3 BKg27.out
              obtain ⟨hz145, hz146, hz147, hz148, hz149, hf150, hf151, hf152, hf153, hf154⟩ := MB.lay5 BKg88.out
              obtain ⟨A155, cp156, he_⟩ := Kd.N_slice HN56.out
              subst he_
              have H := HH.out
              replace H := Option.bind_eq_some_iff.mp H
              obtain ⟨⟨t157, t158⟩, at_, H⟩ := H
              have At159 := Aside0.mk at_
              clear at_
              replace HH := Aside0.mk (show ((ber_sheaf_lay.l0 k58 (wrap64 (x54 + 1)) t157 t158 a1_0 a1_2 l0_1 l1_4)) = some (r1, r2) from H)
              clear H
              go_wp2_with (((with_reducible refine gate_callee (f := 41) rfl ?_); (try (refine gate_guard (by rfl) ?_; dsimp only)); refine goesL_ (some 34) rfl rfl Try.func41 (by kernel_rfl) rfl #[.pointer (some ⟨g27, 0, none⟩), .agg #[.int .i64 ((rd_T28 l1_4 x54).f0), .bool ((rd_T28 l1_4 x54).f1), .int .i64 ((rd_T28 l1_4 x54).f2), .string ((rd_T28 l1_4 x54).f3), .slice A87_4 ((rd_T28 l1_4 x54).f4).length c87_4]] rfl (by (try simp only [List.map_toArray, List.map_cons, List.map_nil]); first | done | rfl) ?_; refine (ih k58 (by have := HK0.out; omega) (fun k_ => True ∧ (P_ k_ ∨ w.heap.size ≤ k_) ∧ some k_ ≠ (v0_1 : Value).ownBlock ∧ some k_ ≠ ((.slice A155 x55.length cp156) : Value).ownBlock ∧ k_ ≠ g0 ∧ k_ ≠ g7 ∧ k_ ≠ g27 ∧ k_ ≠ g88) B_ g27 (p53) ((.slice A155 x55.length cp156)) x55 x57 ((rd_T28 l1_4 x54).f0) ((rd_T28 l1_4 x54).f1) ((rd_T28 l1_4 x54).f2) ((rd_T28 l1_4 x54).f3) _ _ ((rd_T28 l1_4 x54).f4) t157 t158 _ (Nat.le_trans hB_.out (MB.bsize (a := B_) HB.out)) (fun k_ hk_ => hk_.2.2.2.2.2.2.1) (fun k_ hk_ => hk_.2.2.2.1) BKg27.out GEg27.out HPp53.out (Kd.N_mono (MB.N_only HN56.out) (fun k_ hk_ => ⟨trivial, .inl hk_, (fun hk_ => hk_.2.2.2.2.2.1) (HN56.out.1 k_ hk_.symm)⟩)) (Kd.F_mono (ok := (fun k_ => True ∧ (P_ k_ ∨ w.heap.size ≤ k_) ∧ some k_ ≠ (v0_1 : Value).ownBlock ∧ some k_ ≠ ((.slice A155 x55.length cp156) : Value).ownBlock ∧ k_ ≠ g0 ∧ k_ ≠ g7 ∧ k_ ≠ g27 ∧ k_ ≠ g88)) HF87_4.out (fun k_ hk_ => ⟨hk_.1, hk_.2.1, hk_.2.2.1, hk_.2.2.2.1, hk_.2.2.2.2.1, hk_.2.2.2.2.2.1, hk_.2.2.2.2.2.2.1, hk_.2.2.2.2.2.2.2⟩)) HL87_4.out At159.out).mono ?_; rintro e w160 ⟨v161, p162, rfl, hn1, hp1, hbk, hfr, hb⟩; refine ⟨_, rfl, ?_⟩); replace hbk := Aside0.mk hbk; replace hfr := Aside0.mk hfr; replace hp1 := Aside0.mk hp1; refine stop_ ?_)
              refine Stop.go ?_
              replace hbk := hbk.out
              replace hfr := hfr.out
              replace hp1 := hp1.out
              have hat1 : ∀ k_ : Nat, (v161 : Value).ownBlock = some k_ → some k_ = ((.slice A155 x55.length cp156) : Value).ownBlock ∨ w122.heap.size ≤ k_ := fun k_ h_ => (hn1.1 k_ h_).2.1
              have HN163 := Aside0.mk (Kd.N_mono hn1 (fun k_ hk_ => hk_.2.1.elim (fun h_ => HN56.out.1 k_ h_.symm) (fun h_ => ⟨trivial, (.inr (Nat.le_trans (MB.bsize (a := B_) HB.out) h_)), Kd.fresh' (Kd.N_lt HN0_1.out) k_ h_, Kd.freshB (o := .cells #[p52, v0_1, .bool false] 81 (0, 0)) BKg0.out k_ h_, Kd.freshB (o := .cells #[.int .i64 a1_0, .bool true, .int .i64 a1_2, .string a1_3, .slice (some ad87) l1_4.length c1_4] 28 (0, 0)) BKg7.out k_ h_, Kd.freshB (o := .cells #[p53, (.slice A155 x55.length cp156), .bool x57] 81 (0, 0)) BKg27.out k_ h_, Kd.freshB (o := .cells #[.int .i64 ((rd_T28 l1_4 x54).f0), .bool ((rd_T28 l1_4 x54).f1), .int .i64 ((rd_T28 l1_4 x54).f2), .string ((rd_T28 l1_4 x54).f3), .slice A87_4 ((rd_T28 l1_4 x54).f4).length c87_4] 28 (0, 0)) BKg88.out k_ h_⟩)) : Kd.N (Kd.int .u8) 5 w160 B_ (fun k_ => True ∧ (P_ k_ ∨ w.heap.size ≤ k_) ∧ some k_ ≠ (v0_1 : Value).ownBlock ∧ k_ ≠ g0 ∧ k_ ≠ g7 ∧ k_ ≠ g27 ∧ k_ ≠ g88) v161 t157)
              replace HFfr := Aside0.mk (Kd.F_mono (MB.F_ptr (ok := (fun k_ => True ∧ some k_ ≠ (v0_1 : Value).ownBlock ∧ some k_ ≠ ((.slice A155 x55.length cp156) : Value).ownBlock ∧ k_ ≠ g0 ∧ k_ ≠ g7 ∧ k_ ≠ g27 ∧ k_ ≠ g88)) HFfr.out hfr (fun k_ hk_ => hk_.2.2.2.2.2.1) (fun k_ hk_ => hk_.2.2.1)) (fun k_ hk_ => ⟨hk_.1.1, hk_.1.2.1, hk_.1.2.2.2.1, hk_.1.2.2.2.2.1, hk_.1.2.2.2.2.2.1, hk_.1.2.2.2.2.2.2, (fun he_ => (hat1 k_ he_.symm).elim (fun h_ => absurd h_ (hk_.1.2.2.1)) (fun h_ => absurd hk_.2 (Nat.not_lt.2 h_)))⟩) : Kd.F (MB.frK w P0_) _ (fun k_ => True ∧ some k_ ≠ (v0_1 : Value).ownBlock ∧ k_ ≠ g0 ∧ k_ ≠ g7 ∧ k_ ≠ g27 ∧ k_ ≠ g88 ∧ some k_ ≠ (v161 : Value).ownBlock) _ _ _)
              replace HF1_4 := Aside0.mk (Kd.F_mono (MB.F_ptr (ok := (fun k_ => True ∧ (P_ k_ ∨ w.heap.size ≤ k_) ∧ some k_ ≠ (v0_1 : Value).ownBlock ∧ some k_ ≠ ((.slice A155 x55.length cp156) : Value).ownBlock ∧ k_ ≠ g0 ∧ k_ ≠ g7 ∧ k_ ≠ g27 ∧ k_ ≠ g88)) HF1_4.out hfr (fun k_ hk_ => hk_.2.2.2.2.2.2.1) (fun k_ hk_ => hk_.2.2.2.1)) (fun k_ hk_ => ⟨hk_.1.1, hk_.1.2.1, hk_.1.2.2.1, hk_.1.2.2.2.2.1, hk_.1.2.2.2.2.2.1, hk_.1.2.2.2.2.2.2.1, hk_.1.2.2.2.2.2.2.2, (fun he_ => (hat1 k_ he_.symm).elim (fun h_ => absurd h_ (hk_.1.2.2.2.1)) (fun h_ => absurd hk_.2 (Nat.not_lt.2 h_)))⟩) : Kd.F k28 _ (fun k_ => True ∧ (P_ k_ ∨ w.heap.size ≤ k_) ∧ some k_ ≠ (v0_1 : Value).ownBlock ∧ k_ ≠ g0 ∧ k_ ≠ g7 ∧ k_ ≠ g27 ∧ k_ ≠ g88 ∧ some k_ ≠ (v161 : Value).ownBlock) _ _ _)
              replace HF87_4 := Aside0.mk (Kd.F_mono (MB.F_ptr (ok := (fun k_ => True ∧ (P_ k_ ∨ w.heap.size ≤ k_) ∧ some k_ ≠ (v0_1 : Value).ownBlock ∧ some k_ ≠ ((.slice A155 x55.length cp156) : Value).ownBlock ∧ k_ ≠ g0 ∧ k_ ≠ g7 ∧ k_ ≠ g27 ∧ k_ ≠ g88)) HF87_4.out hfr (fun k_ hk_ => hk_.2.2.2.2.2.2.1) (fun k_ hk_ => hk_.2.2.2.1)) (fun k_ hk_ => ⟨hk_.1.1, hk_.1.2.1, hk_.1.2.2.1, hk_.1.2.2.2.2.1, hk_.1.2.2.2.2.2.1, hk_.1.2.2.2.2.2.2.1, hk_.1.2.2.2.2.2.2.2, (fun he_ => (hat1 k_ he_.symm).elim (fun h_ => absurd h_ (hk_.1.2.2.2.1)) (fun h_ => absurd hk_.2 (Nat.not_lt.2 h_)))⟩) : Kd.F k28 _ (fun k_ => True ∧ (P_ k_ ∨ w.heap.size ≤ k_) ∧ some k_ ≠ (v0_1 : Value).ownBlock ∧ k_ ≠ g0 ∧ k_ ≠ g7 ∧ k_ ≠ g27 ∧ k_ ≠ g88 ∧ some k_ ≠ (v161 : Value).ownBlock) _ _ _)
              replace HN0_1 := Aside0.mk (Kd.N_mono (MB.N_ptr (ok := (fun k_ => True ∧ (some k_ = (v0_1 : Value).ownBlock ∨ w.heap.size ≤ k_) ∧ some k_ ≠ ((.slice A155 x55.length cp156) : Value).ownBlock ∧ k_ ≠ g0 ∧ k_ ≠ g7 ∧ k_ ≠ g27 ∧ k_ ≠ g88)) HN0_1.out hfr (fun k_ hk_ => hk_.2.2.2.2.2.1) (fun k_ hk_ => hk_.2.2.1)) (fun k_ hk_ => ⟨hk_.1.1, hk_.1.2.1, hk_.1.2.2.2.1, hk_.1.2.2.2.2.1, hk_.1.2.2.2.2.2.1, hk_.1.2.2.2.2.2.2, (fun he_ => (hat1 k_ he_.symm).elim (fun h_ => absurd h_ (hk_.1.2.2.1)) (fun h_ => absurd hk_.2 (Nat.not_lt.2 h_)))⟩) : Kd.N (Kd.int .u8) _ _ _ (fun k_ => True ∧ (some k_ = (v0_1 : Value).ownBlock ∨ w.heap.size ≤ k_) ∧ k_ ≠ g0 ∧ k_ ≠ g7 ∧ k_ ≠ g27 ∧ k_ ≠ g88 ∧ some k_ ≠ (v161 : Value).ownBlock) _ _)
              replace BKg0 := Aside0.mk (MB.blk_ptr (o := .cells #[p52, v0_1, .bool false] 81 (0, 0)) BKg0.out hfr NEg0_g27.out (Kd.N_away (ok := (fun k_ => True ∧ (P_ k_ ∨ w.heap.size ≤ k_) ∧ some k_ ≠ (v0_1 : Value).ownBlock ∧ k_ ≠ g0 ∧ k_ ≠ g7 ∧ k_ ≠ g27 ∧ k_ ≠ g88)) HN56.out (fun k_ hk_ => hk_.2.2.2.1)))
              replace BKg7 := Aside0.mk (MB.blk_ptr (o := .cells #[.int .i64 a1_0, .bool true, .int .i64 a1_2, .string a1_3, .slice (some ad87) l1_4.length c1_4] 28 (0, 0)) BKg7.out hfr NEg7_g27.out (Kd.N_away (ok := (fun k_ => True ∧ (P_ k_ ∨ w.heap.size ≤ k_) ∧ some k_ ≠ (v0_1 : Value).ownBlock ∧ k_ ≠ g0 ∧ k_ ≠ g7 ∧ k_ ≠ g27 ∧ k_ ≠ g88)) HN56.out (fun k_ hk_ => hk_.2.2.2.2.1)))
              replace BKg88 := Aside0.mk (MB.blk_ptr (o := .cells #[.int .i64 ((rd_T28 l1_4 x54).f0), .bool ((rd_T28 l1_4 x54).f1), .int .i64 ((rd_T28 l1_4 x54).f2), .string ((rd_T28 l1_4 x54).f3), .slice A87_4 ((rd_T28 l1_4 x54).f4).length c87_4] 28 (0, 0)) BKg88.out hfr NEg88_g27.out (Kd.N_away (ok := (fun k_ => True ∧ (P_ k_ ∨ w.heap.size ≤ k_) ∧ some k_ ≠ (v0_1 : Value).ownBlock ∧ k_ ≠ g0 ∧ k_ ≠ g7 ∧ k_ ≠ g27 ∧ k_ ≠ g88)) HN56.out (fun k_ hk_ => hk_.2.2.2.2.2.2)))
              replace HB := Aside0.mk (Below.trans HB.out hb)
              replace BKg27 := Aside0.mk hbk
              have HPp162 := Aside0.mk hp1
              clear hbk hfr hb hp1 hn1 hat1
              clear HN56
              clear hz123 hz124 hz125 hf126 hf127 hf128 hz129 hz130 hz131 hz132 hz133 hf134 hf135 hf136 hf137 hf138 hz139 hz140 hz141 hf142 hf143 hf144 hz145 hz146 hz147 hz148 hz149 hf150 hf151 hf152 hf153 hf154
              obtain ⟨hz164, hz165, hz166, hf167, hf168, hf169⟩ := MB.lay3 BKg0.out
              obtain ⟨hz170, hz171, hz172, hz173, hz174, hf175, hf176, hf177, hf178, hf179⟩ := MB.lay5 BKg7.out
              obtain ⟨hz180, hz181, hz182, hf183, hf184, hf185⟩ := MB.lay3 BKg27.out
              obtain ⟨hz186, hz187, hz188, hz189, hz190, hf191, hf192, hf193, hf194, hf195⟩ := MB.lay5 BKg88.out
              go_wp2
              go_roundg k58
              case measure => have := HK0.out; omega
              case rel => exact ⟨wrap64 (x54 + 1), t157, t158, v161, p52, p162, (by first | rfl | (simp; done) | (simp [*]; done)), HH, ⟨by have := HK0.out; omega⟩, ⟨(Kd.F_mono (ok := (fun k_ => True ∧ some k_ ≠ (v0_1 : Value).ownBlock ∧ k_ ≠ g0 ∧ k_ ≠ g7 ∧ k_ ≠ g27 ∧ k_ ≠ g88 ∧ some k_ ≠ (v161 : Value).ownBlock)) HFfr.out (fun k_ hk_ => ⟨hk_.1, hk_.2.1, hk_.2.2.2.2.2.2, hk_.2.2.1, hk_.2.2.2.1, hk_.2.2.2.2.1⟩))⟩, ⟨(Kd.F_mono (ok := (fun k_ => True ∧ (P_ k_ ∨ w.heap.size ≤ k_) ∧ some k_ ≠ (v0_1 : Value).ownBlock ∧ k_ ≠ g0 ∧ k_ ≠ g7 ∧ k_ ≠ g27 ∧ k_ ≠ g88 ∧ some k_ ≠ (v161 : Value).ownBlock)) HF1_4.out (fun k_ hk_ => ⟨hk_.1, hk_.2.1, hk_.2.2.1, hk_.2.2.2.2.2.2.2, hk_.2.2.2.1, hk_.2.2.2.2.1, hk_.2.2.2.2.2.1⟩))⟩, ⟨(Kd.N_mono (ok := (fun k_ => True ∧ (some k_ = (v0_1 : Value).ownBlock ∨ w.heap.size ≤ k_) ∧ k_ ≠ g0 ∧ k_ ≠ g7 ∧ k_ ≠ g27 ∧ k_ ≠ g88 ∧ some k_ ≠ (v161 : Value).ownBlock)) HN0_1.out (fun k_ hk_ => ⟨hk_.1, hk_.2.1, hk_.2.2.2.2.2.2, hk_.2.2.1, hk_.2.2.2.1, hk_.2.2.2.2.1⟩))⟩, ⟨(Kd.N_mono (ok := (fun k_ => True ∧ (P_ k_ ∨ w.heap.size ≤ k_) ∧ some k_ ≠ (v0_1 : Value).ownBlock ∧ k_ ≠ g0 ∧ k_ ≠ g7 ∧ k_ ≠ g27 ∧ k_ ≠ g88)) HN163.out (fun k_ hk_ => ⟨hk_.1, hk_.2.1, hk_.2.2.1, hk_.2.2.2.1, hk_.2.2.2.2.1, hk_.2.2.2.2.2.1⟩))⟩, ⟨HPp52.out⟩, ⟨HPp162.out⟩, ⟨BKg0.out⟩, ⟨BKg7.out⟩, ⟨BKg27.out⟩, ⟨HB.out⟩⟩
            · exact absurd HH.out (by rw [if_neg c85]; simp)
          · have H := HH.out
            rw [if_neg c82] at H
            replace HH := Aside0.mk H
            clear H
            have hk197 : (x54 < (l1_4.length : Int)) = False := eq_false c82
            have hk198 : decide (x54 < (l1_4.length : Int)) = false := decide_eq_false c82
            clear c82
            obtain ⟨A200, cp201, he_⟩ := Kd.N_slice HN0_1.out
            subst he_
            go_wp2_with (((with_reducible refine gate_store (t := 4) (p := 46) rfl ?_); (try (refine gate_guard (by rfl) ?_; dsimp only)); refine MW.ev_store #[p52, (.slice A200 l0_1.length cp201), .bool x57] rfl rfl rfl rfl (cs := #[p52, (.slice A200 l0_1.length cp201), .bool false]) (ty := 81) BKg0.out [.bool x57] rfl (by kernel_rfl) (by simp) (by simp [Value.oneCell']) rfl ?_; intro w199 hbk hg); replace hbk := Aside0.mk hbk; refine stop_ ?_)
            refine Stop.go ?_
            replace hbk := hbk.out
            replace HFfr := Aside0.mk (Kd.F_grown (ok := (fun k_ => True ∧ some k_ ≠ ((.slice A200 l0_1.length cp201) : Value).ownBlock ∧ some k_ ≠ (v51 : Value).ownBlock ∧ k_ ≠ g0 ∧ k_ ≠ g7 ∧ k_ ≠ g27)) HFfr.out hg (fun k_ hk_ he_ => hk_.2.2.2.1 (Option.some.inj he_)))
            replace HF1_4 := Aside0.mk (Kd.F_grown (ok := (fun k_ => True ∧ (P_ k_ ∨ w.heap.size ≤ k_) ∧ some k_ ≠ ((.slice A200 l0_1.length cp201) : Value).ownBlock ∧ some k_ ≠ (v51 : Value).ownBlock ∧ k_ ≠ g0 ∧ k_ ≠ g7 ∧ k_ ≠ g27)) HF1_4.out hg (fun k_ hk_ he_ => hk_.2.2.2.2.1 (Option.some.inj he_)))
            replace HN0_1 := Aside0.mk (Kd.N_grown (ok := (fun k_ => True ∧ (some k_ = ((.slice A200 l0_1.length cp201) : Value).ownBlock ∨ w.heap.size ≤ k_) ∧ some k_ ≠ (v51 : Value).ownBlock ∧ k_ ≠ g0 ∧ k_ ≠ g7 ∧ k_ ≠ g27)) HN0_1.out hg (fun k_ hk_ he_ => hk_.2.2.2.1 (Option.some.inj he_)))
            replace HN56 := Aside0.mk (Kd.N_grown (ok := (fun k_ => True ∧ (P_ k_ ∨ w.heap.size ≤ k_) ∧ some k_ ≠ ((.slice A200 l0_1.length cp201) : Value).ownBlock ∧ k_ ≠ g0 ∧ k_ ≠ g7 ∧ k_ ≠ g27)) HN56.out hg (fun k_ hk_ he_ => hk_.2.2.2.1 (Option.some.inj he_)))
            replace BKg7 := Aside0.mk (blk_grown (o := .cells #[.int .i64 a1_0, .bool true, .int .i64 a1_2, .string a1_3, .slice A1_4 l1_4.length c1_4] 28 (0, 0)) BKg7.out hg (fun he_ => NEg7_g0.out (Option.some.inj he_)))
            replace BKg27 := Aside0.mk (blk_grown (o := .cells #[p53, v51, .bool x57] 81 (0, 0)) BKg27.out hg (fun he_ => NEg27_g0.out (Option.some.inj he_)))
            replace HB := Aside0.mk (Below.grown HB.out hg (Nat.le_trans hB_.out (MB.bsize (a := B_) HB.out)) (fun k_ hk_ => by injection hk_ with hk_; rw [← hk_]; exact GEg0.out))
            replace BKg0 := Aside0.mk hbk
            clear hg hbk
            clear hz60 hz61 hz62 hf63 hf64 hf65 hz66 hz67 hz68 hz69 hz70 hf71 hf72 hf73 hf74 hf75 hz76 hz77 hz78 hf79 hf80 hf81
            obtain ⟨hz202, hz203, hz204, hf205, hf206, hf207⟩ := MB.lay3 BKg0.out
            obtain ⟨hz208, hz209, hz210, hz211, hz212, hf213, hf214, hf215, hf216, hf217⟩ := MB.lay5 BKg7.out
            obtain ⟨hz218, hz219, hz220, hf221, hf222, hf223⟩ := MB.lay3 BKg27.out
            obtain ⟨A224, cp225, he_⟩ := Kd.N_slice HN56.out
            subst he_
            go_wp2_with (((with_reducible refine gate_callee (f := 42) rfl ?_); (try (refine gate_guard (by rfl) ?_; dsimp only)); refine goesL_ (some 48) rfl rfl Try.func42 (by kernel_rfl) rfl #[.pointer (some ⟨g27, 0, none⟩)] rfl (by (try simp only [List.map_toArray, List.map_cons, List.map_nil]); first | done | rfl) ?_; refine (bString42 g27 81 (p53) ((.slice A224 x55.length cp225)) [.bool x57] B_ (fun k_ => True ∧ (P_ k_ ∨ w.heap.size ≤ k_) ∧ some k_ ≠ ((.slice A200 l0_1.length cp201) : Value).ownBlock ∧ k_ ≠ g0 ∧ k_ ≠ g7 ∧ k_ ≠ g27) x55 _ BKg27.out HN56.out).mono ?_; rintro e w226 ⟨rfl, hg⟩; refine ⟨_, rfl, ?_⟩); refine stop_ ?_)
            refine Stop.go ?_
            replace HFfr := Aside0.mk (Kd.F_mono (Kd.F_grown (ok := (fun k_ => True ∧ some k_ ≠ ((.slice A200 l0_1.length cp201) : Value).ownBlock ∧ some k_ ≠ ((.slice A224 x55.length cp225) : Value).ownBlock ∧ k_ ≠ g0 ∧ k_ ≠ g7 ∧ k_ ≠ g27)) HFfr.out hg (fun k_ hk_ => hk_.2.2.1)) (fun k_ hk_ => ⟨hk_.1, hk_.2.1, hk_.2.2.2.1, hk_.2.2.2.2.1, hk_.2.2.2.2.2⟩) : Kd.F (MB.frK w P0_) _ (fun k_ => True ∧ some k_ ≠ ((.slice A200 l0_1.length cp201) : Value).ownBlock ∧ k_ ≠ g0 ∧ k_ ≠ g7 ∧ k_ ≠ g27) _ _ _)
            replace HF1_4 := Aside0.mk (Kd.F_mono (Kd.F_grown (ok := (fun k_ => True ∧ (P_ k_ ∨ w.heap.size ≤ k_) ∧ some k_ ≠ ((.slice A200 l0_1.length cp201) : Value).ownBlock ∧ some k_ ≠ ((.slice A224 x55.length cp225) : Value).ownBlock ∧ k_ ≠ g0 ∧ k_ ≠ g7 ∧ k_ ≠ g27)) HF1_4.out hg (fun k_ hk_ => hk_.2.2.2.1)) (fun k_ hk_ => ⟨hk_.1, hk_.2.1, hk_.2.2.1, hk_.2.2.2.2.1, hk_.2.2.2.2.2.1, hk_.2.2.2.2.2.2⟩) : Kd.F k28 _ (fun k_ => True ∧ (P_ k_ ∨ w.heap.size ≤ k_) ∧ some k_ ≠ ((.slice A200 l0_1.length cp201) : Value).ownBlock ∧ k_ ≠ g0 ∧ k_ ≠ g7 ∧ k_ ≠ g27) _ _ _)
            replace HN0_1 := Aside0.mk (Kd.N_mono (Kd.N_grown (ok := (fun k_ => True ∧ (some k_ = ((.slice A200 l0_1.length cp201) : Value).ownBlock ∨ w.heap.size ≤ k_) ∧ some k_ ≠ ((.slice A224 x55.length cp225) : Value).ownBlock ∧ k_ ≠ g0 ∧ k_ ≠ g7 ∧ k_ ≠ g27)) HN0_1.out hg (fun k_ hk_ => hk_.2.2.1)) (fun k_ hk_ => ⟨hk_.1, hk_.2.1, hk_.2.2.2.1, hk_.2.2.2.2.1, hk_.2.2.2.2.2⟩) : Kd.N (Kd.int .u8) _ _ _ (fun k_ => True ∧ (some k_ = ((.slice A200 l0_1.length cp201) : Value).ownBlock ∨ w.heap.size ≤ k_) ∧ k_ ≠ g0 ∧ k_ ≠ g7 ∧ k_ ≠ g27) _ _)
            replace BKg0 := Aside0.mk (blk_grown (o := .cells #[p52, (.slice A200 l0_1.length cp201), .bool x57] 81 (0, 0)) BKg0.out hg (Kd.N_away (ok := (fun k_ => True ∧ (P_ k_ ∨ w.heap.size ≤ k_) ∧ some k_ ≠ ((.slice A200 l0_1.length cp201) : Value).ownBlock ∧ k_ ≠ g0 ∧ k_ ≠ g7 ∧ k_ ≠ g27)) HN56.out (fun k_ hk_ => hk_.2.2.2.1)))
            replace BKg7 := Aside0.mk (blk_grown (o := .cells #[.int .i64 a1_0, .bool true, .int .i64 a1_2, .string a1_3, .slice A1_4 l1_4.length c1_4] 28 (0, 0)) BKg7.out hg (Kd.N_away (ok := (fun k_ => True ∧ (P_ k_ ∨ w.heap.size ≤ k_) ∧ some k_ ≠ ((.slice A200 l0_1.length cp201) : Value).ownBlock ∧ k_ ≠ g0 ∧ k_ ≠ g7 ∧ k_ ≠ g27)) HN56.out (fun k_ hk_ => hk_.2.2.2.2.1)))
            replace BKg27 := Aside0.mk (blk_grown (o := .cells #[p53, (.slice A224 x55.length cp225), .bool x57] 81 (0, 0)) BKg27.out hg (Kd.N_away (ok := (fun k_ => True ∧ (P_ k_ ∨ w.heap.size ≤ k_) ∧ some k_ ≠ ((.slice A200 l0_1.length cp201) : Value).ownBlock ∧ k_ ≠ g0 ∧ k_ ≠ g7 ∧ k_ ≠ g27)) HN56.out (fun k_ hk_ => hk_.2.2.2.2.2)))
            replace HB := Aside0.mk (Below.grown HB.out hg (Nat.le_trans hB_.out (MB.bsize (a := B_) HB.out)) (Kd.N_base HN56.out))
            clear hg HN56
            clear hz202 hz203 hz204 hf205 hf206 hf207 hz208 hz209 hz210 hz211 hz212 hf213 hf214 hf215 hf216 hf217 hz218 hz219 hz220 hf221 hf222 hf223
            obtain ⟨hz227, hz228, hz229, hf230, hf231, hf232⟩ := MB.lay3 BKg0.out
            obtain ⟨hz233, hz234, hz235, hz236, hz237, hf238, hf239, hf240, hf241, hf242⟩ := MB.lay5 BKg7.out
            obtain ⟨hz243, hz244, hz245, hf246, hf247, hf248⟩ := MB.lay3 BKg27.out
            go_wp2_with (((with_reducible refine gate_dst (N := 51) rfl ?_); (try (refine gate_guard (by rfl) ?_; dsimp only)); refine Kd.N_lit (Kd.int .u8) B_ 5 rfl (N' := 51) rfl (xs := ([Go.bits .or .u8 ((Go.bits .or .i64 (wrap64 (a1_0 * 64)) a1_2) % 256) 32] : List Int)) (inner := [.int .u8 (Go.bits .or .u8 ((Go.bits .or .i64 (wrap64 (a1_0 * 64)) a1_2) % 256) 32)]) (ok := (fun k_ => True ∧ (P_ k_ ∨ w.heap.size ≤ k_) ∧ some k_ ≠ ((.slice A200 l0_1.length cp201) : Value).ownBlock ∧ k_ ≠ g0 ∧ k_ ≠ g7 ∧ k_ ≠ g27)) (okp := (fun k_ => True ∧ (P_ k_ ∨ w.heap.size ≤ k_) ∧ some k_ ≠ ((.slice A200 l0_1.length cp201) : Value).ownBlock ∧ k_ ≠ g0 ∧ k_ ≠ g7 ∧ k_ ≠ g27)) ?hr ?hp (fun _ hk_ => hk_) ?hf HB.out (Nat.le_trans hB_.out (MB.bsize (a := B_) HB.out)) (by first | simp | decide) ?_; (case hr => first | (go_simp; done) | (go_simp; rfl)); (case hp => exact (Reps.one (fun _ _ => rfl) (Reps.none _ _))); (case hf => exact (show ∀ k_, w226.heap.size ≤ k_ → (fun k_ => True ∧ (P_ k_ ∨ w.heap.size ≤ k_) ∧ some k_ ≠ ((.slice A200 l0_1.length cp201) : Value).ownBlock ∧ k_ ≠ g0 ∧ k_ ≠ g7 ∧ k_ ≠ g27) k_ from fun k_ h_ => ⟨trivial, (.inr (Nat.le_trans (MB.bsize (a := B_) HB.out) h_)), Kd.fresh' (Kd.N_lt HN0_1.out) k_ h_, Kd.freshB (o := .cells #[p52, (.slice A200 l0_1.length cp201), .bool x57] 81 (0, 0)) BKg0.out k_ h_, Kd.freshB (o := .cells #[.int .i64 a1_0, .bool true, .int .i64 a1_2, .string a1_3, .slice A1_4 l1_4.length c1_4] 28 (0, 0)) BKg7.out k_ h_, Kd.freshB (o := .cells #[p53, (.slice A224 x55.length cp225), .bool x57] 81 (0, 0)) BKg27.out k_ h_⟩) _ (Nat.le_refl _)); intro v249 w250 hn1 hb1 hg1 hat1); replace hat1 := Aside0.mk hat1; refine stop_ ?_)
            refine Stop.go ?_
            replace hat1 := hat1.out
            have hbe := MW.grown_below hg1
            have hba := MW.base_of hat1
            replace HFfr := Aside0.mk (Kd.F_mono (Kd.F_elder' (ok := (fun k_ => True ∧ some k_ ≠ ((.slice A200 l0_1.length cp201) : Value).ownBlock ∧ k_ ≠ g0 ∧ k_ ≠ g7 ∧ k_ ≠ g27)) HFfr.out hba hbe) (fun k_ hk_ => ⟨hk_.1.1, hk_.1.2.1, hk_.1.2.2.1, hk_.1.2.2.2.1, hk_.1.2.2.2.2, hk_.2⟩) : Kd.F (MB.frK w P0_) _ (fun k_ => True ∧ some k_ ≠ ((.slice A200 l0_1.length cp201) : Value).ownBlock ∧ k_ ≠ g0 ∧ k_ ≠ g7 ∧ k_ ≠ g27 ∧ some k_ ≠ (v249 : Value).ownBlock) _ _ _)
            replace HF1_4 := Aside0.mk (Kd.F_mono (Kd.F_elder' (ok := (fun k_ => True ∧ (P_ k_ ∨ w.heap.size ≤ k_) ∧ some k_ ≠ ((.slice A200 l0_1.length cp201) : Value).ownBlock ∧ k_ ≠ g0 ∧ k_ ≠ g7 ∧ k_ ≠ g27)) HF1_4.out hba hbe) (fun k_ hk_ => ⟨hk_.1.1, hk_.1.2.1, hk_.1.2.2.1, hk_.1.2.2.2.1, hk_.1.2.2.2.2.1, hk_.1.2.2.2.2.2, hk_.2⟩) : Kd.F k28 _ (fun k_ => True ∧ (P_ k_ ∨ w.heap.size ≤ k_) ∧ some k_ ≠ ((.slice A200 l0_1.length cp201) : Value).ownBlock ∧ k_ ≠ g0 ∧ k_ ≠ g7 ∧ k_ ≠ g27 ∧ some k_ ≠ (v249 : Value).ownBlock) _ _ _)
            replace HN0_1 := Aside0.mk (Kd.N_mono (Kd.N_elder' (ok := (fun k_ => True ∧ (some k_ = ((.slice A200 l0_1.length cp201) : Value).ownBlock ∨ w.heap.size ≤ k_) ∧ k_ ≠ g0 ∧ k_ ≠ g7 ∧ k_ ≠ g27)) HN0_1.out hba hbe) (fun k_ hk_ => ⟨hk_.1.1, hk_.1.2.1, hk_.1.2.2.1, hk_.1.2.2.2.1, hk_.1.2.2.2.2, hk_.2⟩) : Kd.N (Kd.int .u8) _ _ _ (fun k_ => True ∧ (some k_ = ((.slice A200 l0_1.length cp201) : Value).ownBlock ∨ w.heap.size ≤ k_) ∧ k_ ≠ g0 ∧ k_ ≠ g7 ∧ k_ ≠ g27 ∧ some k_ ≠ (v249 : Value).ownBlock) _ _)
            replace BKg0 := Aside0.mk (blk_below (o := .cells #[p52, (.slice A200 l0_1.length cp201), .bool x57] 81 (0, 0)) BKg0.out hbe)
            replace BKg7 := Aside0.mk (blk_below (o := .cells #[.int .i64 a1_0, .bool true, .int .i64 a1_2, .string a1_3, .slice A1_4 l1_4.length c1_4] 28 (0, 0)) BKg7.out hbe)
            replace BKg27 := Aside0.mk (blk_below (o := .cells #[p53, (.slice A224 x55.length cp225), .bool x57] 81 (0, 0)) BKg27.out hbe)
            replace HB := Aside0.mk hb1
            have HN251 := Aside0.mk hn1
            clear hn1 hb1 hg1 hat1 hbe hba
            clear hz227 hz228 hz229 hf230 hf231 hf232 hz233 hz234 hz235 hz236 hz237 hf238 hf239 hf240 hf241 hf242 hz243 hz244 hz245 hf246 hf247 hf248
            obtain ⟨hz252, hz253, hz254, hf255, hf256, hf257⟩ := MB.lay3 BKg0.out
            obtain ⟨hz258, hz259, hz260, hz261, hz262, hf263, hf264, hf265, hf266, hf267⟩ := MB.lay5 BKg7.out
            obtain ⟨hz268, hz269, hz270, hf271, hf272, hf273⟩ := MB.lay3 BKg27.out
            obtain ⟨A274, cp275, he_⟩ := Kd.N_slice HN251.out
            subst he_
            have HL277 := Aside0.mk (Kd.N_reads' HN251.out).2.1
            have HF276 := Aside0.mk (Kd.N_F HN251.out)
            clear HN251
            replace HFfr := Aside0.mk (Kd.F_mono (ok := (fun k_ => True ∧ some k_ ≠ ((.slice A200 l0_1.length cp201) : Value).ownBlock ∧ k_ ≠ g0 ∧ k_ ≠ g7 ∧ k_ ≠ g27 ∧ some k_ ≠ ((.slice A274 ([Go.bits .or .u8 ((Go.bits .or .i64 (wrap64 (a1_0 * 64)) a1_2) % 256) 32] : List Int).length cp275) : Value).ownBlock)) HFfr.out (fun k_ hk_ => ⟨hk_.1, hk_.2.1, hk_.2.2.1, hk_.2.2.2.1, hk_.2.2.2.2.1⟩) : Kd.F (MB.frK w P0_) _ (fun k_ => True ∧ some k_ ≠ ((.slice A200 l0_1.length cp201) : Value).ownBlock ∧ k_ ≠ g0 ∧ k_ ≠ g7 ∧ k_ ≠ g27) _ _ _)
            replace HF1_4 := Aside0.mk (Kd.F_mono (ok := (fun k_ => True ∧ (P_ k_ ∨ w.heap.size ≤ k_) ∧ some k_ ≠ ((.slice A200 l0_1.length cp201) : Value).ownBlock ∧ k_ ≠ g0 ∧ k_ ≠ g7 ∧ k_ ≠ g27 ∧ some k_ ≠ ((.slice A274 ([Go.bits .or .u8 ((Go.bits .or .i64 (wrap64 (a1_0 * 64)) a1_2) % 256) 32] : List Int).length cp275) : Value).ownBlock)) HF1_4.out (fun k_ hk_ => ⟨hk_.1, hk_.2.1, hk_.2.2.1, hk_.2.2.2.1, hk_.2.2.2.2.1, hk_.2.2.2.2.2.1⟩) : Kd.F k28 _ (fun k_ => True ∧ (P_ k_ ∨ w.heap.size ≤ k_) ∧ some k_ ≠ ((.slice A200 l0_1.length cp201) : Value).ownBlock ∧ k_ ≠ g0 ∧ k_ ≠ g7 ∧ k_ ≠ g27) _ _ _)
            replace HN0_1 := Aside0.mk (Kd.N_mono (ok := (fun k_ => True ∧ (some k_ = ((.slice A200 l0_1.length cp201) : Value).ownBlock ∨ w.heap.size ≤ k_) ∧ k_ ≠ g0 ∧ k_ ≠ g7 ∧ k_ ≠ g27 ∧ some k_ ≠ ((.slice A274 ([Go.bits .or .u8 ((Go.bits .or .i64 (wrap64 (a1_0 * 64)) a1_2) % 256) 32] : List Int).length cp275) : Value).ownBlock)) HN0_1.out (fun k_ hk_ => ⟨hk_.1, hk_.2.1, hk_.2.2.1, hk_.2.2.2.1, hk_.2.2.2.2.1⟩) : Kd.N (Kd.int .u8) _ _ _ (fun k_ => True ∧ (some k_ = ((.slice A200 l0_1.length cp201) : Value).ownBlock ∨ w.heap.size ≤ k_) ∧ k_ ≠ g0 ∧ k_ ≠ g7 ∧ k_ ≠ g27) _ _)
            have hcv278 := Kd.C_string (P := Try.prog) (A := A274) (c := cp275) Try.underlying77 Try.underlying5 Try.underlying9 (Kd.F_now HF276.out)
            (try simp only [List.length_cons, List.length_nil, Nat.reduceAdd] at hcv278)
            have H := HH.out
            replace H := Option.bind_eq_some_iff.mp H
            obtain ⟨⟨t279, t280⟩, at_, H⟩ := H
            have At281 := Aside0.mk at_
            clear at_
            replace HH := Aside0.mk (show (if 65535 < ((strOfNums x55).size : Int) then ((ber_length.f 65535).bind fun t313 => ((ber_sheaf_put.f t279 t280 t313).bind fun bt340 => ((ber_sheaf_put.f bt340.1 bt340.2 (strOfNums x55)).bind fun bt371 => (some (bt371.1, bt371.2))))) else ((ber_length.f ((strOfNums x55).size : Int)).bind fun t404 => ((ber_sheaf_put.f t279 t280 t404).bind fun bt431 => ((ber_sheaf_put.f bt431.1 bt431.2 (strOfNums x55)).bind fun bt462 => (some (bt462.1, bt462.2)))))) = some (r1, r2) from H)
            clear H
            go_wp2_with (((with_reducible refine gate_callee (f := 48) rfl ?_); (try (refine gate_guard (by rfl) ?_; dsimp only)); refine goesL_ (some 53) rfl rfl Try.func48 (by kernel_rfl) rfl #[.pointer (some ⟨g0, 0, none⟩), .string (strOfNums ([Go.bits .or .u8 ((Go.bits .or .i64 (wrap64 (a1_0 * 64)) a1_2) % 256) 32] : List Int))] rfl (by (try simp only [List.map_toArray, List.map_cons, List.map_nil]); first | done | rfl) ?_; refine (ber_sheaf_put.calls B_ g0 (p52) ((.slice A200 l0_1.length cp201)) l0_1 x57 (strOfNums ([Go.bits .or .u8 ((Go.bits .or .i64 (wrap64 (a1_0 * 64)) a1_2) % 256) 32] : List Int)) t279 t280 _ (Nat.le_trans hB_.out (MB.bsize (a := B_) HB.out)) BKg0.out GEg0.out HPp52.out (Kd.N_mono (MB.N_only HN0_1.out) (fun k_ hk_ => ⟨trivial, .inl hk_, (fun hk_ => hk_.2.2.1) (HN0_1.out.1 k_ hk_.symm)⟩)) At281.out).mono ?_; rintro e w282 ⟨v283, p284, rfl, hn1, hp1, hbk, hfr, hb⟩; refine ⟨_, rfl, ?_⟩); replace hbk := Aside0.mk hbk; replace hfr := Aside0.mk hfr; replace hp1 := Aside0.mk hp1; refine stop_ ?_)
            refine Stop.go ?_
            replace hbk := hbk.out
            replace hfr := hfr.out
            replace hp1 := hp1.out
            have hat1 : ∀ k_ : Nat, (v283 : Value).ownBlock = some k_ → some k_ = ((.slice A200 l0_1.length cp201) : Value).ownBlock ∨ w250.heap.size ≤ k_ := fun k_ h_ => (hn1.1 k_ h_).2.1
            have HN285 := Aside0.mk (Kd.N_mono hn1 (fun k_ hk_ => hk_.2.1.elim (fun h_ => HN0_1.out.1 k_ h_.symm) (fun h_ => ⟨trivial, (.inr (Nat.le_trans (MB.bsize (a := B_) HB.out) h_)), Kd.freshB (o := .cells #[p52, (.slice A200 l0_1.length cp201), .bool x57] 81 (0, 0)) BKg0.out k_ h_, Kd.freshB (o := .cells #[.int .i64 a1_0, .bool true, .int .i64 a1_2, .string a1_3, .slice A1_4 l1_4.length c1_4] 28 (0, 0)) BKg7.out k_ h_, Kd.freshB (o := .cells #[p53, (.slice A224 x55.length cp225), .bool x57] 81 (0, 0)) BKg27.out k_ h_⟩)) : Kd.N (Kd.int .u8) 5 w282 B_ (fun k_ => True ∧ (some k_ = ((.slice A200 l0_1.length cp201) : Value).ownBlock ∨ w.heap.size ≤ k_) ∧ k_ ≠ g0 ∧ k_ ≠ g7 ∧ k_ ≠ g27) v283 t279)
            replace HFfr := Aside0.mk (Kd.F_mono (MB.F_ptr (ok := (fun k_ => True ∧ some k_ ≠ ((.slice A200 l0_1.length cp201) : Value).ownBlock ∧ k_ ≠ g0 ∧ k_ ≠ g7 ∧ k_ ≠ g27)) HFfr.out hfr (fun k_ hk_ => hk_.2.2.1) (fun k_ hk_ => hk_.2.1)) (fun k_ hk_ => ⟨hk_.1.1, hk_.1.2.2.1, hk_.1.2.2.2.1, hk_.1.2.2.2.2, (fun he_ => (hat1 k_ he_.symm).elim (fun h_ => absurd h_ (hk_.1.2.1)) (fun h_ => absurd hk_.2 (Nat.not_lt.2 h_)))⟩) : Kd.F (MB.frK w P0_) _ (fun k_ => True ∧ k_ ≠ g0 ∧ k_ ≠ g7 ∧ k_ ≠ g27 ∧ some k_ ≠ (v283 : Value).ownBlock) _ _ _)
            replace HF1_4 := Aside0.mk (Kd.F_mono (MB.F_ptr (ok := (fun k_ => True ∧ (P_ k_ ∨ w.heap.size ≤ k_) ∧ some k_ ≠ ((.slice A200 l0_1.length cp201) : Value).ownBlock ∧ k_ ≠ g0 ∧ k_ ≠ g7 ∧ k_ ≠ g27)) HF1_4.out hfr (fun k_ hk_ => hk_.2.2.2.1) (fun k_ hk_ => hk_.2.2.1)) (fun k_ hk_ => ⟨hk_.1.1, hk_.1.2.1, hk_.1.2.2.2.1, hk_.1.2.2.2.2.1, hk_.1.2.2.2.2.2, (fun he_ => (hat1 k_ he_.symm).elim (fun h_ => absurd h_ (hk_.1.2.2.1)) (fun h_ => absurd hk_.2 (Nat.not_lt.2 h_)))⟩) : Kd.F k28 _ (fun k_ => True ∧ (P_ k_ ∨ w.heap.size ≤ k_) ∧ k_ ≠ g0 ∧ k_ ≠ g7 ∧ k_ ≠ g27 ∧ some k_ ≠ (v283 : Value).ownBlock) _ _ _)
            replace HF276 := Aside0.mk (Kd.F_mono (MB.F_ptr (ok := (fun k_ => True ∧ (P_ k_ ∨ w.heap.size ≤ k_) ∧ some k_ ≠ ((.slice A200 l0_1.length cp201) : Value).ownBlock ∧ k_ ≠ g0 ∧ k_ ≠ g7 ∧ k_ ≠ g27)) HF276.out hfr (fun k_ hk_ => hk_.2.2.2.1) (fun k_ hk_ => hk_.2.2.1)) (fun k_ hk_ => ⟨hk_.1.1, hk_.1.2.1, hk_.1.2.2.2.1, hk_.1.2.2.2.2.1, hk_.1.2.2.2.2.2, (fun he_ => (hat1 k_ he_.symm).elim (fun h_ => absurd h_ (hk_.1.2.2.1)) (fun h_ => absurd hk_.2 (Nat.not_lt.2 h_)))⟩) : Kd.F (Kd.int .u8) _ (fun k_ => True ∧ (P_ k_ ∨ w.heap.size ≤ k_) ∧ k_ ≠ g0 ∧ k_ ≠ g7 ∧ k_ ≠ g27 ∧ some k_ ≠ (v283 : Value).ownBlock) _ _ _)
            replace BKg7 := Aside0.mk (MB.blk_ptr (o := .cells #[.int .i64 a1_0, .bool true, .int .i64 a1_2, .string a1_3, .slice A1_4 l1_4.length c1_4] 28 (0, 0)) BKg7.out hfr NEg7_g0.out (Kd.N_away (ok := (fun k_ => True ∧ (some k_ = ((.slice A200 l0_1.length cp201) : Value).ownBlock ∨ w.heap.size ≤ k_) ∧ k_ ≠ g0 ∧ k_ ≠ g7 ∧ k_ ≠ g27)) HN0_1.out (fun k_ hk_ => hk_.2.2.2.1)))
            replace BKg27 := Aside0.mk (MB.blk_ptr (o := .cells #[p53, (.slice A224 x55.length cp225), .bool x57] 81 (0, 0)) BKg27.out hfr NEg27_g0.out (Kd.N_away (ok := (fun k_ => True ∧ (some k_ = ((.slice A200 l0_1.length cp201) : Value).ownBlock ∨ w.heap.size ≤ k_) ∧ k_ ≠ g0 ∧ k_ ≠ g7 ∧ k_ ≠ g27)) HN0_1.out (fun k_ hk_ => hk_.2.2.2.2)))
            replace HB := Aside0.mk (Below.trans HB.out hb)
            replace BKg0 := Aside0.mk hbk
            have HPp284 := Aside0.mk hp1
            clear hbk hfr hb hp1 hn1 hat1
            clear HN0_1
            clear hz252 hz253 hz254 hf255 hf256 hf257 hz258 hz259 hz260 hz261 hz262 hf263 hf264 hf265 hf266 hf267 hz268 hz269 hz270 hf271 hf272 hf273 hcv278
            obtain ⟨hz286, hz287, hz288, hf289, hf290, hf291⟩ := MB.lay3 BKg0.out
            obtain ⟨hz292, hz293, hz294, hz295, hz296, hf297, hf298, hf299, hf300, hf301⟩ := MB.lay5 BKg7.out
            obtain ⟨hz302, hz303, hz304, hf305, hf306, hf307⟩ := MB.lay3 BKg27.out
            by_cases c308 : 65535 < ((strOfNums x55).size : Int)
            · have H := HH.out
              rw [if_pos c308] at H
              replace HH := Aside0.mk H
              clear H
              have hk309 : (65535 < ((strOfNums x55).size : Int)) = True := eq_true c308
              have hk310 : (65535 < (strOfNums x55).size) = True := eq_true (by have := c308; omega)
              have hk311 : decide (65535 < ((strOfNums x55).size : Int)) = true := decide_eq_true c308
              have hk312 : decide (65535 < (strOfNums x55).size) = true := decide_eq_true (by omega)
              clear c308
              have H := HH.out
              replace H := Option.bind_eq_some_iff.mp H
              obtain ⟨t313, at_, H⟩ := H
              have At314 := Aside0.mk at_
              clear at_
              replace HH := Aside0.mk (show ((ber_sheaf_put.f t279 t280 t313).bind fun bt340 => ((ber_sheaf_put.f bt340.1 bt340.2 (strOfNums x55)).bind fun bt371 => (some (bt371.1, bt371.2)))) = some (r1, r2) from H)
              clear H
              go_wp2_with (((with_reducible refine gate_callee (f := 49) rfl ?_); (try (refine gate_guard (by rfl) ?_; dsimp only)); refine goesL_ (some 58) rfl rfl Try.func49 (by kernel_rfl) rfl #[.int .i64 65535] rfl (by (try simp only [List.map_toArray, List.map_cons, List.map_nil]); first | done | rfl | (simp only [List.length_drop, List.length_take]; rfl)) ?_; (with_reducible refine (ber_length.calls  65535 t313 _  At314.out).mono ?_); rintro e w315 ⟨rfl, hb⟩; refine ⟨_, rfl, ?_⟩); refine stop_ ?_)
              refine Stop.go ?_
              replace HFfr := Aside0.mk (Kd.F_below HFfr.out hb)
              replace HF1_4 := Aside0.mk (Kd.F_below HF1_4.out hb)
              replace HF276 := Aside0.mk (Kd.F_below HF276.out hb)
              replace HN285 := Aside0.mk (Kd.N_below HN285.out hb)
              replace BKg0 := Aside0.mk (blk_below (o := .cells #[p284, v283, .bool t280] 81 (0, 0)) BKg0.out hb)
              replace BKg7 := Aside0.mk (blk_below (o := .cells #[.int .i64 a1_0, .bool true, .int .i64 a1_2, .string a1_3, .slice A1_4 l1_4.length c1_4] 28 (0, 0)) BKg7.out hb)
              replace BKg27 := Aside0.mk (blk_below (o := .cells #[p53, (.slice A224 x55.length cp225), .bool x57] 81 (0, 0)) BKg27.out hb)
              replace HB := Aside0.mk (MB.below_stepB hB_.out HB.out hb)
              clear hb
              clear hz286 hz287 hz288 hf289 hf290 hf291 hz292 hz293 hz294 hz295 hz296 hf297 hf298 hf299 hf300 hf301 hz302 hz303 hz304 hf305 hf306 hf307
              obtain ⟨hz316, hz317, hz318, hf319, hf320, hf321⟩ := MB.lay3 BKg0.out
              obtain ⟨hz322, hz323, hz324, hz325, hz326, hf327, hf328, hf329, hf330, hf331⟩ := MB.lay5 BKg7.out
              obtain ⟨hz332, hz333, hz334, hf335, hf336, hf337⟩ := MB.lay3 BKg27.out
              obtain ⟨A338, cp339, he_⟩ := Kd.N_slice HN285.out
              subst he_
              have H := HH.out
              replace H := Option.bind_eq_some_iff.mp H
              obtain ⟨⟨t340, t341⟩, at_, H⟩ := H
              have At342 := Aside0.mk at_
              clear at_
              replace HH := Aside0.mk (show ((ber_sheaf_put.f t340 t341 (strOfNums x55)).bind fun bt371 => (some (bt371.1, bt371.2))) = some (r1, r2) from H)
              clear H
              go_wp2_with (((with_reducible refine gate_callee (f := 48) rfl ?_); (try (refine gate_guard (by rfl) ?_; dsimp only)); refine goesL_ (some 59) rfl rfl Try.func48 (by kernel_rfl) rfl #[.pointer (some ⟨g0, 0, none⟩), .string t313] rfl (by (try simp only [List.map_toArray, List.map_cons, List.map_nil]); first | done | rfl) ?_; refine (ber_sheaf_put.calls B_ g0 (p284) ((.slice A338 t279.length cp339)) t279 t280 t313 t340 t341 _ (Nat.le_trans hB_.out (MB.bsize (a := B_) HB.out)) BKg0.out GEg0.out HPp284.out (Kd.N_mono (MB.N_only HN285.out) (fun k_ hk_ => ⟨trivial, .inl hk_, (fun hk_ => hk_.2.2.1) (HN285.out.1 k_ hk_.symm)⟩)) At342.out).mono ?_; rintro e w343 ⟨v344, p345, rfl, hn1, hp1, hbk, hfr, hb⟩; refine ⟨_, rfl, ?_⟩); replace hbk := Aside0.mk hbk; replace hfr := Aside0.mk hfr; replace hp1 := Aside0.mk hp1; refine stop_ ?_)
              refine Stop.go ?_
              replace hbk := hbk.out
              replace hfr := hfr.out
              replace hp1 := hp1.out
              have hat1 : ∀ k_ : Nat, (v344 : Value).ownBlock = some k_ → some k_ = ((.slice A338 t279.length cp339) : Value).ownBlock ∨ w315.heap.size ≤ k_ := fun k_ h_ => (hn1.1 k_ h_).2.1
              have HN346 := Aside0.mk (Kd.N_mono hn1 (fun k_ hk_ => hk_.2.1.elim (fun h_ => HN285.out.1 k_ h_.symm) (fun h_ => ⟨trivial, (.inr (Nat.le_trans (MB.bsize (a := B_) HB.out) h_)), Kd.freshB (o := .cells #[p284, (.slice A338 t279.length cp339), .bool t280] 81 (0, 0)) BKg0.out k_ h_, Kd.freshB (o := .cells #[.int .i64 a1_0, .bool true, .int .i64 a1_2, .string a1_3, .slice A1_4 l1_4.length c1_4] 28 (0, 0)) BKg7.out k_ h_, Kd.freshB (o := .cells #[p53, (.slice A224 x55.length cp225), .bool x57] 81 (0, 0)) BKg27.out k_ h_⟩)) : Kd.N (Kd.int .u8) 5 w343 B_ (fun k_ => True ∧ (some k_ = ((.slice A200 l0_1.length cp201) : Value).ownBlock ∨ w.heap.size ≤ k_) ∧ k_ ≠ g0 ∧ k_ ≠ g7 ∧ k_ ≠ g27) v344 t340)
              replace HFfr := Aside0.mk (Kd.F_mono (MB.F_ptr (ok := (fun k_ => True ∧ k_ ≠ g0 ∧ k_ ≠ g7 ∧ k_ ≠ g27 ∧ some k_ ≠ ((.slice A338 t279.length cp339) : Value).ownBlock)) HFfr.out hfr (fun k_ hk_ => hk_.2.1) (fun k_ hk_ => hk_.2.2.2.2)) (fun k_ hk_ => ⟨hk_.1.1, hk_.1.2.1, hk_.1.2.2.1, hk_.1.2.2.2.1, (fun he_ => (hat1 k_ he_.symm).elim (fun h_ => absurd h_ (hk_.1.2.2.2.2)) (fun h_ => absurd hk_.2 (Nat.not_lt.2 h_)))⟩) : Kd.F (MB.frK w P0_) _ (fun k_ => True ∧ k_ ≠ g0 ∧ k_ ≠ g7 ∧ k_ ≠ g27 ∧ some k_ ≠ (v344 : Value).ownBlock) _ _ _)
              replace HF1_4 := Aside0.mk (Kd.F_mono (MB.F_ptr (ok := (fun k_ => True ∧ (P_ k_ ∨ w.heap.size ≤ k_) ∧ k_ ≠ g0 ∧ k_ ≠ g7 ∧ k_ ≠ g27 ∧ some k_ ≠ ((.slice A338 t279.length cp339) : Value).ownBlock)) HF1_4.out hfr (fun k_ hk_ => hk_.2.2.1) (fun k_ hk_ => hk_.2.2.2.2.2)) (fun k_ hk_ => ⟨hk_.1.1, hk_.1.2.1, hk_.1.2.2.1, hk_.1.2.2.2.1, hk_.1.2.2.2.2.1, (fun he_ => (hat1 k_ he_.symm).elim (fun h_ => absurd h_ (hk_.1.2.2.2.2.2)) (fun h_ => absurd hk_.2 (Nat.not_lt.2 h_)))⟩) : Kd.F k28 _ (fun k_ => True ∧ (P_ k_ ∨ w.heap.size ≤ k_) ∧ k_ ≠ g0 ∧ k_ ≠ g7 ∧ k_ ≠ g27 ∧ some k_ ≠ (v344 : Value).ownBlock) _ _ _)
              replace HF276 := Aside0.mk (Kd.F_mono (MB.F_ptr (ok := (fun k_ => True ∧ (P_ k_ ∨ w.heap.size ≤ k_) ∧ k_ ≠ g0 ∧ k_ ≠ g7 ∧ k_ ≠ g27 ∧ some k_ ≠ ((.slice A338 t279.length cp339) : Value).ownBlock)) HF276.out hfr (fun k_ hk_ => hk_.2.2.1) (fun k_ hk_ => hk_.2.2.2.2.2)) (fun k_ hk_ => ⟨hk_.1.1, hk_.1.2.1, hk_.1.2.2.1, hk_.1.2.2.2.1, hk_.1.2.2.2.2.1, (fun he_ => (hat1 k_ he_.symm).elim (fun h_ => absurd h_ (hk_.1.2.2.2.2.2)) (fun h_ => absurd hk_.2 (Nat.not_lt.2 h_)))⟩) : Kd.F (Kd.int .u8) _ (fun k_ => True ∧ (P_ k_ ∨ w.heap.size ≤ k_) ∧ k_ ≠ g0 ∧ k_ ≠ g7 ∧ k_ ≠ g27 ∧ some k_ ≠ (v344 : Value).ownBlock) _ _ _)
              replace BKg7 := Aside0.mk (MB.blk_ptr (o := .cells #[.int .i64 a1_0, .bool true, .int .i64 a1_2, .string a1_3, .slice A1_4 l1_4.length c1_4] 28 (0, 0)) BKg7.out hfr NEg7_g0.out (Kd.N_away (ok := (fun k_ => True ∧ (some k_ = ((.slice A200 l0_1.length cp201) : Value).ownBlock ∨ w.heap.size ≤ k_) ∧ k_ ≠ g0 ∧ k_ ≠ g7 ∧ k_ ≠ g27)) HN285.out (fun k_ hk_ => hk_.2.2.2.1)))
              replace BKg27 := Aside0.mk (MB.blk_ptr (o := .cells #[p53, (.slice A224 x55.length cp225), .bool x57] 81 (0, 0)) BKg27.out hfr NEg27_g0.out (Kd.N_away (ok := (fun k_ => True ∧ (some k_ = ((.slice A200 l0_1.length cp201) : Value).ownBlock ∨ w.heap.size ≤ k_) ∧ k_ ≠ g0 ∧ k_ ≠ g7 ∧ k_ ≠ g27)) HN285.out (fun k_ hk_ => hk_.2.2.2.2)))
              replace HB := Aside0.mk (Below.trans HB.out hb)
              replace BKg0 := Aside0.mk hbk
              have HPp345 := Aside0.mk hp1
              clear hbk hfr hb hp1 hn1 hat1
              clear HN285
              clear hz316 hz317 hz318 hf319 hf320 hf321 hz322 hz323 hz324 hz325 hz326 hf327 hf328 hf329 hf330 hf331 hz332 hz333 hz334 hf335 hf336 hf337
              obtain ⟨hz347, hz348, hz349, hf350, hf351, hf352⟩ := MB.lay3 BKg0.out
              obtain ⟨hz353, hz354, hz355, hz356, hz357, hf358, hf359, hf360, hf361, hf362⟩ := MB.lay5 BKg7.out
              obtain ⟨hz363, hz364, hz365, hf366, hf367, hf368⟩ := MB.lay3 BKg27.out
              obtain ⟨A369, cp370, he_⟩ := Kd.N_slice HN346.out
              subst he_
              have H := HH.out
              replace H := Option.bind_eq_some_iff.mp H
              obtain ⟨⟨t371, t372⟩, at_, H⟩ := H
              have At373 := Aside0.mk at_
              clear at_
              replace HH := Aside0.mk (show (some (t371, t372)) = some (r1, r2) from H)
              clear H
              go_wp2_with (((with_reducible refine gate_callee (f := 48) rfl ?_); (try (refine gate_guard (by rfl) ?_; dsimp only)); refine goesL_ (some 62) rfl rfl Try.func48 (by kernel_rfl) rfl #[.pointer (some ⟨g0, 0, none⟩), .string (strOfNums x55)] rfl (by (try simp only [List.map_toArray, List.map_cons, List.map_nil]); first | done | rfl) ?_; refine (ber_sheaf_put.calls B_ g0 (p345) ((.slice A369 t340.length cp370)) t340 t341 (strOfNums x55) t371 t372 _ (Nat.le_trans hB_.out (MB.bsize (a := B_) HB.out)) BKg0.out GEg0.out HPp345.out (Kd.N_mono (MB.N_only HN346.out) (fun k_ hk_ => ⟨trivial, .inl hk_, (fun hk_ => hk_.2.2.1) (HN346.out.1 k_ hk_.symm)⟩)) At373.out).mono ?_; rintro e w374 ⟨v375, p376, rfl, hn1, hp1, hbk, hfr, hb⟩; refine ⟨_, rfl, ?_⟩); replace hbk := Aside0.mk hbk; replace hfr := Aside0.mk hfr; replace hp1 := Aside0.mk hp1; refine stop_ ?_)
              refine Stop.go ?_
              replace hbk := hbk.out
              replace hfr := hfr.out
              replace hp1 := hp1.out
              have hat1 : ∀ k_ : Nat, (v375 : Value).ownBlock = some k_ → some k_ = ((.slice A369 t340.length cp370) : Value).ownBlock ∨ w343.heap.size ≤ k_ := fun k_ h_ => (hn1.1 k_ h_).2.1
              have HN377 := Aside0.mk (Kd.N_mono hn1 (fun k_ hk_ => hk_.2.1.elim (fun h_ => HN346.out.1 k_ h_.symm) (fun h_ => ⟨trivial, (.inr (Nat.le_trans (MB.bsize (a := B_) HB.out) h_)), Kd.freshB (o := .cells #[p345, (.slice A369 t340.length cp370), .bool t341] 81 (0, 0)) BKg0.out k_ h_, Kd.freshB (o := .cells #[.int .i64 a1_0, .bool true, .int .i64 a1_2, .string a1_3, .slice A1_4 l1_4.length c1_4] 28 (0, 0)) BKg7.out k_ h_, Kd.freshB (o := .cells #[p53, (.slice A224 x55.length cp225), .bool x57] 81 (0, 0)) BKg27.out k_ h_⟩)) : Kd.N (Kd.int .u8) 5 w374 B_ (fun k_ => True ∧ (some k_ = ((.slice A200 l0_1.length cp201) : Value).ownBlock ∨ w.heap.size ≤ k_) ∧ k_ ≠ g0 ∧ k_ ≠ g7 ∧ k_ ≠ g27) v375 t371)
              replace HFfr := Aside0.mk (Kd.F_mono (MB.F_ptr (ok := (fun k_ => True ∧ k_ ≠ g0 ∧ k_ ≠ g7 ∧ k_ ≠ g27 ∧ some k_ ≠ ((.slice A369 t340.length cp370) : Value).ownBlock)) HFfr.out hfr (fun k_ hk_ => hk_.2.1) (fun k_ hk_ => hk_.2.2.2.2)) (fun k_ hk_ => ⟨hk_.1.1, hk_.1.2.1, hk_.1.2.2.1, hk_.1.2.2.2.1, (fun he_ => (hat1 k_ he_.symm).elim (fun h_ => absurd h_ (hk_.1.2.2.2.2)) (fun h_ => absurd hk_.2 (Nat.not_lt.2 h_)))⟩) : Kd.F (MB.frK w P0_) _ (fun k_ => True ∧ k_ ≠ g0 ∧ k_ ≠ g7 ∧ k_ ≠ g27 ∧ some k_ ≠ (v375 : Value).ownBlock) _ _ _)
              replace HF1_4 := Aside0.mk (Kd.F_mono (MB.F_ptr (ok := (fun k_ => True ∧ (P_ k_ ∨ w.heap.size ≤ k_) ∧ k_ ≠ g0 ∧ k_ ≠ g7 ∧ k_ ≠ g27 ∧ some k_ ≠ ((.slice A369 t340.length cp370) : Value).ownBlock)) HF1_4.out hfr (fun k_ hk_ => hk_.2.2.1) (fun k_ hk_ => hk_.2.2.2.2.2)) (fun k_ hk_ => ⟨hk_.1.1, hk_.1.2.1, hk_.1.2.2.1, hk_.1.2.2.2.1, hk_.1.2.2.2.2.1, (fun he_ => (hat1 k_ he_.symm).elim (fun h_ => absurd h_ (hk_.1.2.2.2.2.2)) (fun h_ => absurd hk_.2 (Nat.not_lt.2 h_)))⟩) : Kd.F k28 _ (fun k_ => True ∧ (P_ k_ ∨ w.heap.size ≤ k_) ∧ k_ ≠ g0 ∧ k_ ≠ g7 ∧ k_ ≠ g27 ∧ some k_ ≠ (v375 : Value).ownBlock) _ _ _)
              replace HF276 := Aside0.mk (Kd.F_mono (MB.F_ptr (ok := (fun k_ => True ∧ (P_ k_ ∨ w.heap.size ≤ k_) ∧ k_ ≠ g0 ∧ k_ ≠ g7 ∧ k_ ≠ g27 ∧ some k_ ≠ ((.slice A369 t340.length cp370) : Value).ownBlock)) HF276.out hfr (fun k_ hk_ => hk_.2.2.1) (fun k_ hk_ => hk_.2.2.2.2.2)) (fun k_ hk_ => ⟨hk_.1.1, hk_.1.2.1, hk_.1.2.2.1, hk_.1.2.2.2.1, hk_.1.2.2.2.2.1, (fun he_ => (hat1 k_ he_.symm).elim (fun h_ => absurd h_ (hk_.1.2.2.2.2.2)) (fun h_ => absurd hk_.2 (Nat.not_lt.2 h_)))⟩) : Kd.F (Kd.int .u8) _ (fun k_ => True ∧ (P_ k_ ∨ w.heap.size ≤ k_) ∧ k_ ≠ g0 ∧ k_ ≠ g7 ∧ k_ ≠ g27 ∧ some k_ ≠ (v375 : Value).ownBlock) _ _ _)
              replace BKg7 := Aside0.mk (MB.blk_ptr (o := .cells #[.int .i64 a1_0, .bool true, .int .i64 a1_2, .string a1_3, .slice A1_4 l1_4.length c1_4] 28 (0, 0)) BKg7.out hfr NEg7_g0.out (Kd.N_away (ok := (fun k_ => True ∧ (some k_ = ((.slice A200 l0_1.length cp201) : Value).ownBlock ∨ w.heap.size ≤ k_) ∧ k_ ≠ g0 ∧ k_ ≠ g7 ∧ k_ ≠ g27)) HN346.out (fun k_ hk_ => hk_.2.2.2.1)))
              replace BKg27 := Aside0.mk (MB.blk_ptr (o := .cells #[p53, (.slice A224 x55.length cp225), .bool x57] 81 (0, 0)) BKg27.out hfr NEg27_g0.out (Kd.N_away (ok := (fun k_ => True ∧ (some k_ = ((.slice A200 l0_1.length cp201) : Value).ownBlock ∨ w.heap.size ≤ k_) ∧ k_ ≠ g0 ∧ k_ ≠ g7 ∧ k_ ≠ g27)) HN346.out (fun k_ hk_ => hk_.2.2.2.2)))
              replace HB := Aside0.mk (Below.trans HB.out hb)
              replace BKg0 := Aside0.mk hbk
              have HPp376 := Aside0.mk hp1
              clear hbk hfr hb hp1 hn1 hat1
              clear HN346
              clear hz347 hz348 hz349 hf350 hf351 hf352 hz353 hz354 hz355 hz356 hz357 hf358 hf359 hf360 hf361 hf362 hz363 hz364 hz365 hf366 hf367 hf368
              obtain ⟨hz378, hz379, hz380, hf381, hf382, hf383⟩ := MB.lay3 BKg0.out
              obtain ⟨hz384, hz385, hz386, hz387, hz388, hf389, hf390, hf391, hf392, hf393⟩ := MB.lay5 BKg7.out
              obtain ⟨hz394, hz395, hz396, hf397, hf398, hf399⟩ := MB.lay3 BKg27.out
              have H := HH.out
              simp only [Option.some.injEq, Prod.mk.injEq] at H
              obtain ⟨rfl, rfl⟩ := H
              clear HH
              go_wp2
              go_end0
              unfold ber_sheaf_lay.Post
              exact ⟨(v375), (p376), by first | rfl | (simp; done) | (simp [*]; done), (Kd.N_mono (ok := (fun k_ => True ∧ (some k_ = ((.slice A200 l0_1.length cp201) : Value).ownBlock ∨ w.heap.size ≤ k_) ∧ k_ ≠ g0 ∧ k_ ≠ g7 ∧ k_ ≠ g27)) HN377.out (fun k_ hk_ => ⟨trivial, hk_.2.1, hk_.2.2.1⟩)), HPp376.out, (by first | exact BKg0.out | (have h_ := BKg0.out; simp only [*] at h_; exact h_) | (have h_ := BKg0.out; simp [*] at h_ ⊢; exact h_)), (fun k_ hg_ hv_ hlt_ => MB.frK_out HFfr.out k_ (by rw [HPO.out]; exact ⟨hg_, hv_⟩) hlt_), HB.out⟩
            · have H := HH.out
              rw [if_neg c308] at H
              replace HH := Aside0.mk H
              clear H
              have hk400 : (65535 < ((strOfNums x55).size : Int)) = False := eq_false c308
              have hk401 : (65535 < (strOfNums x55).size) = False := eq_false (by have := c308; omega)
              have hk402 : decide (65535 < ((strOfNums x55).size : Int)) = false := decide_eq_false c308
              have hk403 : decide (65535 < (strOfNums x55).size) = false := decide_eq_false (by omega)
              clear c308
              have H := HH.out
              replace H := Option.bind_eq_some_iff.mp H
              obtain ⟨t404, at_, H⟩ := H
              have At405 := Aside0.mk at_
              clear at_
              replace HH := Aside0.mk (show ((ber_sheaf_put.f t279 t280 t404).bind fun bt431 => ((ber_sheaf_put.f bt431.1 bt431.2 (strOfNums x55)).bind fun bt462 => (some (bt462.1, bt462.2)))) = some (r1, r2) from H)
              clear H
              go_wp2_with (((with_reducible refine gate_callee (f := 49) rfl ?_); (try (refine gate_guard (by rfl) ?_; dsimp only)); refine goesL_ (some 58) rfl rfl Try.func49 (by kernel_rfl) rfl #[.int .i64 ((strOfNums x55).size : Int)] rfl (by (try simp only [List.map_toArray, List.map_cons, List.map_nil]); first | done | rfl | (simp only [List.length_drop, List.length_take]; rfl)) ?_; (with_reducible refine (ber_length.calls  ((strOfNums x55).size : Int) t404 _  At405.out).mono ?_); rintro e w406 ⟨rfl, hb⟩; refine ⟨_, rfl, ?_⟩); refine stop_ ?_)
              refine Stop.go ?_
              replace HFfr := Aside0.mk (Kd.F_below HFfr.out hb)
              replace HF1_4 := Aside0.mk (Kd.F_below HF1_4.out hb)
              replace HF276 := Aside0.mk (Kd.F_below HF276.out hb)
              replace HN285 := Aside0.mk (Kd.N_below HN285.out hb)
              replace BKg0 := Aside0.mk (blk_below (o := .cells #[p284, v283, .bool t280] 81 (0, 0)) BKg0.out hb)
              replace BKg7 := Aside0.mk (blk_below (o := .cells #[.int .i64 a1_0, .bool true, .int .i64 a1_2, .string a1_3, .slice A1_4 l1_4.length c1_4] 28 (0, 0)) BKg7.out hb)
              replace BKg27 := Aside0.mk (blk_below (o := .cells #[p53, (.slice A224 x55.length cp225), .bool x57] 81 (0, 0)) BKg27.out hb)
              replace HB := Aside0.mk (MB.below_stepB hB_.out HB.out hb)
              clear hb
              clear hz286 hz287 hz288 hf289 hf290 hf291 hz292 hz293 hz294 hz295 hz296 hf297 hf298 hf299 hf300 hf301 hz302 hz303 hz304 hf305 hf306 hf307
              obtain ⟨hz407, hz408, hz409, hf410, hf411, hf412⟩ := MB.lay3 BKg0.out
              obtain ⟨hz413, hz414, hz415, hz416, hz417, hf418, hf419, hf420, hf421, hf422⟩ := MB.lay5 BKg7.out
              obtain ⟨hz423, hz424, hz425, hf426, hf427, hf428⟩ := MB.lay3 BKg27.out
              obtain ⟨A429, cp430, he_⟩ := Kd.N_slice HN285.out
              subst he_
              have H := HH.out
              replace H := Option.bind_eq_some_iff.mp H
              obtain ⟨⟨t431, t432⟩, at_, H⟩ := H
              have At433 := Aside0.mk at_
              clear at_
              replace HH := Aside0.mk (show ((ber_sheaf_put.f t431 t432 (strOfNums x55)).bind fun bt462 => (some (bt462.1, bt462.2))) = some (r1, r2) from H)
              clear H
              go_wp2_with (((with_reducible refine gate_callee (f := 48) rfl ?_); (try (refine gate_guard (by rfl) ?_; dsimp only)); refine goesL_ (some 59) rfl rfl Try.func48 (by kernel_rfl) rfl #[.pointer (some ⟨g0, 0, none⟩), .string t404] rfl (by (try simp only [List.map_toArray, List.map_cons, List.map_nil]); first | done | rfl) ?_; refine (ber_sheaf_put.calls B_ g0 (p284) ((.slice A429 t279.length cp430)) t279 t280 t404 t431 t432 _ (Nat.le_trans hB_.out (MB.bsize (a := B_) HB.out)) BKg0.out GEg0.out HPp284.out (Kd.N_mono (MB.N_only HN285.out) (fun k_ hk_ => ⟨trivial, .inl hk_, (fun hk_ => hk_.2.2.1) (HN285.out.1 k_ hk_.symm)⟩)) At433.out).mono ?_; rintro e w434 ⟨v435, p436, rfl, hn1, hp1, hbk, hfr, hb⟩; refine ⟨_, rfl, ?_⟩); replace hbk := Aside0.mk hbk; replace hfr := Aside0.mk hfr; replace hp1 := Aside0.mk hp1; refine stop_ ?_)
              refine Stop.go ?_
              replace hbk := hbk.out
              replace hfr := hfr.out
              replace hp1 := hp1.out
              have hat1 : ∀ k_ : Nat, (v435 : Value).ownBlock = some k_ → some k_ = ((.slice A429 t279.length cp430) : Value).ownBlock ∨ w406.heap.size ≤ k_ := fun k_ h_ => (hn1.1 k_ h_).2.1
              have HN437 := Aside0.mk (Kd.N_mono hn1 (fun k_ hk_ => hk_.2.1.elim (fun h_ => HN285.out.1 k_ h_.symm) (fun h_ => ⟨trivial, (.inr (Nat.le_trans (MB.bsize (a := B_) HB.out) h_)), Kd.freshB (o := .cells #[p284, (.slice A429 t279.length cp430), .bool t280] 81 (0, 0)) BKg0.out k_ h_, Kd.freshB (o := .cells #[.int .i64 a1_0, .bool true, .int .i64 a1_2, .string a1_3, .slice A1_4 l1_4.length c1_4] 28 (0, 0)) BKg7.out k_ h_, Kd.freshB (o := .cells #[p53, (.slice A224 x55.length cp225), .bool x57] 81 (0, 0)) BKg27.out k_ h_⟩)) : Kd.N (Kd.int .u8) 5 w434 B_ (fun k_ => True ∧ (some k_ = ((.slice A200 l0_1.length cp201) : Value).ownBlock ∨ w.heap.size ≤ k_) ∧ k_ ≠ g0 ∧ k_ ≠ g7 ∧ k_ ≠ g27) v435 t431)
              replace HFfr := Aside0.mk (Kd.F_mono (MB.F_ptr (ok := (fun k_ => True ∧ k_ ≠ g0 ∧ k_ ≠ g7 ∧ k_ ≠ g27 ∧ some k_ ≠ ((.slice A429 t279.length cp430) : Value).ownBlock)) HFfr.out hfr (fun k_ hk_ => hk_.2.1) (fun k_ hk_ => hk_.2.2.2.2)) (fun k_ hk_ => ⟨hk_.1.1, hk_.1.2.1, hk_.1.2.2.1, hk_.1.2.2.2.1, (fun he_ => (hat1 k_ he_.symm).elim (fun h_ => absurd h_ (hk_.1.2.2.2.2)) (fun h_ => absurd hk_.2 (Nat.not_lt.2 h_)))⟩) : Kd.F (MB.frK w P0_) _ (fun k_ => True ∧ k_ ≠ g0 ∧ k_ ≠ g7 ∧ k_ ≠ g27 ∧ some k_ ≠ (v435 : Value).ownBlock) _ _ _)
              replace HF1_4 := Aside0.mk (Kd.F_mono (MB.F_ptr (ok := (fun k_ => True ∧ (P_ k_ ∨ w.heap.size ≤ k_) ∧ k_ ≠ g0 ∧ k_ ≠ g7 ∧ k_ ≠ g27 ∧ some k_ ≠ ((.slice A429 t279.length cp430) : Value).ownBlock)) HF1_4.out hfr (fun k_ hk_ => hk_.2.2.1) (fun k_ hk_ => hk_.2.2.2.2.2)) (fun k_ hk_ => ⟨hk_.1.1, hk_.1.2.1, hk_.1.2.2.1, hk_.1.2.2.2.1, hk_.1.2.2.2.2.1, (fun he_ => (hat1 k_ he_.symm).elim (fun h_ => absurd h_ (hk_.1.2.2.2.2.2)) (fun h_ => absurd hk_.2 (Nat.not_lt.2 h_)))⟩) : Kd.F k28 _ (fun k_ => True ∧ (P_ k_ ∨ w.heap.size ≤ k_) ∧ k_ ≠ g0 ∧ k_ ≠ g7 ∧ k_ ≠ g27 ∧ some k_ ≠ (v435 : Value).ownBlock) _ _ _)
              replace HF276 := Aside0.mk (Kd.F_mono (MB.F_ptr (ok := (fun k_ => True ∧ (P_ k_ ∨ w.heap.size ≤ k_) ∧ k_ ≠ g0 ∧ k_ ≠ g7 ∧ k_ ≠ g27 ∧ some k_ ≠ ((.slice A429 t279.length cp430) : Value).ownBlock)) HF276.out hfr (fun k_ hk_ => hk_.2.2.1) (fun k_ hk_ => hk_.2.2.2.2.2)) (fun k_ hk_ => ⟨hk_.1.1, hk_.1.2.1, hk_.1.2.2.1, hk_.1.2.2.2.1, hk_.1.2.2.2.2.1, (fun he_ => (hat1 k_ he_.symm).elim (fun h_ => absurd h_ (hk_.1.2.2.2.2.2)) (fun h_ => absurd hk_.2 (Nat.not_lt.2 h_)))⟩) : Kd.F (Kd.int .u8) _ (fun k_ => True ∧ (P_ k_ ∨ w.heap.size ≤ k_) ∧ k_ ≠ g0 ∧ k_ ≠ g7 ∧ k_ ≠ g27 ∧ some k_ ≠ (v435 : Value).ownBlock) _ _ _)
              replace BKg7 := Aside0.mk (MB.blk_ptr (o := .cells #[.int .i64 a1_0, .bool true, .int .i64 a1_2, .string a1_3, .slice A1_4 l1_4.length c1_4] 28 (0, 0)) BKg7.out hfr NEg7_g0.out (Kd.N_away (ok := (fun k_ => True ∧ (some k_ = ((.slice A200 l0_1.length cp201) : Value).ownBlock ∨ w.heap.size ≤ k_) ∧ k_ ≠ g0 ∧ k_ ≠ g7 ∧ k_ ≠ g27)) HN285.out (fun k_ hk_ => hk_.2.2.2.1)))
              replace BKg27 := Aside0.mk (MB.blk_ptr (o := .cells #[p53, (.slice A224 x55.length cp225), .bool x57] 81 (0, 0)) BKg27.out hfr NEg27_g0.out (Kd.N_away (ok := (fun k_ => True ∧ (some k_ = ((.slice A200 l0_1.length cp201) : Value).ownBlock ∨ w.heap.size ≤ k_) ∧ k_ ≠ g0 ∧ k_ ≠ g7 ∧ k_ ≠ g27)) HN285.out (fun k_ hk_ => hk_.2.2.2.2)))
              replace HB := Aside0.mk (Below.trans HB.out hb)
              replace BKg0 := Aside0.mk hbk
              have HPp436 := Aside0.mk hp1
              clear hbk hfr hb hp1 hn1 hat1
              clear HN285
              clear hz407 hz408 hz409 hf410 hf411 hf412 hz413 hz414 hz415 hz416 hz417 hf418 hf419 hf420 hf421 hf422 hz423 hz424 hz425 hf426 hf427 hf428
              obtain ⟨hz438, hz439, hz440, hf441, hf442, hf443⟩ := MB.lay3 BKg0.out
              obtain ⟨hz444, hz445, hz446, hz447, hz448, hf449, hf450, hf451, hf452, hf453⟩ := MB.lay5 BKg7.out
              obtain ⟨hz454, hz455, hz456, hf457, hf458, hf459⟩ := MB.lay3 BKg27.out
              obtain ⟨A460, cp461, he_⟩ := Kd.N_slice HN437.out
              subst he_
              have H := HH.out
              replace H := Option.bind_eq_some_iff.mp H
              obtain ⟨⟨t462, t463⟩, at_, H⟩ := H
              have At464 := Aside0.mk at_
              clear at_
              replace HH := Aside0.mk (show (some (t462, t463)) = some (r1, r2) from H)
              clear H
              go_wp2_with (((with_reducible refine gate_callee (f := 48) rfl ?_); (try (refine gate_guard (by rfl) ?_; dsimp only)); refine goesL_ (some 62) rfl rfl Try.func48 (by kernel_rfl) rfl #[.pointer (some ⟨g0, 0, none⟩), .string (strOfNums x55)] rfl (by (try simp only [List.map_toArray, List.map_cons, List.map_nil]); first | done | rfl) ?_; refine (ber_sheaf_put.calls B_ g0 (p436) ((.slice A460 t431.length cp461)) t431 t432 (strOfNums x55) t462 t463 _ (Nat.le_trans hB_.out (MB.bsize (a := B_) HB.out)) BKg0.out GEg0.out HPp436.out (Kd.N_mono (MB.N_only HN437.out) (fun k_ hk_ => ⟨trivial, .inl hk_, (fun hk_ => hk_.2.2.1) (HN437.out.1 k_ hk_.symm)⟩)) At464.out).mono ?_; rintro e w465 ⟨v466, p467, rfl, hn1, hp1, hbk, hfr, hb⟩; refine ⟨_, rfl, ?_⟩); replace hbk := Aside0.mk hbk; replace hfr := Aside0.mk hfr; replace hp1 := Aside0.mk hp1; refine stop_ ?_)
              refine Stop.go ?_
              replace hbk := hbk.out
              replace hfr := hfr.out
              replace hp1 := hp1.out
              have hat1 : ∀ k_ : Nat, (v466 : Value).ownBlock = some k_ → some k_ = ((.slice A460 t431.length cp461) : Value).ownBlock ∨ w434.heap.size ≤ k_ := fun k_ h_ => (hn1.1 k_ h_).2.1
              have HN468 := Aside0.mk (Kd.N_mono hn1 (fun k_ hk_ => hk_.2.1.elim (fun h_ => HN437.out.1 k_ h_.symm) (fun h_ => ⟨trivial, (.inr (Nat.le_trans (MB.bsize (a := B_) HB.out) h_)), Kd.freshB (o := .cells #[p436, (.slice A460 t431.length cp461), .bool t432] 81 (0, 0)) BKg0.out k_ h_, Kd.freshB (o := .cells #[.int .i64 a1_0, .bool true, .int .i64 a1_2, .string a1_3, .slice A1_4 l1_4.length c1_4] 28 (0, 0)) BKg7.out k_ h_, Kd.freshB (o := .cells #[p53, (.slice A224 x55.length cp225), .bool x57] 81 (0, 0)) BKg27.out k_ h_⟩)) : Kd.N (Kd.int .u8) 5 w465 B_ (fun k_ => True ∧ (some k_ = ((.slice A200 l0_1.length cp201) : Value).ownBlock ∨ w.heap.size ≤ k_) ∧ k_ ≠ g0 ∧ k_ ≠ g7 ∧ k_ ≠ g27) v466 t462)
              replace HFfr := Aside0.mk (Kd.F_mono (MB.F_ptr (ok := (fun k_ => True ∧ k_ ≠ g0 ∧ k_ ≠ g7 ∧ k_ ≠ g27 ∧ some k_ ≠ ((.slice A460 t431.length cp461) : Value).ownBlock)) HFfr.out hfr (fun k_ hk_ => hk_.2.1) (fun k_ hk_ => hk_.2.2.2.2)) (fun k_ hk_ => ⟨hk_.1.1, hk_.1.2.1, hk_.1.2.2.1, hk_.1.2.2.2.1, (fun he_ => (hat1 k_ he_.symm).elim (fun h_ => absurd h_ (hk_.1.2.2.2.2)) (fun h_ => absurd hk_.2 (Nat.not_lt.2 h_)))⟩) : Kd.F (MB.frK w P0_) _ (fun k_ => True ∧ k_ ≠ g0 ∧ k_ ≠ g7 ∧ k_ ≠ g27 ∧ some k_ ≠ (v466 : Value).ownBlock) _ _ _)
              replace HF1_4 := Aside0.mk (Kd.F_mono (MB.F_ptr (ok := (fun k_ => True ∧ (P_ k_ ∨ w.heap.size ≤ k_) ∧ k_ ≠ g0 ∧ k_ ≠ g7 ∧ k_ ≠ g27 ∧ some k_ ≠ ((.slice A460 t431.length cp461) : Value).ownBlock)) HF1_4.out hfr (fun k_ hk_ => hk_.2.2.1) (fun k_ hk_ => hk_.2.2.2.2.2)) (fun k_ hk_ => ⟨hk_.1.1, hk_.1.2.1, hk_.1.2.2.1, hk_.1.2.2.2.1, hk_.1.2.2.2.2.1, (fun he_ => (hat1 k_ he_.symm).elim (fun h_ => absurd h_ (hk_.1.2.2.2.2.2)) (fun h_ => absurd hk_.2 (Nat.not_lt.2 h_)))⟩) : Kd.F k28 _ (fun k_ => True ∧ (P_ k_ ∨ w.heap.size ≤ k_) ∧ k_ ≠ g0 ∧ k_ ≠ g7 ∧ k_ ≠ g27 ∧ some k_ ≠ (v466 : Value).ownBlock) _ _ _)
              replace HF276 := Aside0.mk (Kd.F_mono (MB.F_ptr (ok := (fun k_ => True ∧ (P_ k_ ∨ w.heap.size ≤ k_) ∧ k_ ≠ g0 ∧ k_ ≠ g7 ∧ k_ ≠ g27 ∧ some k_ ≠ ((.slice A460 t431.length cp461) : Value).ownBlock)) HF276.out hfr (fun k_ hk_ => hk_.2.2.1) (fun k_ hk_ => hk_.2.2.2.2.2)) (fun k_ hk_ => ⟨hk_.1.1, hk_.1.2.1, hk_.1.2.2.1, hk_.1.2.2.2.1, hk_.1.2.2.2.2.1, (fun he_ => (hat1 k_ he_.symm).elim (fun h_ => absurd h_ (hk_.1.2.2.2.2.2)) (fun h_ => absurd hk_.2 (Nat.not_lt.2 h_)))⟩) : Kd.F (Kd.int .u8) _ (fun k_ => True ∧ (P_ k_ ∨ w.heap.size ≤ k_) ∧ k_ ≠ g0 ∧ k_ ≠ g7 ∧ k_ ≠ g27 ∧ some k_ ≠ (v466 : Value).ownBlock) _ _ _)
              replace BKg7 := Aside0.mk (MB.blk_ptr (o := .cells #[.int .i64 a1_0, .bool true, .int .i64 a1_2, .string a1_3, .slice A1_4 l1_4.length c1_4] 28 (0, 0)) BKg7.out hfr NEg7_g0.out (Kd.N_away (ok := (fun k_ => True ∧ (some k_ = ((.slice A200 l0_1.length cp201) : Value).ownBlock ∨ w.heap.size ≤ k_) ∧ k_ ≠ g0 ∧ k_ ≠ g7 ∧ k_ ≠ g27)) HN437.out (fun k_ hk_ => hk_.2.2.2.1)))
              replace BKg27 := Aside0.mk (MB.blk_ptr (o := .cells #[p53, (.slice A224 x55.length cp225), .bool x57] 81 (0, 0)) BKg27.out hfr NEg27_g0.out (Kd.N_away (ok := (fun k_ => True ∧ (some k_ = ((.slice A200 l0_1.length cp201) : Value).ownBlock ∨ w.heap.size ≤ k_) ∧ k_ ≠ g0 ∧ k_ ≠ g7 ∧ k_ ≠ g27)) HN437.out (fun k_ hk_ => hk_.2.2.2.2)))
              replace HB := Aside0.mk (Below.trans HB.out hb)
              replace BKg0 := Aside0.mk hbk
              have HPp467 := Aside0.mk hp1
              clear hbk hfr hb hp1 hn1 hat1
              clear HN437
              clear hz438 hz439 hz440 hf441 hf442 hf443 hz444 hz445 hz446 hz447 hz448 hf449 hf450 hf451 hf452 hf453 hz454 hz455 hz456 hf457 hf458 hf459
              obtain ⟨hz469, hz470, hz471, hf472, hf473, hf474⟩ := MB.lay3 BKg0.out
              obtain ⟨hz475, hz476, hz477, hz478, hz479, hf480, hf481, hf482, hf483, hf484⟩ := MB.lay5 BKg7.out
              obtain ⟨hz485, hz486, hz487, hf488, hf489, hf490⟩ := MB.lay3 BKg27.out
              have H := HH.out
              simp only [Option.some.injEq, Prod.mk.injEq] at H
              obtain ⟨rfl, rfl⟩ := H
              clear HH
              go_wp2
              go_end0
              unfold ber_sheaf_lay.Post
              exact ⟨(v466), (p467), by first | rfl | (simp; done) | (simp [*]; done), (Kd.N_mono (ok := (fun k_ => True ∧ (some k_ = ((.slice A200 l0_1.length cp201) : Value).ownBlock ∨ w.heap.size ≤ k_) ∧ k_ ≠ g0 ∧ k_ ≠ g7 ∧ k_ ≠ g27)) HN468.out (fun k_ hk_ => ⟨trivial, hk_.2.1, hk_.2.2.1⟩)), HPp467.out, (by first | exact BKg0.out | (have h_ := BKg0.out; simp only [*] at h_; exact h_) | (have h_ := BKg0.out; simp [*] at h_ ⊢; exact h_)), (fun k_ hg_ hv_ hlt_ => MB.frK_out HFfr.out k_ (by rw [HPO.out]; exact ⟨hg_, hv_⟩) hlt_), HB.out⟩
    · have H := HH.out
      rw [if_neg c26] at H
      replace HH := Aside0.mk H
      clear H
      replace c26 := Bool.eq_false_iff.mpr c26
      subst c26
      go_wp2_with (((with_reducible refine gate_dst (N := 51) rfl ?_); (try (refine gate_guard (by rfl) ?_; dsimp only)); refine Kd.N_lit (Kd.int .u8) B_ 5 rfl (N' := 51) rfl (xs := ([(Go.bits .or .i64 (wrap64 (a1_0 * 64)) a1_2) % 256] : List Int)) (inner := [.int .u8 ((Go.bits .or .i64 (wrap64 (a1_0 * 64)) a1_2) % 256)]) (ok := (fun k_ => True ∧ (P_ k_ ∨ w.heap.size ≤ k_) ∧ some k_ ≠ (v0_1 : Value).ownBlock ∧ k_ ≠ g0 ∧ k_ ≠ g7)) (okp := (fun k_ => True ∧ (P_ k_ ∨ w.heap.size ≤ k_) ∧ some k_ ≠ (v0_1 : Value).ownBlock ∧ k_ ≠ g0 ∧ k_ ≠ g7)) ?hr ?hp (fun _ hk_ => hk_) ?hf HB.out (Nat.le_trans hB_.out (MB.bsize (a := B_) HB.out)) (by first | simp | decide) ?_; (case hr => first | (go_simp; done) | (go_simp; rfl)); (case hp => exact (Reps.one (fun _ _ => rfl) (Reps.none _ _))); (case hf => exact (show ∀ k_, w8.heap.size ≤ k_ → (fun k_ => True ∧ (P_ k_ ∨ w.heap.size ≤ k_) ∧ some k_ ≠ (v0_1 : Value).ownBlock ∧ k_ ≠ g0 ∧ k_ ≠ g7) k_ from fun k_ h_ => ⟨trivial, (.inr (Nat.le_trans (MB.bsize (a := B_) HB.out) h_)), Kd.fresh' (Kd.N_lt HN0_1.out) k_ h_, Kd.freshB (o := .cells #[p0_0, v0_1, .bool false] 81 (0, 0)) BKg0.out k_ h_, Kd.freshB (o := .cells #[.int .i64 a1_0, .bool false, .int .i64 a1_2, .string a1_3, .slice A1_4 l1_4.length c1_4] 28 (0, 0)) BKg7.out k_ h_⟩) _ (Nat.le_refl _)); intro v491 w492 hn1 hb1 hg1 hat1); replace hat1 := Aside0.mk hat1; refine stop_ ?_)
      refine Stop.go ?_
      replace hat1 := hat1.out
      have hbe := MW.grown_below hg1
      have hba := MW.base_of hat1
      replace HFfr := Aside0.mk (Kd.F_mono (Kd.F_elder' (ok := (fun k_ => True ∧ some k_ ≠ (v0_1 : Value).ownBlock ∧ k_ ≠ g0 ∧ k_ ≠ g7)) HFfr.out hba hbe) (fun k_ hk_ => ⟨hk_.1.1, hk_.1.2.1, hk_.1.2.2.1, hk_.1.2.2.2, hk_.2⟩) : Kd.F (MB.frK w P0_) _ (fun k_ => True ∧ some k_ ≠ (v0_1 : Value).ownBlock ∧ k_ ≠ g0 ∧ k_ ≠ g7 ∧ some k_ ≠ (v491 : Value).ownBlock) _ _ _)
      replace HF1_4 := Aside0.mk (Kd.F_mono (Kd.F_elder' (ok := (fun k_ => True ∧ (P_ k_ ∨ w.heap.size ≤ k_) ∧ some k_ ≠ (v0_1 : Value).ownBlock ∧ k_ ≠ g0 ∧ k_ ≠ g7)) HF1_4.out hba hbe) (fun k_ hk_ => ⟨hk_.1.1, hk_.1.2.1, hk_.1.2.2.1, hk_.1.2.2.2.1, hk_.1.2.2.2.2, hk_.2⟩) : Kd.F k28 _ (fun k_ => True ∧ (P_ k_ ∨ w.heap.size ≤ k_) ∧ some k_ ≠ (v0_1 : Value).ownBlock ∧ k_ ≠ g0 ∧ k_ ≠ g7 ∧ some k_ ≠ (v491 : Value).ownBlock) _ _ _)
      replace HN0_1 := Aside0.mk (Kd.N_mono (Kd.N_elder' (ok := (fun k_ => True ∧ (some k_ = (v0_1 : Value).ownBlock ∨ w.heap.size ≤ k_) ∧ k_ ≠ g0 ∧ k_ ≠ g7)) HN0_1.out hba hbe) (fun k_ hk_ => ⟨hk_.1.1, hk_.1.2.1, hk_.1.2.2.1, hk_.1.2.2.2, hk_.2⟩) : Kd.N (Kd.int .u8) _ _ _ (fun k_ => True ∧ (some k_ = (v0_1 : Value).ownBlock ∨ w.heap.size ≤ k_) ∧ k_ ≠ g0 ∧ k_ ≠ g7 ∧ some k_ ≠ (v491 : Value).ownBlock) _ _)
      replace BKg0 := Aside0.mk (blk_below (o := .cells #[p0_0, v0_1, .bool false] 81 (0, 0)) BKg0.out hbe)
      replace BKg7 := Aside0.mk (blk_below (o := .cells #[.int .i64 a1_0, .bool false, .int .i64 a1_2, .string a1_3, .slice A1_4 l1_4.length c1_4] 28 (0, 0)) BKg7.out hbe)
      replace HB := Aside0.mk hb1
      have HN493 := Aside0.mk hn1
      clear hn1 hb1 hg1 hat1 hbe hba
      clear hz9 hz10 hz11 hf12 hf13 hf14 hz15 hz16 hz17 hz18 hz19 hf20 hf21 hf22 hf23 hf24
      obtain ⟨hz494, hz495, hz496, hf497, hf498, hf499⟩ := MB.lay3 BKg0.out
      obtain ⟨hz500, hz501, hz502, hz503, hz504, hf505, hf506, hf507, hf508, hf509⟩ := MB.lay5 BKg7.out
      obtain ⟨A510, cp511, he_⟩ := Kd.N_slice HN493.out
      subst he_
      have HL513 := Aside0.mk (Kd.N_reads' HN493.out).2.1
      have HF512 := Aside0.mk (Kd.N_F HN493.out)
      clear HN493
      replace HFfr := Aside0.mk (Kd.F_mono (ok := (fun k_ => True ∧ some k_ ≠ (v0_1 : Value).ownBlock ∧ k_ ≠ g0 ∧ k_ ≠ g7 ∧ some k_ ≠ ((.slice A510 ([(Go.bits .or .i64 (wrap64 (a1_0 * 64)) a1_2) % 256] : List Int).length cp511) : Value).ownBlock)) HFfr.out (fun k_ hk_ => ⟨hk_.1, hk_.2.1, hk_.2.2.1, hk_.2.2.2.1⟩) : Kd.F (MB.frK w P0_) _ (fun k_ => True ∧ some k_ ≠ (v0_1 : Value).ownBlock ∧ k_ ≠ g0 ∧ k_ ≠ g7) _ _ _)
      replace HF1_4 := Aside0.mk (Kd.F_mono (ok := (fun k_ => True ∧ (P_ k_ ∨ w.heap.size ≤ k_) ∧ some k_ ≠ (v0_1 : Value).ownBlock ∧ k_ ≠ g0 ∧ k_ ≠ g7 ∧ some k_ ≠ ((.slice A510 ([(Go.bits .or .i64 (wrap64 (a1_0 * 64)) a1_2) % 256] : List Int).length cp511) : Value).ownBlock)) HF1_4.out (fun k_ hk_ => ⟨hk_.1, hk_.2.1, hk_.2.2.1, hk_.2.2.2.1, hk_.2.2.2.2.1⟩) : Kd.F k28 _ (fun k_ => True ∧ (P_ k_ ∨ w.heap.size ≤ k_) ∧ some k_ ≠ (v0_1 : Value).ownBlock ∧ k_ ≠ g0 ∧ k_ ≠ g7) _ _ _)
      replace HN0_1 := Aside0.mk (Kd.N_mono (ok := (fun k_ => True ∧ (some k_ = (v0_1 : Value).ownBlock ∨ w.heap.size ≤ k_) ∧ k_ ≠ g0 ∧ k_ ≠ g7 ∧ some k_ ≠ ((.slice A510 ([(Go.bits .or .i64 (wrap64 (a1_0 * 64)) a1_2) % 256] : List Int).length cp511) : Value).ownBlock)) HN0_1.out (fun k_ hk_ => ⟨hk_.1, hk_.2.1, hk_.2.2.1, hk_.2.2.2.1⟩) : Kd.N (Kd.int .u8) _ _ _ (fun k_ => True ∧ (some k_ = (v0_1 : Value).ownBlock ∨ w.heap.size ≤ k_) ∧ k_ ≠ g0 ∧ k_ ≠ g7) _ _)
      have hcv514 := Kd.C_string (P := Try.prog) (A := A510) (c := cp511) Try.underlying77 Try.underlying5 Try.underlying9 (Kd.F_now HF512.out)
      (try simp only [List.length_cons, List.length_nil, Nat.reduceAdd] at hcv514)
      obtain ⟨A515, cp516, he_⟩ := Kd.N_slice HN0_1.out
      subst he_
      have H := HH.out
      replace H := Option.bind_eq_some_iff.mp H
      obtain ⟨⟨t517, t518⟩, at_, H⟩ := H
      have At519 := Aside0.mk at_
      clear at_
      replace HH := Aside0.mk (show (if 65535 < (a1_3.size : Int) then ((ber_length.f 65535).bind fun t545 => ((ber_sheaf_put.f t517 t518 t545).bind fun bt566 => ((ber_sheaf_put.f bt566.1 bt566.2 a1_3).bind fun bt591 => (some (bt591.1, bt591.2))))) else ((ber_length.f (a1_3.size : Int)).bind fun t618 => ((ber_sheaf_put.f t517 t518 t618).bind fun bt639 => ((ber_sheaf_put.f bt639.1 bt639.2 a1_3).bind fun bt664 => (some (bt664.1, bt664.2)))))) = some (r1, r2) from H)
      clear H
      go_wp2_with (((with_reducible refine gate_callee (f := 48) rfl ?_); (try (refine gate_guard (by rfl) ?_; dsimp only)); refine goesL_ (some 53) rfl rfl Try.func48 (by kernel_rfl) rfl #[.pointer (some ⟨g0, 0, none⟩), .string (strOfNums ([(Go.bits .or .i64 (wrap64 (a1_0 * 64)) a1_2) % 256] : List Int))] rfl (by (try simp only [List.map_toArray, List.map_cons, List.map_nil]); first | done | rfl) ?_; refine (ber_sheaf_put.calls B_ g0 (p0_0) ((.slice A515 l0_1.length cp516)) l0_1 false (strOfNums ([(Go.bits .or .i64 (wrap64 (a1_0 * 64)) a1_2) % 256] : List Int)) t517 t518 _ (Nat.le_trans hB_.out (MB.bsize (a := B_) HB.out)) BKg0.out GEg0.out HPp0_0.out (Kd.N_mono (MB.N_only HN0_1.out) (fun k_ hk_ => ⟨trivial, .inl hk_, (fun hk_ => hk_.2.2.1) (HN0_1.out.1 k_ hk_.symm)⟩)) At519.out).mono ?_; rintro e w520 ⟨v521, p522, rfl, hn1, hp1, hbk, hfr, hb⟩; refine ⟨_, rfl, ?_⟩); replace hbk := Aside0.mk hbk; replace hfr := Aside0.mk hfr; replace hp1 := Aside0.mk hp1; refine stop_ ?_)
      refine Stop.go ?_
      replace hbk := hbk.out
      replace hfr := hfr.out
      replace hp1 := hp1.out
      have hat1 : ∀ k_ : Nat, (v521 : Value).ownBlock = some k_ → some k_ = ((.slice A515 l0_1.length cp516) : Value).ownBlock ∨ w492.heap.size ≤ k_ := fun k_ h_ => (hn1.1 k_ h_).2.1
      have HN523 := Aside0.mk (Kd.N_mono hn1 (fun k_ hk_ => hk_.2.1.elim (fun h_ => HN0_1.out.1 k_ h_.symm) (fun h_ => ⟨trivial, (.inr (Nat.le_trans (MB.bsize (a := B_) HB.out) h_)), Kd.freshB (o := .cells #[p0_0, (.slice A515 l0_1.length cp516), .bool false] 81 (0, 0)) BKg0.out k_ h_, Kd.freshB (o := .cells #[.int .i64 a1_0, .bool false, .int .i64 a1_2, .string a1_3, .slice A1_4 l1_4.length c1_4] 28 (0, 0)) BKg7.out k_ h_⟩)) : Kd.N (Kd.int .u8) 5 w520 B_ (fun k_ => True ∧ (some k_ = ((.slice A515 l0_1.length cp516) : Value).ownBlock ∨ w.heap.size ≤ k_) ∧ k_ ≠ g0 ∧ k_ ≠ g7) v521 t517)
      replace HFfr := Aside0.mk (Kd.F_mono (MB.F_ptr (ok := (fun k_ => True ∧ some k_ ≠ ((.slice A515 l0_1.length cp516) : Value).ownBlock ∧ k_ ≠ g0 ∧ k_ ≠ g7)) HFfr.out hfr (fun k_ hk_ => hk_.2.2.1) (fun k_ hk_ => hk_.2.1)) (fun k_ hk_ => ⟨hk_.1.1, hk_.1.2.2.1, hk_.1.2.2.2, (fun he_ => (hat1 k_ he_.symm).elim (fun h_ => absurd h_ (hk_.1.2.1)) (fun h_ => absurd hk_.2 (Nat.not_lt.2 h_)))⟩) : Kd.F (MB.frK w P0_) _ (fun k_ => True ∧ k_ ≠ g0 ∧ k_ ≠ g7 ∧ some k_ ≠ (v521 : Value).ownBlock) _ _ _)
      replace HF1_4 := Aside0.mk (Kd.F_mono (MB.F_ptr (ok := (fun k_ => True ∧ (P_ k_ ∨ w.heap.size ≤ k_) ∧ some k_ ≠ ((.slice A515 l0_1.length cp516) : Value).ownBlock ∧ k_ ≠ g0 ∧ k_ ≠ g7)) HF1_4.out hfr (fun k_ hk_ => hk_.2.2.2.1) (fun k_ hk_ => hk_.2.2.1)) (fun k_ hk_ => ⟨hk_.1.1, hk_.1.2.1, hk_.1.2.2.2.1, hk_.1.2.2.2.2, (fun he_ => (hat1 k_ he_.symm).elim (fun h_ => absurd h_ (hk_.1.2.2.1)) (fun h_ => absurd hk_.2 (Nat.not_lt.2 h_)))⟩) : Kd.F k28 _ (fun k_ => True ∧ (P_ k_ ∨ w.heap.size ≤ k_) ∧ k_ ≠ g0 ∧ k_ ≠ g7 ∧ some k_ ≠ (v521 : Value).ownBlock) _ _ _)
      replace HF512 := Aside0.mk (Kd.F_mono (MB.F_ptr (ok := (fun k_ => True ∧ (P_ k_ ∨ w.heap.size ≤ k_) ∧ some k_ ≠ ((.slice A515 l0_1.length cp516) : Value).ownBlock ∧ k_ ≠ g0 ∧ k_ ≠ g7)) HF512.out hfr (fun k_ hk_ => hk_.2.2.2.1) (fun k_ hk_ => hk_.2.2.1)) (fun k_ hk_ => ⟨hk_.1.1, hk_.1.2.1, hk_.1.2.2.2.1, hk_.1.2.2.2.2, (fun he_ => (hat1 k_ he_.symm).elim (fun h_ => absurd h_ (hk_.1.2.2.1)) (fun h_ => absurd hk_.2 (Nat.not_lt.2 h_)))⟩) : Kd.F (Kd.int .u8) _ (fun k_ => True ∧ (P_ k_ ∨ w.heap.size ≤ k_) ∧ k_ ≠ g0 ∧ k_ ≠ g7 ∧ some k_ ≠ (v521 : Value).ownBlock) _ _ _)
      replace BKg7 := Aside0.mk (MB.blk_ptr (o := .cells #[.int .i64 a1_0, .bool false, .int .i64 a1_2, .string a1_3, .slice A1_4 l1_4.length c1_4] 28 (0, 0)) BKg7.out hfr NEg7_g0.out (Kd.N_away (ok := (fun k_ => True ∧ (some k_ = ((.slice A515 l0_1.length cp516) : Value).ownBlock ∨ w.heap.size ≤ k_) ∧ k_ ≠ g0 ∧ k_ ≠ g7)) HN0_1.out (fun k_ hk_ => hk_.2.2.2)))
      replace HB := Aside0.mk (Below.trans HB.out hb)
      replace BKg0 := Aside0.mk hbk
      have HPp522 := Aside0.mk hp1
      clear hbk hfr hb hp1 hn1 hat1
      clear HN0_1
      clear hz494 hz495 hz496 hf497 hf498 hf499 hz500 hz501 hz502 hz503 hz504 hf505 hf506 hf507 hf508 hf509 hcv514
      obtain ⟨hz524, hz525, hz526, hf527, hf528, hf529⟩ := MB.lay3 BKg0.out
      obtain ⟨hz530, hz531, hz532, hz533, hz534, hf535, hf536, hf537, hf538, hf539⟩ := MB.lay5 BKg7.out
      by_cases c540 : 65535 < (a1_3.size : Int)
      · have H := HH.out
        rw [if_pos c540] at H
        replace HH := Aside0.mk H
        clear H
        have hk541 : (65535 < (a1_3.size : Int)) = True := eq_true c540
        have hk542 : (65535 < a1_3.size) = True := eq_true (by have := c540; omega)
        have hk543 : decide (65535 < (a1_3.size : Int)) = true := decide_eq_true c540
        have hk544 : decide (65535 < a1_3.size) = true := decide_eq_true (by omega)
        clear c540
        have H := HH.out
        replace H := Option.bind_eq_some_iff.mp H
        obtain ⟨t545, at_, H⟩ := H
        have At546 := Aside0.mk at_
        clear at_
        replace HH := Aside0.mk (show ((ber_sheaf_put.f t517 t518 t545).bind fun bt566 => ((ber_sheaf_put.f bt566.1 bt566.2 a1_3).bind fun bt591 => (some (bt591.1, bt591.2)))) = some (r1, r2) from H)
        clear H
        go_wp2_with (((with_reducible refine gate_callee (f := 49) rfl ?_); (try (refine gate_guard (by rfl) ?_; dsimp only)); refine goesL_ (some 58) rfl rfl Try.func49 (by kernel_rfl) rfl #[.int .i64 65535] rfl (by (try simp only [List.map_toArray, List.map_cons, List.map_nil]); first | done | rfl | (simp only [List.length_drop, List.length_take]; rfl)) ?_; (with_reducible refine (ber_length.calls  65535 t545 _  At546.out).mono ?_); rintro e w547 ⟨rfl, hb⟩; refine ⟨_, rfl, ?_⟩); refine stop_ ?_)
        refine Stop.go ?_
        replace HFfr := Aside0.mk (Kd.F_below HFfr.out hb)
        replace HF1_4 := Aside0.mk (Kd.F_below HF1_4.out hb)
        replace HF512 := Aside0.mk (Kd.F_below HF512.out hb)
        replace HN523 := Aside0.mk (Kd.N_below HN523.out hb)
        replace BKg0 := Aside0.mk (blk_below (o := .cells #[p522, v521, .bool t518] 81 (0, 0)) BKg0.out hb)
        replace BKg7 := Aside0.mk (blk_below (o := .cells #[.int .i64 a1_0, .bool false, .int .i64 a1_2, .string a1_3, .slice A1_4 l1_4.length c1_4] 28 (0, 0)) BKg7.out hb)
        replace HB := Aside0.mk (MB.below_stepB hB_.out HB.out hb)
        clear hb
        clear hz524 hz525 hz526 hf527 hf528 hf529 hz530 hz531 hz532 hz533 hz534 hf535 hf536 hf537 hf538 hf539
        obtain ⟨hz548, hz549, hz550, hf551, hf552, hf553⟩ := MB.lay3 BKg0.out
        obtain ⟨hz554, hz555, hz556, hz557, hz558, hf559, hf560, hf561, hf562, hf563⟩ := MB.lay5 BKg7.out
        obtain ⟨A564, cp565, he_⟩ := Kd.N_slice HN523.out
        subst he_
        have H := HH.out
        replace H := Option.bind_eq_some_iff.mp H
        obtain ⟨⟨t566, t567⟩, at_, H⟩ := H
        have At568 := Aside0.mk at_
        clear at_
        replace HH := Aside0.mk (show ((ber_sheaf_put.f t566 t567 a1_3).bind fun bt591 => (some (bt591.1, bt591.2))) = some (r1, r2) from H)
        clear H
        go_wp2_with (((with_reducible refine gate_callee (f := 48) rfl ?_); (try (refine gate_guard (by rfl) ?_; dsimp only)); refine goesL_ (some 59) rfl rfl Try.func48 (by kernel_rfl) rfl #[.pointer (some ⟨g0, 0, none⟩), .string t545] rfl (by (try simp only [List.map_toArray, List.map_cons, List.map_nil]); first | done | rfl) ?_; refine (ber_sheaf_put.calls B_ g0 (p522) ((.slice A564 t517.length cp565)) t517 t518 t545 t566 t567 _ (Nat.le_trans hB_.out (MB.bsize (a := B_) HB.out)) BKg0.out GEg0.out HPp522.out (Kd.N_mono (MB.N_only HN523.out) (fun k_ hk_ => ⟨trivial, .inl hk_, (fun hk_ => hk_.2.2.1) (HN523.out.1 k_ hk_.symm)⟩)) At568.out).mono ?_; rintro e w569 ⟨v570, p571, rfl, hn1, hp1, hbk, hfr, hb⟩; refine ⟨_, rfl, ?_⟩); replace hbk := Aside0.mk hbk; replace hfr := Aside0.mk hfr; replace hp1 := Aside0.mk hp1; refine stop_ ?_)
        refine Stop.go ?_
        replace hbk := hbk.out
        replace hfr := hfr.out
        replace hp1 := hp1.out
        have hat1 : ∀ k_ : Nat, (v570 : Value).ownBlock = some k_ → some k_ = ((.slice A564 t517.length cp565) : Value).ownBlock ∨ w547.heap.size ≤ k_ := fun k_ h_ => (hn1.1 k_ h_).2.1
        have HN572 := Aside0.mk (Kd.N_mono hn1 (fun k_ hk_ => hk_.2.1.elim (fun h_ => HN523.out.1 k_ h_.symm) (fun h_ => ⟨trivial, (.inr (Nat.le_trans (MB.bsize (a := B_) HB.out) h_)), Kd.freshB (o := .cells #[p522, (.slice A564 t517.length cp565), .bool t518] 81 (0, 0)) BKg0.out k_ h_, Kd.freshB (o := .cells #[.int .i64 a1_0, .bool false, .int .i64 a1_2, .string a1_3, .slice A1_4 l1_4.length c1_4] 28 (0, 0)) BKg7.out k_ h_⟩)) : Kd.N (Kd.int .u8) 5 w569 B_ (fun k_ => True ∧ (some k_ = ((.slice A515 l0_1.length cp516) : Value).ownBlock ∨ w.heap.size ≤ k_) ∧ k_ ≠ g0 ∧ k_ ≠ g7) v570 t566)
        replace HFfr := Aside0.mk (Kd.F_mono (MB.F_ptr (ok := (fun k_ => True ∧ k_ ≠ g0 ∧ k_ ≠ g7 ∧ some k_ ≠ ((.slice A564 t517.length cp565) : Value).ownBlock)) HFfr.out hfr (fun k_ hk_ => hk_.2.1) (fun k_ hk_ => hk_.2.2.2)) (fun k_ hk_ => ⟨hk_.1.1, hk_.1.2.1, hk_.1.2.2.1, (fun he_ => (hat1 k_ he_.symm).elim (fun h_ => absurd h_ (hk_.1.2.2.2)) (fun h_ => absurd hk_.2 (Nat.not_lt.2 h_)))⟩) : Kd.F (MB.frK w P0_) _ (fun k_ => True ∧ k_ ≠ g0 ∧ k_ ≠ g7 ∧ some k_ ≠ (v570 : Value).ownBlock) _ _ _)
        replace HF1_4 := Aside0.mk (Kd.F_mono (MB.F_ptr (ok := (fun k_ => True ∧ (P_ k_ ∨ w.heap.size ≤ k_) ∧ k_ ≠ g0 ∧ k_ ≠ g7 ∧ some k_ ≠ ((.slice A564 t517.length cp565) : Value).ownBlock)) HF1_4.out hfr (fun k_ hk_ => hk_.2.2.1) (fun k_ hk_ => hk_.2.2.2.2)) (fun k_ hk_ => ⟨hk_.1.1, hk_.1.2.1, hk_.1.2.2.1, hk_.1.2.2.2.1, (fun he_ => (hat1 k_ he_.symm).elim (fun h_ => absurd h_ (hk_.1.2.2.2.2)) (fun h_ => absurd hk_.2 (Nat.not_lt.2 h_)))⟩) : Kd.F k28 _ (fun k_ => True ∧ (P_ k_ ∨ w.heap.size ≤ k_) ∧ k_ ≠ g0 ∧ k_ ≠ g7 ∧ some k_ ≠ (v570 : Value).ownBlock) _ _ _)
        replace HF512 := Aside0.mk (Kd.F_mono (MB.F_ptr (ok := (fun k_ => True ∧ (P_ k_ ∨ w.heap.size ≤ k_) ∧ k_ ≠ g0 ∧ k_ ≠ g7 ∧ some k_ ≠ ((.slice A564 t517.length cp565) : Value).ownBlock)) HF512.out hfr (fun k_ hk_ => hk_.2.2.1) (fun k_ hk_ => hk_.2.2.2.2)) (fun k_ hk_ => ⟨hk_.1.1, hk_.1.2.1, hk_.1.2.2.1, hk_.1.2.2.2.1, (fun he_ => (hat1 k_ he_.symm).elim (fun h_ => absurd h_ (hk_.1.2.2.2.2)) (fun h_ => absurd hk_.2 (Nat.not_lt.2 h_)))⟩) : Kd.F (Kd.int .u8) _ (fun k_ => True ∧ (P_ k_ ∨ w.heap.size ≤ k_) ∧ k_ ≠ g0 ∧ k_ ≠ g7 ∧ some k_ ≠ (v570 : Value).ownBlock) _ _ _)
        replace BKg7 := Aside0.mk (MB.blk_ptr (o := .cells #[.int .i64 a1_0, .bool false, .int .i64 a1_2, .string a1_3, .slice A1_4 l1_4.length c1_4] 28 (0, 0)) BKg7.out hfr NEg7_g0.out (Kd.N_away (ok := (fun k_ => True ∧ (some k_ = ((.slice A515 l0_1.length cp516) : Value).ownBlock ∨ w.heap.size ≤ k_) ∧ k_ ≠ g0 ∧ k_ ≠ g7)) HN523.out (fun k_ hk_ => hk_.2.2.2)))
        replace HB := Aside0.mk (Below.trans HB.out hb)
        replace BKg0 := Aside0.mk hbk
        have HPp571 := Aside0.mk hp1
        clear hbk hfr hb hp1 hn1 hat1
        clear HN523
        clear hz548 hz549 hz550 hf551 hf552 hf553 hz554 hz555 hz556 hz557 hz558 hf559 hf560 hf561 hf562 hf563
        obtain ⟨hz573, hz574, hz575, hf576, hf577, hf578⟩ := MB.lay3 BKg0.out
        obtain ⟨hz579, hz580, hz581, hz582, hz583, hf584, hf585, hf586, hf587, hf588⟩ := MB.lay5 BKg7.out
        obtain ⟨A589, cp590, he_⟩ := Kd.N_slice HN572.out
        subst he_
        have H := HH.out
        replace H := Option.bind_eq_some_iff.mp H
        obtain ⟨⟨t591, t592⟩, at_, H⟩ := H
        have At593 := Aside0.mk at_
        clear at_
        replace HH := Aside0.mk (show (some (t591, t592)) = some (r1, r2) from H)
        clear H
        go_wp2_with (((with_reducible refine gate_callee (f := 48) rfl ?_); (try (refine gate_guard (by rfl) ?_; dsimp only)); refine goesL_ (some 62) rfl rfl Try.func48 (by kernel_rfl) rfl #[.pointer (some ⟨g0, 0, none⟩), .string a1_3] rfl (by (try simp only [List.map_toArray, List.map_cons, List.map_nil]); first | done | rfl) ?_; refine (ber_sheaf_put.calls B_ g0 (p571) ((.slice A589 t566.length cp590)) t566 t567 a1_3 t591 t592 _ (Nat.le_trans hB_.out (MB.bsize (a := B_) HB.out)) BKg0.out GEg0.out HPp571.out (Kd.N_mono (MB.N_only HN572.out) (fun k_ hk_ => ⟨trivial, .inl hk_, (fun hk_ => hk_.2.2.1) (HN572.out.1 k_ hk_.symm)⟩)) At593.out).mono ?_; rintro e w594 ⟨v595, p596, rfl, hn1, hp1, hbk, hfr, hb⟩; refine ⟨_, rfl, ?_⟩); replace hbk := Aside0.mk hbk; replace hfr := Aside0.mk hfr; replace hp1 := Aside0.mk hp1; refine stop_ ?_)
        refine Stop.go ?_
        replace hbk := hbk.out
        replace hfr := hfr.out
        replace hp1 := hp1.out
        have hat1 : ∀ k_ : Nat, (v595 : Value).ownBlock = some k_ → some k_ = ((.slice A589 t566.length cp590) : Value).ownBlock ∨ w569.heap.size ≤ k_ := fun k_ h_ => (hn1.1 k_ h_).2.1
        have HN597 := Aside0.mk (Kd.N_mono hn1 (fun k_ hk_ => hk_.2.1.elim (fun h_ => HN572.out.1 k_ h_.symm) (fun h_ => ⟨trivial, (.inr (Nat.le_trans (MB.bsize (a := B_) HB.out) h_)), Kd.freshB (o := .cells #[p571, (.slice A589 t566.length cp590), .bool t567] 81 (0, 0)) BKg0.out k_ h_, Kd.freshB (o := .cells #[.int .i64 a1_0, .bool false, .int .i64 a1_2, .string a1_3, .slice A1_4 l1_4.length c1_4] 28 (0, 0)) BKg7.out k_ h_⟩)) : Kd.N (Kd.int .u8) 5 w594 B_ (fun k_ => True ∧ (some k_ = ((.slice A515 l0_1.length cp516) : Value).ownBlock ∨ w.heap.size ≤ k_) ∧ k_ ≠ g0 ∧ k_ ≠ g7) v595 t591)
        replace HFfr := Aside0.mk (Kd.F_mono (MB.F_ptr (ok := (fun k_ => True ∧ k_ ≠ g0 ∧ k_ ≠ g7 ∧ some k_ ≠ ((.slice A589 t566.length cp590) : Value).ownBlock)) HFfr.out hfr (fun k_ hk_ => hk_.2.1) (fun k_ hk_ => hk_.2.2.2)) (fun k_ hk_ => ⟨hk_.1.1, hk_.1.2.1, hk_.1.2.2.1, (fun he_ => (hat1 k_ he_.symm).elim (fun h_ => absurd h_ (hk_.1.2.2.2)) (fun h_ => absurd hk_.2 (Nat.not_lt.2 h_)))⟩) : Kd.F (MB.frK w P0_) _ (fun k_ => True ∧ k_ ≠ g0 ∧ k_ ≠ g7 ∧ some k_ ≠ (v595 : Value).ownBlock) _ _ _)
        replace HF1_4 := Aside0.mk (Kd.F_mono (MB.F_ptr (ok := (fun k_ => True ∧ (P_ k_ ∨ w.heap.size ≤ k_) ∧ k_ ≠ g0 ∧ k_ ≠ g7 ∧ some k_ ≠ ((.slice A589 t566.length cp590) : Value).ownBlock)) HF1_4.out hfr (fun k_ hk_ => hk_.2.2.1) (fun k_ hk_ => hk_.2.2.2.2)) (fun k_ hk_ => ⟨hk_.1.1, hk_.1.2.1, hk_.1.2.2.1, hk_.1.2.2.2.1, (fun he_ => (hat1 k_ he_.symm).elim (fun h_ => absurd h_ (hk_.1.2.2.2.2)) (fun h_ => absurd hk_.2 (Nat.not_lt.2 h_)))⟩) : Kd.F k28 _ (fun k_ => True ∧ (P_ k_ ∨ w.heap.size ≤ k_) ∧ k_ ≠ g0 ∧ k_ ≠ g7 ∧ some k_ ≠ (v595 : Value).ownBlock) _ _ _)
        replace HF512 := Aside0.mk (Kd.F_mono (MB.F_ptr (ok := (fun k_ => True ∧ (P_ k_ ∨ w.heap.size ≤ k_) ∧ k_ ≠ g0 ∧ k_ ≠ g7 ∧ some k_ ≠ ((.slice A589 t566.length cp590) : Value).ownBlock)) HF512.out hfr (fun k_ hk_ => hk_.2.2.1) (fun k_ hk_ => hk_.2.2.2.2)) (fun k_ hk_ => ⟨hk_.1.1, hk_.1.2.1, hk_.1.2.2.1, hk_.1.2.2.2.1, (fun he_ => (hat1 k_ he_.symm).elim (fun h_ => absurd h_ (hk_.1.2.2.2.2)) (fun h_ => absurd hk_.2 (Nat.not_lt.2 h_)))⟩) : Kd.F (Kd.int .u8) _ (fun k_ => True ∧ (P_ k_ ∨ w.heap.size ≤ k_) ∧ k_ ≠ g0 ∧ k_ ≠ g7 ∧ some k_ ≠ (v595 : Value).ownBlock) _ _ _)
        replace BKg7 := Aside0.mk (MB.blk_ptr (o := .cells #[.int .i64 a1_0, .bool false, .int .i64 a1_2, .string a1_3, .slice A1_4 l1_4.length c1_4] 28 (0, 0)) BKg7.out hfr NEg7_g0.out (Kd.N_away (ok := (fun k_ => True ∧ (some k_ = ((.slice A515 l0_1.length cp516) : Value).ownBlock ∨ w.heap.size ≤ k_) ∧ k_ ≠ g0 ∧ k_ ≠ g7)) HN572.out (fun k_ hk_ => hk_.2.2.2)))
        replace HB := Aside0.mk (Below.trans HB.out hb)
        replace BKg0 := Aside0.mk hbk
        have HPp596 := Aside0.mk hp1
        clear hbk hfr hb hp1 hn1 hat1
        clear HN572
        clear hz573 hz574 hz575 hf576 hf577 hf578 hz579 hz580 hz581 hz582 hz583 hf584 hf585 hf586 hf587 hf588
        obtain ⟨hz598, hz599, hz600, hf601, hf602, hf603⟩ := MB.lay3 BKg0.out
        obtain ⟨hz604, hz605, hz606, hz607, hz608, hf609, hf610, hf611, hf612, hf613⟩ := MB.lay5 BKg7.out
        have H := HH.out
        simp only [Option.some.injEq, Prod.mk.injEq] at H
        obtain ⟨rfl, rfl⟩ := H
        clear HH
        go_wp2
        go_end0
        unfold ber_sheaf_lay.Post
        exact ⟨(v595), (p596), by first | rfl | (simp; done) | (simp [*]; done), (Kd.N_mono (ok := (fun k_ => True ∧ (some k_ = ((.slice A515 l0_1.length cp516) : Value).ownBlock ∨ w.heap.size ≤ k_) ∧ k_ ≠ g0 ∧ k_ ≠ g7)) HN597.out (fun k_ hk_ => ⟨trivial, hk_.2.1, hk_.2.2.1⟩)), HPp596.out, (by first | exact BKg0.out | (have h_ := BKg0.out; simp only [*] at h_; exact h_) | (have h_ := BKg0.out; simp [*] at h_ ⊢; exact h_)), (fun k_ hg_ hv_ hlt_ => MB.frK_out HFfr.out k_ (by rw [HPO.out]; exact ⟨hg_, hv_⟩) hlt_), HB.out⟩
      · have H := HH.out
        rw [if_neg c540] at H
        replace HH := Aside0.mk H
        clear H
        have hk614 : (65535 < (a1_3.size : Int)) = False := eq_false c540
        have hk615 : (65535 < a1_3.size) = False := eq_false (by have := c540; omega)
        have hk616 : decide (65535 < (a1_3.size : Int)) = false := decide_eq_false c540
        have hk617 : decide (65535 < a1_3.size) = false := decide_eq_false (by omega)
        clear c540
        have H := HH.out
        replace H := Option.bind_eq_some_iff.mp H
        obtain ⟨t618, at_, H⟩ := H
        have At619 := Aside0.mk at_
        clear at_
        replace HH := Aside0.mk (show ((ber_sheaf_put.f t517 t518 t618).bind fun bt639 => ((ber_sheaf_put.f bt639.1 bt639.2 a1_3).bind fun bt664 => (some (bt664.1, bt664.2)))) = some (r1, r2) from H)
        clear H
        go_wp2_with (((with_reducible refine gate_callee (f := 49) rfl ?_); (try (refine gate_guard (by rfl) ?_; dsimp only)); refine goesL_ (some 58) rfl rfl Try.func49 (by kernel_rfl) rfl #[.int .i64 (a1_3.size : Int)] rfl (by (try simp only [List.map_toArray, List.map_cons, List.map_nil]); first | done | rfl | (simp only [List.length_drop, List.length_take]; rfl)) ?_; (with_reducible refine (ber_length.calls  (a1_3.size : Int) t618 _  At619.out).mono ?_); rintro e w620 ⟨rfl, hb⟩; refine ⟨_, rfl, ?_⟩); refine stop_ ?_)
        refine Stop.go ?_
        replace HFfr := Aside0.mk (Kd.F_below HFfr.out hb)
        replace HF1_4 := Aside0.mk (Kd.F_below HF1_4.out hb)
        replace HF512 := Aside0.mk (Kd.F_below HF512.out hb)
        replace HN523 := Aside0.mk (Kd.N_below HN523.out hb)
        replace BKg0 := Aside0.mk (blk_below (o := .cells #[p522, v521, .bool t518] 81 (0, 0)) BKg0.out hb)
        replace BKg7 := Aside0.mk (blk_below (o := .cells #[.int .i64 a1_0, .bool false, .int .i64 a1_2, .string a1_3, .slice A1_4 l1_4.length c1_4] 28 (0, 0)) BKg7.out hb)
        replace HB := Aside0.mk (MB.below_stepB hB_.out HB.out hb)
        clear hb
        clear hz524 hz525 hz526 hf527 hf528 hf529 hz530 hz531 hz532 hz533 hz534 hf535 hf536 hf537 hf538 hf539
        obtain ⟨hz621, hz622, hz623, hf624, hf625, hf626⟩ := MB.lay3 BKg0.out
        obtain ⟨hz627, hz628, hz629, hz630, hz631, hf632, hf633, hf634, hf635, hf636⟩ := MB.lay5 BKg7.out
        obtain ⟨A637, cp638, he_⟩ := Kd.N_slice HN523.out
        subst he_
        have H := HH.out
        replace H := Option.bind_eq_some_iff.mp H
        obtain ⟨⟨t639, t640⟩, at_, H⟩ := H
        have At641 := Aside0.mk at_
        clear at_
        replace HH := Aside0.mk (show ((ber_sheaf_put.f t639 t640 a1_3).bind fun bt664 => (some (bt664.1, bt664.2))) = some (r1, r2) from H)
        clear H
        go_wp2_with (((with_reducible refine gate_callee (f := 48) rfl ?_); (try (refine gate_guard (by rfl) ?_; dsimp only)); refine goesL_ (some 59) rfl rfl Try.func48 (by kernel_rfl) rfl #[.pointer (some ⟨g0, 0, none⟩), .string t618] rfl (by (try simp only [List.map_toArray, List.map_cons, List.map_nil]); first | done | rfl) ?_; refine (ber_sheaf_put.calls B_ g0 (p522) ((.slice A637 t517.length cp638)) t517 t518 t618 t639 t640 _ (Nat.le_trans hB_.out (MB.bsize (a := B_) HB.out)) BKg0.out GEg0.out HPp522.out (Kd.N_mono (MB.N_only HN523.out) (fun k_ hk_ => ⟨trivial, .inl hk_, (fun hk_ => hk_.2.2.1) (HN523.out.1 k_ hk_.symm)⟩)) At641.out).mono ?_; rintro e w642 ⟨v643, p644, rfl, hn1, hp1, hbk, hfr, hb⟩; refine ⟨_, rfl, ?_⟩); replace hbk := Aside0.mk hbk; replace hfr := Aside0.mk hfr; replace hp1 := Aside0.mk hp1; refine stop_ ?_)
        refine Stop.go ?_
        replace hbk := hbk.out
        replace hfr := hfr.out
        replace hp1 := hp1.out
        have hat1 : ∀ k_ : Nat, (v643 : Value).ownBlock = some k_ → some k_ = ((.slice A637 t517.length cp638) : Value).ownBlock ∨ w620.heap.size ≤ k_ := fun k_ h_ => (hn1.1 k_ h_).2.1
        have HN645 := Aside0.mk (Kd.N_mono hn1 (fun k_ hk_ => hk_.2.1.elim (fun h_ => HN523.out.1 k_ h_.symm) (fun h_ => ⟨trivial, (.inr (Nat.le_trans (MB.bsize (a := B_) HB.out) h_)), Kd.freshB (o := .cells #[p522, (.slice A637 t517.length cp638), .bool t518] 81 (0, 0)) BKg0.out k_ h_, Kd.freshB (o := .cells #[.int .i64 a1_0, .bool false, .int .i64 a1_2, .string a1_3, .slice A1_4 l1_4.length c1_4] 28 (0, 0)) BKg7.out k_ h_⟩)) : Kd.N (Kd.int .u8) 5 w642 B_ (fun k_ => True ∧ (some k_ = ((.slice A515 l0_1.length cp516) : Value).ownBlock ∨ w.heap.size ≤ k_) ∧ k_ ≠ g0 ∧ k_ ≠ g7) v643 t639)
        replace HFfr := Aside0.mk (Kd.F_mono (MB.F_ptr (ok := (fun k_ => True ∧ k_ ≠ g0 ∧ k_ ≠ g7 ∧ some k_ ≠ ((.slice A637 t517.length cp638) : Value).ownBlock)) HFfr.out hfr (fun k_ hk_ => hk_.2.1) (fun k_ hk_ => hk_.2.2.2)) (fun k_ hk_ => ⟨hk_.1.1, hk_.1.2.1, hk_.1.2.2.1, (fun he_ => (hat1 k_ he_.symm).elim (fun h_ => absurd h_ (hk_.1.2.2.2)) (fun h_ => absurd hk_.2 (Nat.not_lt.2 h_)))⟩) : Kd.F (MB.frK w P0_) _ (fun k_ => True ∧ k_ ≠ g0 ∧ k_ ≠ g7 ∧ some k_ ≠ (v643 : Value).ownBlock) _ _ _)
        replace HF1_4 := Aside0.mk (Kd.F_mono (MB.F_ptr (ok := (fun k_ => True ∧ (P_ k_ ∨ w.heap.size ≤ k_) ∧ k_ ≠ g0 ∧ k_ ≠ g7 ∧ some k_ ≠ ((.slice A637 t517.length cp638) : Value).ownBlock)) HF1_4.out hfr (fun k_ hk_ => hk_.2.2.1) (fun k_ hk_ => hk_.2.2.2.2)) (fun k_ hk_ => ⟨hk_.1.1, hk_.1.2.1, hk_.1.2.2.1, hk_.1.2.2.2.1, (fun he_ => (hat1 k_ he_.symm).elim (fun h_ => absurd h_ (hk_.1.2.2.2.2)) (fun h_ => absurd hk_.2 (Nat.not_lt.2 h_)))⟩) : Kd.F k28 _ (fun k_ => True ∧ (P_ k_ ∨ w.heap.size ≤ k_) ∧ k_ ≠ g0 ∧ k_ ≠ g7 ∧ some k_ ≠ (v643 : Value).ownBlock) _ _ _)
        replace HF512 := Aside0.mk (Kd.F_mono (MB.F_ptr (ok := (fun k_ => True ∧ (P_ k_ ∨ w.heap.size ≤ k_) ∧ k_ ≠ g0 ∧ k_ ≠ g7 ∧ some k_ ≠ ((.slice A637 t517.length cp638) : Value).ownBlock)) HF512.out hfr (fun k_ hk_ => hk_.2.2.1) (fun k_ hk_ => hk_.2.2.2.2)) (fun k_ hk_ => ⟨hk_.1.1, hk_.1.2.1, hk_.1.2.2.1, hk_.1.2.2.2.1, (fun he_ => (hat1 k_ he_.symm).elim (fun h_ => absurd h_ (hk_.1.2.2.2.2)) (fun h_ => absurd hk_.2 (Nat.not_lt.2 h_)))⟩) : Kd.F (Kd.int .u8) _ (fun k_ => True ∧ (P_ k_ ∨ w.heap.size ≤ k_) ∧ k_ ≠ g0 ∧ k_ ≠ g7 ∧ some k_ ≠ (v643 : Value).ownBlock) _ _ _)
        replace BKg7 := Aside0.mk (MB.blk_ptr (o := .cells #[.int .i64 a1_0, .bool false, .int .i64 a1_2, .string a1_3, .slice A1_4 l1_4.length c1_4] 28 (0, 0)) BKg7.out hfr NEg7_g0.out (Kd.N_away (ok := (fun k_ => True ∧ (some k_ = ((.slice A515 l0_1.length cp516) : Value).ownBlock ∨ w.heap.size ≤ k_) ∧ k_ ≠ g0 ∧ k_ ≠ g7)) HN523.out (fun k_ hk_ => hk_.2.2.2)))
        replace HB := Aside0.mk (Below.trans HB.out hb)
        replace BKg0 := Aside0.mk hbk
        have HPp644 := Aside0.mk hp1
        clear hbk hfr hb hp1 hn1 hat1
        clear HN523
        clear hz621 hz622 hz623 hf624 hf625 hf626 hz627 hz628 hz629 hz630 hz631 hf632 hf633 hf634 hf635 hf636
        obtain ⟨hz646, hz647, hz648, hf649, hf650, hf651⟩ := MB.lay3 BKg0.out
        obtain ⟨hz652, hz653, hz654, hz655, hz656, hf657, hf658, hf659, hf660, hf661⟩ := MB.lay5 BKg7.out
        obtain ⟨A662, cp663, he_⟩ := Kd.N_slice HN645.out
        subst he_
        have H := HH.out
        replace H := Option.bind_eq_some_iff.mp H
        obtain ⟨⟨t664, t665⟩, at_, H⟩ := H
        have At666 := Aside0.mk at_
        clear at_
        replace HH := Aside0.mk (show (some (t664, t665)) = some (r1, r2) from H)
        clear H
        go_wp2_with (((with_reducible refine gate_callee (f := 48) rfl ?_); (try (refine gate_guard (by rfl) ?_; dsimp only)); refine goesL_ (some 62) rfl rfl Try.func48 (by kernel_rfl) rfl #[.pointer (some ⟨g0, 0, none⟩), .string a1_3] rfl (by (try simp only [List.map_toArray, List.map_cons, List.map_nil]); first | done | rfl) ?_; refine (ber_sheaf_put.calls B_ g0 (p644) ((.slice A662 t639.length cp663)) t639 t640 a1_3 t664 t665 _ (Nat.le_trans hB_.out (MB.bsize (a := B_) HB.out)) BKg0.out GEg0.out HPp644.out (Kd.N_mono (MB.N_only HN645.out) (fun k_ hk_ => ⟨trivial, .inl hk_, (fun hk_ => hk_.2.2.1) (HN645.out.1 k_ hk_.symm)⟩)) At666.out).mono ?_; rintro e w667 ⟨v668, p669, rfl, hn1, hp1, hbk, hfr, hb⟩; refine ⟨_, rfl, ?_⟩); replace hbk := Aside0.mk hbk; replace hfr := Aside0.mk hfr; replace hp1 := Aside0.mk hp1; refine stop_ ?_)
        refine Stop.go ?_
        replace hbk := hbk.out
        replace hfr := hfr.out
        replace hp1 := hp1.out
        have hat1 : ∀ k_ : Nat, (v668 : Value).ownBlock = some k_ → some k_ = ((.slice A662 t639.length cp663) : Value).ownBlock ∨ w642.heap.size ≤ k_ := fun k_ h_ => (hn1.1 k_ h_).2.1
        have HN670 := Aside0.mk (Kd.N_mono hn1 (fun k_ hk_ => hk_.2.1.elim (fun h_ => HN645.out.1 k_ h_.symm) (fun h_ => ⟨trivial, (.inr (Nat.le_trans (MB.bsize (a := B_) HB.out) h_)), Kd.freshB (o := .cells #[p644, (.slice A662 t639.length cp663), .bool t640] 81 (0, 0)) BKg0.out k_ h_, Kd.freshB (o := .cells #[.int .i64 a1_0, .bool false, .int .i64 a1_2, .string a1_3, .slice A1_4 l1_4.length c1_4] 28 (0, 0)) BKg7.out k_ h_⟩)) : Kd.N (Kd.int .u8) 5 w667 B_ (fun k_ => True ∧ (some k_ = ((.slice A515 l0_1.length cp516) : Value).ownBlock ∨ w.heap.size ≤ k_) ∧ k_ ≠ g0 ∧ k_ ≠ g7) v668 t664)
        replace HFfr := Aside0.mk (Kd.F_mono (MB.F_ptr (ok := (fun k_ => True ∧ k_ ≠ g0 ∧ k_ ≠ g7 ∧ some k_ ≠ ((.slice A662 t639.length cp663) : Value).ownBlock)) HFfr.out hfr (fun k_ hk_ => hk_.2.1) (fun k_ hk_ => hk_.2.2.2)) (fun k_ hk_ => ⟨hk_.1.1, hk_.1.2.1, hk_.1.2.2.1, (fun he_ => (hat1 k_ he_.symm).elim (fun h_ => absurd h_ (hk_.1.2.2.2)) (fun h_ => absurd hk_.2 (Nat.not_lt.2 h_)))⟩) : Kd.F (MB.frK w P0_) _ (fun k_ => True ∧ k_ ≠ g0 ∧ k_ ≠ g7 ∧ some k_ ≠ (v668 : Value).ownBlock) _ _ _)
        replace HF1_4 := Aside0.mk (Kd.F_mono (MB.F_ptr (ok := (fun k_ => True ∧ (P_ k_ ∨ w.heap.size ≤ k_) ∧ k_ ≠ g0 ∧ k_ ≠ g7 ∧ some k_ ≠ ((.slice A662 t639.length cp663) : Value).ownBlock)) HF1_4.out hfr (fun k_ hk_ => hk_.2.2.1) (fun k_ hk_ => hk_.2.2.2.2)) (fun k_ hk_ => ⟨hk_.1.1, hk_.1.2.1, hk_.1.2.2.1, hk_.1.2.2.2.1, (fun he_ => (hat1 k_ he_.symm).elim (fun h_ => absurd h_ (hk_.1.2.2.2.2)) (fun h_ => absurd hk_.2 (Nat.not_lt.2 h_)))⟩) : Kd.F k28 _ (fun k_ => True ∧ (P_ k_ ∨ w.heap.size ≤ k_) ∧ k_ ≠ g0 ∧ k_ ≠ g7 ∧ some k_ ≠ (v668 : Value).ownBlock) _ _ _)
        replace HF512 := Aside0.mk (Kd.F_mono (MB.F_ptr (ok := (fun k_ => True ∧ (P_ k_ ∨ w.heap.size ≤ k_) ∧ k_ ≠ g0 ∧ k_ ≠ g7 ∧ some k_ ≠ ((.slice A662 t639.length cp663) : Value).ownBlock)) HF512.out hfr (fun k_ hk_ => hk_.2.2.1) (fun k_ hk_ => hk_.2.2.2.2)) (fun k_ hk_ => ⟨hk_.1.1, hk_.1.2.1, hk_.1.2.2.1, hk_.1.2.2.2.1, (fun he_ => (hat1 k_ he_.symm).elim (fun h_ => absurd h_ (hk_.1.2.2.2.2)) (fun h_ => absurd hk_.2 (Nat.not_lt.2 h_)))⟩) : Kd.F (Kd.int .u8) _ (fun k_ => True ∧ (P_ k_ ∨ w.heap.size ≤ k_) ∧ k_ ≠ g0 ∧ k_ ≠ g7 ∧ some k_ ≠ (v668 : Value).ownBlock) _ _ _)
        replace BKg7 := Aside0.mk (MB.blk_ptr (o := .cells #[.int .i64 a1_0, .bool false, .int .i64 a1_2, .string a1_3, .slice A1_4 l1_4.length c1_4] 28 (0, 0)) BKg7.out hfr NEg7_g0.out (Kd.N_away (ok := (fun k_ => True ∧ (some k_ = ((.slice A515 l0_1.length cp516) : Value).ownBlock ∨ w.heap.size ≤ k_) ∧ k_ ≠ g0 ∧ k_ ≠ g7)) HN645.out (fun k_ hk_ => hk_.2.2.2)))
        replace HB := Aside0.mk (Below.trans HB.out hb)
        replace BKg0 := Aside0.mk hbk
        have HPp669 := Aside0.mk hp1
        clear hbk hfr hb hp1 hn1 hat1
        clear HN645
        clear hz646 hz647 hz648 hf649 hf650 hf651 hz652 hz653 hz654 hz655 hz656 hf657 hf658 hf659 hf660 hf661
        obtain ⟨hz671, hz672, hz673, hf674, hf675, hf676⟩ := MB.lay3 BKg0.out
        obtain ⟨hz677, hz678, hz679, hz680, hz681, hf682, hf683, hf684, hf685, hf686⟩ := MB.lay5 BKg7.out
        have H := HH.out
        simp only [Option.some.injEq, Prod.mk.injEq] at H
        obtain ⟨rfl, rfl⟩ := H
        clear HH
        go_wp2
        go_end0
        unfold ber_sheaf_lay.Post
        exact ⟨(v668), (p669), by first | rfl | (simp; done) | (simp [*]; done), (Kd.N_mono (ok := (fun k_ => True ∧ (some k_ = ((.slice A515 l0_1.length cp516) : Value).ownBlock ∨ w.heap.size ≤ k_) ∧ k_ ≠ g0 ∧ k_ ≠ g7)) HN670.out (fun k_ hk_ => ⟨trivial, hk_.2.1, hk_.2.2.1⟩)), HPp669.out, (by first | exact BKg0.out | (have h_ := BKg0.out; simp only [*] at h_; exact h_) | (have h_ := BKg0.out; simp [*] at h_ ⊢; exact h_)), (fun k_ hg_ hv_ hlt_ => MB.frK_out HFfr.out k_ (by rw [HPO.out]; exact ⟨hg_, hv_⟩) hlt_), HB.out⟩

end Go.Proofs.Ytliackbiljhioaa.GA
