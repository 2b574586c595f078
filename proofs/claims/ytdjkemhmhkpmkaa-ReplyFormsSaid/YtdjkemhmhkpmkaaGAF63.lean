import Derived.Test.YtdjkemhmhkpmkaaGA0
import Derived.Test.YtdjkemhmhkpmkaaGAB
import Derived.Test.YtdjkemhmhkpmkaaGM1
namespace Go.Proofs.Ytdjkemhmhkpmkaa.GA
open Go.RowKit Go.Proofs.Ytdjkemhmhkpmkaa Go.Proofs.Ytdjkemhmhkpmkaa.MW Go.Proofs.YtdjkemhmhkpmkaaW.PrintWords Go.Proofs.YtdjkemhmhkpmkaaW.PrintLast Go.Proofs.YtdjkemhmhkpmkaaW.PrintMore
attribute [local go_sem] max2_int min2_int max_two min_two
set_option linter.unusedVariables false
set_option linter.unusedSimpArgs false
/-! ### ber_sheaf_lay: function 63 -/
mutual
def ber_sheaf_lay.l0 : Nat → Int → (List Int) → Bool → Int → Int → (List Int) → (List (S57)) → Option (List Int × Bool)
 | 0, _, _, _, _, _, _, _ => none
 | k + 1, x54, x55, x57, a1_0, a1_2, l0_1, l1_4 => if x54 < (l1_4.length : Int) then (if 0 ≤ x54 then ((ber_sheaf_lay.f k x55 x57 ((rd_T57 l1_4 x54).f0) ((rd_T57 l1_4 x54).f1) ((rd_T57 l1_4 x54).f2) ((rd_T57 l1_4 x54).f3) ((rd_T57 l1_4 x54).f4)).bind fun bt157 => ((ber_sheaf_lay.l0 k (wrap64 (x54 + 1)) bt157.1 bt157.2 a1_0 a1_2 l0_1 l1_4))) else (none)) else ((ber_sheaf_put.f l0_1 x57 (strOfNums ([Go.bits .or .u8 ((Go.bits .or .i64 (wrap64 (a1_0 * 64)) a1_2) % 256) 32] : List Int))).bind fun bt279 => (if 65535 < ((strOfNums x55).size : Int) then ((ber_length.f 65535).bind fun t313 => ((ber_sheaf_put.f bt279.1 bt279.2 t313).bind fun bt340 => ((ber_sheaf_put.f bt340.1 bt340.2 (strOfNums x55)).bind fun bt371 => (some (bt371.1, bt371.2))))) else ((ber_length.f ((strOfNums x55).size : Int)).bind fun t404 => ((ber_sheaf_put.f bt279.1 bt279.2 t404).bind fun bt431 => ((ber_sheaf_put.f bt431.1 bt431.2 (strOfNums x55)).bind fun bt462 => (some (bt462.1, bt462.2)))))))
def ber_sheaf_lay.f : Nat → (List Int) → Bool → Int → Bool → Int → ByteArray → (List (S57)) → Option (List Int × Bool)
 | 0, _, _, _, _, _, _, _ => none
 | k + 1, l0_1, a0_2, a1_0, a1_1, a1_2, a1_3, l1_4 => if a0_2 = true then (some (l0_1, true)) else (if a1_1 = true then ((ber_sheaf_lay.l0 k 0 ([] : List Int) false a1_0 a1_2 l0_1 l1_4)) else ((ber_sheaf_put.f l0_1 false (strOfNums ([(Go.bits .or .i64 (wrap64 (a1_0 * 64)) a1_2) % 256] : List Int))).bind fun bt517 => (if 65535 < (a1_3.size : Int) then ((ber_length.f 65535).bind fun t545 => ((ber_sheaf_put.f bt517.1 bt517.2 t545).bind fun bt566 => ((ber_sheaf_put.f bt566.1 bt566.2 a1_3).bind fun bt591 => (some (bt591.1, bt591.2))))) else ((ber_length.f (a1_3.size : Int)).bind fun t618 => ((ber_sheaf_put.f bt517.1 bt517.2 t618).bind fun bt639 => ((ber_sheaf_put.f bt639.1 bt639.2 a1_3).bind fun bt664 => (some (bt664.1, bt664.2))))))))
end
theorem ber_sheaf_lay.mono_l : ∀ k, (∀ y0 y1 y2 y3 y4 y5 y6, LeO (ber_sheaf_lay.f k y0 y1 y2 y3 y4 y5 y6) (ber_sheaf_lay.f (k + 1) y0 y1 y2 y3 y4 y5 y6)) ∧ (∀ y0 y1 y2 y3 y4 y5 y6, LeO (ber_sheaf_lay.l0 k y0 y1 y2 y3 y4 y5 y6) (ber_sheaf_lay.l0 (k + 1) y0 y1 y2 y3 y4 y5 y6))
 | 0 => ⟨fun _ _ _ _ _ _ _ r h => by simp [ber_sheaf_lay.f] at h, fun _ _ _ _ _ _ _ r h => by simp [ber_sheaf_lay.l0] at h⟩
 | k + 1 => by
  obtain ⟨ih0, ih1⟩ := ber_sheaf_lay.mono_l k
  refine ⟨?_, ?_⟩
  ·intro y0 y1 y2 y3 y4 y5 y6
   unfold ber_sheaf_lay.f
   repeat' first
   | (with_reducible exact ih0 _ _ _ _ _ _ _)
   | (with_reducible exact ih1 _ _ _ _ _ _ _)
   | (with_reducible exact LeO.refl _)
   | (with_reducible exact LeO.none _)
   | (with_reducible refine LeO.ite ?_ ?_)
   | (with_reducible refine LeO.bind ?_ (fun _ => ?_))
  intro y0 y1 y2 y3 y4 y5 y6
  unfold ber_sheaf_lay.l0
  repeat' first
  | (with_reducible exact ih0 _ _ _ _ _ _ _)
  | (with_reducible exact ih1 _ _ _ _ _ _ _)
  | (with_reducible exact LeO.refl _)
  | (with_reducible exact LeO.none _)
  | (with_reducible refine LeO.ite ?_ ?_)
  | (with_reducible refine LeO.bind ?_ (fun _ => ?_))
theorem ber_sheaf_lay.mono : ∀ a0_ a1_ a2_ a3_ a4_ a5_ a6_ k, LeO (ber_sheaf_lay.f k a0_ a1_ a2_ a3_ a4_ a5_ a6_) (ber_sheaf_lay.f (k + 1) a0_ a1_ a2_ a3_ a4_ a5_ a6_) := by
 intro a0_ a1_ a2_ a3_ a4_ a5_ a6_ k
 obtain ⟨ih0, ih1⟩ := ber_sheaf_lay.mono_l k
 exact ih0 a0_ a1_ a2_ a3_ a4_ a5_ a6_
def ber_sheaf_lay.Post (P_ : Nat → Prop) (B_ : Nat) (g0 : Nat) (p0_0 : Value) (v0_1 : Value) (l0_1 : List Int) (a0_2 : Bool) (a1_0 : Int) (a1_1 : Bool) (a1_2 : Int) (a1_3 : ByteArray) (A1_4 : Option Addr) (c1_4 : Nat) (l1_4 : List (S57)) (w : World) (r1 : List Int) (r2 : Bool) (e : Ending) (w' : World) : Prop := ∃ v1'_ : Value, ∃ p0'_ : Value, e = .returned (.tuple #[]) ∧ Kd.N (Kd.int .u8) 5 w' B_ (fun k_ => (True ∧ (some k_ = (v0_1 : Value).ownBlock ∨ w.heap.size ≤ k_)) ∧ k_ ≠ g0) v1'_ r1 ∧ (p0'_ = .pointer none ∨ p0'_ = .pointer (some ⟨g0, 0, none⟩)) ∧ w'.heap[g0]? = some (.cells #[p0'_, v1'_, .bool r2] 99 (0, 0)) ∧ (∀ k_ : Nat, k_ ≠ g0 → some k_ ≠ (v0_1 : Value).ownBlock → k_ < w.heap.size → w'.heap[k_]? = w.heap[k_]?) ∧ Below B_ w w'
set_option maxHeartbeats 8000000 in
set_option maxRecDepth 100000 in
theorem ber_sheaf_lay.calls (k : Nat) : ∀ (P_ : Nat → Prop) (B_ : Nat) (g0 : Nat) (p0_0 : Value) (v0_1 : Value) (l0_1 : List Int) (a0_2 : Bool) (a1_0 : Int) (a1_1 : Bool) (a1_2 : Int) (a1_3 : ByteArray) (A1_4 : Option Addr) (c1_4 : Nat) (l1_4 : List (S57)) (r1 : List Int) (r2 : Bool) (w : World) (hB0 : B_ ≤ w.heap.size) (hPg : ∀ k_, P_ k_ → k_ ≠ g0) (hPv : ∀ k_, P_ k_ → some k_ ≠ (v0_1 : Value).ownBlock) (hb0 : w.heap[g0]? = some (.cells #[p0_0, v0_1, .bool a0_2] 99 (0, 0))) (hge0 : B_ ≤ g0) (hp0_0 : p0_0 = .pointer none ∨ p0_0 = .pointer (some ⟨g0, 0, none⟩)) (hn0_1 : Kd.N (Kd.int .u8) 5 w B_ (fun k_ => (True ∧ (some k_ = (v0_1 : Value).ownBlock ∨ w.heap.size ≤ k_)) ∧ k_ ≠ g0) v0_1 l0_1) (hs1_4 : Kd.F k57 w P_ A1_4 l1_4.length l1_4) (hc1_4 : l1_4.length ≤ c1_4) (h : ber_sheaf_lay.f k l0_1 a0_2 a1_0 a1_1 a1_2 a1_3 l1_4 = some (r1, r2)),
  Calls Try.prog 63 #[.pointer (some ⟨g0, 0, none⟩), .agg #[.int .i64 a1_0, .bool a1_1, .int .i64 a1_2, .string a1_3, .slice A1_4 l1_4.length c1_4]] w (fun e w' => ber_sheaf_lay.Post P_ B_ g0 p0_0 v0_1 l0_1 a0_2 a1_0 a1_1 a1_2 a1_3 A1_4 c1_4 l1_4 w r1 r2 e w') := by
 induction k using Nat.strongRecOn with
 | _ k ih =>
 intro P_ B_ g0 p0_0 v0_1 l0_1 a0_2 a1_0 a1_1 a1_2 a1_3 A1_4 c1_4 l1_4 r1 r2 w hB0 hPg hPv hb0 hge0 hp0_0 hn0_1 hs1_4 hc1_4 h
 cases k with
 | zero => exact absurd h (by simp [ber_sheaf_lay.f])
 | succ k1 =>
 simp only [ber_sheaf_lay.f] at h
 have HH := Aside0.mk h
 clear h
 obtain ⟨P0_, HPO⟩ : ∃ P0_ : Nat → Prop, P0_ = (fun k_ => k_ ≠ g0 ∧ some k_ ≠ (v0_1 : Value).ownBlock) := ⟨_, rfl⟩
 have HFfr := Aside0.mk (MB.frK_new w (fun k_ hk_ => by rw [HPO] at hk_; exact ⟨⟨trivial, hk_.2⟩, hk_.1⟩) : Kd.F (MB.frK w P0_) w (fun k_ => (True ∧ some k_ ≠ (v0_1 : Value).ownBlock) ∧ k_ ≠ g0) (some ⟨0, 0, none⟩) [()].length [()])
 replace HPO := Aside0.mk HPO
 have hB_ := Aside0.mk hB0
 have HPp0_0 := Aside0.mk hp0_0
 clear hp0_0
 have HN0_1 := Aside0.mk hn0_1
 clear hn0_1
 have BKg0 := Aside0.mk hb0
 have GEg0 := Aside0.mk hge0
 clear hb0 hge0
 obtain ⟨j1, j2, j3, j4, j5, j6⟩ := MB.lay3 BKg0.out
 have HF1_4 := Aside0.mk (Kd.F_mono hs1_4 (ok' := (fun k_ => ((True ∧ (P_ k_ ∨ w.heap.size ≤ k_)) ∧ some k_ ≠ (v0_1 : Value).ownBlock) ∧ k_ ≠ g0)) (fun k_ hk_ => ⟨⟨⟨trivial, .inl hk_⟩, hPv k_ hk_⟩, hPg k_ hk_⟩))
 clear hs1_4 hc1_4
 have HB := Aside0.mk (Below.refl B_ w)
 have hu57 := Try.underlying57
 have hu99 := Try.underlying99
 go_enter Try.func63, Try.ntmps63
 go_wp2_with ((with_reducible refine gd 3 rfl ?_); refine zb 3 57 #[.int .i64 a1_0, .bool a1_1, .int .i64 a1_2, .string a1_3, .slice A1_4 l1_4.length c1_4] (h := ?_); intro g7 hg w8 BKg7 hb)
 refine Stop.go ?_
 have NEg0_g7 := znq hg BKg0.out
 have NEg7_g0 := zsy NEg0_g7
 replace HFfr := zfe HFfr.out hg hb
 replace HF1_4 := zfe HF1_4.out hg hb
 replace HN0_1 := zne HN0_1.out hg hb
 replace BKg0 := zbb BKg0.out hb
 replace HB := Aside0.mk (MB.below_stepB hB_.out HB.out hb)
 clear hg hb
 clear j1 j2 j3 j4 j5 j6
 obtain ⟨j9, ja, jb, jc, jd, je⟩ := MB.lay3 BKg0.out
 obtain ⟨jf, jg, jh, ji, jj, jk, jl, jm, jn, jo⟩ := MB.lay5 BKg7.out
 by_cases c25 : a0_2 = true
 ·replace HH := MW.hpos HH c25
  subst c25
  have H := HH.out
  simp only [Option.some.injEq, Prod.mk.injEq] at H
  obtain ⟨rfl, rfl⟩ := H
  clear HH
  go_wp2
  go_end0
  unfold ber_sheaf_lay.Post
  exact ⟨(v0_1), (p0_0), by first | rfl | (simp; done) | (simp [*]; done), (Kd.N_mono (ok := (fun k_ => ((True ∧ (some k_ = (v0_1 : Value).ownBlock ∨ w.heap.size ≤ k_)) ∧ k_ ≠ g0) ∧ k_ ≠ g7)) HN0_1.out (fun k_ hk_ => ⟨⟨trivial, hk_.1.1.2⟩, hk_.1.2⟩)), HPp0_0.out, (by first | exact BKg0.out | (have h_ := BKg0.out; simp only [*] at h_; exact h_) | (have h_ := BKg0.out; simp [*] at h_ ⊢; exact h_)), (fun k_ hg_ hv_ hlt_ => MB.frK_out HFfr.out k_ (by rw [HPO.out]; exact ⟨hg_, hv_⟩) hlt_), HB.out⟩
 replace HH := MW.hneg HH c25
 replace c25 := Bool.eq_false_iff.mpr c25
 subst c25
 by_cases c26 : a1_1 = true
 ·replace HH := MW.hpos HH c26
  subst c26
  go_wp2_with ((with_reducible refine gd 6 rfl ?_); refine zb 6 99 #[.pointer none, .slice none 0 0, .bool false] (h := ?_); intro g27 hg w28 BKg27 hb)
  refine Stop.go ?_
  have GEg27 := zge hg (Nat.le_trans hB_.out (MB.bsize (a := B_) HB.out))
  have NEg0_g27 := znq hg BKg0.out
  have NEg27_g0 := zsy NEg0_g27
  have NEg7_g27 := znq hg BKg7.out
  replace HFfr := zfe HFfr.out hg hb
  replace HF1_4 := zfe HF1_4.out hg hb
  replace HN0_1 := zne HN0_1.out hg hb
  replace BKg0 := zbb BKg0.out hb
  replace BKg7 := zbb BKg7.out hb
  replace HB := Aside0.mk (MB.below_stepB hB_.out HB.out hb)
  clear hg hb
  clear j9 ja jb jc jd je jf jg jh ji jj jk jl jm jn jo
  obtain ⟨jt, ju, jv, jw, jx, jy⟩ := MB.lay3 BKg0.out
  obtain ⟨jz, jA, jB, jC, jD, jE, jF, jG, jH, jI⟩ := MB.lay5 BKg7.out
  obtain ⟨jJ, jK, jL, jM, jN, jO⟩ := MB.lay3 BKg27.out
  go_wp2
  go_loopg [29] k1 (fun kq u29 w' => ∃ (x54 : Int) (x55 : List Int) (x57 : Bool) (v51 : Value) (p52 : Value) (p53 : Value), u29 = .int .i64 x54 ∧ Aside0 ((ber_sheaf_lay.l0 kq x54 x55 x57 a1_0 a1_2 l0_1 l1_4) = some (r1, r2)) ∧ Aside0 (kq ≤ k1) ∧ Aside0 (Kd.F (MB.frK w P0_) w' (fun k_ => ((((True ∧ some k_ ≠ (v0_1 : Value).ownBlock) ∧ some k_ ≠ (v51 : Value).ownBlock) ∧ k_ ≠ g0) ∧ k_ ≠ g7) ∧ k_ ≠ g27) (some ⟨0, 0, none⟩) [()].length [()]) ∧ Aside0 (Kd.F k57 w' (fun k_ => (((((True ∧ (P_ k_ ∨ w.heap.size ≤ k_)) ∧ some k_ ≠ (v0_1 : Value).ownBlock) ∧ some k_ ≠ (v51 : Value).ownBlock) ∧ k_ ≠ g0) ∧ k_ ≠ g7) ∧ k_ ≠ g27) A1_4 l1_4.length l1_4) ∧ Aside0 (Kd.N (Kd.int .u8) 5 w' B_ (fun k_ => ((((True ∧ (some k_ = (v0_1 : Value).ownBlock ∨ w.heap.size ≤ k_)) ∧ some k_ ≠ (v51 : Value).ownBlock) ∧ k_ ≠ g0) ∧ k_ ≠ g7) ∧ k_ ≠ g27) v0_1 l0_1) ∧ Aside0 (Kd.N (Kd.int .u8) 5 w' B_ (fun k_ => ((((True ∧ (P_ k_ ∨ w.heap.size ≤ k_)) ∧ some k_ ≠ (v0_1 : Value).ownBlock) ∧ k_ ≠ g0) ∧ k_ ≠ g7) ∧ k_ ≠ g27) v51 x55) ∧ Aside0 (p52 = .pointer none ∨ p52 = .pointer (some ⟨g0, 0, none⟩)) ∧ Aside0 (p53 = .pointer none ∨ p53 = .pointer (some ⟨g27, 0, none⟩)) ∧ Aside0 (w'.heap[g0]? = some (.cells #[p52, v0_1, .bool false] 99 (0, 0))) ∧ Aside0 (w'.heap[g7]? = some (.cells #[.int .i64 a1_0, .bool true, .int .i64 a1_2, .string a1_3, .slice A1_4 l1_4.length c1_4] 57 (0, 0))) ∧ Aside0 (w'.heap[g27]? = some (.cells #[p53, v51, .bool x57] 99 (0, 0))) ∧ Aside0 (Below B_ w w'))
  case atStart => exact ⟨0, ([] : List Int), false, .slice none 0 0, p0_0, .pointer none, (by first | rfl | (simp; done) | (simp [*]; done)), HH, ⟨Nat.le_refl _⟩, ⟨(Kd.F_mono (ok := (fun k_ => (((True ∧ some k_ ≠ (v0_1 : Value).ownBlock) ∧ k_ ≠ g0) ∧ k_ ≠ g7) ∧ k_ ≠ g27)) HFfr.out (fun k_ hk_ => ⟨⟨⟨⟨⟨hk_.1.1.1.1, hk_.1.1.1.2⟩, (by simp [Value.ownBlock])⟩, hk_.1.1.2⟩, hk_.1.2⟩, hk_.2⟩))⟩, ⟨(Kd.F_mono (ok := (fun k_ => ((((True ∧ (P_ k_ ∨ w.heap.size ≤ k_)) ∧ some k_ ≠ (v0_1 : Value).ownBlock) ∧ k_ ≠ g0) ∧ k_ ≠ g7) ∧ k_ ≠ g27)) HF1_4.out (fun k_ hk_ => ⟨⟨⟨⟨⟨⟨hk_.1.1.1.1.1, hk_.1.1.1.1.2⟩, hk_.1.1.1.2⟩, (by simp [Value.ownBlock])⟩, hk_.1.1.2⟩, hk_.1.2⟩, hk_.2⟩))⟩, ⟨(Kd.N_mono (ok := (fun k_ => (((True ∧ (some k_ = (v0_1 : Value).ownBlock ∨ w.heap.size ≤ k_)) ∧ k_ ≠ g0) ∧ k_ ≠ g7) ∧ k_ ≠ g27)) HN0_1.out (fun k_ hk_ => ⟨⟨⟨⟨⟨hk_.1.1.1.1, hk_.1.1.1.2⟩, (by simp [Value.ownBlock])⟩, hk_.1.1.2⟩, hk_.1.2⟩, hk_.2⟩))⟩, ⟨Kd.N_nil _ _ _ _ _⟩, ⟨HPp0_0.out⟩, ⟨(.inl rfl)⟩, ⟨BKg0.out⟩, ⟨BKg7.out⟩, ⟨BKg27.out⟩, ⟨HB.out⟩⟩
  case round =>
   clear jt ju jv jw jx jy jz jA jB jC jD jE jF jG jH jI jJ jK jL jM jN jO
   clear HH
   clear HFfr HF1_4 HN0_1 BKg0 BKg7 BKg27 HB
   obtain ⟨x54, x55, x57, v51, p52, p53, rfl, HA, HK0, HFfr, HF1_4, HN0_1, HN56, HPp52, HPp53, BKg0, BKg7, BKg27, HB⟩ := hrel
   obtain ⟨w59, rfl⟩ : ∃ wo_ : World, wo_ = wr := ⟨_, rfl⟩
   cases gk with
   | zero => exact absurd HA.out (by simp [ber_sheaf_lay.l0])
   | succ k58 =>
    have H := HA.out
    clear HA
    simp only [ber_sheaf_lay.l0] at H
    have HH := Aside0.mk H
    clear H
    obtain ⟨jY, jZ, j10, j11, j12, j13⟩ := MB.lay3 BKg0.out
    obtain ⟨j14, j15, j16, j17, j18, j19, j1a, j1b, j1c, j1d⟩ := MB.lay5 BKg7.out
    obtain ⟨j1e, j1f, j1g, j1h, j1i, j1j⟩ := MB.lay3 BKg27.out
    replace HH := zqt HH
    rcases HH with ⟨HH, hk83, hk84⟩ | ⟨HH, hk197, hk198⟩
    ·replace HH := zqdo HH
     obtain ⟨HH, hk86⟩ := HH
     have p87 : 0 ≤ (x54 : Int) := of_decide_eq_true (by first | (with_reducible assumption) | assumption)
     have q87 : x54 < (l1_4.length : Int) := of_decide_eq_true (by first | (with_reducible assumption) | assumption)
     obtain ⟨ad87, A87_4, c87_4, e87, hx87_0, hx87_1, hx87_2, hx87_3, hx87_4, hl87_4, hi87_4⟩ := atF_T57 HF1_4.out x54 p87 q87
     cases e87
     have HF87_4 := Aside0.mk hi87_4
     have HL87_4 := Aside0.mk hl87_4
     clear hi87_4 hl87_4
     replace p87 := eq_true p87
     replace q87 := eq_true q87
     go_wp2_with ((with_reducible refine gd 8 rfl ?_); refine zb 8 57 #[.int .i64 0, .bool false, .int .i64 0, .string (⟨#[]⟩ : ByteArray), .slice none 0 0] (h := ?_); intro g88 hg w89 BKg88 hb)
     refine Stop.go ?_
     have GEg88 := zge hg (Nat.le_trans hB_.out (MB.bsize (a := B_) HB.out))
     have NEg0_g88 := znq hg BKg0.out
     have NEg7_g88 := znq hg BKg7.out
     have NEg27_g88 := znq hg BKg27.out
     have NEg88_g27 := zsy NEg27_g88
     replace HFfr := zfe HFfr.out hg hb
     replace HF1_4 := zfe HF1_4.out hg hb
     replace HF87_4 := zfe HF87_4.out hg hb
     replace HN0_1 := zne HN0_1.out hg hb
     replace HN56 := zne HN56.out hg hb
     replace BKg0 := zbb BKg0.out hb
     replace BKg7 := zbb BKg7.out hb
     replace BKg27 := zbb BKg27.out hb
     replace HB := Aside0.mk (MB.below_stepB hB_.out HB.out hb)
     clear hg hb
     clear jY jZ j10 j11 j12 j13 j14 j15 j16 j17 j18 j19 j1a j1b j1c j1d j1e j1f j1g j1h j1i j1j hx87_0 hx87_1 hx87_2 hx87_3 hx87_4 p87 q87
     obtain ⟨j1s, j1t, j1u, j1v, j1w, j1x⟩ := MB.lay3 BKg0.out
     obtain ⟨j1y, j1z, j1A, j1B, j1C, j1D, j1E, j1F, j1G, j1H⟩ := MB.lay5 BKg7.out
     obtain ⟨j1I, j1J, j1K, j1L, j1M, j1N⟩ := MB.lay3 BKg27.out
     obtain ⟨j1O, j1P, j1Q, j1R, j1S, j1T, j1U, j1V, j1W, j1X⟩ := MB.lay5 BKg88.out
     go_wp2_with ((with_reducible refine gs 57 8 rfl ?_); refine zs 57 8 #[.int .i64 ((rd_T57 l1_4 x54).f0), .bool ((rd_T57 l1_4 x54).f1), .int .i64 ((rd_T57 l1_4 x54).f2), .string ((rd_T57 l1_4 x54).f3), .slice A87_4 ((rd_T57 l1_4 x54).f4).length c87_4] BKg88.out [.int .i64 ((rd_T57 l1_4 x54).f0), .bool ((rd_T57 l1_4 x54).f1), .int .i64 ((rd_T57 l1_4 x54).f2), .string ((rd_T57 l1_4 x54).f3), .slice A87_4 ((rd_T57 l1_4 x54).f4).length c87_4] (h := ?_); intro w122 hbk hg)
     refine Stop.go ?_
     replace HFfr := zfg HFfr.out hg fun k_ hk_ => hk_.2
     replace HF1_4 := zfg HF1_4.out hg fun k_ hk_ => hk_.2
     replace HF87_4 := zfg HF87_4.out hg fun k_ hk_ => hk_.2
     replace HN0_1 := zng HN0_1.out hg fun k_ hk_ => hk_.2
     replace HN56 := zng HN56.out hg fun k_ hk_ => hk_.2
     replace BKg0 := zbg BKg0.out hg NEg0_g88
     replace BKg7 := zbg BKg7.out hg NEg7_g88
     replace BKg27 := zbg BKg27.out hg NEg27_g88
     replace HB := zhg HB.out hg (Nat.le_trans hB_.out (MB.bsize (a := B_) HB.out)) GEg88
     replace BKg88 := hbk
     clear hg hbk
     clear j1s j1t j1u j1v j1w j1x j1y j1z j1A j1B j1C j1D j1E j1F j1G j1H j1I j1J j1K j1L j1M j1N j1O j1P j1Q j1R j1S j1T j1U j1V j1W j1X
     obtain ⟨j1Z, j20, j21, j22, j23, j24⟩ := MB.lay3 BKg0.out
     obtain ⟨j25, j26, j27, j28, j29, j2a, j2b, j2c, j2d, j2e⟩ := MB.lay5 BKg7.out
     obtain ⟨j2f, j2g, j2h, j2i, j2j, j2k⟩ := MB.lay3 BKg27.out
     obtain ⟨j2l, j2m, j2n, j2o, j2p, j2q, j2r, j2s, j2t, j2u⟩ := MB.lay5 BKg88.out
     obtain ⟨A155, cp156, he_⟩ := Kd.N_slice HN56.out
     subst he_
     replace HH := zd HH
     obtain ⟨⟨t157, t158⟩, At159, HH⟩ := HH
     dsimp only at HH
     go_wp2_with (((with_reducible refine gc 63 rfl ?_); refine zc 63 (some 34) Try.func63 #[.pointer (some ⟨g27, 0, none⟩), .agg #[.int .i64 ((rd_T57 l1_4 x54).f0), .bool ((rd_T57 l1_4 x54).f1), .int .i64 ((rd_T57 l1_4 x54).f2), .string ((rd_T57 l1_4 x54).f3), .slice A87_4 ((rd_T57 l1_4 x54).f4).length c87_4]] (h := ?_); refine (ih k58 (by have := HK0.out; omega) (fun k_ => ((((((True ∧ (P_ k_ ∨ w.heap.size ≤ k_)) ∧ some k_ ≠ (v0_1 : Value).ownBlock) ∧ some k_ ≠ ((.slice A155 x55.length cp156) : Value).ownBlock) ∧ k_ ≠ g0) ∧ k_ ≠ g7) ∧ k_ ≠ g27) ∧ k_ ≠ g88) B_ g27 (p53) ((.slice A155 x55.length cp156)) x55 x57 ((rd_T57 l1_4 x54).f0) ((rd_T57 l1_4 x54).f1) ((rd_T57 l1_4 x54).f2) ((rd_T57 l1_4 x54).f3) _ _ ((rd_T57 l1_4 x54).f4) t157 t158 _ (Nat.le_trans hB_.out (MB.bsize (a := B_) HB.out)) (fun k_ hk_ => hk_.1.2) (fun k_ hk_ => hk_.1.1.1.1.2) BKg27.out GEg27.out HPp53.out (Kd.N_mono (MB.N_only HN56.out) (fun k_ hk_ => ⟨⟨trivial, .inl hk_⟩, (fun hk_ => hk_.1.2) (HN56.out.1 k_ hk_.symm)⟩)) (Kd.F_mono (ok := (fun k_ => ((((((True ∧ (P_ k_ ∨ w.heap.size ≤ k_)) ∧ some k_ ≠ (v0_1 : Value).ownBlock) ∧ some k_ ≠ ((.slice A155 x55.length cp156) : Value).ownBlock) ∧ k_ ≠ g0) ∧ k_ ≠ g7) ∧ k_ ≠ g27) ∧ k_ ≠ g88)) HF87_4.out (fun k_ hk_ => hk_)) HL87_4.out At159.out).mono ?_; rintro e w160 ⟨v161, p162, rfl, hn1, hp1, hbk, hfr, hb⟩; refine ⟨_, rfl, ?_⟩); replace hbk := Aside0.mk hbk; replace hfr := Aside0.mk hfr; replace hp1 := Aside0.mk hp1)
     refine Stop.go ?_
     replace hbk := hbk.out
     replace hfr := hfr.out
     replace hp1 := hp1.out
     have hat1 : ∀ k_ : Nat, (v161 : Value).ownBlock = some k_ → some k_ = ((.slice A155 x55.length cp156) : Value).ownBlock ∨ w122.heap.size ≤ k_ := fun k_ h_ => (hn1.1 k_ h_).1.2
     have HN163 := Aside0.mk (Kd.N_mono hn1 (fun k_ hk_ => hk_.1.2.elim (fun h_ => HN56.out.1 k_ h_.symm) (fun h_ => ⟨⟨⟨⟨⟨⟨trivial, (.inr (Nat.le_trans (MB.bsize (a := B_) HB.out) h_))⟩, Kd.fresh' (Kd.N_lt HN0_1.out) k_ h_⟩, Kd.freshB (g := g0) BKg0.out k_ h_⟩, Kd.freshB (g := g7) BKg7.out k_ h_⟩, Kd.freshB (g := g27) BKg27.out k_ h_⟩, Kd.freshB (g := g88) BKg88.out k_ h_⟩)) : Kd.N (Kd.int .u8) 5 w160 B_ (fun k_ => (((((True ∧ (P_ k_ ∨ w.heap.size ≤ k_)) ∧ some k_ ≠ (v0_1 : Value).ownBlock) ∧ k_ ≠ g0) ∧ k_ ≠ g7) ∧ k_ ≠ g27) ∧ k_ ≠ g88) v161 t157)
     replace HFfr := Aside0.mk (Kd.F_mono (MB.F_ptr (ok := (fun k_ => (((((True ∧ some k_ ≠ (v0_1 : Value).ownBlock) ∧ some k_ ≠ ((.slice A155 x55.length cp156) : Value).ownBlock) ∧ k_ ≠ g0) ∧ k_ ≠ g7) ∧ k_ ≠ g27) ∧ k_ ≠ g88)) HFfr.out hfr (fun k_ hk_ => hk_.1.2) (fun k_ hk_ => hk_.1.1.1.1.2)) (fun k_ hk_ => ⟨⟨⟨⟨⟨⟨hk_.1.1.1.1.1.1.1, hk_.1.1.1.1.1.1.2⟩, hk_.1.1.1.1.2⟩, hk_.1.1.1.2⟩, hk_.1.1.2⟩, hk_.1.2⟩, (fun he_ => (hat1 k_ he_.symm).elim (fun h_ => absurd h_ (hk_.1.1.1.1.1.2)) (fun h_ => absurd hk_.2 (Nat.not_lt.2 h_)))⟩) : Kd.F (MB.frK w P0_) _ (fun k_ => (((((True ∧ some k_ ≠ (v0_1 : Value).ownBlock) ∧ k_ ≠ g0) ∧ k_ ≠ g7) ∧ k_ ≠ g27) ∧ k_ ≠ g88) ∧ some k_ ≠ (v161 : Value).ownBlock) _ _ _)
     replace HF1_4 := Aside0.mk (Kd.F_mono (MB.F_ptr (ok := (fun k_ => ((((((True ∧ (P_ k_ ∨ w.heap.size ≤ k_)) ∧ some k_ ≠ (v0_1 : Value).ownBlock) ∧ some k_ ≠ ((.slice A155 x55.length cp156) : Value).ownBlock) ∧ k_ ≠ g0) ∧ k_ ≠ g7) ∧ k_ ≠ g27) ∧ k_ ≠ g88)) HF1_4.out hfr (fun k_ hk_ => hk_.1.2) (fun k_ hk_ => hk_.1.1.1.1.2)) (fun k_ hk_ => ⟨⟨⟨⟨⟨⟨⟨hk_.1.1.1.1.1.1.1.1, hk_.1.1.1.1.1.1.1.2⟩, hk_.1.1.1.1.1.1.2⟩, hk_.1.1.1.1.2⟩, hk_.1.1.1.2⟩, hk_.1.1.2⟩, hk_.1.2⟩, (fun he_ => (hat1 k_ he_.symm).elim (fun h_ => absurd h_ (hk_.1.1.1.1.1.2)) (fun h_ => absurd hk_.2 (Nat.not_lt.2 h_)))⟩) : Kd.F k57 _ (fun k_ => ((((((True ∧ (P_ k_ ∨ w.heap.size ≤ k_)) ∧ some k_ ≠ (v0_1 : Value).ownBlock) ∧ k_ ≠ g0) ∧ k_ ≠ g7) ∧ k_ ≠ g27) ∧ k_ ≠ g88) ∧ some k_ ≠ (v161 : Value).ownBlock) _ _ _)
     replace HN0_1 := Aside0.mk (Kd.N_mono (MB.N_ptr (ok := (fun k_ => (((((True ∧ (some k_ = (v0_1 : Value).ownBlock ∨ w.heap.size ≤ k_)) ∧ some k_ ≠ ((.slice A155 x55.length cp156) : Value).ownBlock) ∧ k_ ≠ g0) ∧ k_ ≠ g7) ∧ k_ ≠ g27) ∧ k_ ≠ g88)) HN0_1.out hfr (fun k_ hk_ => hk_.1.2) (fun k_ hk_ => hk_.1.1.1.1.2)) (fun k_ hk_ => ⟨⟨⟨⟨⟨⟨hk_.1.1.1.1.1.1.1, hk_.1.1.1.1.1.1.2⟩, hk_.1.1.1.1.2⟩, hk_.1.1.1.2⟩, hk_.1.1.2⟩, hk_.1.2⟩, (fun he_ => (hat1 k_ he_.symm).elim (fun h_ => absurd h_ (hk_.1.1.1.1.1.2)) (fun h_ => absurd hk_.2 (Nat.not_lt.2 h_)))⟩) : Kd.N (Kd.int .u8) _ _ _ (fun k_ => (((((True ∧ (some k_ = (v0_1 : Value).ownBlock ∨ w.heap.size ≤ k_)) ∧ k_ ≠ g0) ∧ k_ ≠ g7) ∧ k_ ≠ g27) ∧ k_ ≠ g88) ∧ some k_ ≠ (v161 : Value).ownBlock) _ _)
     replace BKg0 := Aside0.mk (MB.blk_ptr BKg0.out hfr NEg0_g27.out (Kd.N_away (ok := (fun k_ => (((((True ∧ (P_ k_ ∨ w.heap.size ≤ k_)) ∧ some k_ ≠ (v0_1 : Value).ownBlock) ∧ k_ ≠ g0) ∧ k_ ≠ g7) ∧ k_ ≠ g27) ∧ k_ ≠ g88)) HN56.out (fun k_ hk_ => hk_.1.1.1.2)))
     replace BKg7 := Aside0.mk (MB.blk_ptr BKg7.out hfr NEg7_g27.out (Kd.N_away (ok := (fun k_ => (((((True ∧ (P_ k_ ∨ w.heap.size ≤ k_)) ∧ some k_ ≠ (v0_1 : Value).ownBlock) ∧ k_ ≠ g0) ∧ k_ ≠ g7) ∧ k_ ≠ g27) ∧ k_ ≠ g88)) HN56.out (fun k_ hk_ => hk_.1.1.2)))
     replace BKg88 := Aside0.mk (MB.blk_ptr BKg88.out hfr NEg88_g27.out (Kd.N_away (ok := (fun k_ => (((((True ∧ (P_ k_ ∨ w.heap.size ≤ k_)) ∧ some k_ ≠ (v0_1 : Value).ownBlock) ∧ k_ ≠ g0) ∧ k_ ≠ g7) ∧ k_ ≠ g27) ∧ k_ ≠ g88)) HN56.out (fun k_ hk_ => hk_.2)))
     replace HB := Aside0.mk (Below.trans HB.out hb)
     replace BKg27 := Aside0.mk hbk
     have HPp162 := Aside0.mk hp1
     clear hbk hfr hb hp1 hn1 hat1
     clear HN56
     clear j1Z j20 j21 j22 j23 j24 j25 j26 j27 j28 j29 j2a j2b j2c j2d j2e j2f j2g j2h j2i j2j j2k j2l j2m j2n j2o j2p j2q j2r j2s j2t j2u
     obtain ⟨j2E, j2F, j2G, j2H, j2I, j2J⟩ := MB.lay3 BKg0.out
     obtain ⟨j2K, j2L, j2M, j2N, j2O, j2P, j2Q, j2R, j2S, j2T⟩ := MB.lay5 BKg7.out
     obtain ⟨j2U, j2V, j2W, j2X, j2Y, j2Z⟩ := MB.lay3 BKg27.out
     obtain ⟨j30, j31, j32, j33, j34, j35, j36, j37, j38, j39⟩ := MB.lay5 BKg88.out
     go_wp2
     go_roundg k58
     case measure => have := HK0.out; omega
     case rel => exact ⟨wrap64 (x54 + 1), t157, t158, v161, p52, p162, (by first | rfl | (simp; done) | (simp [*]; done)), HH, ⟨by have := HK0.out; omega⟩, ⟨(Kd.F_mono (ok := (fun k_ => (((((True ∧ some k_ ≠ (v0_1 : Value).ownBlock) ∧ k_ ≠ g0) ∧ k_ ≠ g7) ∧ k_ ≠ g27) ∧ k_ ≠ g88) ∧ some k_ ≠ (v161 : Value).ownBlock)) HFfr.out (fun k_ hk_ => ⟨⟨⟨⟨⟨hk_.1.1.1.1.1.1, hk_.1.1.1.1.1.2⟩, hk_.2⟩, hk_.1.1.1.1.2⟩, hk_.1.1.1.2⟩, hk_.1.1.2⟩))⟩, ⟨(Kd.F_mono (ok := (fun k_ => ((((((True ∧ (P_ k_ ∨ w.heap.size ≤ k_)) ∧ some k_ ≠ (v0_1 : Value).ownBlock) ∧ k_ ≠ g0) ∧ k_ ≠ g7) ∧ k_ ≠ g27) ∧ k_ ≠ g88) ∧ some k_ ≠ (v161 : Value).ownBlock)) HF1_4.out (fun k_ hk_ => ⟨⟨⟨⟨⟨⟨hk_.1.1.1.1.1.1.1, hk_.1.1.1.1.1.1.2⟩, hk_.1.1.1.1.1.2⟩, hk_.2⟩, hk_.1.1.1.1.2⟩, hk_.1.1.1.2⟩, hk_.1.1.2⟩))⟩, ⟨(Kd.N_mono (ok := (fun k_ => (((((True ∧ (some k_ = (v0_1 : Value).ownBlock ∨ w.heap.size ≤ k_)) ∧ k_ ≠ g0) ∧ k_ ≠ g7) ∧ k_ ≠ g27) ∧ k_ ≠ g88) ∧ some k_ ≠ (v161 : Value).ownBlock)) HN0_1.out (fun k_ hk_ => ⟨⟨⟨⟨⟨hk_.1.1.1.1.1.1, hk_.1.1.1.1.1.2⟩, hk_.2⟩, hk_.1.1.1.1.2⟩, hk_.1.1.1.2⟩, hk_.1.1.2⟩))⟩, ⟨(Kd.N_mono (ok := (fun k_ => (((((True ∧ (P_ k_ ∨ w.heap.size ≤ k_)) ∧ some k_ ≠ (v0_1 : Value).ownBlock) ∧ k_ ≠ g0) ∧ k_ ≠ g7) ∧ k_ ≠ g27) ∧ k_ ≠ g88)) HN163.out (fun k_ hk_ => ⟨⟨⟨⟨⟨hk_.1.1.1.1.1.1, hk_.1.1.1.1.1.2⟩, hk_.1.1.1.1.2⟩, hk_.1.1.1.2⟩, hk_.1.1.2⟩, hk_.1.2⟩))⟩, ⟨HPp52.out⟩, ⟨HPp162.out⟩, ⟨BKg0.out⟩, ⟨BKg7.out⟩, ⟨BKg27.out⟩, ⟨HB.out⟩⟩
    obtain ⟨A200, cp201, he_⟩ := Kd.N_slice HN0_1.out
    subst he_
    go_wp2_with ((with_reducible refine gs 4 46 rfl ?_); refine zs 4 46 #[p52, (.slice A200 l0_1.length cp201), .bool x57] BKg0.out [.bool x57] (h := ?_); intro w199 hbk hg)
    refine Stop.go ?_
    replace HFfr := zfg HFfr.out hg fun k_ hk_ => hk_.1.1.2
    replace HN0_1 := zng HN0_1.out hg fun k_ hk_ => hk_.1.1.2
    replace HN56 := zng HN56.out hg fun k_ hk_ => hk_.1.1.2
    replace BKg7 := zbg BKg7.out hg NEg7_g0
    replace BKg27 := zbg BKg27.out hg NEg27_g0
    replace HB := zhg HB.out hg (Nat.le_trans hB_.out (MB.bsize (a := B_) HB.out)) GEg0
    replace BKg0 := hbk
    clear hg hbk
    clear jY jZ j10 j11 j12 j13 j14 j15 j16 j17 j18 j19 j1a j1b j1c j1d j1e j1f j1g j1h j1i j1j
    obtain ⟨j3g, j3h, j3i, j3j, j3k, j3l⟩ := MB.lay3 BKg0.out
    obtain ⟨j3m, j3n, j3o, j3p, j3q, j3r, j3s, j3t, j3u, j3v⟩ := MB.lay5 BKg7.out
    obtain ⟨j3w, j3x, j3y, j3z, j3A, j3B⟩ := MB.lay3 BKg27.out
    obtain ⟨A224, cp225, he_⟩ := Kd.N_slice HN56.out
    subst he_
    go_wp2_with (((with_reducible refine gc 64 rfl ?_); refine zc 64 (some 48) Try.func64 #[.pointer (some ⟨g27, 0, none⟩)] (h := ?_); refine (bString64 g27 99 (p53) ((.slice A224 x55.length cp225)) [.bool x57] B_ (fun k_ => ((((True ∧ (P_ k_ ∨ w.heap.size ≤ k_)) ∧ some k_ ≠ ((.slice A200 l0_1.length cp201) : Value).ownBlock) ∧ k_ ≠ g0) ∧ k_ ≠ g7) ∧ k_ ≠ g27) x55 _ BKg27.out HN56.out).mono ?_; rintro e w226 ⟨rfl, hg⟩; refine ⟨_, rfl, ?_⟩))
    refine Stop.go ?_
    replace HFfr := Aside0.mk (Kd.F_mono (Kd.F_grown (ok := (fun k_ => ((((True ∧ some k_ ≠ ((.slice A200 l0_1.length cp201) : Value).ownBlock) ∧ some k_ ≠ ((.slice A224 x55.length cp225) : Value).ownBlock) ∧ k_ ≠ g0) ∧ k_ ≠ g7) ∧ k_ ≠ g27)) HFfr.out hg (fun k_ hk_ => hk_.1.1.1.2)) (fun k_ hk_ => ⟨⟨⟨⟨hk_.1.1.1.1.1, hk_.1.1.1.1.2⟩, hk_.1.1.2⟩, hk_.1.2⟩, hk_.2⟩) : Kd.F (MB.frK w P0_) _ (fun k_ => (((True ∧ some k_ ≠ ((.slice A200 l0_1.length cp201) : Value).ownBlock) ∧ k_ ≠ g0) ∧ k_ ≠ g7) ∧ k_ ≠ g27) _ _ _)
    replace HN0_1 := Aside0.mk (Kd.N_mono (Kd.N_grown (ok := (fun k_ => ((((True ∧ (some k_ = ((.slice A200 l0_1.length cp201) : Value).ownBlock ∨ w.heap.size ≤ k_)) ∧ some k_ ≠ ((.slice A224 x55.length cp225) : Value).ownBlock) ∧ k_ ≠ g0) ∧ k_ ≠ g7) ∧ k_ ≠ g27)) HN0_1.out hg (fun k_ hk_ => hk_.1.1.1.2)) (fun k_ hk_ => ⟨⟨⟨⟨hk_.1.1.1.1.1, hk_.1.1.1.1.2⟩, hk_.1.1.2⟩, hk_.1.2⟩, hk_.2⟩) : Kd.N (Kd.int .u8) _ _ _ (fun k_ => (((True ∧ (some k_ = ((.slice A200 l0_1.length cp201) : Value).ownBlock ∨ w.heap.size ≤ k_)) ∧ k_ ≠ g0) ∧ k_ ≠ g7) ∧ k_ ≠ g27) _ _)
    replace BKg0 := Aside0.mk (blk_grown (g := g0) BKg0.out hg (Kd.N_away (ok := (fun k_ => ((((True ∧ (P_ k_ ∨ w.heap.size ≤ k_)) ∧ some k_ ≠ ((.slice A200 l0_1.length cp201) : Value).ownBlock) ∧ k_ ≠ g0) ∧ k_ ≠ g7) ∧ k_ ≠ g27)) HN56.out (fun k_ hk_ => hk_.1.1.2)))
    replace BKg7 := Aside0.mk (blk_grown (g := g7) BKg7.out hg (Kd.N_away (ok := (fun k_ => ((((True ∧ (P_ k_ ∨ w.heap.size ≤ k_)) ∧ some k_ ≠ ((.slice A200 l0_1.length cp201) : Value).ownBlock) ∧ k_ ≠ g0) ∧ k_ ≠ g7) ∧ k_ ≠ g27)) HN56.out (fun k_ hk_ => hk_.1.2)))
    replace BKg27 := Aside0.mk (blk_grown (g := g27) BKg27.out hg (Kd.N_away (ok := (fun k_ => ((((True ∧ (P_ k_ ∨ w.heap.size ≤ k_)) ∧ some k_ ≠ ((.slice A200 l0_1.length cp201) : Value).ownBlock) ∧ k_ ≠ g0) ∧ k_ ≠ g7) ∧ k_ ≠ g27)) HN56.out (fun k_ hk_ => hk_.2)))
    replace HB := Aside0.mk (Below.grown HB.out hg (Nat.le_trans hB_.out (MB.bsize (a := B_) HB.out)) (Kd.N_base HN56.out))
    clear hg HN56
    clear j3g j3h j3i j3j j3k j3l j3m j3n j3o j3p j3q j3r j3s j3t j3u j3v j3w j3x j3y j3z j3A j3B
    obtain ⟨j3F, j3G, j3H, j3I, j3J, j3K⟩ := MB.lay3 BKg0.out
    obtain ⟨j3L, j3M, j3N, j3O, j3P, j3Q, j3R, j3S, j3T, j3U⟩ := MB.lay5 BKg7.out
    obtain ⟨j3V, j3W, j3X, j3Y, j3Z, j40⟩ := MB.lay3 BKg27.out
    go_wp2_with (((with_reducible refine gate_dst (N := 51) rfl ?_); (try (refine gate_guard (by rfl) ?_; dsimp only)); refine Kd.N_lit (Kd.int .u8) B_ 5 rfl (N' := 51) rfl (xs := ([Go.bits .or .u8 ((Go.bits .or .i64 (wrap64 (a1_0 * 64)) a1_2) % 256) 32] : List Int)) (inner := [.int .u8 (Go.bits .or .u8 ((Go.bits .or .i64 (wrap64 (a1_0 * 64)) a1_2) % 256) 32)]) (ok := (fun k_ => ((((True ∧ (P_ k_ ∨ w.heap.size ≤ k_)) ∧ some k_ ≠ ((.slice A200 l0_1.length cp201) : Value).ownBlock) ∧ k_ ≠ g0) ∧ k_ ≠ g7) ∧ k_ ≠ g27)) (okp := (fun k_ => ((((True ∧ (P_ k_ ∨ w.heap.size ≤ k_)) ∧ some k_ ≠ ((.slice A200 l0_1.length cp201) : Value).ownBlock) ∧ k_ ≠ g0) ∧ k_ ≠ g7) ∧ k_ ≠ g27)) ?hr ?hp (fun _ hk_ => hk_) ?hf HB.out (Nat.le_trans hB_.out (MB.bsize (a := B_) HB.out)) (by first | simp | decide) ?_; (case hr => first | (go_simp; done) | (go_simp; rfl)); (case hp => exact (Reps.one (fun _ _ => rfl) (Reps.none _ _))); (case hf => exact (show ∀ k_, w226.heap.size ≤ k_ → (fun k_ => ((((True ∧ (P_ k_ ∨ w.heap.size ≤ k_)) ∧ some k_ ≠ ((.slice A200 l0_1.length cp201) : Value).ownBlock) ∧ k_ ≠ g0) ∧ k_ ≠ g7) ∧ k_ ≠ g27) k_ from fun k_ h_ => ⟨⟨⟨⟨⟨trivial, (.inr (Nat.le_trans (MB.bsize (a := B_) HB.out) h_))⟩, Kd.fresh' (Kd.N_lt HN0_1.out) k_ h_⟩, Kd.freshB (g := g0) BKg0.out k_ h_⟩, Kd.freshB (g := g7) BKg7.out k_ h_⟩, Kd.freshB (g := g27) BKg27.out k_ h_⟩) _ (Nat.le_refl _)); intro v249 w250 hn1 hb1 hg1 hat1); replace hat1 := Aside0.mk hat1; refine stop_ ?_)
    refine Stop.go ?_
    replace hat1 := hat1.out
    have hbe := MW.grown_below hg1
    have hba := MW.base_of hat1
    replace HFfr := Aside0.mk (Kd.F_mono (Kd.F_elder' (ok := (fun k_ => (((True ∧ some k_ ≠ ((.slice A200 l0_1.length cp201) : Value).ownBlock) ∧ k_ ≠ g0) ∧ k_ ≠ g7) ∧ k_ ≠ g27)) HFfr.out hba hbe) (fun k_ hk_ => hk_) : Kd.F (MB.frK w P0_) _ (fun k_ => ((((True ∧ some k_ ≠ ((.slice A200 l0_1.length cp201) : Value).ownBlock) ∧ k_ ≠ g0) ∧ k_ ≠ g7) ∧ k_ ≠ g27) ∧ some k_ ≠ (v249 : Value).ownBlock) _ _ _)
    replace HN0_1 := Aside0.mk (Kd.N_mono (Kd.N_elder' (ok := (fun k_ => (((True ∧ (some k_ = ((.slice A200 l0_1.length cp201) : Value).ownBlock ∨ w.heap.size ≤ k_)) ∧ k_ ≠ g0) ∧ k_ ≠ g7) ∧ k_ ≠ g27)) HN0_1.out hba hbe) (fun k_ hk_ => hk_) : Kd.N (Kd.int .u8) _ _ _ (fun k_ => ((((True ∧ (some k_ = ((.slice A200 l0_1.length cp201) : Value).ownBlock ∨ w.heap.size ≤ k_)) ∧ k_ ≠ g0) ∧ k_ ≠ g7) ∧ k_ ≠ g27) ∧ some k_ ≠ (v249 : Value).ownBlock) _ _)
    replace BKg0 := Aside0.mk (blk_below (g := g0) BKg0.out hbe)
    replace BKg7 := Aside0.mk (blk_below (g := g7) BKg7.out hbe)
    replace BKg27 := Aside0.mk (blk_below (g := g27) BKg27.out hbe)
    replace HB := Aside0.mk hb1
    have HN251 := Aside0.mk hn1
    clear hn1 hb1 hg1 hat1 hbe hba
    clear j3F j3G j3H j3I j3J j3K j3L j3M j3N j3O j3P j3Q j3R j3S j3T j3U j3V j3W j3X j3Y j3Z j40
    obtain ⟨j44, j45, j46, j47, j48, j49⟩ := MB.lay3 BKg0.out
    obtain ⟨j4a, j4b, j4c, j4d, j4e, j4f, j4g, j4h, j4i, j4j⟩ := MB.lay5 BKg7.out
    obtain ⟨j4k, j4l, j4m, j4n, j4o, j4p⟩ := MB.lay3 BKg27.out
    obtain ⟨A274, cp275, he_⟩ := Kd.N_slice HN251.out
    subst he_
    have HF276 := Aside0.mk (Kd.N_F HN251.out)
    clear HN251
    replace HFfr := Aside0.mk (Kd.F_mono (ok := (fun k_ => ((((True ∧ some k_ ≠ ((.slice A200 l0_1.length cp201) : Value).ownBlock) ∧ k_ ≠ g0) ∧ k_ ≠ g7) ∧ k_ ≠ g27) ∧ some k_ ≠ ((.slice A274 ([Go.bits .or .u8 ((Go.bits .or .i64 (wrap64 (a1_0 * 64)) a1_2) % 256) 32] : List Int).length cp275) : Value).ownBlock)) HFfr.out (fun k_ hk_ => hk_.1) : Kd.F (MB.frK w P0_) _ (fun k_ => (((True ∧ some k_ ≠ ((.slice A200 l0_1.length cp201) : Value).ownBlock) ∧ k_ ≠ g0) ∧ k_ ≠ g7) ∧ k_ ≠ g27) _ _ _)
    replace HN0_1 := Aside0.mk (Kd.N_mono (ok := (fun k_ => ((((True ∧ (some k_ = ((.slice A200 l0_1.length cp201) : Value).ownBlock ∨ w.heap.size ≤ k_)) ∧ k_ ≠ g0) ∧ k_ ≠ g7) ∧ k_ ≠ g27) ∧ some k_ ≠ ((.slice A274 ([Go.bits .or .u8 ((Go.bits .or .i64 (wrap64 (a1_0 * 64)) a1_2) % 256) 32] : List Int).length cp275) : Value).ownBlock)) HN0_1.out (fun k_ hk_ => hk_.1) : Kd.N (Kd.int .u8) _ _ _ (fun k_ => (((True ∧ (some k_ = ((.slice A200 l0_1.length cp201) : Value).ownBlock ∨ w.heap.size ≤ k_)) ∧ k_ ≠ g0) ∧ k_ ≠ g7) ∧ k_ ≠ g27) _ _)
    have hcv278 := Kd.C_string (P := Try.prog) (A := A274) (c := cp275) Try.underlying95 Try.underlying5 Try.underlying9 (Kd.F_now HF276.out)
    (try simp only [List.length_cons, List.length_nil, Nat.reduceAdd] at hcv278)
    replace HH := zd HH
    obtain ⟨⟨t279, t280⟩, At281, HH⟩ := HH
    dsimp only at HH
    go_wp2_with (((with_reducible refine gc 89 rfl ?_); refine zc 89 (some 53) Try.func89 #[.pointer (some ⟨g0, 0, none⟩), .string (strOfNums ([Go.bits .or .u8 ((Go.bits .or .i64 (wrap64 (a1_0 * 64)) a1_2) % 256) 32] : List Int))] (h := ?_); refine (ber_sheaf_put.calls B_ g0 (p52) ((.slice A200 l0_1.length cp201)) l0_1 x57 (strOfNums ([Go.bits .or .u8 ((Go.bits .or .i64 (wrap64 (a1_0 * 64)) a1_2) % 256) 32] : List Int)) t279 t280 _ (Nat.le_trans hB_.out (MB.bsize (a := B_) HB.out)) BKg0.out GEg0.out HPp52.out (Kd.N_mono (MB.N_only HN0_1.out) (fun k_ hk_ => ⟨⟨trivial, .inl hk_⟩, (fun hk_ => hk_.1.1.2) (HN0_1.out.1 k_ hk_.symm)⟩)) At281.out).mono ?_; rintro e w282 ⟨v283, p284, rfl, hn1, hp1, hbk, hfr, hb⟩; refine ⟨_, rfl, ?_⟩); replace hbk := Aside0.mk hbk; replace hfr := Aside0.mk hfr; replace hp1 := Aside0.mk hp1)
    refine Stop.go ?_
    replace hbk := hbk.out
    replace hfr := hfr.out
    replace hp1 := hp1.out
    have hat1 : ∀ k_ : Nat, (v283 : Value).ownBlock = some k_ → some k_ = ((.slice A200 l0_1.length cp201) : Value).ownBlock ∨ w250.heap.size ≤ k_ := fun k_ h_ => (hn1.1 k_ h_).1.2
    have HN285 := Aside0.mk (Kd.N_mono hn1 (fun k_ hk_ => hk_.1.2.elim (fun h_ => HN0_1.out.1 k_ h_.symm) (fun h_ => ⟨⟨⟨⟨trivial, (.inr (Nat.le_trans (MB.bsize (a := B_) HB.out) h_))⟩, Kd.freshB (g := g0) BKg0.out k_ h_⟩, Kd.freshB (g := g7) BKg7.out k_ h_⟩, Kd.freshB (g := g27) BKg27.out k_ h_⟩)) : Kd.N (Kd.int .u8) 5 w282 B_ (fun k_ => (((True ∧ (some k_ = ((.slice A200 l0_1.length cp201) : Value).ownBlock ∨ w.heap.size ≤ k_)) ∧ k_ ≠ g0) ∧ k_ ≠ g7) ∧ k_ ≠ g27) v283 t279)
    replace HFfr := Aside0.mk (Kd.F_mono (MB.F_ptr (ok := (fun k_ => (((True ∧ some k_ ≠ ((.slice A200 l0_1.length cp201) : Value).ownBlock) ∧ k_ ≠ g0) ∧ k_ ≠ g7) ∧ k_ ≠ g27)) HFfr.out hfr (fun k_ hk_ => hk_.1.1.2) (fun k_ hk_ => hk_.1.1.1.2)) (fun k_ hk_ => ⟨⟨⟨⟨hk_.1.1.1.1.1, hk_.1.1.1.2⟩, hk_.1.1.2⟩, hk_.1.2⟩, (fun he_ => (hat1 k_ he_.symm).elim (fun h_ => absurd h_ (hk_.1.1.1.1.2)) (fun h_ => absurd hk_.2 (Nat.not_lt.2 h_)))⟩) : Kd.F (MB.frK w P0_) _ (fun k_ => (((True ∧ k_ ≠ g0) ∧ k_ ≠ g7) ∧ k_ ≠ g27) ∧ some k_ ≠ (v283 : Value).ownBlock) _ _ _)
    replace BKg7 := Aside0.mk (MB.blk_ptr BKg7.out hfr NEg7_g0.out (Kd.N_away (ok := (fun k_ => (((True ∧ (some k_ = ((.slice A200 l0_1.length cp201) : Value).ownBlock ∨ w.heap.size ≤ k_)) ∧ k_ ≠ g0) ∧ k_ ≠ g7) ∧ k_ ≠ g27)) HN0_1.out (fun k_ hk_ => hk_.1.2)))
    replace BKg27 := Aside0.mk (MB.blk_ptr BKg27.out hfr NEg27_g0.out (Kd.N_away (ok := (fun k_ => (((True ∧ (some k_ = ((.slice A200 l0_1.length cp201) : Value).ownBlock ∨ w.heap.size ≤ k_)) ∧ k_ ≠ g0) ∧ k_ ≠ g7) ∧ k_ ≠ g27)) HN0_1.out (fun k_ hk_ => hk_.2)))
    replace HB := Aside0.mk (Below.trans HB.out hb)
    replace BKg0 := Aside0.mk hbk
    have HPp284 := Aside0.mk hp1
    clear hbk hfr hb hp1 hn1 hat1
    clear HN0_1
    clear j44 j45 j46 j47 j48 j49 j4a j4b j4c j4d j4e j4f j4g j4h j4i j4j j4k j4l j4m j4n j4o j4p hcv278
    obtain ⟨j4C, j4D, j4E, j4F, j4G, j4H⟩ := MB.lay3 BKg0.out
    obtain ⟨j4I, j4J, j4K, j4L, j4M, j4N, j4O, j4P, j4Q, j4R⟩ := MB.lay5 BKg7.out
    obtain ⟨j4S, j4T, j4U, j4V, j4W, j4X⟩ := MB.lay3 BKg27.out
    replace HH := zqn 65535 HH
    rcases HH with ⟨HH, hk309, hk310, hk311, hk312⟩ | ⟨HH, hk400, hk401, hk402, hk403⟩
    ·replace HH := zd HH
     obtain ⟨t313, At314, HH⟩ := HH
     go_wp2_with ((with_reducible refine gc 90 rfl ?_); refine zc 90 (some 58) Try.func90 #[.int .i64 65535] (h := ?_); (with_reducible refine (ber_length.calls  65535 t313 _  At314.out).mono ?_); rintro e w315 ⟨rfl, hb⟩; refine ⟨_, rfl, ?_⟩)
     refine Stop.go ?_
     replace HFfr := zfb HFfr.out hb
     replace HN285 := znb HN285.out hb
     replace BKg0 := zbb BKg0.out hb
     replace BKg7 := zbb BKg7.out hb
     replace BKg27 := zbb BKg27.out hb
     replace HB := Aside0.mk (MB.below_stepB hB_.out HB.out hb)
     clear hb
     clear j4C j4D j4E j4F j4G j4H j4I j4J j4K j4L j4M j4N j4O j4P j4Q j4R j4S j4T j4U j4V j4W j4X
     obtain ⟨j56, j57, j58, j59, j5a, j5b⟩ := MB.lay3 BKg0.out
     obtain ⟨j5c, j5d, j5e, j5f, j5g, j5h, j5i, j5j, j5k, j5l⟩ := MB.lay5 BKg7.out
     obtain ⟨j5m, j5n, j5o, j5p, j5q, j5r⟩ := MB.lay3 BKg27.out
     obtain ⟨A338, cp339, he_⟩ := Kd.N_slice HN285.out
     subst he_
     replace HH := zd HH
     obtain ⟨⟨t340, t341⟩, At342, HH⟩ := HH
     dsimp only at HH
     go_wp2_with (((with_reducible refine gc 89 rfl ?_); refine zc 89 (some 59) Try.func89 #[.pointer (some ⟨g0, 0, none⟩), .string t313] (h := ?_); refine (ber_sheaf_put.calls B_ g0 (p284) ((.slice A338 t279.length cp339)) t279 t280 t313 t340 t341 _ (Nat.le_trans hB_.out (MB.bsize (a := B_) HB.out)) BKg0.out GEg0.out HPp284.out (Kd.N_mono (MB.N_only HN285.out) (fun k_ hk_ => ⟨⟨trivial, .inl hk_⟩, (fun hk_ => hk_.1.1.2) (HN285.out.1 k_ hk_.symm)⟩)) At342.out).mono ?_; rintro e w343 ⟨v344, p345, rfl, hn1, hp1, hbk, hfr, hb⟩; refine ⟨_, rfl, ?_⟩); replace hbk := Aside0.mk hbk; replace hfr := Aside0.mk hfr; replace hp1 := Aside0.mk hp1)
     refine Stop.go ?_
     replace hbk := hbk.out
     replace hfr := hfr.out
     replace hp1 := hp1.out
     have hat1 : ∀ k_ : Nat, (v344 : Value).ownBlock = some k_ → some k_ = ((.slice A338 t279.length cp339) : Value).ownBlock ∨ w315.heap.size ≤ k_ := fun k_ h_ => (hn1.1 k_ h_).1.2
     have HN346 := Aside0.mk (Kd.N_mono hn1 (fun k_ hk_ => hk_.1.2.elim (fun h_ => HN285.out.1 k_ h_.symm) (fun h_ => ⟨⟨⟨⟨trivial, (.inr (Nat.le_trans (MB.bsize (a := B_) HB.out) h_))⟩, Kd.freshB (g := g0) BKg0.out k_ h_⟩, Kd.freshB (g := g7) BKg7.out k_ h_⟩, Kd.freshB (g := g27) BKg27.out k_ h_⟩)) : Kd.N (Kd.int .u8) 5 w343 B_ (fun k_ => (((True ∧ (some k_ = ((.slice A200 l0_1.length cp201) : Value).ownBlock ∨ w.heap.size ≤ k_)) ∧ k_ ≠ g0) ∧ k_ ≠ g7) ∧ k_ ≠ g27) v344 t340)
     replace HFfr := Aside0.mk (Kd.F_mono (MB.F_ptr (ok := (fun k_ => (((True ∧ k_ ≠ g0) ∧ k_ ≠ g7) ∧ k_ ≠ g27) ∧ some k_ ≠ ((.slice A338 t279.length cp339) : Value).ownBlock)) HFfr.out hfr (fun k_ hk_ => hk_.1.1.1.2) (fun k_ hk_ => hk_.2)) (fun k_ hk_ => ⟨⟨⟨⟨hk_.1.1.1.1.1, hk_.1.1.1.1.2⟩, hk_.1.1.1.2⟩, hk_.1.1.2⟩, (fun he_ => (hat1 k_ he_.symm).elim (fun h_ => absurd h_ (hk_.1.2)) (fun h_ => absurd hk_.2 (Nat.not_lt.2 h_)))⟩) : Kd.F (MB.frK w P0_) _ (fun k_ => (((True ∧ k_ ≠ g0) ∧ k_ ≠ g7) ∧ k_ ≠ g27) ∧ some k_ ≠ (v344 : Value).ownBlock) _ _ _)
     replace BKg7 := Aside0.mk (MB.blk_ptr BKg7.out hfr NEg7_g0.out (Kd.N_away (ok := (fun k_ => (((True ∧ (some k_ = ((.slice A200 l0_1.length cp201) : Value).ownBlock ∨ w.heap.size ≤ k_)) ∧ k_ ≠ g0) ∧ k_ ≠ g7) ∧ k_ ≠ g27)) HN285.out (fun k_ hk_ => hk_.1.2)))
     replace BKg27 := Aside0.mk (MB.blk_ptr BKg27.out hfr NEg27_g0.out (Kd.N_away (ok := (fun k_ => (((True ∧ (some k_ = ((.slice A200 l0_1.length cp201) : Value).ownBlock ∨ w.heap.size ≤ k_)) ∧ k_ ≠ g0) ∧ k_ ≠ g7) ∧ k_ ≠ g27)) HN285.out (fun k_ hk_ => hk_.2)))
     replace HB := Aside0.mk (Below.trans HB.out hb)
     replace BKg0 := Aside0.mk hbk
     have HPp345 := Aside0.mk hp1
     clear hbk hfr hb hp1 hn1 hat1
     clear HN285
     clear j56 j57 j58 j59 j5a j5b j5c j5d j5e j5f j5g j5h j5i j5j j5k j5l j5m j5n j5o j5p j5q j5r
     obtain ⟨j5B, j5C, j5D, j5E, j5F, j5G⟩ := MB.lay3 BKg0.out
     obtain ⟨j5H, j5I, j5J, j5K, j5L, j5M, j5N, j5O, j5P, j5Q⟩ := MB.lay5 BKg7.out
     obtain ⟨j5R, j5S, j5T, j5U, j5V, j5W⟩ := MB.lay3 BKg27.out
     obtain ⟨A369, cp370, he_⟩ := Kd.N_slice HN346.out
     subst he_
     replace HH := zd HH
     obtain ⟨⟨t371, t372⟩, At373, HH⟩ := HH
     dsimp only at HH
     go_wp2_with (((with_reducible refine gc 89 rfl ?_); refine zc 89 (some 62) Try.func89 #[.pointer (some ⟨g0, 0, none⟩), .string (strOfNums x55)] (h := ?_); refine (ber_sheaf_put.calls B_ g0 (p345) ((.slice A369 t340.length cp370)) t340 t341 (strOfNums x55) t371 t372 _ (Nat.le_trans hB_.out (MB.bsize (a := B_) HB.out)) BKg0.out GEg0.out HPp345.out (Kd.N_mono (MB.N_only HN346.out) (fun k_ hk_ => ⟨⟨trivial, .inl hk_⟩, (fun hk_ => hk_.1.1.2) (HN346.out.1 k_ hk_.symm)⟩)) At373.out).mono ?_; rintro e w374 ⟨v375, p376, rfl, hn1, hp1, hbk, hfr, hb⟩; refine ⟨_, rfl, ?_⟩); replace hbk := Aside0.mk hbk; replace hfr := Aside0.mk hfr; replace hp1 := Aside0.mk hp1)
     refine Stop.go ?_
     replace hbk := hbk.out
     replace hfr := hfr.out
     replace hp1 := hp1.out
     have hat1 : ∀ k_ : Nat, (v375 : Value).ownBlock = some k_ → some k_ = ((.slice A369 t340.length cp370) : Value).ownBlock ∨ w343.heap.size ≤ k_ := fun k_ h_ => (hn1.1 k_ h_).1.2
     have HN377 := Aside0.mk (Kd.N_mono hn1 (fun k_ hk_ => hk_.1.2.elim (fun h_ => HN346.out.1 k_ h_.symm) (fun h_ => ⟨⟨⟨⟨trivial, (.inr (Nat.le_trans (MB.bsize (a := B_) HB.out) h_))⟩, Kd.freshB (g := g0) BKg0.out k_ h_⟩, Kd.freshB (g := g7) BKg7.out k_ h_⟩, Kd.freshB (g := g27) BKg27.out k_ h_⟩)) : Kd.N (Kd.int .u8) 5 w374 B_ (fun k_ => (((True ∧ (some k_ = ((.slice A200 l0_1.length cp201) : Value).ownBlock ∨ w.heap.size ≤ k_)) ∧ k_ ≠ g0) ∧ k_ ≠ g7) ∧ k_ ≠ g27) v375 t371)
     replace HFfr := Aside0.mk (Kd.F_mono (MB.F_ptr (ok := (fun k_ => (((True ∧ k_ ≠ g0) ∧ k_ ≠ g7) ∧ k_ ≠ g27) ∧ some k_ ≠ ((.slice A369 t340.length cp370) : Value).ownBlock)) HFfr.out hfr (fun k_ hk_ => hk_.1.1.1.2) (fun k_ hk_ => hk_.2)) (fun k_ hk_ => ⟨⟨⟨⟨hk_.1.1.1.1.1, hk_.1.1.1.1.2⟩, hk_.1.1.1.2⟩, hk_.1.1.2⟩, (fun he_ => (hat1 k_ he_.symm).elim (fun h_ => absurd h_ (hk_.1.2)) (fun h_ => absurd hk_.2 (Nat.not_lt.2 h_)))⟩) : Kd.F (MB.frK w P0_) _ (fun k_ => (((True ∧ k_ ≠ g0) ∧ k_ ≠ g7) ∧ k_ ≠ g27) ∧ some k_ ≠ (v375 : Value).ownBlock) _ _ _)
     replace BKg7 := Aside0.mk (MB.blk_ptr BKg7.out hfr NEg7_g0.out (Kd.N_away (ok := (fun k_ => (((True ∧ (some k_ = ((.slice A200 l0_1.length cp201) : Value).ownBlock ∨ w.heap.size ≤ k_)) ∧ k_ ≠ g0) ∧ k_ ≠ g7) ∧ k_ ≠ g27)) HN346.out (fun k_ hk_ => hk_.1.2)))
     replace BKg27 := Aside0.mk (MB.blk_ptr BKg27.out hfr NEg27_g0.out (Kd.N_away (ok := (fun k_ => (((True ∧ (some k_ = ((.slice A200 l0_1.length cp201) : Value).ownBlock ∨ w.heap.size ≤ k_)) ∧ k_ ≠ g0) ∧ k_ ≠ g7) ∧ k_ ≠ g27)) HN346.out (fun k_ hk_ => hk_.2)))
     replace HB := Aside0.mk (Below.trans HB.out hb)
     replace BKg0 := Aside0.mk hbk
     have HPp376 := Aside0.mk hp1
     clear hbk hfr hb hp1 hn1 hat1
     clear HN346
     clear j5B j5C j5D j5E j5F j5G j5H j5I j5J j5K j5L j5M j5N j5O j5P j5Q j5R j5S j5T j5U j5V j5W
     obtain ⟨j66, j67, j68, j69, j6a, j6b⟩ := MB.lay3 BKg0.out
     obtain ⟨j6c, j6d, j6e, j6f, j6g, j6h, j6i, j6j, j6k, j6l⟩ := MB.lay5 BKg7.out
     obtain ⟨j6m, j6n, j6o, j6p, j6q, j6r⟩ := MB.lay3 BKg27.out
     have H := HH.out
     simp only [Option.some.injEq, Prod.mk.injEq] at H
     obtain ⟨rfl, rfl⟩ := H
     clear HH
     go_wp2
     go_end0
     unfold ber_sheaf_lay.Post
     exact ⟨(v375), (p376), by first | rfl | (simp; done) | (simp [*]; done), (Kd.N_mono (ok := (fun k_ => (((True ∧ (some k_ = ((.slice A200 l0_1.length cp201) : Value).ownBlock ∨ w.heap.size ≤ k_)) ∧ k_ ≠ g0) ∧ k_ ≠ g7) ∧ k_ ≠ g27)) HN377.out (fun k_ hk_ => ⟨⟨trivial, hk_.1.1.1.2⟩, hk_.1.1.2⟩)), HPp376.out, (by first | exact BKg0.out | (have h_ := BKg0.out; simp only [*] at h_; exact h_) | (have h_ := BKg0.out; simp [*] at h_ ⊢; exact h_)), (fun k_ hg_ hv_ hlt_ => MB.frK_out HFfr.out k_ (by rw [HPO.out]; exact ⟨hg_, hv_⟩) hlt_), HB.out⟩
    replace HH := zd HH
    obtain ⟨t404, At405, HH⟩ := HH
    go_wp2_with ((with_reducible refine gc 90 rfl ?_); refine zc 90 (some 58) Try.func90 #[.int .i64 ((strOfNums x55).size : Int)] (h := ?_); (with_reducible refine (ber_length.calls  ((strOfNums x55).size : Int) t404 _  At405.out).mono ?_); rintro e w406 ⟨rfl, hb⟩; refine ⟨_, rfl, ?_⟩)
    refine Stop.go ?_
    replace HFfr := zfb HFfr.out hb
    replace HN285 := znb HN285.out hb
    replace BKg0 := zbb BKg0.out hb
    replace BKg7 := zbb BKg7.out hb
    replace BKg27 := zbb BKg27.out hb
    replace HB := Aside0.mk (MB.below_stepB hB_.out HB.out hb)
    clear hb
    clear j4C j4D j4E j4F j4G j4H j4I j4J j4K j4L j4M j4N j4O j4P j4Q j4R j4S j4T j4U j4V j4W j4X
    obtain ⟨j6z, j6A, j6B, j6C, j6D, j6E⟩ := MB.lay3 BKg0.out
    obtain ⟨j6F, j6G, j6H, j6I, j6J, j6K, j6L, j6M, j6N, j6O⟩ := MB.lay5 BKg7.out
    obtain ⟨j6P, j6Q, j6R, j6S, j6T, j6U⟩ := MB.lay3 BKg27.out
    obtain ⟨A429, cp430, he_⟩ := Kd.N_slice HN285.out
    subst he_
    replace HH := zd HH
    obtain ⟨⟨t431, t432⟩, At433, HH⟩ := HH
    dsimp only at HH
    go_wp2_with (((with_reducible refine gc 89 rfl ?_); refine zc 89 (some 59) Try.func89 #[.pointer (some ⟨g0, 0, none⟩), .string t404] (h := ?_); refine (ber_sheaf_put.calls B_ g0 (p284) ((.slice A429 t279.length cp430)) t279 t280 t404 t431 t432 _ (Nat.le_trans hB_.out (MB.bsize (a := B_) HB.out)) BKg0.out GEg0.out HPp284.out (Kd.N_mono (MB.N_only HN285.out) (fun k_ hk_ => ⟨⟨trivial, .inl hk_⟩, (fun hk_ => hk_.1.1.2) (HN285.out.1 k_ hk_.symm)⟩)) At433.out).mono ?_; rintro e w434 ⟨v435, p436, rfl, hn1, hp1, hbk, hfr, hb⟩; refine ⟨_, rfl, ?_⟩); replace hbk := Aside0.mk hbk; replace hfr := Aside0.mk hfr; replace hp1 := Aside0.mk hp1)
    refine Stop.go ?_
    replace hbk := hbk.out
    replace hfr := hfr.out
    replace hp1 := hp1.out
    have hat1 : ∀ k_ : Nat, (v435 : Value).ownBlock = some k_ → some k_ = ((.slice A429 t279.length cp430) : Value).ownBlock ∨ w406.heap.size ≤ k_ := fun k_ h_ => (hn1.1 k_ h_).1.2
    have HN437 := Aside0.mk (Kd.N_mono hn1 (fun k_ hk_ => hk_.1.2.elim (fun h_ => HN285.out.1 k_ h_.symm) (fun h_ => ⟨⟨⟨⟨trivial, (.inr (Nat.le_trans (MB.bsize (a := B_) HB.out) h_))⟩, Kd.freshB (g := g0) BKg0.out k_ h_⟩, Kd.freshB (g := g7) BKg7.out k_ h_⟩, Kd.freshB (g := g27) BKg27.out k_ h_⟩)) : Kd.N (Kd.int .u8) 5 w434 B_ (fun k_ => (((True ∧ (some k_ = ((.slice A200 l0_1.length cp201) : Value).ownBlock ∨ w.heap.size ≤ k_)) ∧ k_ ≠ g0) ∧ k_ ≠ g7) ∧ k_ ≠ g27) v435 t431)
    replace HFfr := Aside0.mk (Kd.F_mono (MB.F_ptr (ok := (fun k_ => (((True ∧ k_ ≠ g0) ∧ k_ ≠ g7) ∧ k_ ≠ g27) ∧ some k_ ≠ ((.slice A429 t279.length cp430) : Value).ownBlock)) HFfr.out hfr (fun k_ hk_ => hk_.1.1.1.2) (fun k_ hk_ => hk_.2)) (fun k_ hk_ => ⟨⟨⟨⟨hk_.1.1.1.1.1, hk_.1.1.1.1.2⟩, hk_.1.1.1.2⟩, hk_.1.1.2⟩, (fun he_ => (hat1 k_ he_.symm).elim (fun h_ => absurd h_ (hk_.1.2)) (fun h_ => absurd hk_.2 (Nat.not_lt.2 h_)))⟩) : Kd.F (MB.frK w P0_) _ (fun k_ => (((True ∧ k_ ≠ g0) ∧ k_ ≠ g7) ∧ k_ ≠ g27) ∧ some k_ ≠ (v435 : Value).ownBlock) _ _ _)
    replace BKg7 := Aside0.mk (MB.blk_ptr BKg7.out hfr NEg7_g0.out (Kd.N_away (ok := (fun k_ => (((True ∧ (some k_ = ((.slice A200 l0_1.length cp201) : Value).ownBlock ∨ w.heap.size ≤ k_)) ∧ k_ ≠ g0) ∧ k_ ≠ g7) ∧ k_ ≠ g27)) HN285.out (fun k_ hk_ => hk_.1.2)))
    replace BKg27 := Aside0.mk (MB.blk_ptr BKg27.out hfr NEg27_g0.out (Kd.N_away (ok := (fun k_ => (((True ∧ (some k_ = ((.slice A200 l0_1.length cp201) : Value).ownBlock ∨ w.heap.size ≤ k_)) ∧ k_ ≠ g0) ∧ k_ ≠ g7) ∧ k_ ≠ g27)) HN285.out (fun k_ hk_ => hk_.2)))
    replace HB := Aside0.mk (Below.trans HB.out hb)
    replace BKg0 := Aside0.mk hbk
    have HPp436 := Aside0.mk hp1
    clear hbk hfr hb hp1 hn1 hat1
    clear HN285
    clear j6z j6A j6B j6C j6D j6E j6F j6G j6H j6I j6J j6K j6L j6M j6N j6O j6P j6Q j6R j6S j6T j6U
    obtain ⟨j74, j75, j76, j77, j78, j79⟩ := MB.lay3 BKg0.out
    obtain ⟨j7a, j7b, j7c, j7d, j7e, j7f, j7g, j7h, j7i, j7j⟩ := MB.lay5 BKg7.out
    obtain ⟨j7k, j7l, j7m, j7n, j7o, j7p⟩ := MB.lay3 BKg27.out
    obtain ⟨A460, cp461, he_⟩ := Kd.N_slice HN437.out
    subst he_
    replace HH := zd HH
    obtain ⟨⟨t462, t463⟩, At464, HH⟩ := HH
    dsimp only at HH
    go_wp2_with (((with_reducible refine gc 89 rfl ?_); refine zc 89 (some 62) Try.func89 #[.pointer (some ⟨g0, 0, none⟩), .string (strOfNums x55)] (h := ?_); refine (ber_sheaf_put.calls B_ g0 (p436) ((.slice A460 t431.length cp461)) t431 t432 (strOfNums x55) t462 t463 _ (Nat.le_trans hB_.out (MB.bsize (a := B_) HB.out)) BKg0.out GEg0.out HPp436.out (Kd.N_mono (MB.N_only HN437.out) (fun k_ hk_ => ⟨⟨trivial, .inl hk_⟩, (fun hk_ => hk_.1.1.2) (HN437.out.1 k_ hk_.symm)⟩)) At464.out).mono ?_; rintro e w465 ⟨v466, p467, rfl, hn1, hp1, hbk, hfr, hb⟩; refine ⟨_, rfl, ?_⟩); replace hbk := Aside0.mk hbk; replace hfr := Aside0.mk hfr; replace hp1 := Aside0.mk hp1)
    refine Stop.go ?_
    replace hbk := hbk.out
    replace hfr := hfr.out
    replace hp1 := hp1.out
    have hat1 : ∀ k_ : Nat, (v466 : Value).ownBlock = some k_ → some k_ = ((.slice A460 t431.length cp461) : Value).ownBlock ∨ w434.heap.size ≤ k_ := fun k_ h_ => (hn1.1 k_ h_).1.2
    have HN468 := Aside0.mk (Kd.N_mono hn1 (fun k_ hk_ => hk_.1.2.elim (fun h_ => HN437.out.1 k_ h_.symm) (fun h_ => ⟨⟨⟨⟨trivial, (.inr (Nat.le_trans (MB.bsize (a := B_) HB.out) h_))⟩, Kd.freshB (g := g0) BKg0.out k_ h_⟩, Kd.freshB (g := g7) BKg7.out k_ h_⟩, Kd.freshB (g := g27) BKg27.out k_ h_⟩)) : Kd.N (Kd.int .u8) 5 w465 B_ (fun k_ => (((True ∧ (some k_ = ((.slice A200 l0_1.length cp201) : Value).ownBlock ∨ w.heap.size ≤ k_)) ∧ k_ ≠ g0) ∧ k_ ≠ g7) ∧ k_ ≠ g27) v466 t462)
    replace HFfr := Aside0.mk (Kd.F_mono (MB.F_ptr (ok := (fun k_ => (((True ∧ k_ ≠ g0) ∧ k_ ≠ g7) ∧ k_ ≠ g27) ∧ some k_ ≠ ((.slice A460 t431.length cp461) : Value).ownBlock)) HFfr.out hfr (fun k_ hk_ => hk_.1.1.1.2) (fun k_ hk_ => hk_.2)) (fun k_ hk_ => ⟨⟨⟨⟨hk_.1.1.1.1.1, hk_.1.1.1.1.2⟩, hk_.1.1.1.2⟩, hk_.1.1.2⟩, (fun he_ => (hat1 k_ he_.symm).elim (fun h_ => absurd h_ (hk_.1.2)) (fun h_ => absurd hk_.2 (Nat.not_lt.2 h_)))⟩) : Kd.F (MB.frK w P0_) _ (fun k_ => (((True ∧ k_ ≠ g0) ∧ k_ ≠ g7) ∧ k_ ≠ g27) ∧ some k_ ≠ (v466 : Value).ownBlock) _ _ _)
    replace BKg7 := Aside0.mk (MB.blk_ptr BKg7.out hfr NEg7_g0.out (Kd.N_away (ok := (fun k_ => (((True ∧ (some k_ = ((.slice A200 l0_1.length cp201) : Value).ownBlock ∨ w.heap.size ≤ k_)) ∧ k_ ≠ g0) ∧ k_ ≠ g7) ∧ k_ ≠ g27)) HN437.out (fun k_ hk_ => hk_.1.2)))
    replace BKg27 := Aside0.mk (MB.blk_ptr BKg27.out hfr NEg27_g0.out (Kd.N_away (ok := (fun k_ => (((True ∧ (some k_ = ((.slice A200 l0_1.length cp201) : Value).ownBlock ∨ w.heap.size ≤ k_)) ∧ k_ ≠ g0) ∧ k_ ≠ g7) ∧ k_ ≠ g27)) HN437.out (fun k_ hk_ => hk_.2)))
    replace HB := Aside0.mk (Below.trans HB.out hb)
    replace BKg0 := Aside0.mk hbk
    have HPp467 := Aside0.mk hp1
    clear hbk hfr hb hp1 hn1 hat1
    clear HN437
    clear j74 j75 j76 j77 j78 j79 j7a j7b j7c j7d j7e j7f j7g j7h j7i j7j j7k j7l j7m j7n j7o j7p
    obtain ⟨j7z, j7A, j7B, j7C, j7D, j7E⟩ := MB.lay3 BKg0.out
    obtain ⟨j7F, j7G, j7H, j7I, j7J, j7K, j7L, j7M, j7N, j7O⟩ := MB.lay5 BKg7.out
    obtain ⟨j7P, j7Q, j7R, j7S, j7T, j7U⟩ := MB.lay3 BKg27.out
    have H := HH.out
    simp only [Option.some.injEq, Prod.mk.injEq] at H
    obtain ⟨rfl, rfl⟩ := H
    clear HH
    go_wp2
    go_end0
    unfold ber_sheaf_lay.Post
    exact ⟨(v466), (p467), by first | rfl | (simp; done) | (simp [*]; done), (Kd.N_mono (ok := (fun k_ => (((True ∧ (some k_ = ((.slice A200 l0_1.length cp201) : Value).ownBlock ∨ w.heap.size ≤ k_)) ∧ k_ ≠ g0) ∧ k_ ≠ g7) ∧ k_ ≠ g27)) HN468.out (fun k_ hk_ => ⟨⟨trivial, hk_.1.1.1.2⟩, hk_.1.1.2⟩)), HPp467.out, (by first | exact BKg0.out | (have h_ := BKg0.out; simp only [*] at h_; exact h_) | (have h_ := BKg0.out; simp [*] at h_ ⊢; exact h_)), (fun k_ hg_ hv_ hlt_ => MB.frK_out HFfr.out k_ (by rw [HPO.out]; exact ⟨hg_, hv_⟩) hlt_), HB.out⟩
 replace HH := MW.hneg HH c26
 replace c26 := Bool.eq_false_iff.mpr c26
 subst c26
 go_wp2_with (((with_reducible refine gate_dst (N := 51) rfl ?_); (try (refine gate_guard (by rfl) ?_; dsimp only)); refine Kd.N_lit (Kd.int .u8) B_ 5 rfl (N' := 51) rfl (xs := ([(Go.bits .or .i64 (wrap64 (a1_0 * 64)) a1_2) % 256] : List Int)) (inner := [.int .u8 ((Go.bits .or .i64 (wrap64 (a1_0 * 64)) a1_2) % 256)]) (ok := (fun k_ => (((True ∧ (P_ k_ ∨ w.heap.size ≤ k_)) ∧ some k_ ≠ (v0_1 : Value).ownBlock) ∧ k_ ≠ g0) ∧ k_ ≠ g7)) (okp := (fun k_ => (((True ∧ (P_ k_ ∨ w.heap.size ≤ k_)) ∧ some k_ ≠ (v0_1 : Value).ownBlock) ∧ k_ ≠ g0) ∧ k_ ≠ g7)) ?hr ?hp (fun _ hk_ => hk_) ?hf HB.out (Nat.le_trans hB_.out (MB.bsize (a := B_) HB.out)) (by first | simp | decide) ?_; (case hr => first | (go_simp; done) | (go_simp; rfl)); (case hp => exact (Reps.one (fun _ _ => rfl) (Reps.none _ _))); (case hf => exact (show ∀ k_, w8.heap.size ≤ k_ → (fun k_ => (((True ∧ (P_ k_ ∨ w.heap.size ≤ k_)) ∧ some k_ ≠ (v0_1 : Value).ownBlock) ∧ k_ ≠ g0) ∧ k_ ≠ g7) k_ from fun k_ h_ => ⟨⟨⟨⟨trivial, (.inr (Nat.le_trans (MB.bsize (a := B_) HB.out) h_))⟩, Kd.fresh' (Kd.N_lt HN0_1.out) k_ h_⟩, Kd.freshB (g := g0) BKg0.out k_ h_⟩, Kd.freshB (g := g7) BKg7.out k_ h_⟩) _ (Nat.le_refl _)); intro v491 w492 hn1 hb1 hg1 hat1); replace hat1 := Aside0.mk hat1; refine stop_ ?_)
 refine Stop.go ?_
 replace hat1 := hat1.out
 have hbe := MW.grown_below hg1
 have hba := MW.base_of hat1
 replace HFfr := Aside0.mk (Kd.F_mono (Kd.F_elder' (ok := (fun k_ => ((True ∧ some k_ ≠ (v0_1 : Value).ownBlock) ∧ k_ ≠ g0) ∧ k_ ≠ g7)) HFfr.out hba hbe) (fun k_ hk_ => hk_) : Kd.F (MB.frK w P0_) _ (fun k_ => (((True ∧ some k_ ≠ (v0_1 : Value).ownBlock) ∧ k_ ≠ g0) ∧ k_ ≠ g7) ∧ some k_ ≠ (v491 : Value).ownBlock) _ _ _)
 replace HN0_1 := Aside0.mk (Kd.N_mono (Kd.N_elder' (ok := (fun k_ => ((True ∧ (some k_ = (v0_1 : Value).ownBlock ∨ w.heap.size ≤ k_)) ∧ k_ ≠ g0) ∧ k_ ≠ g7)) HN0_1.out hba hbe) (fun k_ hk_ => hk_) : Kd.N (Kd.int .u8) _ _ _ (fun k_ => (((True ∧ (some k_ = (v0_1 : Value).ownBlock ∨ w.heap.size ≤ k_)) ∧ k_ ≠ g0) ∧ k_ ≠ g7) ∧ some k_ ≠ (v491 : Value).ownBlock) _ _)
 replace BKg0 := Aside0.mk (blk_below (g := g0) BKg0.out hbe)
 replace BKg7 := Aside0.mk (blk_below (g := g7) BKg7.out hbe)
 replace HB := Aside0.mk hb1
 have HN493 := Aside0.mk hn1
 clear hn1 hb1 hg1 hat1 hbe hba
 clear j9 ja jb jc jd je jf jg jh ji jj jk jl jm jn jo
 obtain ⟨j7Y, j7Z, j80, j81, j82, j83⟩ := MB.lay3 BKg0.out
 obtain ⟨j84, j85, j86, j87, j88, j89, j8a, j8b, j8c, j8d⟩ := MB.lay5 BKg7.out
 obtain ⟨A510, cp511, he_⟩ := Kd.N_slice HN493.out
 subst he_
 have HF512 := Aside0.mk (Kd.N_F HN493.out)
 clear HN493
 replace HFfr := Aside0.mk (Kd.F_mono (ok := (fun k_ => (((True ∧ some k_ ≠ (v0_1 : Value).ownBlock) ∧ k_ ≠ g0) ∧ k_ ≠ g7) ∧ some k_ ≠ ((.slice A510 ([(Go.bits .or .i64 (wrap64 (a1_0 * 64)) a1_2) % 256] : List Int).length cp511) : Value).ownBlock)) HFfr.out (fun k_ hk_ => hk_.1) : Kd.F (MB.frK w P0_) _ (fun k_ => ((True ∧ some k_ ≠ (v0_1 : Value).ownBlock) ∧ k_ ≠ g0) ∧ k_ ≠ g7) _ _ _)
 replace HN0_1 := Aside0.mk (Kd.N_mono (ok := (fun k_ => (((True ∧ (some k_ = (v0_1 : Value).ownBlock ∨ w.heap.size ≤ k_)) ∧ k_ ≠ g0) ∧ k_ ≠ g7) ∧ some k_ ≠ ((.slice A510 ([(Go.bits .or .i64 (wrap64 (a1_0 * 64)) a1_2) % 256] : List Int).length cp511) : Value).ownBlock)) HN0_1.out (fun k_ hk_ => hk_.1) : Kd.N (Kd.int .u8) _ _ _ (fun k_ => ((True ∧ (some k_ = (v0_1 : Value).ownBlock ∨ w.heap.size ≤ k_)) ∧ k_ ≠ g0) ∧ k_ ≠ g7) _ _)
 have hcv514 := Kd.C_string (P := Try.prog) (A := A510) (c := cp511) Try.underlying95 Try.underlying5 Try.underlying9 (Kd.F_now HF512.out)
 (try simp only [List.length_cons, List.length_nil, Nat.reduceAdd] at hcv514)
 obtain ⟨A515, cp516, he_⟩ := Kd.N_slice HN0_1.out
 subst he_
 replace HH := zd HH
 obtain ⟨⟨t517, t518⟩, At519, HH⟩ := HH
 dsimp only at HH
 go_wp2_with (((with_reducible refine gc 89 rfl ?_); refine zc 89 (some 53) Try.func89 #[.pointer (some ⟨g0, 0, none⟩), .string (strOfNums ([(Go.bits .or .i64 (wrap64 (a1_0 * 64)) a1_2) % 256] : List Int))] (h := ?_); refine (ber_sheaf_put.calls B_ g0 (p0_0) ((.slice A515 l0_1.length cp516)) l0_1 false (strOfNums ([(Go.bits .or .i64 (wrap64 (a1_0 * 64)) a1_2) % 256] : List Int)) t517 t518 _ (Nat.le_trans hB_.out (MB.bsize (a := B_) HB.out)) BKg0.out GEg0.out HPp0_0.out (Kd.N_mono (MB.N_only HN0_1.out) (fun k_ hk_ => ⟨⟨trivial, .inl hk_⟩, (fun hk_ => hk_.1.2) (HN0_1.out.1 k_ hk_.symm)⟩)) At519.out).mono ?_; rintro e w520 ⟨v521, p522, rfl, hn1, hp1, hbk, hfr, hb⟩; refine ⟨_, rfl, ?_⟩); replace hbk := Aside0.mk hbk; replace hfr := Aside0.mk hfr; replace hp1 := Aside0.mk hp1)
 refine Stop.go ?_
 replace hbk := hbk.out
 replace hfr := hfr.out
 replace hp1 := hp1.out
 have hat1 : ∀ k_ : Nat, (v521 : Value).ownBlock = some k_ → some k_ = ((.slice A515 l0_1.length cp516) : Value).ownBlock ∨ w492.heap.size ≤ k_ := fun k_ h_ => (hn1.1 k_ h_).1.2
 have HN523 := Aside0.mk (Kd.N_mono hn1 (fun k_ hk_ => hk_.1.2.elim (fun h_ => HN0_1.out.1 k_ h_.symm) (fun h_ => ⟨⟨⟨trivial, (.inr (Nat.le_trans (MB.bsize (a := B_) HB.out) h_))⟩, Kd.freshB (g := g0) BKg0.out k_ h_⟩, Kd.freshB (g := g7) BKg7.out k_ h_⟩)) : Kd.N (Kd.int .u8) 5 w520 B_ (fun k_ => ((True ∧ (some k_ = ((.slice A515 l0_1.length cp516) : Value).ownBlock ∨ w.heap.size ≤ k_)) ∧ k_ ≠ g0) ∧ k_ ≠ g7) v521 t517)
 replace HFfr := Aside0.mk (Kd.F_mono (MB.F_ptr (ok := (fun k_ => ((True ∧ some k_ ≠ ((.slice A515 l0_1.length cp516) : Value).ownBlock) ∧ k_ ≠ g0) ∧ k_ ≠ g7)) HFfr.out hfr (fun k_ hk_ => hk_.1.2) (fun k_ hk_ => hk_.1.1.2)) (fun k_ hk_ => ⟨⟨⟨hk_.1.1.1.1, hk_.1.1.2⟩, hk_.1.2⟩, (fun he_ => (hat1 k_ he_.symm).elim (fun h_ => absurd h_ (hk_.1.1.1.2)) (fun h_ => absurd hk_.2 (Nat.not_lt.2 h_)))⟩) : Kd.F (MB.frK w P0_) _ (fun k_ => ((True ∧ k_ ≠ g0) ∧ k_ ≠ g7) ∧ some k_ ≠ (v521 : Value).ownBlock) _ _ _)
 replace BKg7 := Aside0.mk (MB.blk_ptr BKg7.out hfr NEg7_g0.out (Kd.N_away (ok := (fun k_ => ((True ∧ (some k_ = ((.slice A515 l0_1.length cp516) : Value).ownBlock ∨ w.heap.size ≤ k_)) ∧ k_ ≠ g0) ∧ k_ ≠ g7)) HN0_1.out (fun k_ hk_ => hk_.2)))
 replace HB := Aside0.mk (Below.trans HB.out hb)
 replace BKg0 := Aside0.mk hbk
 have HPp522 := Aside0.mk hp1
 clear hbk hfr hb hp1 hn1 hat1
 clear HN0_1
 clear j7Y j7Z j80 j81 j82 j83 j84 j85 j86 j87 j88 j89 j8a j8b j8c j8d hcv514
 obtain ⟨j8s, j8t, j8u, j8v, j8w, j8x⟩ := MB.lay3 BKg0.out
 obtain ⟨j8y, j8z, j8A, j8B, j8C, j8D, j8E, j8F, j8G, j8H⟩ := MB.lay5 BKg7.out
 replace HH := zqn 65535 HH
 rcases HH with ⟨HH, hk541, hk542, hk543, hk544⟩ | ⟨HH, hk614, hk615, hk616, hk617⟩
 ·replace HH := zd HH
  obtain ⟨t545, At546, HH⟩ := HH
  go_wp2_with ((with_reducible refine gc 90 rfl ?_); refine zc 90 (some 58) Try.func90 #[.int .i64 65535] (h := ?_); (with_reducible refine (ber_length.calls  65535 t545 _  At546.out).mono ?_); rintro e w547 ⟨rfl, hb⟩; refine ⟨_, rfl, ?_⟩)
  refine Stop.go ?_
  replace HFfr := zfb HFfr.out hb
  replace HN523 := znb HN523.out hb
  replace BKg0 := zbb BKg0.out hb
  replace BKg7 := zbb BKg7.out hb
  replace HB := Aside0.mk (MB.below_stepB hB_.out HB.out hb)
  clear hb
  clear j8s j8t j8u j8v j8w j8x j8y j8z j8A j8B j8C j8D j8E j8F j8G j8H
  obtain ⟨j8Q, j8R, j8S, j8T, j8U, j8V⟩ := MB.lay3 BKg0.out
  obtain ⟨j8W, j8X, j8Y, j8Z, j90, j91, j92, j93, j94, j95⟩ := MB.lay5 BKg7.out
  obtain ⟨A564, cp565, he_⟩ := Kd.N_slice HN523.out
  subst he_
  replace HH := zd HH
  obtain ⟨⟨t566, t567⟩, At568, HH⟩ := HH
  dsimp only at HH
  go_wp2_with (((with_reducible refine gc 89 rfl ?_); refine zc 89 (some 59) Try.func89 #[.pointer (some ⟨g0, 0, none⟩), .string t545] (h := ?_); refine (ber_sheaf_put.calls B_ g0 (p522) ((.slice A564 t517.length cp565)) t517 t518 t545 t566 t567 _ (Nat.le_trans hB_.out (MB.bsize (a := B_) HB.out)) BKg0.out GEg0.out HPp522.out (Kd.N_mono (MB.N_only HN523.out) (fun k_ hk_ => ⟨⟨trivial, .inl hk_⟩, (fun hk_ => hk_.1.2) (HN523.out.1 k_ hk_.symm)⟩)) At568.out).mono ?_; rintro e w569 ⟨v570, p571, rfl, hn1, hp1, hbk, hfr, hb⟩; refine ⟨_, rfl, ?_⟩); replace hbk := Aside0.mk hbk; replace hfr := Aside0.mk hfr; replace hp1 := Aside0.mk hp1)
  refine Stop.go ?_
  replace hbk := hbk.out
  replace hfr := hfr.out
  replace hp1 := hp1.out
  have hat1 : ∀ k_ : Nat, (v570 : Value).ownBlock = some k_ → some k_ = ((.slice A564 t517.length cp565) : Value).ownBlock ∨ w547.heap.size ≤ k_ := fun k_ h_ => (hn1.1 k_ h_).1.2
  have HN572 := Aside0.mk (Kd.N_mono hn1 (fun k_ hk_ => hk_.1.2.elim (fun h_ => HN523.out.1 k_ h_.symm) (fun h_ => ⟨⟨⟨trivial, (.inr (Nat.le_trans (MB.bsize (a := B_) HB.out) h_))⟩, Kd.freshB (g := g0) BKg0.out k_ h_⟩, Kd.freshB (g := g7) BKg7.out k_ h_⟩)) : Kd.N (Kd.int .u8) 5 w569 B_ (fun k_ => ((True ∧ (some k_ = ((.slice A515 l0_1.length cp516) : Value).ownBlock ∨ w.heap.size ≤ k_)) ∧ k_ ≠ g0) ∧ k_ ≠ g7) v570 t566)
  replace HFfr := Aside0.mk (Kd.F_mono (MB.F_ptr (ok := (fun k_ => ((True ∧ k_ ≠ g0) ∧ k_ ≠ g7) ∧ some k_ ≠ ((.slice A564 t517.length cp565) : Value).ownBlock)) HFfr.out hfr (fun k_ hk_ => hk_.1.1.2) (fun k_ hk_ => hk_.2)) (fun k_ hk_ => ⟨⟨⟨hk_.1.1.1.1, hk_.1.1.1.2⟩, hk_.1.1.2⟩, (fun he_ => (hat1 k_ he_.symm).elim (fun h_ => absurd h_ (hk_.1.2)) (fun h_ => absurd hk_.2 (Nat.not_lt.2 h_)))⟩) : Kd.F (MB.frK w P0_) _ (fun k_ => ((True ∧ k_ ≠ g0) ∧ k_ ≠ g7) ∧ some k_ ≠ (v570 : Value).ownBlock) _ _ _)
  replace BKg7 := Aside0.mk (MB.blk_ptr BKg7.out hfr NEg7_g0.out (Kd.N_away (ok := (fun k_ => ((True ∧ (some k_ = ((.slice A515 l0_1.length cp516) : Value).ownBlock ∨ w.heap.size ≤ k_)) ∧ k_ ≠ g0) ∧ k_ ≠ g7)) HN523.out (fun k_ hk_ => hk_.2)))
  replace HB := Aside0.mk (Below.trans HB.out hb)
  replace BKg0 := Aside0.mk hbk
  have HPp571 := Aside0.mk hp1
  clear hbk hfr hb hp1 hn1 hat1
  clear HN523
  clear j8Q j8R j8S j8T j8U j8V j8W j8X j8Y j8Z j90 j91 j92 j93 j94 j95
  obtain ⟨j9f, j9g, j9h, j9i, j9j, j9k⟩ := MB.lay3 BKg0.out
  obtain ⟨j9l, j9m, j9n, j9o, j9p, j9q, j9r, j9s, j9t, j9u⟩ := MB.lay5 BKg7.out
  obtain ⟨A589, cp590, he_⟩ := Kd.N_slice HN572.out
  subst he_
  replace HH := zd HH
  obtain ⟨⟨t591, t592⟩, At593, HH⟩ := HH
  dsimp only at HH
  go_wp2_with (((with_reducible refine gc 89 rfl ?_); refine zc 89 (some 62) Try.func89 #[.pointer (some ⟨g0, 0, none⟩), .string a1_3] (h := ?_); refine (ber_sheaf_put.calls B_ g0 (p571) ((.slice A589 t566.length cp590)) t566 t567 a1_3 t591 t592 _ (Nat.le_trans hB_.out (MB.bsize (a := B_) HB.out)) BKg0.out GEg0.out HPp571.out (Kd.N_mono (MB.N_only HN572.out) (fun k_ hk_ => ⟨⟨trivial, .inl hk_⟩, (fun hk_ => hk_.1.2) (HN572.out.1 k_ hk_.symm)⟩)) At593.out).mono ?_; rintro e w594 ⟨v595, p596, rfl, hn1, hp1, hbk, hfr, hb⟩; refine ⟨_, rfl, ?_⟩); replace hbk := Aside0.mk hbk; replace hfr := Aside0.mk hfr; replace hp1 := Aside0.mk hp1)
  refine Stop.go ?_
  replace hbk := hbk.out
  replace hfr := hfr.out
  replace hp1 := hp1.out
  have hat1 : ∀ k_ : Nat, (v595 : Value).ownBlock = some k_ → some k_ = ((.slice A589 t566.length cp590) : Value).ownBlock ∨ w569.heap.size ≤ k_ := fun k_ h_ => (hn1.1 k_ h_).1.2
  have HN597 := Aside0.mk (Kd.N_mono hn1 (fun k_ hk_ => hk_.1.2.elim (fun h_ => HN572.out.1 k_ h_.symm) (fun h_ => ⟨⟨⟨trivial, (.inr (Nat.le_trans (MB.bsize (a := B_) HB.out) h_))⟩, Kd.freshB (g := g0) BKg0.out k_ h_⟩, Kd.freshB (g := g7) BKg7.out k_ h_⟩)) : Kd.N (Kd.int .u8) 5 w594 B_ (fun k_ => ((True ∧ (some k_ = ((.slice A515 l0_1.length cp516) : Value).ownBlock ∨ w.heap.size ≤ k_)) ∧ k_ ≠ g0) ∧ k_ ≠ g7) v595 t591)
  replace HFfr := Aside0.mk (Kd.F_mono (MB.F_ptr (ok := (fun k_ => ((True ∧ k_ ≠ g0) ∧ k_ ≠ g7) ∧ some k_ ≠ ((.slice A589 t566.length cp590) : Value).ownBlock)) HFfr.out hfr (fun k_ hk_ => hk_.1.1.2) (fun k_ hk_ => hk_.2)) (fun k_ hk_ => ⟨⟨⟨hk_.1.1.1.1, hk_.1.1.1.2⟩, hk_.1.1.2⟩, (fun he_ => (hat1 k_ he_.symm).elim (fun h_ => absurd h_ (hk_.1.2)) (fun h_ => absurd hk_.2 (Nat.not_lt.2 h_)))⟩) : Kd.F (MB.frK w P0_) _ (fun k_ => ((True ∧ k_ ≠ g0) ∧ k_ ≠ g7) ∧ some k_ ≠ (v595 : Value).ownBlock) _ _ _)
  replace BKg7 := Aside0.mk (MB.blk_ptr BKg7.out hfr NEg7_g0.out (Kd.N_away (ok := (fun k_ => ((True ∧ (some k_ = ((.slice A515 l0_1.length cp516) : Value).ownBlock ∨ w.heap.size ≤ k_)) ∧ k_ ≠ g0) ∧ k_ ≠ g7)) HN572.out (fun k_ hk_ => hk_.2)))
  replace HB := Aside0.mk (Below.trans HB.out hb)
  replace BKg0 := Aside0.mk hbk
  have HPp596 := Aside0.mk hp1
  clear hbk hfr hb hp1 hn1 hat1
  clear HN572
  clear j9f j9g j9h j9i j9j j9k j9l j9m j9n j9o j9p j9q j9r j9s j9t j9u
  obtain ⟨j9E, j9F, j9G, j9H, j9I, j9J⟩ := MB.lay3 BKg0.out
  obtain ⟨j9K, j9L, j9M, j9N, j9O, j9P, j9Q, j9R, j9S, j9T⟩ := MB.lay5 BKg7.out
  have H := HH.out
  simp only [Option.some.injEq, Prod.mk.injEq] at H
  obtain ⟨rfl, rfl⟩ := H
  clear HH
  go_wp2
  go_end0
  unfold ber_sheaf_lay.Post
  exact ⟨(v595), (p596), by first | rfl | (simp; done) | (simp [*]; done), (Kd.N_mono (ok := (fun k_ => ((True ∧ (some k_ = ((.slice A515 l0_1.length cp516) : Value).ownBlock ∨ w.heap.size ≤ k_)) ∧ k_ ≠ g0) ∧ k_ ≠ g7)) HN597.out (fun k_ hk_ => ⟨⟨trivial, hk_.1.1.2⟩, hk_.1.2⟩)), HPp596.out, (by first | exact BKg0.out | (have h_ := BKg0.out; simp only [*] at h_; exact h_) | (have h_ := BKg0.out; simp [*] at h_ ⊢; exact h_)), (fun k_ hg_ hv_ hlt_ => MB.frK_out HFfr.out k_ (by rw [HPO.out]; exact ⟨hg_, hv_⟩) hlt_), HB.out⟩
 replace HH := zd HH
 obtain ⟨t618, At619, HH⟩ := HH
 go_wp2_with ((with_reducible refine gc 90 rfl ?_); refine zc 90 (some 58) Try.func90 #[.int .i64 (a1_3.size : Int)] (h := ?_); (with_reducible refine (ber_length.calls  (a1_3.size : Int) t618 _  At619.out).mono ?_); rintro e w620 ⟨rfl, hb⟩; refine ⟨_, rfl, ?_⟩)
 refine Stop.go ?_
 replace HFfr := zfb HFfr.out hb
 replace HN523 := znb HN523.out hb
 replace BKg0 := zbb BKg0.out hb
 replace BKg7 := zbb BKg7.out hb
 replace HB := Aside0.mk (MB.below_stepB hB_.out HB.out hb)
 clear hb
 clear j8s j8t j8u j8v j8w j8x j8y j8z j8A j8B j8C j8D j8E j8F j8G j8H
 obtain ⟨ja1, ja2, ja3, ja4, ja5, ja6⟩ := MB.lay3 BKg0.out
 obtain ⟨ja7, ja8, ja9, jaa, jab, jac, jad, jae, jaf, jag⟩ := MB.lay5 BKg7.out
 obtain ⟨A637, cp638, he_⟩ := Kd.N_slice HN523.out
 subst he_
 replace HH := zd HH
 obtain ⟨⟨t639, t640⟩, At641, HH⟩ := HH
 dsimp only at HH
 go_wp2_with (((with_reducible refine gc 89 rfl ?_); refine zc 89 (some 59) Try.func89 #[.pointer (some ⟨g0, 0, none⟩), .string t618] (h := ?_); refine (ber_sheaf_put.calls B_ g0 (p522) ((.slice A637 t517.length cp638)) t517 t518 t618 t639 t640 _ (Nat.le_trans hB_.out (MB.bsize (a := B_) HB.out)) BKg0.out GEg0.out HPp522.out (Kd.N_mono (MB.N_only HN523.out) (fun k_ hk_ => ⟨⟨trivial, .inl hk_⟩, (fun hk_ => hk_.1.2) (HN523.out.1 k_ hk_.symm)⟩)) At641.out).mono ?_; rintro e w642 ⟨v643, p644, rfl, hn1, hp1, hbk, hfr, hb⟩; refine ⟨_, rfl, ?_⟩); replace hbk := Aside0.mk hbk; replace hfr := Aside0.mk hfr; replace hp1 := Aside0.mk hp1)
 refine Stop.go ?_
 replace hbk := hbk.out
 replace hfr := hfr.out
 replace hp1 := hp1.out
 have hat1 : ∀ k_ : Nat, (v643 : Value).ownBlock = some k_ → some k_ = ((.slice A637 t517.length cp638) : Value).ownBlock ∨ w620.heap.size ≤ k_ := fun k_ h_ => (hn1.1 k_ h_).1.2
 have HN645 := Aside0.mk (Kd.N_mono hn1 (fun k_ hk_ => hk_.1.2.elim (fun h_ => HN523.out.1 k_ h_.symm) (fun h_ => ⟨⟨⟨trivial, (.inr (Nat.le_trans (MB.bsize (a := B_) HB.out) h_))⟩, Kd.freshB (g := g0) BKg0.out k_ h_⟩, Kd.freshB (g := g7) BKg7.out k_ h_⟩)) : Kd.N (Kd.int .u8) 5 w642 B_ (fun k_ => ((True ∧ (some k_ = ((.slice A515 l0_1.length cp516) : Value).ownBlock ∨ w.heap.size ≤ k_)) ∧ k_ ≠ g0) ∧ k_ ≠ g7) v643 t639)
 replace HFfr := Aside0.mk (Kd.F_mono (MB.F_ptr (ok := (fun k_ => ((True ∧ k_ ≠ g0) ∧ k_ ≠ g7) ∧ some k_ ≠ ((.slice A637 t517.length cp638) : Value).ownBlock)) HFfr.out hfr (fun k_ hk_ => hk_.1.1.2) (fun k_ hk_ => hk_.2)) (fun k_ hk_ => ⟨⟨⟨hk_.1.1.1.1, hk_.1.1.1.2⟩, hk_.1.1.2⟩, (fun he_ => (hat1 k_ he_.symm).elim (fun h_ => absurd h_ (hk_.1.2)) (fun h_ => absurd hk_.2 (Nat.not_lt.2 h_)))⟩) : Kd.F (MB.frK w P0_) _ (fun k_ => ((True ∧ k_ ≠ g0) ∧ k_ ≠ g7) ∧ some k_ ≠ (v643 : Value).ownBlock) _ _ _)
 replace BKg7 := Aside0.mk (MB.blk_ptr BKg7.out hfr NEg7_g0.out (Kd.N_away (ok := (fun k_ => ((True ∧ (some k_ = ((.slice A515 l0_1.length cp516) : Value).ownBlock ∨ w.heap.size ≤ k_)) ∧ k_ ≠ g0) ∧ k_ ≠ g7)) HN523.out (fun k_ hk_ => hk_.2)))
 replace HB := Aside0.mk (Below.trans HB.out hb)
 replace BKg0 := Aside0.mk hbk
 have HPp644 := Aside0.mk hp1
 clear hbk hfr hb hp1 hn1 hat1
 clear HN523
 clear ja1 ja2 ja3 ja4 ja5 ja6 ja7 ja8 ja9 jaa jab jac jad jae jaf jag
 obtain ⟨jaq, jar, jas, jat, jau, jav⟩ := MB.lay3 BKg0.out
 obtain ⟨jaw, jax, jay, jaz, jaA, jaB, jaC, jaD, jaE, jaF⟩ := MB.lay5 BKg7.out
 obtain ⟨A662, cp663, he_⟩ := Kd.N_slice HN645.out
 subst he_
 replace HH := zd HH
 obtain ⟨⟨t664, t665⟩, At666, HH⟩ := HH
 dsimp only at HH
 go_wp2_with (((with_reducible refine gc 89 rfl ?_); refine zc 89 (some 62) Try.func89 #[.pointer (some ⟨g0, 0, none⟩), .string a1_3] (h := ?_); refine (ber_sheaf_put.calls B_ g0 (p644) ((.slice A662 t639.length cp663)) t639 t640 a1_3 t664 t665 _ (Nat.le_trans hB_.out (MB.bsize (a := B_) HB.out)) BKg0.out GEg0.out HPp644.out (Kd.N_mono (MB.N_only HN645.out) (fun k_ hk_ => ⟨⟨trivial, .inl hk_⟩, (fun hk_ => hk_.1.2) (HN645.out.1 k_ hk_.symm)⟩)) At666.out).mono ?_; rintro e w667 ⟨v668, p669, rfl, hn1, hp1, hbk, hfr, hb⟩; refine ⟨_, rfl, ?_⟩); replace hbk := Aside0.mk hbk; replace hfr := Aside0.mk hfr; replace hp1 := Aside0.mk hp1)
 refine Stop.go ?_
 replace hbk := hbk.out
 replace hfr := hfr.out
 replace hp1 := hp1.out
 have hat1 : ∀ k_ : Nat, (v668 : Value).ownBlock = some k_ → some k_ = ((.slice A662 t639.length cp663) : Value).ownBlock ∨ w642.heap.size ≤ k_ := fun k_ h_ => (hn1.1 k_ h_).1.2
 have HN670 := Aside0.mk (Kd.N_mono hn1 (fun k_ hk_ => hk_.1.2.elim (fun h_ => HN645.out.1 k_ h_.symm) (fun h_ => ⟨⟨⟨trivial, (.inr (Nat.le_trans (MB.bsize (a := B_) HB.out) h_))⟩, Kd.freshB (g := g0) BKg0.out k_ h_⟩, Kd.freshB (g := g7) BKg7.out k_ h_⟩)) : Kd.N (Kd.int .u8) 5 w667 B_ (fun k_ => ((True ∧ (some k_ = ((.slice A515 l0_1.length cp516) : Value).ownBlock ∨ w.heap.size ≤ k_)) ∧ k_ ≠ g0) ∧ k_ ≠ g7) v668 t664)
 replace HFfr := Aside0.mk (Kd.F_mono (MB.F_ptr (ok := (fun k_ => ((True ∧ k_ ≠ g0) ∧ k_ ≠ g7) ∧ some k_ ≠ ((.slice A662 t639.length cp663) : Value).ownBlock)) HFfr.out hfr (fun k_ hk_ => hk_.1.1.2) (fun k_ hk_ => hk_.2)) (fun k_ hk_ => ⟨⟨⟨hk_.1.1.1.1, hk_.1.1.1.2⟩, hk_.1.1.2⟩, (fun he_ => (hat1 k_ he_.symm).elim (fun h_ => absurd h_ (hk_.1.2)) (fun h_ => absurd hk_.2 (Nat.not_lt.2 h_)))⟩) : Kd.F (MB.frK w P0_) _ (fun k_ => ((True ∧ k_ ≠ g0) ∧ k_ ≠ g7) ∧ some k_ ≠ (v668 : Value).ownBlock) _ _ _)
 replace BKg7 := Aside0.mk (MB.blk_ptr BKg7.out hfr NEg7_g0.out (Kd.N_away (ok := (fun k_ => ((True ∧ (some k_ = ((.slice A515 l0_1.length cp516) : Value).ownBlock ∨ w.heap.size ≤ k_)) ∧ k_ ≠ g0) ∧ k_ ≠ g7)) HN645.out (fun k_ hk_ => hk_.2)))
 replace HB := Aside0.mk (Below.trans HB.out hb)
 replace BKg0 := Aside0.mk hbk
 have HPp669 := Aside0.mk hp1
 clear hbk hfr hb hp1 hn1 hat1
 clear HN645
 clear jaq jar jas jat jau jav jaw jax jay jaz jaA jaB jaC jaD jaE jaF
 obtain ⟨jaP, jaQ, jaR, jaS, jaT, jaU⟩ := MB.lay3 BKg0.out
 obtain ⟨jaV, jaW, jaX, jaY, jaZ, jb0, jb1, jb2, jb3, jb4⟩ := MB.lay5 BKg7.out
 have H := HH.out
 simp only [Option.some.injEq, Prod.mk.injEq] at H
 obtain ⟨rfl, rfl⟩ := H
 clear HH
 go_wp2
 go_end0
 unfold ber_sheaf_lay.Post
 exact ⟨(v668), (p669), by first | rfl | (simp; done) | (simp [*]; done), (Kd.N_mono (ok := (fun k_ => ((True ∧ (some k_ = ((.slice A515 l0_1.length cp516) : Value).ownBlock ∨ w.heap.size ≤ k_)) ∧ k_ ≠ g0) ∧ k_ ≠ g7)) HN670.out (fun k_ hk_ => ⟨⟨trivial, hk_.1.1.2⟩, hk_.1.2⟩)), HPp669.out, (by first | exact BKg0.out | (have h_ := BKg0.out; simp only [*] at h_; exact h_) | (have h_ := BKg0.out; simp [*] at h_ ⊢; exact h_)), (fun k_ hg_ hv_ hlt_ => MB.frK_out HFfr.out k_ (by rw [HPO.out]; exact ⟨hg_, hv_⟩) hlt_), HB.out⟩
end Go.Proofs.Ytdjkemhmhkpmkaa.GA
