import Derived.Test.YtdjkemhmhkpmkaaGA0
namespace Go.Proofs.Ytdjkemhmhkpmkaa.GA
open Go.RowKit Go.Proofs.Ytdjkemhmhkpmkaa Go.Proofs.Ytdjkemhmhkpmkaa.MW Go.Proofs.YtdjkemhmhkpmkaaW.PrintWords Go.Proofs.YtdjkemhmhkpmkaaW.PrintLast Go.Proofs.YtdjkemhmhkpmkaaW.PrintMore
attribute [local go_sem] max2_int min2_int max_two min_two
set_option maxHeartbeats 8000000
set_option maxRecDepth 100000
set_option linter.unusedVariables false
set_option linter.unusedSimpArgs false
mutual
def toponymref15_lay.l0 : Nat → ByteArray → Int → Int → Int → (List (S57)) → Option (ByteArray)
 | 0, _, _, _, _, _ => none
 | k + 1, x9, x10, a0_0, a0_2, l0_4 => if x10 < (l0_4.length : Int) then (if 0 ≤ x10 then ((toponymref15_lay.f k ((rd_T57 l0_4 x10).f0) ((rd_T57 l0_4 x10).f1) ((rd_T57 l0_4 x10).f2) ((rd_T57 l0_4 x10).f3) ((rd_T57 l0_4 x10).f4)).bind fun t24 => (if x9.size + t24.size ≤ 9223372036854775807 then ((toponymref15_lay.l0 k (x9 ++ t24) (wrap64 (x10 + 1)) a0_0 a0_2 l0_4)) else (none))) else (none)) else (if (x9.size : Int) < 128 then (if (strOfNums ([(wrap64 ((wrap64 ((wrap64 (64 * a0_0)) + a0_2)) + 32)) % 256, ((x9.size : Int)) % 256] : List Int)).size + x9.size ≤ 9223372036854775807 then (some ((strOfNums ([(wrap64 ((wrap64 ((wrap64 (64 * a0_0)) + a0_2)) + 32)) % 256, ((x9.size : Int)) % 256] : List Int)) ++ x9)) else (none)) else (if (x9.size : Int) < 256 then (if (strOfNums ([(wrap64 ((wrap64 ((wrap64 (64 * a0_0)) + a0_2)) + 32)) % 256, 129, ((x9.size : Int)) % 256] : List Int)).size + x9.size ≤ 9223372036854775807 then (some ((strOfNums ([(wrap64 ((wrap64 ((wrap64 (64 * a0_0)) + a0_2)) + 32)) % 256, 129, ((x9.size : Int)) % 256] : List Int)) ++ x9)) else (none)) else (if (strOfNums ([(wrap64 ((wrap64 ((wrap64 (64 * a0_0)) + a0_2)) + 32)) % 256, 130, (wrap64 ((x9.size : Int) / 256)) % 256, (x9.size : Int) % 256] : List Int)).size + x9.size ≤ 9223372036854775807 then (some ((strOfNums ([(wrap64 ((wrap64 ((wrap64 (64 * a0_0)) + a0_2)) + 32)) % 256, 130, (wrap64 ((x9.size : Int) / 256)) % 256, (x9.size : Int) % 256] : List Int)) ++ x9)) else (none))))
def toponymref15_lay.f : Nat → Int → Bool → Int → ByteArray → (List (S57)) → Option (ByteArray)
 | 0, _, _, _, _, _ => none
 | k + 1, a0_0, a0_1, a0_2, a0_3, l0_4 => if a0_1 = true then ((toponymref15_lay.l0 k (⟨#[]⟩ : ByteArray) 0 a0_0 a0_2 l0_4)) else (if (a0_3.size : Int) < 128 then (if (strOfNums ([(wrap64 ((wrap64 (64 * a0_0)) + a0_2)) % 256, ((a0_3.size : Int)) % 256] : List Int)).size + a0_3.size ≤ 9223372036854775807 then (some ((strOfNums ([(wrap64 ((wrap64 (64 * a0_0)) + a0_2)) % 256, ((a0_3.size : Int)) % 256] : List Int)) ++ a0_3)) else (none)) else (if (a0_3.size : Int) < 256 then (if (strOfNums ([(wrap64 ((wrap64 (64 * a0_0)) + a0_2)) % 256, 129, ((a0_3.size : Int)) % 256] : List Int)).size + a0_3.size ≤ 9223372036854775807 then (some ((strOfNums ([(wrap64 ((wrap64 (64 * a0_0)) + a0_2)) % 256, 129, ((a0_3.size : Int)) % 256] : List Int)) ++ a0_3)) else (none)) else (if (strOfNums ([(wrap64 ((wrap64 (64 * a0_0)) + a0_2)) % 256, 130, (wrap64 ((a0_3.size : Int) / 256)) % 256, (a0_3.size : Int) % 256] : List Int)).size + a0_3.size ≤ 9223372036854775807 then (some ((strOfNums ([(wrap64 ((wrap64 (64 * a0_0)) + a0_2)) % 256, 130, (wrap64 ((a0_3.size : Int) / 256)) % 256, (a0_3.size : Int) % 256] : List Int)) ++ a0_3)) else (none))))
end
theorem toponymref15_lay.mono_l : ∀ k, (∀ y0 y1 y2 y3 y4, LeO (toponymref15_lay.f k y0 y1 y2 y3 y4) (toponymref15_lay.f (k + 1) y0 y1 y2 y3 y4)) ∧ (∀ y0 y1 y2 y3 y4, LeO (toponymref15_lay.l0 k y0 y1 y2 y3 y4) (toponymref15_lay.l0 (k + 1) y0 y1 y2 y3 y4))
 | 0 => ⟨fun _ _ _ _ _ r h => by simp [toponymref15_lay.f] at h, fun _ _ _ _ _ r h => by simp [toponymref15_lay.l0] at h⟩
 | k + 1 => by
  obtain ⟨ih0, ih1⟩ := toponymref15_lay.mono_l k
  refine ⟨?_, ?_⟩
  ·intro y0 y1 y2 y3 y4
   unfold toponymref15_lay.f
   with_reducible repeat' first | exact ih0 _ _ _ _ _ | exact ih1 _ _ _ _ _ | exact LeO.refl _ | exact LeO.none _ | refine LeO.ite ?_ ?_ | refine LeO.bind ?_ (fun _ => ?_)
  intro y0 y1 y2 y3 y4
  unfold toponymref15_lay.l0
  with_reducible repeat' first | exact ih0 _ _ _ _ _ | exact ih1 _ _ _ _ _ | exact LeO.refl _ | exact LeO.none _ | refine LeO.ite ?_ ?_ | refine LeO.bind ?_ (fun _ => ?_)
theorem toponymref15_lay.mono : ∀ a0_ a1_ a2_ a3_ a4_ k, LeO (toponymref15_lay.f k a0_ a1_ a2_ a3_ a4_) (toponymref15_lay.f (k + 1) a0_ a1_ a2_ a3_ a4_) := by
 intro a0_ a1_ a2_ a3_ a4_ k
 obtain ⟨ih0, ih1⟩ := toponymref15_lay.mono_l k
 exact ih0 a0_ a1_ a2_ a3_ a4_
theorem toponymref15_lay.calls (k : Nat) : ∀ (P_ : Nat → Prop) (a0_0 : Int) (a0_1 : Bool) (a0_2 : Int) (a0_3 : ByteArray) (A0_4 : Option Addr) (c0_4 : Nat) (l0_4 : List (S57)) (r : ByteArray) (w : World) (hs0_4 : Kd.F k57 w P_ A0_4 l0_4.length l0_4) (hc0_4 : l0_4.length ≤ c0_4) (h : toponymref15_lay.f k a0_0 a0_1 a0_2 a0_3 l0_4 = some r),
  Calls Try.prog 68 #[.agg #[.int .i64 a0_0, .bool a0_1, .int .i64 a0_2, .string a0_3, .slice A0_4 l0_4.length c0_4]] w (fun e w' => e = .returned (.string r) ∧ Below w.heap.size w w') := by
 induction k using Nat.strongRecOn with
 | _ k ih =>
 intro P_ a0_0 a0_1 a0_2 a0_3 A0_4 c0_4 l0_4 r w hs0_4 hc0_4 h
 cases k with
 | zero => exact absurd h (by simp [toponymref15_lay.f])
 | succ k1 =>
 simp only [toponymref15_lay.f] at h
 have HH := za h
 clear h
 have HF0_4 := zfp hs0_4
 clear hs0_4 hc0_4
 have HB := za (Below.refl w.heap.size w)
 have hu57 := Try.underlying57
 go_enter Try.func68, Try.ntmps68
 go_wp2_with ((with_reducible refine gd 1 rfl ?_); refine zb 1 57 #[.int .i64 a0_0, .bool a0_1, .int .i64 a0_2, .string a0_3, .slice A0_4 l0_4.length c0_4] (h := ?_); intro g1 hg w2 BKg1 hb)
 refine zg ?_
 replace HF0_4 := zfe HF0_4.out hg hb
 replace HB := zhb HB.out hb
 clear hg hb
 obtain ⟨j3, j4, j5, j6, j7⟩ := MB.lz5 BKg1.out
 by_cases c8 : a0_1 = true
 ·replace HH := MW.hpos HH c8
  subst c8
  go_wp2
  go_loopg [3, 5] k1 (fun kq u3 u5 w' => ∃ (x9 : ByteArray) (x10 : Int), u3 = .string x9 ∧ u5 = .int .i64 x10 ∧ Aside0 ((toponymref15_lay.l0 kq x9 x10 a0_0 a0_2 l0_4) = some r) ∧ Aside0 (kq ≤ k1) ∧ Aside0 (Kd.F k57 w' (fun k_ => (P_ k_ ∨ w.heap.size ≤ k_) ∧ k_ ≠ g1) A0_4 l0_4.length l0_4) ∧ Aside0 (w'.heap[g1]? = some (.cells #[.int .i64 a0_0, .bool true, .int .i64 a0_2, .string a0_3, .slice A0_4 l0_4.length c0_4] 57 (0, 0))) ∧ Aside0 (Below w.heap.size w w'))
  case atStart => exact ⟨(⟨#[]⟩ : ByteArray), 0, (by first | rfl | (simp; done) | (simp [*]; done)), (by first | rfl | (simp; done) | (simp [*]; done)), HH, ⟨Nat.le_refl _⟩, ⟨(Kd.F_mono (ok := (fun k_ => (P_ k_ ∨ w.heap.size ≤ k_) ∧ k_ ≠ g1)) HF0_4.out (fun k_ hk_ => hk_))⟩, ⟨BKg1.out⟩, ⟨HB.out⟩⟩
  case round =>
   clear j3 j4 j5 j6 j7
   clear HH
   clear HF0_4 BKg1 HB
   obtain ⟨x9, x10, rfl, rfl, HA, HK0, HF0_4, BKg1, HB⟩ := hrel
   obtain ⟨w12, rfl⟩ : ∃ wo_ : World, wo_ = wr := ⟨_, rfl⟩
   cases gk with
   | zero => exact absurd HA.out (by simp [toponymref15_lay.l0])
   | succ k11 =>
    have H := HA.out
    clear HA
    simp only [toponymref15_lay.l0] at H
    have HH := za H
    clear H
    obtain ⟨jd, je, jf, jg, jh⟩ := MB.lz5 BKg1.out
    replace HH := zqt HH
    rcases HH with ⟨HH, hk19, hk20⟩ | ⟨HH, hk38, hk39⟩
    ·replace HH := zqdo HH
     obtain ⟨HH, hk22⟩ := HH
     have p23 : 0 ≤ (x10 : Int) := of_decide_eq_true (by first | (with_reducible assumption) | assumption)
     have q23 : x10 < (l0_4.length : Int) := of_decide_eq_true (by first | (with_reducible assumption) | assumption)
     obtain ⟨ad23, A23_4, c23_4, e23, hx23_0, hx23_1, hx23_2, hx23_3, hx23_4, hl23_4, hi23_4⟩ := atF_T57 HF0_4.out x10 p23 q23
     cases e23
     have HF23_4 := za hi23_4
     have HL23_4 := za hl23_4
     clear hi23_4 hl23_4
     replace p23 := eq_true p23
     replace q23 := eq_true q23
     replace HH := zd HH
     obtain ⟨t24, At25, HH⟩ := HH
     go_wp2_with ((with_reducible refine gc 68 rfl ?_); refine zc 68 (some 32) Try.func68 #[.agg #[.int .i64 ((rd_T57 l0_4 x10).f0), .bool ((rd_T57 l0_4 x10).f1), .int .i64 ((rd_T57 l0_4 x10).f2), .string ((rd_T57 l0_4 x10).f3), .slice A23_4 ((rd_T57 l0_4 x10).f4).length c23_4]] (h := ?_); (with_reducible refine (ih k11 (by have := HK0.out; omega) (fun k_ => (P_ k_ ∨ w.heap.size ≤ k_) ∧ k_ ≠ g1) ((rd_T57 l0_4 x10).f0) ((rd_T57 l0_4 x10).f1) ((rd_T57 l0_4 x10).f2) ((rd_T57 l0_4 x10).f3) _ _ ((rd_T57 l0_4 x10).f4) t24 _ (Kd.F_mono (ok := (fun k_ => (P_ k_ ∨ w.heap.size ≤ k_) ∧ k_ ≠ g1)) HF23_4.out (fun k_ hk_ => hk_)) HL23_4.out At25.out).mono ?_); rintro e w26 ⟨rfl, hb⟩; refine ⟨_, rfl, ?_⟩)
     refine zg ?_
     replace HF0_4 := zfb HF0_4.out hb
     replace BKg1 := zbb BKg1.out hb
     replace HB := zhb HB.out hb
     clear hb
     clear jd je jf jg jh hx23_0 hx23_1 hx23_2 hx23_3 hx23_4 p23 q23
     obtain ⟨jr, js, jt, ju, jv⟩ := MB.lz5 BKg1.out
     by_cases c32 : x9.size + t24.size ≤ 9223372036854775807
     ·replace HH := MW.hpos HH c32
      have hk33 : (9223372036854775807 < x9.size + t24.size) = False := eq_false (Nat.not_lt.2 c32)
      have hk34 : (x9.size + t24.size ≤ 9223372036854775807) = True := eq_true c32
      have hk35 : decide (x9.size + t24.size ≤ 9223372036854775807) = true := decide_eq_true c32
      clear c32
      go_wp2
      go_roundg k11
      case measure => have := HK0.out; omega
      case rel => exact ⟨x9 ++ t24, wrap64 (x10 + 1), (by first | rfl | (simp; done) | (simp [*]; done)), (by first | rfl | (simp; done) | (simp [*]; done)), HH, ⟨by have := HK0.out; omega⟩, ⟨(Kd.F_mono (ok := (fun k_ => (P_ k_ ∨ w.heap.size ≤ k_) ∧ k_ ≠ g1)) HF0_4.out (fun k_ hk_ => hk_))⟩, ⟨BKg1.out⟩, ⟨HB.out⟩⟩
     exact absurd HH.out (by rw [if_neg c32]; simp)
    replace HH := zqN 128 HH
    rcases HH with ⟨HH, hk41, hk42, hk43⟩ | ⟨HH, hk62, hk63, hk64⟩
    ·go_wp2_with (((with_reducible refine gate_dst (N := 42) rfl ?_); (try (refine gate_guard (by rfl) ?_; dsimp only)); refine Kd.N_lit (Kd.int .u8) w.heap.size 5 rfl (N' := 42) rfl (xs := ([(wrap64 ((wrap64 ((wrap64 (64 * a0_0)) + a0_2)) + 32)) % 256, ((x9.size : Int)) % 256] : List Int)) (inner := [.int .u8 ((wrap64 ((wrap64 ((wrap64 (64 * a0_0)) + a0_2)) + 32)) % 256), .int .u8 (((x9.size : Int)) % 256)]) (ok := (fun k_ => (P_ k_ ∨ w.heap.size ≤ k_) ∧ k_ ≠ g1)) (okp := (fun k_ => (P_ k_ ∨ w.heap.size ≤ k_) ∧ k_ ≠ g1)) ?hr ?hp (fun _ hk_ => hk_) ?hf HB.out (below_size HB.out) (by first | simp | decide) ?_; (case hr => first | (go_simp; done) | (go_simp; rfl)); (case hp => exact (Reps.one (fun _ _ => rfl) (Reps.one (fun _ _ => rfl) (Reps.none _ _)))); (case hf => exact (show ∀ k_, w12.heap.size ≤ k_ → (fun k_ => (P_ k_ ∨ w.heap.size ≤ k_) ∧ k_ ≠ g1) k_ from fun k_ h_ => ⟨.inr (Nat.le_trans (below_size HB.out) h_), Kd.freshB (g := g1) BKg1.out k_ h_⟩) _ (Nat.le_refl _)); intro v44 w45 hn1 hb1 hg1 hat1); replace hat1 := za hat1; refine stop_ ?_)
     refine zg ?_
     replace hat1 := hat1.out
     have hbe := MW.grown_below hg1
     have hba := MW.base_of hat1
     replace BKg1 := za (blk_below (g := g1) BKg1.out hbe)
     replace HB := za hb1
     have HN46 := za hn1
     clear hn1 hb1 hg1 hat1 hbe hba
     clear jd je jf jg jh
     obtain ⟨jL, jM, jN, jO, jP⟩ := MB.lz5 BKg1.out
     obtain ⟨A52, cp53, he_⟩ := Kd.N_slice HN46.out
     subst he_
     have HF54 := za (Kd.N_F HN46.out)
     clear HN46
     have hcv56 := Kd.C_string (P := Try.prog) (A := A52) (c := cp53) Try.underlying95 Try.underlying5 Try.underlying9 (Kd.F_now HF54.out)
     (try simp only [List.length_cons, List.length_nil, Nat.reduceAdd] at hcv56)
     by_cases c57 : (strOfNums ([(wrap64 ((wrap64 ((wrap64 (64 * a0_0)) + a0_2)) + 32)) % 256, ((x9.size : Int)) % 256] : List Int)).size + x9.size ≤ 9223372036854775807
     ·replace HH := MW.hpos HH c57
      have hk58 : (9223372036854775807 < (strOfNums ([(wrap64 ((wrap64 ((wrap64 (64 * a0_0)) + a0_2)) + 32)) % 256, ((x9.size : Int)) % 256] : List Int)).size + x9.size) = False := eq_false (Nat.not_lt.2 c57)
      have hk59 : ((strOfNums ([(wrap64 ((wrap64 ((wrap64 (64 * a0_0)) + a0_2)) + 32)) % 256, ((x9.size : Int)) % 256] : List Int)).size + x9.size ≤ 9223372036854775807) = True := eq_true c57
      have hk60 : decide ((strOfNums ([(wrap64 ((wrap64 ((wrap64 (64 * a0_0)) + a0_2)) + 32)) % 256, ((x9.size : Int)) % 256] : List Int)).size + x9.size ≤ 9223372036854775807) = true := decide_eq_true c57
      clear c57
      obtain rfl := Option.some.inj HH.out
      clear HH
      go_wp2
      go_ret
      exact zfi HB.out
     exact absurd HH.out (by rw [if_neg c57]; simp)
    replace HH := zqN 256 HH
    rcases HH with ⟨HH, hk66, hk67, hk68⟩ | ⟨HH, hk87, hk88, hk89⟩
    ·go_wp2_with (((with_reducible refine gate_dst (N := 52) rfl ?_); (try (refine gate_guard (by rfl) ?_; dsimp only)); refine Kd.N_lit (Kd.int .u8) w.heap.size 5 rfl (N' := 52) rfl (xs := ([(wrap64 ((wrap64 ((wrap64 (64 * a0_0)) + a0_2)) + 32)) % 256, 129, ((x9.size : Int)) % 256] : List Int)) (inner := [.int .u8 ((wrap64 ((wrap64 ((wrap64 (64 * a0_0)) + a0_2)) + 32)) % 256), .int .u8 129, .int .u8 (((x9.size : Int)) % 256)]) (ok := (fun k_ => (P_ k_ ∨ w.heap.size ≤ k_) ∧ k_ ≠ g1)) (okp := (fun k_ => (P_ k_ ∨ w.heap.size ≤ k_) ∧ k_ ≠ g1)) ?hr ?hp (fun _ hk_ => hk_) ?hf HB.out (below_size HB.out) (by first | simp | decide) ?_; (case hr => first | (go_simp; done) | (go_simp; rfl)); (case hp => exact (Reps.one (fun _ _ => rfl) (Reps.one (fun _ _ => rfl) (Reps.one (fun _ _ => rfl) (Reps.none _ _))))); (case hf => exact (show ∀ k_, w12.heap.size ≤ k_ → (fun k_ => (P_ k_ ∨ w.heap.size ≤ k_) ∧ k_ ≠ g1) k_ from fun k_ h_ => ⟨.inr (Nat.le_trans (below_size HB.out) h_), Kd.freshB (g := g1) BKg1.out k_ h_⟩) _ (Nat.le_refl _)); intro v69 w70 hn1 hb1 hg1 hat1); replace hat1 := za hat1; refine stop_ ?_)
     refine zg ?_
     replace hat1 := hat1.out
     have hbe := MW.grown_below hg1
     have hba := MW.base_of hat1
     replace BKg1 := za (blk_below (g := g1) BKg1.out hbe)
     replace HB := za hb1
     have HN71 := za hn1
     clear hn1 hb1 hg1 hat1 hbe hba
     clear jd je jf jg jh
     obtain ⟨j1a, j1b, j1c, j1d, j1e⟩ := MB.lz5 BKg1.out
     obtain ⟨A77, cp78, he_⟩ := Kd.N_slice HN71.out
     subst he_
     have HF79 := za (Kd.N_F HN71.out)
     clear HN71
     have hcv81 := Kd.C_string (P := Try.prog) (A := A77) (c := cp78) Try.underlying95 Try.underlying5 Try.underlying9 (Kd.F_now HF79.out)
     (try simp only [List.length_cons, List.length_nil, Nat.reduceAdd] at hcv81)
     by_cases c82 : (strOfNums ([(wrap64 ((wrap64 ((wrap64 (64 * a0_0)) + a0_2)) + 32)) % 256, 129, ((x9.size : Int)) % 256] : List Int)).size + x9.size ≤ 9223372036854775807
     ·replace HH := MW.hpos HH c82
      have hk83 : (9223372036854775807 < (strOfNums ([(wrap64 ((wrap64 ((wrap64 (64 * a0_0)) + a0_2)) + 32)) % 256, 129, ((x9.size : Int)) % 256] : List Int)).size + x9.size) = False := eq_false (Nat.not_lt.2 c82)
      have hk84 : ((strOfNums ([(wrap64 ((wrap64 ((wrap64 (64 * a0_0)) + a0_2)) + 32)) % 256, 129, ((x9.size : Int)) % 256] : List Int)).size + x9.size ≤ 9223372036854775807) = True := eq_true c82
      have hk85 : decide ((strOfNums ([(wrap64 ((wrap64 ((wrap64 (64 * a0_0)) + a0_2)) + 32)) % 256, 129, ((x9.size : Int)) % 256] : List Int)).size + x9.size ≤ 9223372036854775807) = true := decide_eq_true c82
      clear c82
      obtain rfl := Option.some.inj HH.out
      clear HH
      go_wp2
      go_ret
      exact zfi HB.out
     exact absurd HH.out (by rw [if_neg c82]; simp)
    go_wp2_with (((with_reducible refine gate_dst (N := 64) rfl ?_); (try (refine gate_guard (by rfl) ?_; dsimp only)); refine Kd.N_lit (Kd.int .u8) w.heap.size 5 rfl (N' := 64) rfl (xs := ([(wrap64 ((wrap64 ((wrap64 (64 * a0_0)) + a0_2)) + 32)) % 256, 130, (wrap64 ((x9.size : Int) / 256)) % 256, (x9.size : Int) % 256] : List Int)) (inner := [.int .u8 ((wrap64 ((wrap64 ((wrap64 (64 * a0_0)) + a0_2)) + 32)) % 256), .int .u8 130, .int .u8 ((wrap64 ((x9.size : Int) / 256)) % 256), .int .u8 ((x9.size : Int) % 256)]) (ok := (fun k_ => (P_ k_ ∨ w.heap.size ≤ k_) ∧ k_ ≠ g1)) (okp := (fun k_ => (P_ k_ ∨ w.heap.size ≤ k_) ∧ k_ ≠ g1)) ?hr ?hp (fun _ hk_ => hk_) ?hf HB.out (below_size HB.out) (by first | simp | decide) ?_; (case hr => first | (go_simp; done) | (go_simp; rfl)); (case hp => exact (Reps.one (fun _ _ => rfl) (Reps.one (fun _ _ => rfl) (Reps.one (fun _ _ => rfl) (Reps.one (fun _ _ => rfl) (Reps.none _ _)))))); (case hf => exact (show ∀ k_, w12.heap.size ≤ k_ → (fun k_ => (P_ k_ ∨ w.heap.size ≤ k_) ∧ k_ ≠ g1) k_ from fun k_ h_ => ⟨.inr (Nat.le_trans (below_size HB.out) h_), Kd.freshB (g := g1) BKg1.out k_ h_⟩) _ (Nat.le_refl _)); intro v90 w91 hn1 hb1 hg1 hat1); replace hat1 := za hat1; refine stop_ ?_)
    refine zg ?_
    replace hat1 := hat1.out
    have hbe := MW.grown_below hg1
    have hba := MW.base_of hat1
    replace BKg1 := za (blk_below (g := g1) BKg1.out hbe)
    replace HB := za hb1
    have HN92 := za hn1
    clear hn1 hb1 hg1 hat1 hbe hba
    clear jd je jf jg jh
    obtain ⟨j1v, j1w, j1x, j1y, j1z⟩ := MB.lz5 BKg1.out
    obtain ⟨A98, cp99, he_⟩ := Kd.N_slice HN92.out
    subst he_
    have HF100 := za (Kd.N_F HN92.out)
    clear HN92
    have hcv102 := Kd.C_string (P := Try.prog) (A := A98) (c := cp99) Try.underlying95 Try.underlying5 Try.underlying9 (Kd.F_now HF100.out)
    (try simp only [List.length_cons, List.length_nil, Nat.reduceAdd] at hcv102)
    by_cases c103 : (strOfNums ([(wrap64 ((wrap64 ((wrap64 (64 * a0_0)) + a0_2)) + 32)) % 256, 130, (wrap64 ((x9.size : Int) / 256)) % 256, (x9.size : Int) % 256] : List Int)).size + x9.size ≤ 9223372036854775807
    ·replace HH := MW.hpos HH c103
     have hk104 : (9223372036854775807 < (strOfNums ([(wrap64 ((wrap64 ((wrap64 (64 * a0_0)) + a0_2)) + 32)) % 256, 130, (wrap64 ((x9.size : Int) / 256)) % 256, (x9.size : Int) % 256] : List Int)).size + x9.size) = False := eq_false (Nat.not_lt.2 c103)
     have hk105 : ((strOfNums ([(wrap64 ((wrap64 ((wrap64 (64 * a0_0)) + a0_2)) + 32)) % 256, 130, (wrap64 ((x9.size : Int) / 256)) % 256, (x9.size : Int) % 256] : List Int)).size + x9.size ≤ 9223372036854775807) = True := eq_true c103
     have hk106 : decide ((strOfNums ([(wrap64 ((wrap64 ((wrap64 (64 * a0_0)) + a0_2)) + 32)) % 256, 130, (wrap64 ((x9.size : Int) / 256)) % 256, (x9.size : Int) % 256] : List Int)).size + x9.size ≤ 9223372036854775807) = true := decide_eq_true c103
     clear c103
     obtain rfl := Option.some.inj HH.out
     clear HH
     go_wp2
     go_ret
     exact zfi HB.out
    exact absurd HH.out (by rw [if_neg c103]; simp)
 replace HH := MW.hneg HH c8
 replace c8 := Bool.eq_false_iff.mpr c8
 subst c8
 replace HH := zqN 128 HH
 rcases HH with ⟨HH, hk109, hk110, hk111⟩ | ⟨HH, hk130, hk131, hk132⟩
 ·go_wp2_with (((with_reducible refine gate_dst (N := 42) rfl ?_); (try (refine gate_guard (by rfl) ?_; dsimp only)); refine Kd.N_lit (Kd.int .u8) w.heap.size 5 rfl (N' := 42) rfl (xs := ([(wrap64 ((wrap64 (64 * a0_0)) + a0_2)) % 256, ((a0_3.size : Int)) % 256] : List Int)) (inner := [.int .u8 ((wrap64 ((wrap64 (64 * a0_0)) + a0_2)) % 256), .int .u8 (((a0_3.size : Int)) % 256)]) (ok := (fun k_ => (P_ k_ ∨ w.heap.size ≤ k_) ∧ k_ ≠ g1)) (okp := (fun k_ => (P_ k_ ∨ w.heap.size ≤ k_) ∧ k_ ≠ g1)) ?hr ?hp (fun _ hk_ => hk_) ?hf HB.out (below_size HB.out) (by first | simp | decide) ?_; (case hr => first | (go_simp; done) | (go_simp; rfl)); (case hp => exact (Reps.one (fun _ _ => rfl) (Reps.one (fun _ _ => rfl) (Reps.none _ _)))); (case hf => exact (show ∀ k_, w2.heap.size ≤ k_ → (fun k_ => (P_ k_ ∨ w.heap.size ≤ k_) ∧ k_ ≠ g1) k_ from fun k_ h_ => ⟨.inr (Nat.le_trans (below_size HB.out) h_), Kd.freshB (g := g1) BKg1.out k_ h_⟩) _ (Nat.le_refl _)); intro v112 w113 hn1 hb1 hg1 hat1); replace hat1 := za hat1; refine stop_ ?_)
  refine zg ?_
  replace hat1 := hat1.out
  have hbe := MW.grown_below hg1
  have hba := MW.base_of hat1
  replace BKg1 := za (blk_below (g := g1) BKg1.out hbe)
  replace HB := za hb1
  have HN114 := za hn1
  clear hn1 hb1 hg1 hat1 hbe hba
  clear j3 j4 j5 j6 j7
  obtain ⟨j1R, j1S, j1T, j1U, j1V⟩ := MB.lz5 BKg1.out
  obtain ⟨A120, cp121, he_⟩ := Kd.N_slice HN114.out
  subst he_
  have HF122 := za (Kd.N_F HN114.out)
  clear HN114
  have hcv124 := Kd.C_string (P := Try.prog) (A := A120) (c := cp121) Try.underlying95 Try.underlying5 Try.underlying9 (Kd.F_now HF122.out)
  (try simp only [List.length_cons, List.length_nil, Nat.reduceAdd] at hcv124)
  by_cases c125 : (strOfNums ([(wrap64 ((wrap64 (64 * a0_0)) + a0_2)) % 256, ((a0_3.size : Int)) % 256] : List Int)).size + a0_3.size ≤ 9223372036854775807
  ·replace HH := MW.hpos HH c125
   have hk126 : (9223372036854775807 < (strOfNums ([(wrap64 ((wrap64 (64 * a0_0)) + a0_2)) % 256, ((a0_3.size : Int)) % 256] : List Int)).size + a0_3.size) = False := eq_false (Nat.not_lt.2 c125)
   have hk127 : ((strOfNums ([(wrap64 ((wrap64 (64 * a0_0)) + a0_2)) % 256, ((a0_3.size : Int)) % 256] : List Int)).size + a0_3.size ≤ 9223372036854775807) = True := eq_true c125
   have hk128 : decide ((strOfNums ([(wrap64 ((wrap64 (64 * a0_0)) + a0_2)) % 256, ((a0_3.size : Int)) % 256] : List Int)).size + a0_3.size ≤ 9223372036854775807) = true := decide_eq_true c125
   clear c125
   obtain rfl := Option.some.inj HH.out
   clear HH
   go_wp2
   go_ret
   exact zfi HB.out
  exact absurd HH.out (by rw [if_neg c125]; simp)
 replace HH := zqN 256 HH
 rcases HH with ⟨HH, hk134, hk135, hk136⟩ | ⟨HH, hk155, hk156, hk157⟩
 ·go_wp2_with (((with_reducible refine gate_dst (N := 52) rfl ?_); (try (refine gate_guard (by rfl) ?_; dsimp only)); refine Kd.N_lit (Kd.int .u8) w.heap.size 5 rfl (N' := 52) rfl (xs := ([(wrap64 ((wrap64 (64 * a0_0)) + a0_2)) % 256, 129, ((a0_3.size : Int)) % 256] : List Int)) (inner := [.int .u8 ((wrap64 ((wrap64 (64 * a0_0)) + a0_2)) % 256), .int .u8 129, .int .u8 (((a0_3.size : Int)) % 256)]) (ok := (fun k_ => (P_ k_ ∨ w.heap.size ≤ k_) ∧ k_ ≠ g1)) (okp := (fun k_ => (P_ k_ ∨ w.heap.size ≤ k_) ∧ k_ ≠ g1)) ?hr ?hp (fun _ hk_ => hk_) ?hf HB.out (below_size HB.out) (by first | simp | decide) ?_; (case hr => first | (go_simp; done) | (go_simp; rfl)); (case hp => exact (Reps.one (fun _ _ => rfl) (Reps.one (fun _ _ => rfl) (Reps.one (fun _ _ => rfl) (Reps.none _ _))))); (case hf => exact (show ∀ k_, w2.heap.size ≤ k_ → (fun k_ => (P_ k_ ∨ w.heap.size ≤ k_) ∧ k_ ≠ g1) k_ from fun k_ h_ => ⟨.inr (Nat.le_trans (below_size HB.out) h_), Kd.freshB (g := g1) BKg1.out k_ h_⟩) _ (Nat.le_refl _)); intro v137 w138 hn1 hb1 hg1 hat1); replace hat1 := za hat1; refine stop_ ?_)
  refine zg ?_
  replace hat1 := hat1.out
  have hbe := MW.grown_below hg1
  have hba := MW.base_of hat1
  replace BKg1 := za (blk_below (g := g1) BKg1.out hbe)
  replace HB := za hb1
  have HN139 := za hn1
  clear hn1 hb1 hg1 hat1 hbe hba
  clear j3 j4 j5 j6 j7
  obtain ⟨j2g, j2h, j2i, j2j, j2k⟩ := MB.lz5 BKg1.out
  obtain ⟨A145, cp146, he_⟩ := Kd.N_slice HN139.out
  subst he_
  have HF147 := za (Kd.N_F HN139.out)
  clear HN139
  have hcv149 := Kd.C_string (P := Try.prog) (A := A145) (c := cp146) Try.underlying95 Try.underlying5 Try.underlying9 (Kd.F_now HF147.out)
  (try simp only [List.length_cons, List.length_nil, Nat.reduceAdd] at hcv149)
  by_cases c150 : (strOfNums ([(wrap64 ((wrap64 (64 * a0_0)) + a0_2)) % 256, 129, ((a0_3.size : Int)) % 256] : List Int)).size + a0_3.size ≤ 9223372036854775807
  ·replace HH := MW.hpos HH c150
   have hk151 : (9223372036854775807 < (strOfNums ([(wrap64 ((wrap64 (64 * a0_0)) + a0_2)) % 256, 129, ((a0_3.size : Int)) % 256] : List Int)).size + a0_3.size) = False := eq_false (Nat.not_lt.2 c150)
   have hk152 : ((strOfNums ([(wrap64 ((wrap64 (64 * a0_0)) + a0_2)) % 256, 129, ((a0_3.size : Int)) % 256] : List Int)).size + a0_3.size ≤ 9223372036854775807) = True := eq_true c150
   have hk153 : decide ((strOfNums ([(wrap64 ((wrap64 (64 * a0_0)) + a0_2)) % 256, 129, ((a0_3.size : Int)) % 256] : List Int)).size + a0_3.size ≤ 9223372036854775807) = true := decide_eq_true c150
   clear c150
   obtain rfl := Option.some.inj HH.out
   clear HH
   go_wp2
   go_ret
   exact zfi HB.out
  exact absurd HH.out (by rw [if_neg c150]; simp)
 go_wp2_with (((with_reducible refine gate_dst (N := 64) rfl ?_); (try (refine gate_guard (by rfl) ?_; dsimp only)); refine Kd.N_lit (Kd.int .u8) w.heap.size 5 rfl (N' := 64) rfl (xs := ([(wrap64 ((wrap64 (64 * a0_0)) + a0_2)) % 256, 130, (wrap64 ((a0_3.size : Int) / 256)) % 256, (a0_3.size : Int) % 256] : List Int)) (inner := [.int .u8 ((wrap64 ((wrap64 (64 * a0_0)) + a0_2)) % 256), .int .u8 130, .int .u8 ((wrap64 ((a0_3.size : Int) / 256)) % 256), .int .u8 ((a0_3.size : Int) % 256)]) (ok := (fun k_ => (P_ k_ ∨ w.heap.size ≤ k_) ∧ k_ ≠ g1)) (okp := (fun k_ => (P_ k_ ∨ w.heap.size ≤ k_) ∧ k_ ≠ g1)) ?hr ?hp (fun _ hk_ => hk_) ?hf HB.out (below_size HB.out) (by first | simp | decide) ?_; (case hr => first | (go_simp; done) | (go_simp; rfl)); (case hp => exact (Reps.one (fun _ _ => rfl) (Reps.one (fun _ _ => rfl) (Reps.one (fun _ _ => rfl) (Reps.one (fun _ _ => rfl) (Reps.none _ _)))))); (case hf => exact (show ∀ k_, w2.heap.size ≤ k_ → (fun k_ => (P_ k_ ∨ w.heap.size ≤ k_) ∧ k_ ≠ g1) k_ from fun k_ h_ => ⟨.inr (Nat.le_trans (below_size HB.out) h_), Kd.freshB (g := g1) BKg1.out k_ h_⟩) _ (Nat.le_refl _)); intro v158 w159 hn1 hb1 hg1 hat1); replace hat1 := za hat1; refine stop_ ?_)
 refine zg ?_
 replace hat1 := hat1.out
 have hbe := MW.grown_below hg1
 have hba := MW.base_of hat1
 replace BKg1 := za (blk_below (g := g1) BKg1.out hbe)
 replace HB := za hb1
 have HN160 := za hn1
 clear hn1 hb1 hg1 hat1 hbe hba
 clear j3 j4 j5 j6 j7
 obtain ⟨j2B, j2C, j2D, j2E, j2F⟩ := MB.lz5 BKg1.out
 obtain ⟨A166, cp167, he_⟩ := Kd.N_slice HN160.out
 subst he_
 have HF168 := za (Kd.N_F HN160.out)
 clear HN160
 have hcv170 := Kd.C_string (P := Try.prog) (A := A166) (c := cp167) Try.underlying95 Try.underlying5 Try.underlying9 (Kd.F_now HF168.out)
 (try simp only [List.length_cons, List.length_nil, Nat.reduceAdd] at hcv170)
 by_cases c171 : (strOfNums ([(wrap64 ((wrap64 (64 * a0_0)) + a0_2)) % 256, 130, (wrap64 ((a0_3.size : Int) / 256)) % 256, (a0_3.size : Int) % 256] : List Int)).size + a0_3.size ≤ 9223372036854775807
 ·replace HH := MW.hpos HH c171
  have hk172 : (9223372036854775807 < (strOfNums ([(wrap64 ((wrap64 (64 * a0_0)) + a0_2)) % 256, 130, (wrap64 ((a0_3.size : Int) / 256)) % 256, (a0_3.size : Int) % 256] : List Int)).size + a0_3.size) = False := eq_false (Nat.not_lt.2 c171)
  have hk173 : ((strOfNums ([(wrap64 ((wrap64 (64 * a0_0)) + a0_2)) % 256, 130, (wrap64 ((a0_3.size : Int) / 256)) % 256, (a0_3.size : Int) % 256] : List Int)).size + a0_3.size ≤ 9223372036854775807) = True := eq_true c171
  have hk174 : decide ((strOfNums ([(wrap64 ((wrap64 (64 * a0_0)) + a0_2)) % 256, 130, (wrap64 ((a0_3.size : Int) / 256)) % 256, (a0_3.size : Int) % 256] : List Int)).size + a0_3.size ≤ 9223372036854775807) = true := decide_eq_true c171
  clear c171
  obtain rfl := Option.some.inj HH.out
  clear HH
  go_wp2
  go_ret
  exact zfi HB.out
 exact absurd HH.out (by rw [if_neg c171]; simp)
end Go.Proofs.Ytdjkemhmhkpmkaa.GA
