import Derived.Test.YtdjkemhmhkpmkaaGA0
import Derived.Test.YtdjkemhmhkpmkaaGAF51
import Derived.Test.YtdjkemhmhkpmkaaGM1
import Derived.Test.YtdjkemhmhkpmkaaMX
namespace Go.Proofs.Ytdjkemhmhkpmkaa.GA
open Go.RowKit Go.Proofs.Ytdjkemhmhkpmkaa Go.Proofs.Ytdjkemhmhkpmkaa.MW Go.Proofs.YtdjkemhmhkpmkaaW.PrintWords Go.Proofs.YtdjkemhmhkpmkaaW.PrintLast Go.Proofs.YtdjkemhmhkpmkaaW.PrintMore
attribute [local go_sem] max2_int min2_int max_two min_two
set_option linter.unusedVariables false
set_option linter.unusedSimpArgs false
/-! ### reply_read: function 28 -/
def reply_read.l0 : Nat → Int → Int → (List (S57)) → Int → Option (Int × Int × Bool × Int × ByteArray × ByteArray × ByteArray × (List (S46)) × Bool)
 | 0, _, _, _, _ => none
 | k + 1, x363, x364, l0_4, t50 => if x363 ≤ 10 then ((reply_tag.f x363).bind fun t421 => (if t421 = ((rd_T57 l0_4 (1 : Int)).f2) then ((reply_read.l0 k (wrap64 (x363 + 1)) x363 l0_4 t50)) else ((reply_read.l0 k (wrap64 (x363 + 1)) x364 l0_4 t50)))) else (if (((rd_T57 l0_4 (1 : Int)).f4).length : Int) < 3 then (some (0, 0, false, 0, (⟨#[]⟩ : ByteArray), (⟨#[]⟩ : ByteArray), (⟨#[]⟩ : ByteArray), ([] : List (S46)), false)) else (if (((rd_T57 l0_4 (1 : Int)).f4).length : Int) > 4 then (some (0, 0, false, 0, (⟨#[]⟩ : ByteArray), (⟨#[]⟩ : ByteArray), (⟨#[]⟩ : ByteArray), ([] : List (S46)), false)) else (if 3 ≤ (((rd_T57 l0_4 (1 : Int)).f4).length : Int) then ((some (List.drop 1 (List.take 3 ((rd_T57 l0_4 (1 : Int)).f4)) : List (S57))).bind fun y604 => ((reply_texts.f k y604).bind fun t605 => (if t605 = true then (if 0 < (((rd_T57 l0_4 (1 : Int)).f4).length : Int) then ((prims_AsInt.f k ((rd_T57 ((rd_T57 l0_4 (1 : Int)).f4) (0 : Int)).f0) ((rd_T57 ((rd_T57 l0_4 (1 : Int)).f4) (0 : Int)).f1) ((rd_T57 ((rd_T57 l0_4 (1 : Int)).f4) (0 : Int)).f2) ((rd_T57 ((rd_T57 l0_4 (1 : Int)).f4) (0 : Int)).f3) ((rd_T57 ((rd_T57 l0_4 (1 : Int)).f4) (0 : Int)).f4)).bind fun bt667 => (if 1 < (((rd_T57 l0_4 (1 : Int)).f4).length : Int) then (if 2 < (((rd_T57 l0_4 (1 : Int)).f4).length : Int) then (if (((rd_T57 l0_4 (1 : Int)).f4).length : Int) = 4 then (if 3 < (((rd_T57 l0_4 (1 : Int)).f4).length : Int) then (some (t50, x364, false, bt667.1, (rd_T57 ((rd_T57 l0_4 (1 : Int)).f4) (1 : Int)).f3, (rd_T57 ((rd_T57 l0_4 (1 : Int)).f4) (2 : Int)).f3, (rd_T57 ((rd_T57 l0_4 (1 : Int)).f4) (3 : Int)).f3, ([] : List (S46)), (bt667.2 == 0))) else (none)) else (some (t50, x364, false, bt667.1, (rd_T57 ((rd_T57 l0_4 (1 : Int)).f4) (1 : Int)).f3, (rd_T57 ((rd_T57 l0_4 (1 : Int)).f4) (2 : Int)).f3, (⟨#[]⟩ : ByteArray), ([] : List (S46)), (bt667.2 == 0)))) else (none)) else (none))) else (none)) else (some (0, 0, false, 0, (⟨#[]⟩ : ByteArray), (⟨#[]⟩ : ByteArray), (⟨#[]⟩ : ByteArray), ([] : List (S46)), false))))) else (none))))
def reply_read.f (k : Nat) (a0_0 : Int) (a0_1 : Bool) (a0_2 : Int) (a0_3 : ByteArray) (l0_4 : List (S57)) : Option (Int × Int × Bool × Int × ByteArray × ByteArray × ByteArray × (List (S46)) × Bool) := if (l0_4.length : Int) = 2 then (if 0 < (l0_4.length : Int) then ((prims_AsInt.f k ((rd_T57 l0_4 (0 : Int)).f0) ((rd_T57 l0_4 (0 : Int)).f1) ((rd_T57 l0_4 (0 : Int)).f2) ((rd_T57 l0_4 (0 : Int)).f3) ((rd_T57 l0_4 (0 : Int)).f4)).bind fun bt50 => (if 1 < (l0_4.length : Int) then (if bt50.2 = 0 then (if ((rd_T57 l0_4 (1 : Int)).f2) = 4 then ((reply_entered.f k bt50.1 ((rd_T57 l0_4 (1 : Int)).f4)).bind fun bt167 => (some (bt167.1, bt167.2.1, bt167.2.2.1, bt167.2.2.2.1, bt167.2.2.2.2.1, bt167.2.2.2.2.2.1, bt167.2.2.2.2.2.2.1, bt167.2.2.2.2.2.2.2.1, bt167.2.2.2.2.2.2.2.2))) else ((reply_read.l0 k 1 0 l0_4 bt50.1))) else (some (0, 0, false, 0, (⟨#[]⟩ : ByteArray), (⟨#[]⟩ : ByteArray), (⟨#[]⟩ : ByteArray), ([] : List (S46)), false))) else (none))) else (none)) else (some (0, 0, false, 0, (⟨#[]⟩ : ByteArray), (⟨#[]⟩ : ByteArray), (⟨#[]⟩ : ByteArray), ([] : List (S46)), false))
theorem reply_read.mono_l : ∀ k, (∀ y0 y1 y2 y3, LeO (reply_read.l0 k y0 y1 y2 y3) (reply_read.l0 (k + 1) y0 y1 y2 y3))
 | 0 => fun _ _ _ _ r h => by simp [reply_read.l0] at h
 | k + 1 => by
  have ih0 := reply_read.mono_l k
  ·intro y0 y1 y2 y3
   unfold reply_read.l0
   repeat' first
   | (with_reducible exact ih0 _ _ _ _)
   | (with_reducible exact prims_AsInt.mono _ _ _ _ _ _)
   | (with_reducible exact reply_entered.mono _ _ _)
   | (with_reducible exact reply_texts.mono _ _)
   | (with_reducible exact LeO.refl _)
   | (with_reducible exact LeO.none _)
   | (with_reducible refine LeO.ite ?_ ?_)
   | (with_reducible refine LeO.bind ?_ (fun _ => ?_))
theorem reply_read.mono : ∀ a0_ a1_ a2_ a3_ a4_ k, LeO (reply_read.f k a0_ a1_ a2_ a3_ a4_) (reply_read.f (k + 1) a0_ a1_ a2_ a3_ a4_) := by
 intro a0_ a1_ a2_ a3_ a4_ k
 have ih0 := reply_read.mono_l k
 unfold reply_read.f
 repeat' first
   | (with_reducible exact ih0 _ _ _ _)
   | (with_reducible exact prims_AsInt.mono _ _ _ _ _ _)
   | (with_reducible exact reply_entered.mono _ _ _)
   | (with_reducible exact reply_texts.mono _ _)
   | (with_reducible exact LeO.refl _)
   | (with_reducible exact LeO.none _)
   | (with_reducible refine LeO.ite ?_ ?_)
   | (with_reducible refine LeO.bind ?_ (fun _ => ?_))
set_option maxHeartbeats 8000000 in
set_option maxRecDepth 100000 in
theorem reply_read.calls (k : Nat) (P_ : Nat → Prop) (a0_0 : Int) (a0_1 : Bool) (a0_2 : Int) (a0_3 : ByteArray) (A0_4 : Option Addr) (c0_4 : Nat) (l0_4 : List (S57)) (r1 : Int) (r2 : Int) (r3 : Bool) (r4 : Int) (r5 : ByteArray) (r6 : ByteArray) (r7 : ByteArray) (r8 : List (S46)) (r9 : Bool) (w : World) (hs0_4 : Kd.F k57 w P_ A0_4 l0_4.length l0_4) (hc0_4 : l0_4.length ≤ c0_4) (h : reply_read.f k a0_0 a0_1 a0_2 a0_3 l0_4 = some (r1, r2, r3, r4, r5, r6, r7, r8, r9)) :
  Calls Try.prog 28 #[.agg #[.int .i64 a0_0, .bool a0_1, .int .i64 a0_2, .string a0_3, .slice A0_4 l0_4.length c0_4]] w (fun e w' => ∃ v7_ : Value, e = .returned (.tuple #[.agg #[.int .i64 r1, .int .i64 r2, .bool r3, .int .i64 r4, .string r5, .string r6, .string r7, v7_], .bool r9]) ∧ Kd.N k46 46 w' w.heap.size (fun k_ => P_ k_ ∨ w.heap.size ≤ k_) v7_ r8 ∧ Below w.heap.size w w') := by
 have HH := Aside0.mk (show (if (l0_4.length : Int) = 2 then (if 0 < (l0_4.length : Int) then ((prims_AsInt.f k ((rd_T57 l0_4 (0 : Int)).f0) ((rd_T57 l0_4 (0 : Int)).f1) ((rd_T57 l0_4 (0 : Int)).f2) ((rd_T57 l0_4 (0 : Int)).f3) ((rd_T57 l0_4 (0 : Int)).f4)).bind fun bt50 => (if 1 < (l0_4.length : Int) then (if bt50.2 = 0 then (if ((rd_T57 l0_4 (1 : Int)).f2) = 4 then ((reply_entered.f k bt50.1 ((rd_T57 l0_4 (1 : Int)).f4)).bind fun bt167 => (some (bt167.1, bt167.2.1, bt167.2.2.1, bt167.2.2.2.1, bt167.2.2.2.2.1, bt167.2.2.2.2.2.1, bt167.2.2.2.2.2.2.1, bt167.2.2.2.2.2.2.2.1, bt167.2.2.2.2.2.2.2.2))) else ((reply_read.l0 k 1 0 l0_4 bt50.1))) else (some (0, 0, false, 0, (⟨#[]⟩ : ByteArray), (⟨#[]⟩ : ByteArray), (⟨#[]⟩ : ByteArray), ([] : List (S46)), false))) else (none))) else (none)) else (some (0, 0, false, 0, (⟨#[]⟩ : ByteArray), (⟨#[]⟩ : ByteArray), (⟨#[]⟩ : ByteArray), ([] : List (S46)), false))) = some (r1, r2, r3, r4, r5, r6, r7, r8, r9) from h)
 clear h
 have HF0_4 := zfp hs0_4
 clear hs0_4 hc0_4
 have HB := Aside0.mk (Below.refl w.heap.size w)
 have hu27 := Try.underlying27
 have hu57 := Try.underlying57
 go_enter Try.func28, Try.ntmps28
 go_wp2_with ((with_reducible refine gd 1 rfl ?_); refine zb 1 57 #[.int .i64 a0_0, .bool a0_1, .int .i64 a0_2, .string a0_3, .slice A0_4 l0_4.length c0_4] (h := ?_); intro g1 hg w2 BKg1 hb)
 refine Stop.go ?_
 replace HF0_4 := zfe HF0_4.out hg hb
 replace HB := zhb HB.out hb
 clear hg hb
 obtain ⟨j3, j4, j5, j6, j7, j8, j9, ja, jb, jc⟩ := MB.lay5 BKg1.out
 go_wp2_with ((with_reducible refine gd 2 rfl ?_); refine zb 2 27 #[.int .i64 0, .int .i64 0, .bool false, .int .i64 0, .string (⟨#[]⟩ : ByteArray), .string (⟨#[]⟩ : ByteArray), .string (⟨#[]⟩ : ByteArray), .slice none 0 0] (h := ?_); intro g13 hg w14 BKg13 hb)
 refine Stop.go ?_
 have GEg13 := zge hg (below_size HB.out)
 have NEg1_g13 := znq hg BKg1.out
 replace HF0_4 := zfe HF0_4.out hg hb
 replace BKg1 := zbb BKg1.out hb
 replace HB := zhb HB.out hb
 clear hg hb
 clear j3 j4 j5 j6 j7 j8 j9 ja jb jc
 obtain ⟨jf, jg, jh, ji, jj, jk, jl, jm, jn, jo⟩ := MB.lay5 BKg1.out
 obtain ⟨jp, jq, jr, js, jt, ju, jv, jw, jx, jy, jz, jA, jB, jC, jD, jE⟩ := MB.lay8 BKg13.out
 replace HH := zqe HH
 rcases HH with ⟨HH, hk42, hk43⟩ | ⟨HH, hk1239, hk1240⟩
 ·replace HH := zqno 0 HH
  obtain ⟨HH, hk45, hk46, hk47, hk48⟩ := HH
  have p49 : 0 ≤ (0 : Int) := by decide
  have q49 : (0 : Int) < (l0_4.length : Int) := of_decide_eq_true (by first | (with_reducible assumption) | assumption)
  obtain ⟨ad49, A49_4, c49_4, e49, hx49_0, hx49_1, hx49_2, hx49_3, hx49_4, hl49_4, hi49_4⟩ := atF_T57 HF0_4.out (0 : Int) p49 q49
  cases e49
  (try simp only [show ((0 : Int)).toNat = 0 from rfl, show 0 * 5 = 0 from rfl] at hx49_0)
  (try rw [Addr.add_zero'] at hx49_0)
  (try simp only [show ((0 : Int)).toNat = 0 from rfl, show 0 * 5 = 0 from rfl] at hx49_1)
  (try rw [Addr.add_zero'] at hx49_1)
  (try simp only [show ((0 : Int)).toNat = 0 from rfl, show 0 * 5 = 0 from rfl] at hx49_2)
  (try rw [Addr.add_zero'] at hx49_2)
  (try simp only [show ((0 : Int)).toNat = 0 from rfl, show 0 * 5 = 0 from rfl] at hx49_3)
  (try rw [Addr.add_zero'] at hx49_3)
  (try simp only [show ((0 : Int)).toNat = 0 from rfl, show 0 * 5 = 0 from rfl] at hx49_4)
  (try rw [Addr.add_zero'] at hx49_4)
  have HF49_4 := Aside0.mk hi49_4
  have HL49_4 := Aside0.mk hl49_4
  clear hi49_4 hl49_4
  replace p49 := eq_true p49
  replace q49 := eq_true q49
  replace HH := zd HH
  obtain ⟨⟨t50, t51⟩, At52, HH⟩ := HH
  dsimp only at HH
  go_wp2_with ((with_reducible refine gc 50 rfl ?_); refine zc 50 (some 21) Try.func50 #[.agg #[.int .i64 ((rd_T57 l0_4 (0 : Int)).f0), .bool ((rd_T57 l0_4 (0 : Int)).f1), .int .i64 ((rd_T57 l0_4 (0 : Int)).f2), .string ((rd_T57 l0_4 (0 : Int)).f3), .slice A49_4 ((rd_T57 l0_4 (0 : Int)).f4).length c49_4]] (h := ?_); (with_reducible refine (prims_AsInt.calls k (fun k_ => ((P_ k_ ∨ w.heap.size ≤ k_) ∧ k_ ≠ g1) ∧ k_ ≠ g13) ((rd_T57 l0_4 (0 : Int)).f0) ((rd_T57 l0_4 (0 : Int)).f1) ((rd_T57 l0_4 (0 : Int)).f2) ((rd_T57 l0_4 (0 : Int)).f3) _ _ ((rd_T57 l0_4 (0 : Int)).f4) t50 t51 _ (Kd.F_mono (ok := (fun k_ => ((P_ k_ ∨ w.heap.size ≤ k_) ∧ k_ ≠ g1) ∧ k_ ≠ g13)) HF49_4.out (fun k_ hk_ => hk_)) HL49_4.out At52.out).mono ?_); rintro e w53 ⟨rfl, hb⟩; refine ⟨_, rfl, ?_⟩)
  refine Stop.go ?_
  replace HF0_4 := zfb HF0_4.out hb
  replace HF49_4 := zfb HF49_4.out hb
  replace BKg1 := zbb BKg1.out hb
  replace BKg13 := zbb BKg13.out hb
  replace HB := zhb HB.out hb
  clear hb
  clear jf jg jh ji jj jk jl jm jn jo jp jq jr js jt ju jv jw jx jy jz jA jB jC jD jE hx49_0 hx49_1 hx49_2 hx49_3 hx49_4 p49 q49
  obtain ⟨jS, jT, jU, jV, jW, jX, jY, jZ, j10, j11⟩ := MB.lay5 BKg1.out
  obtain ⟨j12, j13, j14, j15, j16, j17, j18, j19, j1a, j1b, j1c, j1d, j1e, j1f, j1g, j1h⟩ := MB.lay8 BKg13.out
  replace HH := zqno 1 HH
  obtain ⟨HH, hk81, hk82, hk83, hk84⟩ := HH
  have p85 : 0 ≤ (1 : Int) := by decide
  have q85 : (1 : Int) < (l0_4.length : Int) := of_decide_eq_true (by first | (with_reducible assumption) | assumption)
  obtain ⟨ad85, A85_4, c85_4, e85, hx85_0, hx85_1, hx85_2, hx85_3, hx85_4, hl85_4, hi85_4⟩ := atF_T57 HF0_4.out (1 : Int) p85 q85
  cases e85
  (try simp only [show ((1 : Int)).toNat = 1 from rfl, show 1 * 5 = 5 from rfl] at hx85_0)
  (try simp only [Nat.reduceMul, Nat.reduceEqDiff, Go.Addr.add, ↓reduceIte] at hx85_0)
  (try simp only [show ((1 : Int)).toNat = 1 from rfl, show 1 * 5 = 5 from rfl] at hx85_1)
  (try simp only [Nat.reduceMul, Nat.reduceEqDiff, Go.Addr.add, ↓reduceIte] at hx85_1)
  (try simp only [show ((1 : Int)).toNat = 1 from rfl, show 1 * 5 = 5 from rfl] at hx85_2)
  (try simp only [Nat.reduceMul, Nat.reduceEqDiff, Go.Addr.add, ↓reduceIte] at hx85_2)
  (try simp only [show ((1 : Int)).toNat = 1 from rfl, show 1 * 5 = 5 from rfl] at hx85_3)
  (try simp only [Nat.reduceMul, Nat.reduceEqDiff, Go.Addr.add, ↓reduceIte] at hx85_3)
  (try simp only [show ((1 : Int)).toNat = 1 from rfl, show 1 * 5 = 5 from rfl] at hx85_4)
  (try simp only [Nat.reduceMul, Nat.reduceEqDiff, Go.Addr.add, ↓reduceIte] at hx85_4)
  have HF85_4 := Aside0.mk hi85_4
  have HL85_4 := Aside0.mk hl85_4
  clear hi85_4 hl85_4
  replace p85 := eq_true p85
  replace q85 := eq_true q85
  go_wp2_with ((with_reducible refine gd 6 rfl ?_); refine zb 6 57 #[.int .i64 0, .bool false, .int .i64 0, .string (⟨#[]⟩ : ByteArray), .slice none 0 0] (h := ?_); intro g86 hg w87 BKg86 hb)
  refine Stop.go ?_
  have GEg86 := zge hg (below_size HB.out)
  have NEg1_g86 := znq hg BKg1.out
  have NEg13_g86 := znq hg BKg13.out
  have NEg86_g13 := zsy NEg13_g86
  replace HF0_4 := zfe HF0_4.out hg hb
  replace HF49_4 := zfe HF49_4.out hg hb
  replace HF85_4 := zfe HF85_4.out hg hb
  replace BKg1 := zbb BKg1.out hb
  replace BKg13 := zbb BKg13.out hb
  replace HB := zhb HB.out hb
  clear hg hb
  clear jS jT jU jV jW jX jY jZ j10 j11 j12 j13 j14 j15 j16 j17 j18 j19 j1a j1b j1c j1d j1e j1f j1g j1h hx85_0 hx85_1 hx85_2 hx85_3 hx85_4 p85 q85
  obtain ⟨j1q, j1r, j1s, j1t, j1u, j1v, j1w, j1x, j1y, j1z⟩ := MB.lay5 BKg1.out
  obtain ⟨j1A, j1B, j1C, j1D, j1E, j1F, j1G, j1H, j1I, j1J, j1K, j1L, j1M, j1N, j1O, j1P⟩ := MB.lay8 BKg13.out
  obtain ⟨j1Q, j1R, j1S, j1T, j1U, j1V, j1W, j1X, j1Y, j1Z⟩ := MB.lay5 BKg86.out
  go_wp2_with ((with_reducible refine gs 57 6 rfl ?_); refine zs 57 6 #[.int .i64 ((rd_T57 l0_4 (1 : Int)).f0), .bool ((rd_T57 l0_4 (1 : Int)).f1), .int .i64 ((rd_T57 l0_4 (1 : Int)).f2), .string ((rd_T57 l0_4 (1 : Int)).f3), .slice A85_4 ((rd_T57 l0_4 (1 : Int)).f4).length c85_4] BKg86.out [.int .i64 ((rd_T57 l0_4 (1 : Int)).f0), .bool ((rd_T57 l0_4 (1 : Int)).f1), .int .i64 ((rd_T57 l0_4 (1 : Int)).f2), .string ((rd_T57 l0_4 (1 : Int)).f3), .slice A85_4 ((rd_T57 l0_4 (1 : Int)).f4).length c85_4] (h := ?_); intro w124 hbk hg)
  refine Stop.go ?_
  replace HF0_4 := zfg HF0_4.out hg fun k_ hk_ => hk_.2
  replace HF49_4 := zfg HF49_4.out hg fun k_ hk_ => hk_.2
  replace HF85_4 := zfg HF85_4.out hg fun k_ hk_ => hk_.2
  replace BKg1 := zbg BKg1.out hg NEg1_g86
  replace BKg13 := zbg BKg13.out hg NEg13_g86
  replace HB := zhg HB.out hg (below_size HB.out) GEg86
  replace BKg86 := hbk
  clear hg hbk
  clear j1q j1r j1s j1t j1u j1v j1w j1x j1y j1z j1A j1B j1C j1D j1E j1F j1G j1H j1I j1J j1K j1L j1M j1N j1O j1P j1Q j1R j1S j1T j1U j1V j1W j1X j1Y j1Z
  obtain ⟨j21, j22, j23, j24, j25, j26, j27, j28, j29, j2a⟩ := MB.lay5 BKg1.out
  obtain ⟨j2b, j2c, j2d, j2e, j2f, j2g, j2h, j2i, j2j, j2k, j2l, j2m, j2n, j2o, j2p, j2q⟩ := MB.lay8 BKg13.out
  obtain ⟨j2r, j2s, j2t, j2u, j2v, j2w, j2x, j2y, j2z, j2A⟩ := MB.lay5 BKg86.out
  replace HH := zqe HH
  rcases HH with ⟨HH, hk162, hk163⟩ | ⟨HH, hk1192, hk1193⟩
  ·replace HH := zqe HH
   rcases HH with ⟨HH, hk165, hk166⟩ | ⟨HH, hk254, hk255⟩
   ·replace HH := zd HH
    obtain ⟨⟨t167, t168, t169, t170, t171, t172, t173, t174, t175⟩, At176, HH⟩ := HH
    dsimp only at HH
    go_wp2_with ((with_reducible refine gc 51 rfl ?_); refine zc 51 (some 38) Try.func51 #[.int .i64 t50, .slice A85_4 ((rd_T57 l0_4 (1 : Int)).f4).length c85_4] (h := ?_); (with_reducible refine (reply_entered.calls k (fun k_ => (((P_ k_ ∨ w.heap.size ≤ k_) ∧ k_ ≠ g1) ∧ k_ ≠ g13) ∧ k_ ≠ g86) t50 _ _ ((rd_T57 l0_4 (1 : Int)).f4) t167 t168 t169 t170 t171 t172 t173 t174 t175 _ (Kd.F_mono (ok := (fun k_ => (((P_ k_ ∨ w.heap.size ≤ k_) ∧ k_ ≠ g1) ∧ k_ ≠ g13) ∧ k_ ≠ g86)) HF85_4.out (fun k_ hk_ => hk_)) HL85_4.out At176.out).mono ?_); rintro e w177 ⟨v178, rfl, hn178, hb⟩; refine ⟨_, rfl, ?_⟩)
    refine Stop.go ?_
    have hba := Kd.N_base hn178
    have HN178 := znl (ok2 := (fun k_ => (((P_ k_ ∨ w.heap.size ≤ k_) ∧ k_ ≠ g1) ∧ k_ ≠ g13) ∧ k_ ≠ g86)) hn178 (below_size HB.out) (fun k_ hk_ => hk_.elim (fun h_ => h_) (fun h_ => ⟨⟨⟨.inr (Nat.le_trans (below_size HB.out) h_), Kd.freshB (g := g1) BKg1.out k_ h_⟩, Kd.freshB (g := g13) BKg13.out k_ h_⟩, Kd.freshB (g := g86) BKg86.out k_ h_⟩))
    replace BKg1 := zbb BKg1.out hb
    replace BKg13 := zbb BKg13.out hb
    replace BKg86 := zbb BKg86.out hb
    replace HB := zhb HB.out hb
    clear hn178 hba hb
    clear j21 j22 j23 j24 j25 j26 j27 j28 j29 j2a j2b j2c j2d j2e j2f j2g j2h j2i j2j j2k j2l j2m j2n j2o j2p j2q j2r j2s j2t j2u j2v j2w j2x j2y j2z j2A
    obtain ⟨j2T, j2U, j2V, j2W, j2X, j2Y, j2Z, j30, j31, j32⟩ := MB.lay5 BKg1.out
    obtain ⟨j33, j34, j35, j36, j37, j38, j39, j3a, j3b, j3c, j3d, j3e, j3f, j3g, j3h, j3i⟩ := MB.lay8 BKg13.out
    obtain ⟨j3j, j3k, j3l, j3m, j3n, j3o, j3p, j3q, j3r, j3s⟩ := MB.lay5 BKg86.out
    obtain ⟨A216, cp217, he_⟩ := Kd.N_slice HN178.out
    subst he_
    go_wp2_with ((with_reducible refine gs 27 2 rfl ?_); refine zs 27 2 #[.int .i64 t167, .int .i64 t168, .bool t169, .int .i64 t170, .string t171, .string t172, .string t173, (.slice A216 t174.length cp217)] BKg13.out [.int .i64 t167, .int .i64 t168, .bool t169, .int .i64 t170, .string t171, .string t172, .string t173, (.slice A216 t174.length cp217)] (h := ?_); intro w215 hbk hg)
    refine Stop.go ?_
    replace HN178 := zng HN178.out hg fun k_ hk_ => hk_.1.2
    replace BKg1 := zbg BKg1.out hg NEg1_g13
    replace BKg86 := zbg BKg86.out hg NEg86_g13
    replace HB := zhg HB.out hg (below_size HB.out) GEg13
    replace BKg13 := hbk
    clear hg hbk
    clear j2T j2U j2V j2W j2X j2Y j2Z j30 j31 j32 j33 j34 j35 j36 j37 j38 j39 j3a j3b j3c j3d j3e j3f j3g j3h j3i j3j j3k j3l j3m j3n j3o j3p j3q j3r j3s
    obtain ⟨j3w, j3x, j3y, j3z, j3A, j3B, j3C, j3D, j3E, j3F⟩ := MB.lay5 BKg1.out
    obtain ⟨j3G, j3H, j3I, j3J, j3K, j3L, j3M, j3N, j3O, j3P, j3Q, j3R, j3S, j3T, j3U, j3V⟩ := MB.lay8 BKg13.out
    obtain ⟨j3W, j3X, j3Y, j3Z, j40, j41, j42, j43, j44, j45⟩ := MB.lay5 BKg86.out
    have H := HH.out
    simp only [Option.some.injEq, Prod.mk.injEq] at H
    obtain ⟨rfl, rfl, rfl, rfl, rfl, rfl, rfl, rfl, rfl⟩ := H
    clear HH
    go_wp2
    refine bodyPost_ret (results_ct rfl _ _ g13 27 #[.int .i64 t167, .int .i64 t168, .bool t169, .int .i64 t170, .string t171, .string t172, .string t173, (.slice A216 t174.length cp217)] (0, 0) _ rfl BKg13.out Try.underlying27 rfl (by kernel_rfl)) rfl ?_
    exact ⟨_, by first | rfl | (simp; done) | (simp [*]; done), (Kd.N_mono (ok := (fun k_ => (((P_ k_ ∨ w.heap.size ≤ k_) ∧ k_ ≠ g1) ∧ k_ ≠ g13) ∧ k_ ≠ g86)) HN178.out (fun k_ hk_ => hk_.1.1.1)), HB.out⟩
   go_wp2_with ((with_reducible refine gd 8 rfl ?_); refine zb 8 27 #[.int .i64 0, .int .i64 0, .bool false, .int .i64 0, .string (⟨#[]⟩ : ByteArray), .string (⟨#[]⟩ : ByteArray), .string (⟨#[]⟩ : ByteArray), .slice none 0 0] (h := ?_); intro g256 hg w257 BKg256 hb)
   refine Stop.go ?_
   have GEg256 := zge hg (below_size HB.out)
   have NEg1_g256 := znq hg BKg1.out
   have NEg13_g256 := znq hg BKg13.out
   have NEg256_g13 := zsy NEg13_g256
   have NEg86_g256 := znq hg BKg86.out
   replace HF0_4 := zfe HF0_4.out hg hb
   replace HF49_4 := zfe HF49_4.out hg hb
   replace HF85_4 := zfe HF85_4.out hg hb
   replace BKg1 := zbb BKg1.out hb
   replace BKg13 := zbb BKg13.out hb
   replace BKg86 := zbb BKg86.out hb
   replace HB := zhb HB.out hb
   clear hg hb
   clear j21 j22 j23 j24 j25 j26 j27 j28 j29 j2a j2b j2c j2d j2e j2f j2g j2h j2i j2j j2k j2l j2m j2n j2o j2p j2q j2r j2s j2t j2u j2v j2w j2x j2y j2z j2A
   obtain ⟨j4a, j4b, j4c, j4d, j4e, j4f, j4g, j4h, j4i, j4j⟩ := MB.lay5 BKg1.out
   obtain ⟨j4k, j4l, j4m, j4n, j4o, j4p, j4q, j4r, j4s, j4t, j4u, j4v, j4w, j4x, j4y, j4z⟩ := MB.lay8 BKg13.out
   obtain ⟨j4A, j4B, j4C, j4D, j4E, j4F, j4G, j4H, j4I, j4J⟩ := MB.lay5 BKg86.out
   obtain ⟨j4K, j4L, j4M, j4N, j4O, j4P, j4Q, j4R, j4S, j4T, j4U, j4V, j4W, j4X, j4Y, j4Z⟩ := MB.lay8 BKg256.out
   go_wp2_with ((with_reducible refine gs 27 8 rfl ?_); refine zs 27 8 #[.int .i64 t50, .int .i64 0, .bool false, .int .i64 0, .string (⟨#[]⟩ : ByteArray), .string (⟨#[]⟩ : ByteArray), .string (⟨#[]⟩ : ByteArray), .slice none 0 0] BKg256.out [.int .i64 t50, .int .i64 0, .bool false, .int .i64 0, .string (⟨#[]⟩ : ByteArray), .string (⟨#[]⟩ : ByteArray), .string (⟨#[]⟩ : ByteArray), .slice none 0 0] (h := ?_); intro w310 hbk hg)
   refine Stop.go ?_
   replace HF0_4 := zfg HF0_4.out hg fun k_ hk_ => hk_.2
   replace HF49_4 := zfg HF49_4.out hg fun k_ hk_ => hk_.2
   replace HF85_4 := zfg HF85_4.out hg fun k_ hk_ => hk_.2
   replace BKg1 := zbg BKg1.out hg NEg1_g256
   replace BKg13 := zbg BKg13.out hg NEg13_g256
   replace BKg86 := zbg BKg86.out hg NEg86_g256
   replace HB := zhg HB.out hg (below_size HB.out) GEg256
   replace BKg256 := hbk
   clear hg hbk
   clear j4a j4b j4c j4d j4e j4f j4g j4h j4i j4j j4k j4l j4m j4n j4o j4p j4q j4r j4s j4t j4u j4v j4w j4x j4y j4z j4A j4B j4C j4D j4E j4F j4G j4H j4I j4J j4K j4L j4M j4N j4O j4P j4Q j4R j4S j4T j4U j4V j4W j4X j4Y j4Z
   obtain ⟨j51, j52, j53, j54, j55, j56, j57, j58, j59, j5a⟩ := MB.lay5 BKg1.out
   obtain ⟨j5b, j5c, j5d, j5e, j5f, j5g, j5h, j5i, j5j, j5k, j5l, j5m, j5n, j5o, j5p, j5q⟩ := MB.lay8 BKg13.out
   obtain ⟨j5r, j5s, j5t, j5u, j5v, j5w, j5x, j5y, j5z, j5A⟩ := MB.lay5 BKg86.out
   obtain ⟨j5B, j5C, j5D, j5E, j5F, j5G, j5H, j5I, j5J, j5K, j5L, j5M, j5N, j5O, j5P, j5Q⟩ := MB.lay8 BKg256.out
   go_wp2
   go_loopg [9] k (fun kq u9 w' => ∃ (x363 : Int) (x364 : Int), u9 = .int .i64 x363 ∧ Aside0 ((reply_read.l0 kq x363 x364 l0_4 t50) = some (r1, r2, r3, r4, r5, r6, r7, r8, r9)) ∧ Aside0 (kq ≤ k) ∧ Aside0 (Kd.F k57 w' (fun k_ => ((((P_ k_ ∨ w.heap.size ≤ k_) ∧ k_ ≠ g1) ∧ k_ ≠ g13) ∧ k_ ≠ g86) ∧ k_ ≠ g256) (some ad49) l0_4.length l0_4) ∧ Aside0 (Kd.F k57 w' (fun k_ => ((((P_ k_ ∨ w.heap.size ≤ k_) ∧ k_ ≠ g1) ∧ k_ ≠ g13) ∧ k_ ≠ g86) ∧ k_ ≠ g256) A85_4 ((rd_T57 l0_4 (1 : Int)).f4).length ((rd_T57 l0_4 (1 : Int)).f4)) ∧ Aside0 (w'.heap[g1]? = some (.cells #[.int .i64 a0_0, .bool a0_1, .int .i64 a0_2, .string a0_3, .slice (some ad49) l0_4.length c0_4] 57 (0, 0))) ∧ Aside0 (w'.heap[g13]? = some (.cells #[.int .i64 0, .int .i64 0, .bool false, .int .i64 0, .string (⟨#[]⟩ : ByteArray), .string (⟨#[]⟩ : ByteArray), .string (⟨#[]⟩ : ByteArray), .slice none 0 0] 27 (0, 0))) ∧ Aside0 (w'.heap[g86]? = some (.cells #[.int .i64 ((rd_T57 l0_4 (1 : Int)).f0), .bool ((rd_T57 l0_4 (1 : Int)).f1), .int .i64 ((rd_T57 l0_4 (1 : Int)).f2), .string ((rd_T57 l0_4 (1 : Int)).f3), .slice A85_4 ((rd_T57 l0_4 (1 : Int)).f4).length c85_4] 57 (0, 0))) ∧ Aside0 (w'.heap[g256]? = some (.cells #[.int .i64 t50, .int .i64 x364, .bool false, .int .i64 0, .string (⟨#[]⟩ : ByteArray), .string (⟨#[]⟩ : ByteArray), .string (⟨#[]⟩ : ByteArray), .slice none 0 0] 27 (0, 0))) ∧ Aside0 (Below w.heap.size w w'))
   case atStart => exact ⟨1, 0, (by first | rfl | (simp; done) | (simp [*]; done)), HH, ⟨Nat.le_refl _⟩, ⟨(Kd.F_mono (ok := (fun k_ => ((((P_ k_ ∨ w.heap.size ≤ k_) ∧ k_ ≠ g1) ∧ k_ ≠ g13) ∧ k_ ≠ g86) ∧ k_ ≠ g256)) HF0_4.out (fun k_ hk_ => hk_))⟩, ⟨(Kd.F_mono (ok := (fun k_ => ((((P_ k_ ∨ w.heap.size ≤ k_) ∧ k_ ≠ g1) ∧ k_ ≠ g13) ∧ k_ ≠ g86) ∧ k_ ≠ g256)) HF85_4.out (fun k_ hk_ => hk_))⟩, ⟨BKg1.out⟩, ⟨BKg13.out⟩, ⟨BKg86.out⟩, ⟨BKg256.out⟩, ⟨HB.out⟩⟩
   case round =>
    clear j51 j52 j53 j54 j55 j56 j57 j58 j59 j5a j5b j5c j5d j5e j5f j5g j5h j5i j5j j5k j5l j5m j5n j5o j5p j5q j5r j5s j5t j5u j5v j5w j5x j5y j5z j5A j5B j5C j5D j5E j5F j5G j5H j5I j5J j5K j5L j5M j5N j5O j5P j5Q
    clear hk42
    clear hk43
    clear hk45
    clear hk46
    clear hk47
    clear hk48
    clear hk81
    clear hk82
    clear hk83
    clear hk84
    clear hk162
    clear hk163
    clear hk254
    clear hk255
    clear HH
    clear HF0_4 HF49_4 HF85_4 BKg1 BKg13 BKg86 BKg256 HB
    obtain ⟨x363, x364, rfl, HA, HK0, HF0_4, HF85_4, BKg1, BKg13, BKg86, BKg256, HB⟩ := hrel
    obtain ⟨w366, rfl⟩ : ∃ wo_ : World, wo_ = wr := ⟨_, rfl⟩
    cases gk with
    | zero => exact absurd HA.out (by simp [reply_read.l0])
    | succ k365 =>
     have H := HA.out
     clear HA
     simp only [reply_read.l0] at H
     have HH := Aside0.mk H
     clear H
     obtain ⟨j5V, j5W, j5X, j5Y, j5Z, j60, j61, j62, j63, j64⟩ := MB.lay5 BKg1.out
     obtain ⟨j65, j66, j67, j68, j69, j6a, j6b, j6c, j6d, j6e, j6f, j6g, j6h, j6i, j6j, j6k⟩ := MB.lay8 BKg13.out
     obtain ⟨j6l, j6m, j6n, j6o, j6p, j6q, j6r, j6s, j6t, j6u⟩ := MB.lay5 BKg86.out
     obtain ⟨j6v, j6w, j6x, j6y, j6z, j6A, j6B, j6C, j6D, j6E, j6F, j6G, j6H, j6I, j6J, j6K⟩ := MB.lay8 BKg256.out
     replace HH := zqd HH
     rcases HH with ⟨HH, hk420⟩ | ⟨HH, hk481⟩
     ·replace HH := zd HH
      obtain ⟨t421, At422, HH⟩ := HH
      replace HH := zqe HH
      rcases HH with ⟨HH, hk424, hk425⟩ | ⟨HH, hk479, hk480⟩
      ·go_wp2
       go_quiet ((first | (go_at_call 22; first | exact Calls.quiet_of (MW.drawn (reply_tag.calls  x363 t421 _  At422.out)) | exact MW.quiet_far (MW.drawn (reply_tag.calls  x363 t421 _  At422.out)))))
       go_wp2_with ((with_reducible refine gs 3 53 rfl ?_); refine zs 3 53 #[.int .i64 t50, .int .i64 x363, .bool false, .int .i64 0, .string (⟨#[]⟩ : ByteArray), .string (⟨#[]⟩ : ByteArray), .string (⟨#[]⟩ : ByteArray), .slice none 0 0] (cs := #[.int .i64 t50, .int .i64 x364, .bool false, .int .i64 0, .string (⟨#[]⟩ : ByteArray), .string (⟨#[]⟩ : ByteArray), .string (⟨#[]⟩ : ByteArray), .slice none 0 0]) (ty := 27) (by (with_reducible repeat (first | refine blk_drewN ?_ _ | refine blk_drew ?_ | refine blk_alloc ?_ _)); exact BKg256.out) [.int .i64 x363] (h := ?_); intro w426 hbk hg)
       refine Stop.go ?_
       replace HF0_4 := zfg (ok := (fun k_ => ((((P_ k_ ∨ w.heap.size ≤ k_) ∧ k_ ≠ g1) ∧ k_ ≠ g13) ∧ k_ ≠ g86) ∧ k_ ≠ g256)) (by (with_reducible repeat (first | apply Kd.F_alloc | apply Kd.F_drewN | apply Kd.F_drew)); exact HF0_4.out) hg fun k_ hk_ => hk_.2
       replace HF85_4 := zfg (ok := (fun k_ => ((((P_ k_ ∨ w.heap.size ≤ k_) ∧ k_ ≠ g1) ∧ k_ ≠ g13) ∧ k_ ≠ g86) ∧ k_ ≠ g256)) (by (with_reducible repeat (first | apply Kd.F_alloc | apply Kd.F_drewN | apply Kd.F_drew)); exact HF85_4.out) hg fun k_ hk_ => hk_.2
       replace BKg1 := zbg (o2 := .cells #[.int .i64 a0_0, .bool a0_1, .int .i64 a0_2, .string a0_3, .slice (some ad49) l0_4.length c0_4] 57 (0, 0)) (by (with_reducible repeat (first | refine blk_drewN ?_ _ | refine blk_drew ?_ | refine blk_alloc ?_ _)); exact BKg1.out) hg NEg1_g256
       replace BKg13 := zbg (o2 := .cells #[.int .i64 0, .int .i64 0, .bool false, .int .i64 0, .string (⟨#[]⟩ : ByteArray), .string (⟨#[]⟩ : ByteArray), .string (⟨#[]⟩ : ByteArray), .slice none 0 0] 27 (0, 0)) (by (with_reducible repeat (first | refine blk_drewN ?_ _ | refine blk_drew ?_ | refine blk_alloc ?_ _)); exact BKg13.out) hg NEg13_g256
       replace BKg86 := zbg (o2 := .cells #[.int .i64 ((rd_T57 l0_4 (1 : Int)).f0), .bool ((rd_T57 l0_4 (1 : Int)).f1), .int .i64 ((rd_T57 l0_4 (1 : Int)).f2), .string ((rd_T57 l0_4 (1 : Int)).f3), .slice A85_4 ((rd_T57 l0_4 (1 : Int)).f4).length c85_4] 57 (0, 0)) (by (with_reducible repeat (first | refine blk_drewN ?_ _ | refine blk_drew ?_ | refine blk_alloc ?_ _)); exact BKg86.out) hg NEg86_g256
       replace HB := zhg (by repeat (first | (with_reducible first | exact HB.out | apply below_alloc | apply pw_below_drewN | apply below_drew1) | exact HB.out)) hg (below_size (by repeat (first | (with_reducible first | exact HB.out | apply below_alloc | apply pw_below_drewN | apply below_drew1) | exact HB.out))) GEg256
       replace BKg256 := hbk
       clear hg hbk
       clear j5V j5W j5X j5Y j5Z j60 j61 j62 j63 j64 j65 j66 j67 j68 j69 j6a j6b j6c j6d j6e j6f j6g j6h j6i j6j j6k j6l j6m j6n j6o j6p j6q j6r j6s j6t j6u j6v j6w j6x j6y j6z j6A j6B j6C j6D j6E j6F j6G j6H j6I j6J j6K
       obtain ⟨j6T, j6U, j6V, j6W, j6X, j6Y, j6Z, j70, j71, j72⟩ := MB.lay5 BKg1.out
       obtain ⟨j73, j74, j75, j76, j77, j78, j79, j7a, j7b, j7c, j7d, j7e, j7f, j7g, j7h, j7i⟩ := MB.lay8 BKg13.out
       obtain ⟨j7j, j7k, j7l, j7m, j7n, j7o, j7p, j7q, j7r, j7s⟩ := MB.lay5 BKg86.out
       obtain ⟨j7t, j7u, j7v, j7w, j7x, j7y, j7z, j7A, j7B, j7C, j7D, j7E, j7F, j7G, j7H, j7I⟩ := MB.lay8 BKg256.out
       go_wp2
       go_roundg k365
       case measure => have := HK0.out; omega
       case rel => exact ⟨wrap64 (x363 + 1), x363, (by first | rfl | (simp; done) | (simp [*]; done)), HH, ⟨by have := HK0.out; omega⟩, ⟨(Kd.F_mono (ok := (fun k_ => ((((P_ k_ ∨ w.heap.size ≤ k_) ∧ k_ ≠ g1) ∧ k_ ≠ g13) ∧ k_ ≠ g86) ∧ k_ ≠ g256)) HF0_4.out (fun k_ hk_ => hk_))⟩, ⟨(Kd.F_mono (ok := (fun k_ => ((((P_ k_ ∨ w.heap.size ≤ k_) ∧ k_ ≠ g1) ∧ k_ ≠ g13) ∧ k_ ≠ g86) ∧ k_ ≠ g256)) HF85_4.out (fun k_ hk_ => hk_))⟩, ⟨BKg1.out⟩, ⟨BKg13.out⟩, ⟨BKg86.out⟩, ⟨BKg256.out⟩, ⟨HB.out⟩⟩
      go_wp2
      go_quiet ((first | (go_at_call 22; first | exact Calls.quiet_of (MW.drawn (reply_tag.calls  x363 t421 _  At422.out)) | exact MW.quiet_far (MW.drawn (reply_tag.calls  x363 t421 _  At422.out)))))
      go_wp2
      go_roundg k365
      case measure => have := HK0.out; omega
      case rel => exact ⟨wrap64 (x363 + 1), x364, (by first | rfl | (simp; done) | (simp [*]; done)), HH, ⟨by have := HK0.out; omega⟩, ⟨(Kd.F_mono (ok := (fun k_ => ((((P_ k_ ∨ w.heap.size ≤ k_) ∧ k_ ≠ g1) ∧ k_ ≠ g13) ∧ k_ ≠ g86) ∧ k_ ≠ g256)) (by (with_reducible repeat (first | apply Kd.F_alloc | apply Kd.F_drewN | apply Kd.F_drew)); exact HF0_4.out) (fun k_ hk_ => hk_))⟩, ⟨(Kd.F_mono (ok := (fun k_ => ((((P_ k_ ∨ w.heap.size ≤ k_) ∧ k_ ≠ g1) ∧ k_ ≠ g13) ∧ k_ ≠ g86) ∧ k_ ≠ g256)) (by (with_reducible repeat (first | apply Kd.F_alloc | apply Kd.F_drewN | apply Kd.F_drew)); exact HF85_4.out) (fun k_ hk_ => hk_))⟩, ⟨(by (with_reducible repeat (first | refine blk_drewN ?_ _ | refine blk_drew ?_ | refine blk_alloc ?_ _)); exact BKg1.out)⟩, ⟨(by (with_reducible repeat (first | refine blk_drewN ?_ _ | refine blk_drew ?_ | refine blk_alloc ?_ _)); exact BKg13.out)⟩, ⟨(by (with_reducible repeat (first | refine blk_drewN ?_ _ | refine blk_drew ?_ | refine blk_alloc ?_ _)); exact BKg86.out)⟩, ⟨(by (with_reducible repeat (first | refine blk_drewN ?_ _ | refine blk_drew ?_ | refine blk_alloc ?_ _)); exact BKg256.out)⟩, ⟨(by repeat (first | (with_reducible first | exact HB.out | apply below_alloc | apply pw_below_drewN | apply below_drew1) | exact HB.out))⟩⟩
     replace HH := zqN 3 HH
     rcases HH with ⟨HH, hk483, hk484, hk485⟩ | ⟨HH, hk539, hk540, hk541⟩
     ·go_wp2_with ((with_reducible refine gs 27 2 rfl ?_); refine zs 27 2 #[.int .i64 0, .int .i64 0, .bool false, .int .i64 0, .string (⟨#[]⟩ : ByteArray), .string (⟨#[]⟩ : ByteArray), .string (⟨#[]⟩ : ByteArray), .slice none 0 0] BKg13.out [.int .i64 0, .int .i64 0, .bool false, .int .i64 0, .string (⟨#[]⟩ : ByteArray), .string (⟨#[]⟩ : ByteArray), .string (⟨#[]⟩ : ByteArray), .slice none 0 0] (h := ?_); intro w486 hbk hg)
      refine Stop.go ?_
      replace BKg1 := zbg BKg1.out hg NEg1_g13
      replace BKg86 := zbg BKg86.out hg NEg86_g13
      replace BKg256 := zbg BKg256.out hg NEg256_g13
      replace HB := zhg HB.out hg (below_size HB.out) GEg13
      replace BKg13 := hbk
      clear hg hbk
      clear j5V j5W j5X j5Y j5Z j60 j61 j62 j63 j64 j65 j66 j67 j68 j69 j6a j6b j6c j6d j6e j6f j6g j6h j6i j6j j6k j6l j6m j6n j6o j6p j6q j6r j6s j6t j6u j6v j6w j6x j6y j6z j6A j6B j6C j6D j6E j6F j6G j6H j6I j6J j6K
      obtain ⟨j7R, j7S, j7T, j7U, j7V, j7W, j7X, j7Y, j7Z, j80⟩ := MB.lay5 BKg1.out
      obtain ⟨j81, j82, j83, j84, j85, j86, j87, j88, j89, j8a, j8b, j8c, j8d, j8e, j8f, j8g⟩ := MB.lay8 BKg13.out
      obtain ⟨j8h, j8i, j8j, j8k, j8l, j8m, j8n, j8o, j8p, j8q⟩ := MB.lay5 BKg86.out
      obtain ⟨j8r, j8s, j8t, j8u, j8v, j8w, j8x, j8y, j8z, j8A, j8B, j8C, j8D, j8E, j8F, j8G⟩ := MB.lay8 BKg256.out
      have H := HH.out
      simp only [Option.some.injEq, Prod.mk.injEq] at H
      obtain ⟨rfl, rfl, rfl, rfl, rfl, rfl, rfl, rfl, rfl⟩ := H
      clear HH
      go_wp2
      refine bodyPost_ret (results_ct rfl _ _ g13 27 #[.int .i64 0, .int .i64 0, .bool false, .int .i64 0, .string (⟨#[]⟩ : ByteArray), .string (⟨#[]⟩ : ByteArray), .string (⟨#[]⟩ : ByteArray), .slice none 0 0] (0, 0) _ rfl BKg13.out Try.underlying27 rfl (by kernel_rfl)) rfl ?_
      exact ⟨_, by first | rfl | (simp; done) | (simp [*]; done), (Kd.N_nil _ _ _ _ _), HB.out⟩
     replace HH := zqK 4 HH
     rcases HH with ⟨HH, hk543, hk544⟩ | ⟨HH, hk598, hk599⟩
     ·go_wp2_with ((with_reducible refine gs 27 2 rfl ?_); refine zs 27 2 #[.int .i64 0, .int .i64 0, .bool false, .int .i64 0, .string (⟨#[]⟩ : ByteArray), .string (⟨#[]⟩ : ByteArray), .string (⟨#[]⟩ : ByteArray), .slice none 0 0] BKg13.out [.int .i64 0, .int .i64 0, .bool false, .int .i64 0, .string (⟨#[]⟩ : ByteArray), .string (⟨#[]⟩ : ByteArray), .string (⟨#[]⟩ : ByteArray), .slice none 0 0] (h := ?_); intro w545 hbk hg)
      refine Stop.go ?_
      replace BKg1 := zbg BKg1.out hg NEg1_g13
      replace BKg86 := zbg BKg86.out hg NEg86_g13
      replace BKg256 := zbg BKg256.out hg NEg256_g13
      replace HB := zhg HB.out hg (below_size HB.out) GEg13
      replace BKg13 := hbk
      clear hg hbk
      clear j5V j5W j5X j5Y j5Z j60 j61 j62 j63 j64 j65 j66 j67 j68 j69 j6a j6b j6c j6d j6e j6f j6g j6h j6i j6j j6k j6l j6m j6n j6o j6p j6q j6r j6s j6t j6u j6v j6w j6x j6y j6z j6A j6B j6C j6D j6E j6F j6G j6H j6I j6J j6K
      obtain ⟨j8O, j8P, j8Q, j8R, j8S, j8T, j8U, j8V, j8W, j8X⟩ := MB.lay5 BKg1.out
      obtain ⟨j8Y, j8Z, j90, j91, j92, j93, j94, j95, j96, j97, j98, j99, j9a, j9b, j9c, j9d⟩ := MB.lay8 BKg13.out
      obtain ⟨j9e, j9f, j9g, j9h, j9i, j9j, j9k, j9l, j9m, j9n⟩ := MB.lay5 BKg86.out
      obtain ⟨j9o, j9p, j9q, j9r, j9s, j9t, j9u, j9v, j9w, j9x, j9y, j9z, j9A, j9B, j9C, j9D⟩ := MB.lay8 BKg256.out
      have H := HH.out
      simp only [Option.some.injEq, Prod.mk.injEq] at H
      obtain ⟨rfl, rfl, rfl, rfl, rfl, rfl, rfl, rfl, rfl⟩ := H
      clear HH
      go_wp2
      refine bodyPost_ret (results_ct rfl _ _ g13 27 #[.int .i64 0, .int .i64 0, .bool false, .int .i64 0, .string (⟨#[]⟩ : ByteArray), .string (⟨#[]⟩ : ByteArray), .string (⟨#[]⟩ : ByteArray), .slice none 0 0] (0, 0) _ rfl BKg13.out Try.underlying27 rfl (by kernel_rfl)) rfl ?_
      exact ⟨_, by first | rfl | (simp; done) | (simp [*]; done), (Kd.N_nil _ _ _ _ _), HB.out⟩
     replace HH := zqlo 3 HH
     obtain ⟨HH, hk602, hk603⟩ := HH
     obtain ⟨i0600, hi0600, _, hsz600, _⟩ := info_parts info57
     have q0600 : 0 ≤ (1 : Int) := (by decide)
     have ql600 : (1 : Int) ≤ (3 : Int) := (by first | exact Int.le_refl _ | exact of_decide_eq_true (by first | (with_reducible assumption) | assumption) | (simp; done))
     have qh600 : (3 : Int) ≤ (((rd_T57 l0_4 (1 : Int)).f4).length : Int) := (by first | exact Int.le_refl _ | exact of_decide_eq_true (by first | (with_reducible assumption) | assumption) | (simp; done))
     have hcut600 := cut_mid (P := Try.prog) 55 57 .i64 .i64 Try.underlying55 hi0600 5 hsz600 A85_4 ((rd_T57 l0_4 (1 : Int)).f4).length c85_4 1 3 q0600 ql600 qh600 HL85_4.out
     have hr600 : Kd.F k57 w366 (fun k_ => ((((P_ k_ ∨ w.heap.size ≤ k_) ∧ k_ ≠ g1) ∧ k_ ≠ g13) ∧ k_ ≠ g86) ∧ k_ ≠ g256) (if c85_4 = 1 then A85_4 else (A85_4 : Option Addr).map (·.add (1 * 5))) (List.drop 1 (List.take 3 ((rd_T57 l0_4 (1 : Int)).f4))).length (List.drop 1 (List.take 3 ((rd_T57 l0_4 (1 : Int)).f4))) := Kd.F_mid (lo := 1) (hi := 3) (c := c85_4) HF85_4.out (by omega) (by omega) HL85_4.out
     have hy600 : (List.drop 1 (List.take 3 ((rd_T57 l0_4 (1 : Int)).f4))).length = 3 - 1 := (by rw [List.length_drop, List.length_take]; omega)
     have hl600 : (List.drop 1 (List.take 3 ((rd_T57 l0_4 (1 : Int)).f4))).length ≤ c85_4 - 1 := (by have := HL85_4.out; rw [List.length_drop, List.length_take]; omega)
     try simp only [show ((1 : Int)).toNat = 1 from rfl] at hcut600
     try simp only [show ((3 : Int)).toNat = 3 from rfl] at hcut600
     rw [← hy600] at hcut600
     generalize (if c85_4 = 1 then A85_4 else (A85_4 : Option Addr).map (·.add (1 * 5))) = A600 at hcut600 hr600
     generalize c85_4 - 1 = cp600 at hcut600 hl600
     clear hy600 q0600 ql600 qh600
     have HF600 := Aside0.mk hr600
     have HL600 := Aside0.mk hl600
     clear hr600 hl600 hi0600 hsz600
     obtain ⟨y604, hy604⟩ : ∃ y_ : List (S57), y_ = List.drop 1 (List.take 3 ((rd_T57 l0_4 (1 : Int)).f4)) := ⟨_, rfl⟩
     rw [← hy604] at hcut600 HL600 HF600
     have H : ((reply_texts.f k365 y604).bind fun t605 => (if t605 = true then (if 0 < (((rd_T57 l0_4 (1 : Int)).f4).length : Int) then ((prims_AsInt.f k365 ((rd_T57 ((rd_T57 l0_4 (1 : Int)).f4) (0 : Int)).f0) ((rd_T57 ((rd_T57 l0_4 (1 : Int)).f4) (0 : Int)).f1) ((rd_T57 ((rd_T57 l0_4 (1 : Int)).f4) (0 : Int)).f2) ((rd_T57 ((rd_T57 l0_4 (1 : Int)).f4) (0 : Int)).f3) ((rd_T57 ((rd_T57 l0_4 (1 : Int)).f4) (0 : Int)).f4)).bind fun bt667 => (if 1 < (((rd_T57 l0_4 (1 : Int)).f4).length : Int) then (if 2 < (((rd_T57 l0_4 (1 : Int)).f4).length : Int) then (if (((rd_T57 l0_4 (1 : Int)).f4).length : Int) = 4 then (if 3 < (((rd_T57 l0_4 (1 : Int)).f4).length : Int) then (some (t50, x364, false, bt667.1, (rd_T57 ((rd_T57 l0_4 (1 : Int)).f4) (1 : Int)).f3, (rd_T57 ((rd_T57 l0_4 (1 : Int)).f4) (2 : Int)).f3, (rd_T57 ((rd_T57 l0_4 (1 : Int)).f4) (3 : Int)).f3, ([] : List (S46)), (bt667.2 == 0))) else (none)) else (some (t50, x364, false, bt667.1, (rd_T57 ((rd_T57 l0_4 (1 : Int)).f4) (1 : Int)).f3, (rd_T57 ((rd_T57 l0_4 (1 : Int)).f4) (2 : Int)).f3, (⟨#[]⟩ : ByteArray), ([] : List (S46)), (bt667.2 == 0)))) else (none)) else (none))) else (none)) else (some (0, 0, false, 0, (⟨#[]⟩ : ByteArray), (⟨#[]⟩ : ByteArray), (⟨#[]⟩ : ByteArray), ([] : List (S46)), false)))) = some (r1, r2, r3, r4, r5, r6, r7, r8, r9) := by rw [hy604]; exact HH.out
     replace HH := Aside0.mk H
     clear H
     clear hy604
     replace HH := zd HH
     obtain ⟨t605, At606, HH⟩ := HH
     go_wp2_with ((with_reducible refine gc 52 rfl ?_); refine zc 52 (some 65) Try.func52 #[.slice A600 y604.length cp600] (h := ?_); (with_reducible refine (reply_texts.calls k365 (fun k_ => ((((P_ k_ ∨ w.heap.size ≤ k_) ∧ k_ ≠ g1) ∧ k_ ≠ g13) ∧ k_ ≠ g86) ∧ k_ ≠ g256) _ _ y604 t605 _ (Kd.F_mono (ok := (fun k_ => ((((P_ k_ ∨ w.heap.size ≤ k_) ∧ k_ ≠ g1) ∧ k_ ≠ g13) ∧ k_ ≠ g86) ∧ k_ ≠ g256)) HF600.out (fun k_ hk_ => hk_)) HL600.out At606.out).mono ?_); rintro e w607 ⟨rfl, hb⟩; refine ⟨_, rfl, ?_⟩)
     refine Stop.go ?_
     replace HF85_4 := zfb HF85_4.out hb
     replace BKg1 := zbb BKg1.out hb
     replace BKg13 := zbb BKg13.out hb
     replace BKg86 := zbb BKg86.out hb
     replace BKg256 := zbb BKg256.out hb
     replace HB := zhb HB.out hb
     clear hb
     clear j5V j5W j5X j5Y j5Z j60 j61 j62 j63 j64 j65 j66 j67 j68 j69 j6a j6b j6c j6d j6e j6f j6g j6h j6i j6j j6k j6l j6m j6n j6o j6p j6q j6r j6s j6t j6u j6v j6w j6x j6y j6z j6A j6B j6C j6D j6E j6F j6G j6H j6I j6J j6K hcut600
     obtain ⟨j9O, j9P, j9Q, j9R, j9S, j9T, j9U, j9V, j9W, j9X⟩ := MB.lay5 BKg1.out
     obtain ⟨j9Y, j9Z, ja0, ja1, ja2, ja3, ja4, ja5, ja6, ja7, ja8, ja9, jaa, jab, jac, jad⟩ := MB.lay8 BKg13.out
     obtain ⟨jae, jaf, jag, jah, jai, jaj, jak, jal, jam, jan⟩ := MB.lay5 BKg86.out
     obtain ⟨jao, jap, jaq, jar, jas, jat, jau, jav, jaw, jax, jay, jaz, jaA, jaB, jaC, jaD⟩ := MB.lay8 BKg256.out
     by_cases c660 : t605 = true
     ·replace HH := MW.hpos HH c660
      subst c660
      replace HH := zqno 0 HH
      obtain ⟨HH, hk662, hk663, hk664, hk665⟩ := HH
      have p666 : 0 ≤ (0 : Int) := by decide
      have q666 : (0 : Int) < (((rd_T57 l0_4 (1 : Int)).f4).length : Int) := of_decide_eq_true (by first | (with_reducible assumption) | assumption)
      obtain ⟨ad666, A666_4, c666_4, e666, hx666_0, hx666_1, hx666_2, hx666_3, hx666_4, hl666_4, hi666_4⟩ := atF_T57 HF85_4.out (0 : Int) p666 q666
      cases e666
      (try simp only [show ((0 : Int)).toNat = 0 from rfl, show 0 * 5 = 0 from rfl] at hx666_0)
      (try rw [Addr.add_zero'] at hx666_0)
      (try simp only [show ((0 : Int)).toNat = 0 from rfl, show 0 * 5 = 0 from rfl] at hx666_1)
      (try rw [Addr.add_zero'] at hx666_1)
      (try simp only [show ((0 : Int)).toNat = 0 from rfl, show 0 * 5 = 0 from rfl] at hx666_2)
      (try rw [Addr.add_zero'] at hx666_2)
      (try simp only [show ((0 : Int)).toNat = 0 from rfl, show 0 * 5 = 0 from rfl] at hx666_3)
      (try rw [Addr.add_zero'] at hx666_3)
      (try simp only [show ((0 : Int)).toNat = 0 from rfl, show 0 * 5 = 0 from rfl] at hx666_4)
      (try rw [Addr.add_zero'] at hx666_4)
      have HF666_4 := Aside0.mk hi666_4
      have HL666_4 := Aside0.mk hl666_4
      clear hi666_4 hl666_4
      replace p666 := eq_true p666
      replace q666 := eq_true q666
      replace HH := zd HH
      obtain ⟨⟨t667, t668⟩, At669, HH⟩ := HH
      dsimp only at HH
      go_wp2_with ((with_reducible refine gc 50 rfl ?_); refine zc 50 (some 73) Try.func50 #[.agg #[.int .i64 ((rd_T57 ((rd_T57 l0_4 (1 : Int)).f4) (0 : Int)).f0), .bool ((rd_T57 ((rd_T57 l0_4 (1 : Int)).f4) (0 : Int)).f1), .int .i64 ((rd_T57 ((rd_T57 l0_4 (1 : Int)).f4) (0 : Int)).f2), .string ((rd_T57 ((rd_T57 l0_4 (1 : Int)).f4) (0 : Int)).f3), .slice A666_4 ((rd_T57 ((rd_T57 l0_4 (1 : Int)).f4) (0 : Int)).f4).length c666_4]] (h := ?_); (with_reducible refine (prims_AsInt.calls k365 (fun k_ => ((((P_ k_ ∨ w.heap.size ≤ k_) ∧ k_ ≠ g1) ∧ k_ ≠ g13) ∧ k_ ≠ g86) ∧ k_ ≠ g256) ((rd_T57 ((rd_T57 l0_4 (1 : Int)).f4) (0 : Int)).f0) ((rd_T57 ((rd_T57 l0_4 (1 : Int)).f4) (0 : Int)).f1) ((rd_T57 ((rd_T57 l0_4 (1 : Int)).f4) (0 : Int)).f2) ((rd_T57 ((rd_T57 l0_4 (1 : Int)).f4) (0 : Int)).f3) _ _ ((rd_T57 ((rd_T57 l0_4 (1 : Int)).f4) (0 : Int)).f4) t667 t668 _ (Kd.F_mono (ok := (fun k_ => ((((P_ k_ ∨ w.heap.size ≤ k_) ∧ k_ ≠ g1) ∧ k_ ≠ g13) ∧ k_ ≠ g86) ∧ k_ ≠ g256)) HF666_4.out (fun k_ hk_ => hk_)) HL666_4.out At669.out).mono ?_); rintro e w670 ⟨rfl, hb⟩; refine ⟨_, rfl, ?_⟩)
      refine Stop.go ?_
      replace HF85_4 := zfb HF85_4.out hb
      replace BKg1 := zbb BKg1.out hb
      replace BKg13 := zbb BKg13.out hb
      replace BKg86 := zbb BKg86.out hb
      replace BKg256 := zbb BKg256.out hb
      replace HB := zhb HB.out hb
      clear hb
      clear j9O j9P j9Q j9R j9S j9T j9U j9V j9W j9X j9Y j9Z ja0 ja1 ja2 ja3 ja4 ja5 ja6 ja7 ja8 ja9 jaa jab jac jad jae jaf jag jah jai jaj jak jal jam jan jao jap jaq jar jas jat jau jav jaw jax jay jaz jaA jaB jaC jaD hx666_0 hx666_1 hx666_2 hx666_3 hx666_4 p666 q666
      obtain ⟨jaP, jaQ, jaR, jaS, jaT, jaU, jaV, jaW, jaX, jaY⟩ := MB.lay5 BKg1.out
      obtain ⟨jaZ, jb0, jb1, jb2, jb3, jb4, jb5, jb6, jb7, jb8, jb9, jba, jbb, jbc, jbd, jbe⟩ := MB.lay8 BKg13.out
      obtain ⟨jbf, jbg, jbh, jbi, jbj, jbk, jbl, jbm, jbn, jbo⟩ := MB.lay5 BKg86.out
      obtain ⟨jbp, jbq, jbr, jbs, jbt, jbu, jbv, jbw, jbx, jby, jbz, jbA, jbB, jbC, jbD, jbE⟩ := MB.lay8 BKg256.out
      go_wp2
      have hwr_ : ∀ n_ : Int, IntKind.i64.wrap n_ = wrap64 n_ := fun n_ => IntWalk.i64_left n_
      refine wp_region_any (by kernel_rfl) ?_
      change wpAny _ _ _ _ 15 #[false, false, false, false, false, false, false, false, false, false, false, false, false, false, false] _ w670.drew
      obtain ⟨w723, hw_⟩ : ∃ w_ : World, w_ = w670.drew := ⟨_, rfl⟩
      rw [← hw_]
      have hb : Below w670.heap.size w670 w723 := by rw [hw_]; exact below_drew1 (Below.refl _ _)
      clear hw_
      replace HF85_4 := zfb HF85_4.out hb
      replace BKg1 := zbb BKg1.out hb
      replace BKg13 := zbb BKg13.out hb
      replace BKg86 := zbb BKg86.out hb
      replace BKg256 := zbb BKg256.out hb
      replace HB := zhb HB.out hb
      clear hb
      clear jaP jaQ jaR jaS jaT jaU jaV jaW jaX jaY jaZ jb0 jb1 jb2 jb3 jb4 jb5 jb6 jb7 jb8 jb9 jba jbb jbc jbd jbe jbf jbg jbh jbi jbj jbk jbl jbm jbn jbo jbp jbq jbr jbs jbt jbu jbv jbw jbx jby jbz jbA jbB jbC jbD jbE
      obtain ⟨jbG, jbH, jbI, jbJ, jbK, jbL, jbM, jbN, jbO, jbP⟩ := MB.lay5 BKg1.out
      obtain ⟨jbQ, jbR, jbS, jbT, jbU, jbV, jbW, jbX, jbY, jbZ, jc0, jc1, jc2, jc3, jc4, jc5⟩ := MB.lay8 BKg13.out
      obtain ⟨jc6, jc7, jc8, jc9, jca, jcb, jcc, jcd, jce, jcf⟩ := MB.lay5 BKg86.out
      obtain ⟨jcg, jch, jci, jcj, jck, jcl, jcm, jcn, jco, jcp, jcq, jcr, jcs, jct, jcu, jcv⟩ := MB.lay8 BKg256.out
      replace HH := zqno 1 HH
      obtain ⟨HH, hk777, hk778, hk779, hk780⟩ := HH
      have p781 : 0 ≤ (1 : Int) := by decide
      have q781 : (1 : Int) < (((rd_T57 l0_4 (1 : Int)).f4).length : Int) := of_decide_eq_true (by first | (with_reducible assumption) | assumption)
      obtain ⟨ad781, A781_4, c781_4, e781, hx781_0, hx781_1, hx781_2, hx781_3, hx781_4, hl781_4, hi781_4⟩ := atF_T57 HF85_4.out (1 : Int) p781 q781
      cases e781
      (try simp only [show ((1 : Int)).toNat = 1 from rfl, show 1 * 5 = 5 from rfl] at hx781_0)
      (try simp only [Nat.reduceMul, Nat.reduceEqDiff, Go.Addr.add, ↓reduceIte] at hx781_0)
      (try simp only [show ((1 : Int)).toNat = 1 from rfl, show 1 * 5 = 5 from rfl] at hx781_1)
      (try simp only [Nat.reduceMul, Nat.reduceEqDiff, Go.Addr.add, ↓reduceIte] at hx781_1)
      (try simp only [show ((1 : Int)).toNat = 1 from rfl, show 1 * 5 = 5 from rfl] at hx781_2)
      (try simp only [Nat.reduceMul, Nat.reduceEqDiff, Go.Addr.add, ↓reduceIte] at hx781_2)
      (try simp only [show ((1 : Int)).toNat = 1 from rfl, show 1 * 5 = 5 from rfl] at hx781_3)
      (try simp only [Nat.reduceMul, Nat.reduceEqDiff, Go.Addr.add, ↓reduceIte] at hx781_3)
      (try simp only [show ((1 : Int)).toNat = 1 from rfl, show 1 * 5 = 5 from rfl] at hx781_4)
      (try simp only [Nat.reduceMul, Nat.reduceEqDiff, Go.Addr.add, ↓reduceIte] at hx781_4)
      clear hi781_4 hl781_4
      replace p781 := eq_true p781
      replace q781 := eq_true q781
      replace HH := zqno 2 HH
      obtain ⟨HH, hk783, hk784, hk785, hk786⟩ := HH
      have p787 : 0 ≤ (2 : Int) := by decide
      have q787 : (2 : Int) < (((rd_T57 l0_4 (1 : Int)).f4).length : Int) := of_decide_eq_true (by first | (with_reducible assumption) | assumption)
      obtain ⟨ad787, A787_4, c787_4, e787, hx787_0, hx787_1, hx787_2, hx787_3, hx787_4, hl787_4, hi787_4⟩ := atF_T57 HF85_4.out (2 : Int) p787 q787
      cases e787
      (try simp only [show ((2 : Int)).toNat = 2 from rfl, show 2 * 5 = 10 from rfl] at hx787_0)
      (try simp only [Nat.reduceMul, Nat.reduceEqDiff, Go.Addr.add, ↓reduceIte] at hx787_0)
      (try simp only [show ((2 : Int)).toNat = 2 from rfl, show 2 * 5 = 10 from rfl] at hx787_1)
      (try simp only [Nat.reduceMul, Nat.reduceEqDiff, Go.Addr.add, ↓reduceIte] at hx787_1)
      (try simp only [show ((2 : Int)).toNat = 2 from rfl, show 2 * 5 = 10 from rfl] at hx787_2)
      (try simp only [Nat.reduceMul, Nat.reduceEqDiff, Go.Addr.add, ↓reduceIte] at hx787_2)
      (try simp only [show ((2 : Int)).toNat = 2 from rfl, show 2 * 5 = 10 from rfl] at hx787_3)
      (try simp only [Nat.reduceMul, Nat.reduceEqDiff, Go.Addr.add, ↓reduceIte] at hx787_3)
      (try simp only [show ((2 : Int)).toNat = 2 from rfl, show 2 * 5 = 10 from rfl] at hx787_4)
      (try simp only [Nat.reduceMul, Nat.reduceEqDiff, Go.Addr.add, ↓reduceIte] at hx787_4)
      clear hi787_4 hl787_4
      replace p787 := eq_true p787
      replace q787 := eq_true q787
      refine MW.last_in (ds := [14]) (MW.Cells.cons hx781_3 (MW.Cells.cons hx787_3 MW.Cells.nil)) ?_
      refine MW.last_pure (i := 0) (v := .int .i64 t667) (listed' := #[true, false, false, false, false, false, false, false, false, false, false, false, false, false, false]) (a' := ⟨[_, _, _, _, _, _, _, _, _, _, _, _, _, _, _, _, _, _, _, _, _, _, _, _, _, _, _, _, _, _, _, _, _, _, _, _, _, _, _, _, _, _, _, _, _, _, _, _, _, _, _, _, _, _, _, _, _, _, _, _, _, _, _, _, _, _, _, _, _, _, _, _, _, _, _, _, _, _, _, _, _, _, _, _, _, _, _, _, _, _, _, _, _, _, _, _, _, _, _].toArray, []⟩) rfl (by kernel_rfl) (by kernel_rfl) (by kernel_rfl) (fun _ _ _ h_ => h_) (.inl ⟨(by kernel_rfl), fun _ => (by first | rfl | (go_simp; done) | (go_simp; rfl) | (go_simp; simp only [MW.isEmpty_beq, bne, Bool.not_not]; done))⟩) (by kernel_rfl) rfl ?_
      refine MW.last_pure (i := 1) (v := .slice (some ad666) ((rd_T57 l0_4 (1 : Int)).f4).length c85_4) (listed' := #[true, true, false, false, false, false, false, false, false, false, false, false, false, false, false]) (a' := ⟨[_, _, _, _, _, _, _, _, _, _, _, _, _, _, _, _, _, _, _, _, _, _, _, _, _, _, _, _, _, _, _, _, _, _, _, _, _, _, _, _, _, _, _, _, _, _, _, _, _, _, _, _, _, _, _, _, _, _, _, _, _, _, _, _, _, _, _, _, _, _, _, _, _, _, _, _, _, _, _, _, _, _, _, _, _, _, _, _, _, _, _, _, _, _, _, _, _, _, _].toArray, []⟩) rfl (by kernel_rfl) (by kernel_rfl) (by kernel_rfl) (fun _ _ _ h_ => h_) (.inl ⟨(by kernel_rfl), fun _ => (by first | rfl | (go_simp; done) | (go_simp; rfl) | (go_simp; simp only [MW.isEmpty_beq, bne, Bool.not_not]; done))⟩) (by kernel_rfl) rfl ?_
      refine MW.last_pure (i := 2) (v := .pointer (some (ad666.add (1 * 5)))) (listed' := #[true, true, true, false, false, false, false, false, false, false, false, false, false, false, false]) (a' := ⟨[_, _, _, _, _, _, _, _, _, _, _, _, _, _, _, _, _, _, _, _, _, _, _, _, _, _, _, _, _, _, _, _, _, _, _, _, _, _, _, _, _, _, _, _, _, _, _, _, _, _, _, _, _, _, _, _, _, _, _, _, _, _, _, _, _, _, _, _, _, _, _, _, _, _, _, _, _, _, _, _, _, _, _, _, _, _, _, _, _, _, _, _, _, _, _, _, _, _, _].toArray, []⟩) rfl (by kernel_rfl) (by kernel_rfl) (by kernel_rfl) (fun _ _ _ h_ => h_) (.inl ⟨(by kernel_rfl), fun _ => (by first | rfl | (go_simp; done) | (go_simp; rfl) | (go_simp; simp only [MW.isEmpty_beq, bne, Bool.not_not]; done))⟩) (by kernel_rfl) rfl ?_
      refine MW.last_pure (i := 3) (v := .pointer (some (ad666.add (1 * 5 + 3)))) (listed' := #[true, true, true, true, false, false, false, false, false, false, false, false, false, false, false]) (a' := ⟨[_, _, _, _, _, _, _, _, _, _, _, _, _, _, _, _, _, _, _, _, _, _, _, _, _, _, _, _, _, _, _, _, _, _, _, _, _, _, _, _, _, _, _, _, _, _, _, _, _, _, _, _, _, _, _, _, _, _, _, _, _, _, _, _, _, _, _, _, _, _, _, _, _, _, _, _, _, _, _, _, _, _, _, _, _, _, _, _, _, _, _, _, _, _, _, _, _, _, _].toArray, []⟩) rfl (by kernel_rfl) (by kernel_rfl) (by kernel_rfl) (fun _ _ _ h_ => h_) (.inl ⟨(by kernel_rfl), fun _ => (by first | rfl | (go_simp; done) | (go_simp; rfl) | (go_simp; simp only [MW.isEmpty_beq, bne, Bool.not_not]; done))⟩) (by kernel_rfl) rfl ?_
      refine MW.last_pure (i := 5) (v := .slice (some ad666) ((rd_T57 l0_4 (1 : Int)).f4).length c85_4) (listed' := #[true, true, true, true, false, true, false, false, false, false, false, false, false, false, false]) (a' := ⟨[_, _, _, _, _, _, _, _, _, _, _, _, _, _, _, _, _, _, _, _, _, _, _, _, _, _, _, _, _, _, _, _, _, _, _, _, _, _, _, _, _, _, _, _, _, _, _, _, _, _, _, _, _, _, _, _, _, _, _, _, _, _, _, _, _, _, _, _, _, _, _, _, _, _, _, _, _, _, _, _, _, _, _, _, _, _, _, _, _, _, _, _, _, _, _, _, _, _, _].toArray, []⟩) rfl (by kernel_rfl) (by kernel_rfl) (by kernel_rfl) (fun _ _ _ h_ => h_) (.inl ⟨(by kernel_rfl), fun _ => (by first | rfl | (go_simp; done) | (go_simp; rfl) | (go_simp; simp only [MW.isEmpty_beq, bne, Bool.not_not]; done))⟩) (by kernel_rfl) rfl ?_
      refine MW.last_pure (i := 6) (v := .pointer (some (ad666.add (2 * 5)))) (listed' := #[true, true, true, true, false, true, true, false, false, false, false, false, false, false, false]) (a' := ⟨[_, _, _, _, _, _, _, _, _, _, _, _, _, _, _, _, _, _, _, _, _, _, _, _, _, _, _, _, _, _, _, _, _, _, _, _, _, _, _, _, _, _, _, _, _, _, _, _, _, _, _, _, _, _, _, _, _, _, _, _, _, _, _, _, _, _, _, _, _, _, _, _, _, _, _, _, _, _, _, _, _, _, _, _, _, _, _, _, _, _, _, _, _, _, _, _, _, _, _].toArray, []⟩) rfl (by kernel_rfl) (by kernel_rfl) (by kernel_rfl) (fun _ _ _ h_ => h_) (.inl ⟨(by kernel_rfl), fun _ => (by first | rfl | (go_simp; done) | (go_simp; rfl) | (go_simp; simp only [MW.isEmpty_beq, bne, Bool.not_not]; done))⟩) (by kernel_rfl) rfl ?_
      refine MW.last_pure (i := 7) (v := .pointer (some (ad666.add (2 * 5 + 3)))) (listed' := #[true, true, true, true, false, true, true, true, false, false, false, false, false, false, false]) (a' := ⟨[_, _, _, _, _, _, _, _, _, _, _, _, _, _, _, _, _, _, _, _, _, _, _, _, _, _, _, _, _, _, _, _, _, _, _, _, _, _, _, _, _, _, _, _, _, _, _, _, _, _, _, _, _, _, _, _, _, _, _, _, _, _, _, _, _, _, _, _, _, _, _, _, _, _, _, _, _, _, _, _, _, _, _, _, _, _, _, _, _, _, _, _, _, _, _, _, _, _, _].toArray, []⟩) rfl (by kernel_rfl) (by kernel_rfl) (by kernel_rfl) (fun _ _ _ h_ => h_) (.inl ⟨(by kernel_rfl), fun _ => (by first | rfl | (go_simp; done) | (go_simp; rfl) | (go_simp; simp only [MW.isEmpty_beq, bne, Bool.not_not]; done))⟩) (by kernel_rfl) rfl ?_
      refine MW.last_pure (i := 9) (v := .pointer (some ⟨g256, 3, none⟩)) (listed' := #[true, true, true, true, false, true, true, true, false, true, false, false, false, false, false]) (a' := ⟨[_, _, _, _, _, _, _, _, _, _, _, _, _, _, _, _, _, _, _, _, _, _, _, _, _, _, _, _, _, _, _, _, _, _, _, _, _, _, _, _, _, _, _, _, _, _, _, _, _, _, _, _, _, _, _, _, _, _, _, _, _, _, _, _, _, _, _, _, _, _, _, _, _, _, _, _, _, _, _, _, _, _, _, _, _, _, _, _, _, _, _, _, _, _, _, _, _, _, _].toArray, []⟩) rfl (by kernel_rfl) (by kernel_rfl) (by kernel_rfl) (fun _ _ _ h_ => h_) (.inl ⟨(by kernel_rfl), fun _ => (by first | rfl | (go_simp; done) | (go_simp; rfl) | (go_simp; simp only [MW.isEmpty_beq, bne, Bool.not_not]; done))⟩) (by kernel_rfl) rfl ?_
      refine MW.last_take (i := 4) (v := .string ((rd_T57 ((rd_T57 l0_4 (1 : Int)).f4) (1 : Int)).f3)) (listed' := #[true, true, true, true, true, true, true, true, false, true, false, false, false, false, false]) (a' := ⟨[_, _, _, _, _, _, _, _, _, _, _, _, _, _, _, _, _, _, _, _, _, _, _, _, _, _, _, _, _, _, _, _, _, _, _, _, _, _, _, _, _, _, _, _, _, _, _, _, _, _, _, _, _, _, _, _, _, _, _, _, _, _, _, _, _, _, _, _, _, _, _, _, _, _, _, _, _, _, _, _, _, _, _, _, _, _, _, _, _, _, _, _, _, _, _, _, _, _, _].toArray, []⟩) rfl (by kernel_rfl) (by kernel_rfl) (by kernel_rfl) (by kernel_rfl) (by kernel_rfl) (fun _ _ _ h_ => h_) (by kernel_rfl) (fun w_ hS_ => ?go) (MW.Cells.cons hx781_3 (MW.Cells.cons hx787_3 MW.Cells.nil)) (by kernel_rfl) rfl ?_
      case go => obtain ⟨hs0_, _, _⟩ := hS_; first | (go_simp; done) | (go_simp; rfl)
      refine MW.last_take (i := 8) (v := .string ((rd_T57 ((rd_T57 l0_4 (1 : Int)).f4) (2 : Int)).f3)) (listed' := #[true, true, true, true, true, true, true, true, true, true, false, false, false, false, false]) (a' := ⟨[_, _, _, _, _, _, _, _, _, _, _, _, _, _, _, _, _, _, _, _, _, _, _, _, _, _, _, _, _, _, _, _, _, _, _, _, _, _, _, _, _, _, _, _, _, _, _, _, _, _, _, _, _, _, _, _, _, _, _, _, _, _, _, _, _, _, _, _, _, _, _, _, _, _, _, _, _, _, _, _, _, _, _, _, _, _, _, _, _, _, _, _, _, _, _, _, _, _, _].toArray, []⟩) rfl (by kernel_rfl) (by kernel_rfl) (by kernel_rfl) (by kernel_rfl) (by kernel_rfl) (fun _ _ _ h_ => h_) (by kernel_rfl) (fun w_ hS_ => ?go) (MW.Cells.cons hx781_3 (MW.Cells.cons hx787_3 MW.Cells.nil)) (by kernel_rfl) rfl ?_
      case go => obtain ⟨_, hs1_, _⟩ := hS_; first | (go_simp; done) | (go_simp; rfl)
      refine MW.last_act (i := 10) (listed' := #[true, true, true, true, true, true, true, true, true, true, true, false, false, false, false]) rfl (by kernel_rfl) (by kernel_rfl) (by decide) ?_
      go_wp2_with ((with_reducible refine gs 3 85 rfl ?_); refine zs 3 85 #[.int .i64 t50, .int .i64 x364, .bool false, .int .i64 t667, .string (⟨#[]⟩ : ByteArray), .string (⟨#[]⟩ : ByteArray), .string (⟨#[]⟩ : ByteArray), .slice none 0 0] BKg256.out [.int .i64 t667] (h := ?_); intro w788 hbk hg)
      refine Stop.go ?_
      replace HF85_4 := zfg HF85_4.out hg fun k_ hk_ => hk_.2
      replace BKg1 := zbg BKg1.out hg NEg1_g256
      replace BKg13 := zbg BKg13.out hg NEg13_g256
      replace BKg86 := zbg BKg86.out hg NEg86_g256
      replace HB := zhg HB.out hg (below_size HB.out) GEg256
      replace BKg256 := hbk
      clear hg hbk
      clear jbG jbH jbI jbJ jbK jbL jbM jbN jbO jbP jbQ jbR jbS jbT jbU jbV jbW jbX jbY jbZ jc0 jc1 jc2 jc3 jc4 jc5 jc6 jc7 jc8 jc9 jca jcb jcc jcd jce jcf jcg jch jci jcj jck jcl jcm jcn jco jcp jcq jcr jcs jct jcu jcv hx781_0 hx781_1 hx781_2 hx781_3 hx781_4 p781 q781 hx787_0 hx787_1 hx787_2 hx787_3 hx787_4 p787 q787
      obtain ⟨jcJ, jcK, jcL, jcM, jcN, jcO, jcP, jcQ, jcR, jcS⟩ := MB.lay5 BKg1.out
      obtain ⟨jcT, jcU, jcV, jcW, jcX, jcY, jcZ, jd0, jd1, jd2, jd3, jd4, jd5, jd6, jd7, jd8⟩ := MB.lay8 BKg13.out
      obtain ⟨jd9, jda, jdb, jdc, jdd, jde, jdf, jdg, jdh, jdi⟩ := MB.lay5 BKg86.out
      obtain ⟨jdj, jdk, jdl, jdm, jdn, jdo, jdp, jdq, jdr, jds, jdt, jdu, jdv, jdw, jdx, jdy⟩ := MB.lay8 BKg256.out
      have p841 : 0 ≤ (1 : Int) := by decide
      have q841 : (1 : Int) < (((rd_T57 l0_4 (1 : Int)).f4).length : Int) := of_decide_eq_true (by first | (with_reducible assumption) | assumption)
      obtain ⟨ad841, A841_4, c841_4, e841, hx841_0, hx841_1, hx841_2, hx841_3, hx841_4, hl841_4, hi841_4⟩ := atF_T57 HF85_4.out (1 : Int) p841 q841
      cases e841
      (try simp only [show ((1 : Int)).toNat = 1 from rfl, show 1 * 5 = 5 from rfl] at hx841_0)
      (try simp only [Nat.reduceMul, Nat.reduceEqDiff, Go.Addr.add, ↓reduceIte] at hx841_0)
      (try simp only [show ((1 : Int)).toNat = 1 from rfl, show 1 * 5 = 5 from rfl] at hx841_1)
      (try simp only [Nat.reduceMul, Nat.reduceEqDiff, Go.Addr.add, ↓reduceIte] at hx841_1)
      (try simp only [show ((1 : Int)).toNat = 1 from rfl, show 1 * 5 = 5 from rfl] at hx841_2)
      (try simp only [Nat.reduceMul, Nat.reduceEqDiff, Go.Addr.add, ↓reduceIte] at hx841_2)
      (try simp only [show ((1 : Int)).toNat = 1 from rfl, show 1 * 5 = 5 from rfl] at hx841_3)
      (try simp only [Nat.reduceMul, Nat.reduceEqDiff, Go.Addr.add, ↓reduceIte] at hx841_3)
      (try simp only [show ((1 : Int)).toNat = 1 from rfl, show 1 * 5 = 5 from rfl] at hx841_4)
      (try simp only [Nat.reduceMul, Nat.reduceEqDiff, Go.Addr.add, ↓reduceIte] at hx841_4)
      clear hi841_4 hl841_4
      replace p841 := eq_true p841
      replace q841 := eq_true q841
      have p842 : 0 ≤ (2 : Int) := by decide
      have q842 : (2 : Int) < (((rd_T57 l0_4 (1 : Int)).f4).length : Int) := of_decide_eq_true (by first | (with_reducible assumption) | assumption)
      obtain ⟨ad842, A842_4, c842_4, e842, hx842_0, hx842_1, hx842_2, hx842_3, hx842_4, hl842_4, hi842_4⟩ := atF_T57 HF85_4.out (2 : Int) p842 q842
      cases e842
      (try simp only [show ((2 : Int)).toNat = 2 from rfl, show 2 * 5 = 10 from rfl] at hx842_0)
      (try simp only [Nat.reduceMul, Nat.reduceEqDiff, Go.Addr.add, ↓reduceIte] at hx842_0)
      (try simp only [show ((2 : Int)).toNat = 2 from rfl, show 2 * 5 = 10 from rfl] at hx842_1)
      (try simp only [Nat.reduceMul, Nat.reduceEqDiff, Go.Addr.add, ↓reduceIte] at hx842_1)
      (try simp only [show ((2 : Int)).toNat = 2 from rfl, show 2 * 5 = 10 from rfl] at hx842_2)
      (try simp only [Nat.reduceMul, Nat.reduceEqDiff, Go.Addr.add, ↓reduceIte] at hx842_2)
      (try simp only [show ((2 : Int)).toNat = 2 from rfl, show 2 * 5 = 10 from rfl] at hx842_3)
      (try simp only [Nat.reduceMul, Nat.reduceEqDiff, Go.Addr.add, ↓reduceIte] at hx842_3)
      (try simp only [show ((2 : Int)).toNat = 2 from rfl, show 2 * 5 = 10 from rfl] at hx842_4)
      (try simp only [Nat.reduceMul, Nat.reduceEqDiff, Go.Addr.add, ↓reduceIte] at hx842_4)
      clear hi842_4 hl842_4
      replace p842 := eq_true p842
      replace q842 := eq_true q842
      refine wpList_nil ?_
      change MW.Cells _ _ ∧ wpAnyLast _ _ _ _ _ _ 4 #[true, true, true, true, true, true, true, true, true, true, true, false, false, false, false] ⟨[_, _, _, _, _, _, _, _, _, _, _, _, _, _, _, _, _, _, _, _, _, _, _, _, _, _, _, _, _, _, _, _, _, _, _, _, _, _, _, _, _, _, _, _, _, _, _, _, _, _, _, _, _, _, _, _, _, _, _, _, _, _, _, _, _, _, _, _, _, _, _, _, _, _, _, _, _, _, _, _, _, _, _, _, _, _, _, _, _, _, _, _, _, _, _, _, _, _, _].toArray, []⟩ _
      refine ⟨(MW.Cells.cons hx841_3 (MW.Cells.cons hx842_3 MW.Cells.nil)), ?_⟩
      refine MW.last_pure (i := 11) (v := .pointer (some ⟨g256, 4, none⟩)) (listed' := #[true, true, true, true, true, true, true, true, true, true, true, true, false, false, false]) (a' := ⟨[_, _, _, _, _, _, _, _, _, _, _, _, _, _, _, _, _, _, _, _, _, _, _, _, _, _, _, _, _, _, _, _, _, _, _, _, _, _, _, _, _, _, _, _, _, _, _, _, _, _, _, _, _, _, _, _, _, _, _, _, _, _, _, _, _, _, _, _, _, _, _, _, _, _, _, _, _, _, _, _, _, _, _, _, _, _, _, _, _, _, _, _, _, _, _, _, _, _, _].toArray, []⟩) rfl (by kernel_rfl) (by kernel_rfl) (by kernel_rfl) (fun _ _ _ h_ => h_) (.inl ⟨(by kernel_rfl), fun _ => (by first | rfl | (go_simp; done) | (go_simp; rfl) | (go_simp; simp only [MW.isEmpty_beq, bne, Bool.not_not]; done))⟩) (by kernel_rfl) rfl ?_
      refine MW.last_act (i := 12) (listed' := #[true, true, true, true, true, true, true, true, true, true, true, true, true, false, false]) rfl (by kernel_rfl) (by kernel_rfl) (by decide) ?_
      go_wp2_with ((with_reducible refine gs 9 86 rfl ?_); refine zs 9 86 #[.int .i64 t50, .int .i64 x364, .bool false, .int .i64 t667, .string ((rd_T57 ((rd_T57 l0_4 (1 : Int)).f4) (1 : Int)).f3), .string (⟨#[]⟩ : ByteArray), .string (⟨#[]⟩ : ByteArray), .slice none 0 0] BKg256.out [.string ((rd_T57 ((rd_T57 l0_4 (1 : Int)).f4) (1 : Int)).f3)] (h := ?_); intro w843 hbk hg)
      refine Stop.go ?_
      replace HF85_4 := zfg HF85_4.out hg fun k_ hk_ => hk_.2
      replace BKg1 := zbg BKg1.out hg NEg1_g256
      replace BKg13 := zbg BKg13.out hg NEg13_g256
      replace BKg86 := zbg BKg86.out hg NEg86_g256
      replace HB := zhg HB.out hg (below_size HB.out) GEg256
      replace BKg256 := hbk
      clear hg hbk
      clear jcJ jcK jcL jcM jcN jcO jcP jcQ jcR jcS jcT jcU jcV jcW jcX jcY jcZ jd0 jd1 jd2 jd3 jd4 jd5 jd6 jd7 jd8 jd9 jda jdb jdc jdd jde jdf jdg jdh jdi jdj jdk jdl jdm jdn jdo jdp jdq jdr jds jdt jdu jdv jdw jdx jdy hx841_0 hx841_1 hx841_2 hx841_3 hx841_4 p841 q841 hx842_0 hx842_1 hx842_2 hx842_3 hx842_4 p842 q842
      obtain ⟨jdC, jdD, jdE, jdF, jdG, jdH, jdI, jdJ, jdK, jdL⟩ := MB.lay5 BKg1.out
      obtain ⟨jdM, jdN, jdO, jdP, jdQ, jdR, jdS, jdT, jdU, jdV, jdW, jdX, jdY, jdZ, je0, je1⟩ := MB.lay8 BKg13.out
      obtain ⟨je2, je3, je4, je5, je6, je7, je8, je9, jea, jeb⟩ := MB.lay5 BKg86.out
      obtain ⟨jec, jed, jee, jef, jeg, jeh, jei, jej, jek, jel, jem, jen, jeo, jep, jeq, jer⟩ := MB.lay8 BKg256.out
      have p896 : 0 ≤ (1 : Int) := by decide
      have q896 : (1 : Int) < (((rd_T57 l0_4 (1 : Int)).f4).length : Int) := of_decide_eq_true (by first | (with_reducible assumption) | assumption)
      obtain ⟨ad896, A896_4, c896_4, e896, hx896_0, hx896_1, hx896_2, hx896_3, hx896_4, hl896_4, hi896_4⟩ := atF_T57 HF85_4.out (1 : Int) p896 q896
      cases e896
      (try simp only [show ((1 : Int)).toNat = 1 from rfl, show 1 * 5 = 5 from rfl] at hx896_0)
      (try simp only [Nat.reduceMul, Nat.reduceEqDiff, Go.Addr.add, ↓reduceIte] at hx896_0)
      (try simp only [show ((1 : Int)).toNat = 1 from rfl, show 1 * 5 = 5 from rfl] at hx896_1)
      (try simp only [Nat.reduceMul, Nat.reduceEqDiff, Go.Addr.add, ↓reduceIte] at hx896_1)
      (try simp only [show ((1 : Int)).toNat = 1 from rfl, show 1 * 5 = 5 from rfl] at hx896_2)
      (try simp only [Nat.reduceMul, Nat.reduceEqDiff, Go.Addr.add, ↓reduceIte] at hx896_2)
      (try simp only [show ((1 : Int)).toNat = 1 from rfl, show 1 * 5 = 5 from rfl] at hx896_3)
      (try simp only [Nat.reduceMul, Nat.reduceEqDiff, Go.Addr.add, ↓reduceIte] at hx896_3)
      (try simp only [show ((1 : Int)).toNat = 1 from rfl, show 1 * 5 = 5 from rfl] at hx896_4)
      (try simp only [Nat.reduceMul, Nat.reduceEqDiff, Go.Addr.add, ↓reduceIte] at hx896_4)
      clear hi896_4 hl896_4
      replace p896 := eq_true p896
      replace q896 := eq_true q896
      have p897 : 0 ≤ (2 : Int) := by decide
      have q897 : (2 : Int) < (((rd_T57 l0_4 (1 : Int)).f4).length : Int) := of_decide_eq_true (by first | (with_reducible assumption) | assumption)
      obtain ⟨ad897, A897_4, c897_4, e897, hx897_0, hx897_1, hx897_2, hx897_3, hx897_4, hl897_4, hi897_4⟩ := atF_T57 HF85_4.out (2 : Int) p897 q897
      cases e897
      (try simp only [show ((2 : Int)).toNat = 2 from rfl, show 2 * 5 = 10 from rfl] at hx897_0)
      (try simp only [Nat.reduceMul, Nat.reduceEqDiff, Go.Addr.add, ↓reduceIte] at hx897_0)
      (try simp only [show ((2 : Int)).toNat = 2 from rfl, show 2 * 5 = 10 from rfl] at hx897_1)
      (try simp only [Nat.reduceMul, Nat.reduceEqDiff, Go.Addr.add, ↓reduceIte] at hx897_1)
      (try simp only [show ((2 : Int)).toNat = 2 from rfl, show 2 * 5 = 10 from rfl] at hx897_2)
      (try simp only [Nat.reduceMul, Nat.reduceEqDiff, Go.Addr.add, ↓reduceIte] at hx897_2)
      (try simp only [show ((2 : Int)).toNat = 2 from rfl, show 2 * 5 = 10 from rfl] at hx897_3)
      (try simp only [Nat.reduceMul, Nat.reduceEqDiff, Go.Addr.add, ↓reduceIte] at hx897_3)
      (try simp only [show ((2 : Int)).toNat = 2 from rfl, show 2 * 5 = 10 from rfl] at hx897_4)
      (try simp only [Nat.reduceMul, Nat.reduceEqDiff, Go.Addr.add, ↓reduceIte] at hx897_4)
      clear hi897_4 hl897_4
      replace p897 := eq_true p897
      replace q897 := eq_true q897
      refine wpList_nil ?_
      change MW.Cells _ _ ∧ wpAnyLast _ _ _ _ _ _ 2 #[true, true, true, true, true, true, true, true, true, true, true, true, true, false, false] ⟨[_, _, _, _, _, _, _, _, _, _, _, _, _, _, _, _, _, _, _, _, _, _, _, _, _, _, _, _, _, _, _, _, _, _, _, _, _, _, _, _, _, _, _, _, _, _, _, _, _, _, _, _, _, _, _, _, _, _, _, _, _, _, _, _, _, _, _, _, _, _, _, _, _, _, _, _, _, _, _, _, _, _, _, _, _, _, _, _, _, _, _, _, _, _, _, _, _, _, _].toArray, []⟩ _
      refine ⟨(MW.Cells.cons hx896_3 (MW.Cells.cons hx897_3 MW.Cells.nil)), ?_⟩
      refine MW.last_pure (i := 13) (v := .pointer (some ⟨g256, 5, none⟩)) (listed' := #[true, true, true, true, true, true, true, true, true, true, true, true, true, true, false]) (a' := ⟨[_, _, _, _, _, _, _, _, _, _, _, _, _, _, _, _, _, _, _, _, _, _, _, _, _, _, _, _, _, _, _, _, _, _, _, _, _, _, _, _, _, _, _, _, _, _, _, _, _, _, _, _, _, _, _, _, _, _, _, _, _, _, _, _, _, _, _, _, _, _, _, _, _, _, _, _, _, _, _, _, _, _, _, _, _, _, _, _, _, _, _, _, _, _, _, _, _, _, _].toArray, []⟩) rfl (by kernel_rfl) (by kernel_rfl) (by kernel_rfl) (fun _ _ _ h_ => h_) (.inl ⟨(by kernel_rfl), fun _ => (by first | rfl | (go_simp; done) | (go_simp; rfl) | (go_simp; simp only [MW.isEmpty_beq, bne, Bool.not_not]; done))⟩) (by kernel_rfl) rfl ?_
      refine MW.last_fin (i := 14) (listed' := #[true, true, true, true, true, true, true, true, true, true, true, true, true, true, true]) rfl (by kernel_rfl) (by kernel_rfl) (by kernel_rfl) ?_
      go_wp2_with ((with_reducible refine gs 9 87 rfl ?_); refine zs 9 87 #[.int .i64 t50, .int .i64 x364, .bool false, .int .i64 t667, .string ((rd_T57 ((rd_T57 l0_4 (1 : Int)).f4) (1 : Int)).f3), .string ((rd_T57 ((rd_T57 l0_4 (1 : Int)).f4) (2 : Int)).f3), .string (⟨#[]⟩ : ByteArray), .slice none 0 0] BKg256.out [.string ((rd_T57 ((rd_T57 l0_4 (1 : Int)).f4) (2 : Int)).f3)] (h := ?_); intro w898 hbk hg)
      refine Stop.go ?_
      replace HF85_4 := zfg HF85_4.out hg fun k_ hk_ => hk_.2
      replace BKg1 := zbg BKg1.out hg NEg1_g256
      replace BKg13 := zbg BKg13.out hg NEg13_g256
      replace BKg86 := zbg BKg86.out hg NEg86_g256
      replace HB := zhg HB.out hg (below_size HB.out) GEg256
      replace BKg256 := hbk
      clear hg hbk
      clear jdC jdD jdE jdF jdG jdH jdI jdJ jdK jdL jdM jdN jdO jdP jdQ jdR jdS jdT jdU jdV jdW jdX jdY jdZ je0 je1 je2 je3 je4 je5 je6 je7 je8 je9 jea jeb jec jed jee jef jeg jeh jei jej jek jel jem jen jeo jep jeq jer hx896_0 hx896_1 hx896_2 hx896_3 hx896_4 p896 q896 hx897_0 hx897_1 hx897_2 hx897_3 hx897_4 p897 q897
      obtain ⟨jev, jew, jex, jey, jez, jeA, jeB, jeC, jeD, jeE⟩ := MB.lay5 BKg1.out
      obtain ⟨jeF, jeG, jeH, jeI, jeJ, jeK, jeL, jeM, jeN, jeO, jeP, jeQ, jeR, jeS, jeT, jeU⟩ := MB.lay8 BKg13.out
      obtain ⟨jeV, jeW, jeX, jeY, jeZ, jf0, jf1, jf2, jf3, jf4⟩ := MB.lay5 BKg86.out
      obtain ⟨jf5, jf6, jf7, jf8, jf9, jfa, jfb, jfc, jfd, jfe, jff, jfg, jfh, jfi, jfj, jfk⟩ := MB.lay8 BKg256.out
      refine wpList_nil ?_
      refine ⟨(by kernel_rfl), ?_⟩
      clear hwr_
      replace HH := zqe HH
      rcases HH with ⟨HH, hk952, hk953⟩ | ⟨HH, hk1070, hk1071⟩
      ·(try simp only [hk952, Bool.not_true, Bool.not_false])
       (try simp only [hk953, Bool.not_true, Bool.not_false])
       replace HH := zqno 3 HH
       obtain ⟨HH, hk955, hk956, hk957, hk958⟩ := HH
       (try simp only [hk955, Bool.not_true, Bool.not_false])
       (try simp only [hk956, Bool.not_true, Bool.not_false])
       (try simp only [hk957, Bool.not_true, Bool.not_false])
       (try simp only [hk958, Bool.not_true, Bool.not_false])
       have p959 : 0 ≤ (3 : Int) := by decide
       have q959 : (3 : Int) < (((rd_T57 l0_4 (1 : Int)).f4).length : Int) := of_decide_eq_true (by first | (with_reducible assumption) | assumption)
       obtain ⟨ad959, A959_4, c959_4, e959, hx959_0, hx959_1, hx959_2, hx959_3, hx959_4, hl959_4, hi959_4⟩ := atF_T57 HF85_4.out (3 : Int) p959 q959
       cases e959
       (try simp only [show ((3 : Int)).toNat = 3 from rfl, show 3 * 5 = 15 from rfl] at hx959_0)
       (try simp only [Nat.reduceMul, Nat.reduceEqDiff, Go.Addr.add, ↓reduceIte] at hx959_0)
       (try simp only [show ((3 : Int)).toNat = 3 from rfl, show 3 * 5 = 15 from rfl] at hx959_1)
       (try simp only [Nat.reduceMul, Nat.reduceEqDiff, Go.Addr.add, ↓reduceIte] at hx959_1)
       (try simp only [show ((3 : Int)).toNat = 3 from rfl, show 3 * 5 = 15 from rfl] at hx959_2)
       (try simp only [Nat.reduceMul, Nat.reduceEqDiff, Go.Addr.add, ↓reduceIte] at hx959_2)
       (try simp only [show ((3 : Int)).toNat = 3 from rfl, show 3 * 5 = 15 from rfl] at hx959_3)
       (try simp only [Nat.reduceMul, Nat.reduceEqDiff, Go.Addr.add, ↓reduceIte] at hx959_3)
       (try simp only [show ((3 : Int)).toNat = 3 from rfl, show 3 * 5 = 15 from rfl] at hx959_4)
       (try simp only [Nat.reduceMul, Nat.reduceEqDiff, Go.Addr.add, ↓reduceIte] at hx959_4)
       clear hi959_4 hl959_4
       replace p959 := eq_true p959
       replace q959 := eq_true q959
       go_wp2_with ((with_reducible refine gs 9 95 rfl ?_); refine zs 9 95 #[.int .i64 t50, .int .i64 x364, .bool false, .int .i64 t667, .string ((rd_T57 ((rd_T57 l0_4 (1 : Int)).f4) (1 : Int)).f3), .string ((rd_T57 ((rd_T57 l0_4 (1 : Int)).f4) (2 : Int)).f3), .string ((rd_T57 ((rd_T57 l0_4 (1 : Int)).f4) (3 : Int)).f3), .slice none 0 0] BKg256.out [.string ((rd_T57 ((rd_T57 l0_4 (1 : Int)).f4) (3 : Int)).f3)] (h := ?_); intro w960 hbk hg)
       refine Stop.go ?_
       replace BKg1 := zbg BKg1.out hg NEg1_g256
       replace BKg13 := zbg BKg13.out hg NEg13_g256
       replace BKg86 := zbg BKg86.out hg NEg86_g256
       replace HB := zhg HB.out hg (below_size HB.out) GEg256
       replace BKg256 := hbk
       clear hg hbk
       clear jev jew jex jey jez jeA jeB jeC jeD jeE jeF jeG jeH jeI jeJ jeK jeL jeM jeN jeO jeP jeQ jeR jeS jeT jeU jeV jeW jeX jeY jeZ jf0 jf1 jf2 jf3 jf4 jf5 jf6 jf7 jf8 jf9 jfa jfb jfc jfd jfe jff jfg jfh jfi jfj jfk hx959_0 hx959_1 hx959_2 hx959_3 hx959_4 p959 q959
       obtain ⟨jfv, jfw, jfx, jfy, jfz, jfA, jfB, jfC, jfD, jfE⟩ := MB.lay5 BKg1.out
       obtain ⟨jfF, jfG, jfH, jfI, jfJ, jfK, jfL, jfM, jfN, jfO, jfP, jfQ, jfR, jfS, jfT, jfU⟩ := MB.lay8 BKg13.out
       obtain ⟨jfV, jfW, jfX, jfY, jfZ, jg0, jg1, jg2, jg3, jg4⟩ := MB.lay5 BKg86.out
       obtain ⟨jg5, jg6, jg7, jg8, jg9, jga, jgb, jgc, jgd, jge, jgf, jgg, jgh, jgi, jgj, jgk⟩ := MB.lay8 BKg256.out
       go_wp2_with ((with_reducible refine gs 27 2 rfl ?_); refine zs 27 2 #[.int .i64 t50, .int .i64 x364, .bool false, .int .i64 t667, .string ((rd_T57 ((rd_T57 l0_4 (1 : Int)).f4) (1 : Int)).f3), .string ((rd_T57 ((rd_T57 l0_4 (1 : Int)).f4) (2 : Int)).f3), .string ((rd_T57 ((rd_T57 l0_4 (1 : Int)).f4) (3 : Int)).f3), .slice none 0 0] BKg13.out [.int .i64 t50, .int .i64 x364, .bool false, .int .i64 t667, .string ((rd_T57 ((rd_T57 l0_4 (1 : Int)).f4) (1 : Int)).f3), .string ((rd_T57 ((rd_T57 l0_4 (1 : Int)).f4) (2 : Int)).f3), .string ((rd_T57 ((rd_T57 l0_4 (1 : Int)).f4) (3 : Int)).f3), .slice none 0 0] (h := ?_); intro w1013 hbk hg)
       refine Stop.go ?_
       replace BKg1 := zbg BKg1.out hg NEg1_g13
       replace BKg86 := zbg BKg86.out hg NEg86_g13
       replace BKg256 := zbg BKg256.out hg NEg256_g13
       replace HB := zhg HB.out hg (below_size HB.out) GEg13
       replace BKg13 := hbk
       clear hg hbk
       clear jfv jfw jfx jfy jfz jfA jfB jfC jfD jfE jfF jfG jfH jfI jfJ jfK jfL jfM jfN jfO jfP jfQ jfR jfS jfT jfU jfV jfW jfX jfY jfZ jg0 jg1 jg2 jg3 jg4 jg5 jg6 jg7 jg8 jg9 jga jgb jgc jgd jge jgf jgg jgh jgi jgj jgk
       obtain ⟨jgm, jgn, jgo, jgp, jgq, jgr, jgs, jgt, jgu, jgv⟩ := MB.lay5 BKg1.out
       obtain ⟨jgw, jgx, jgy, jgz, jgA, jgB, jgC, jgD, jgE, jgF, jgG, jgH, jgI, jgJ, jgK, jgL⟩ := MB.lay8 BKg13.out
       obtain ⟨jgM, jgN, jgO, jgP, jgQ, jgR, jgS, jgT, jgU, jgV⟩ := MB.lay5 BKg86.out
       obtain ⟨jgW, jgX, jgY, jgZ, jh0, jh1, jh2, jh3, jh4, jh5, jh6, jh7, jh8, jh9, jha, jhb⟩ := MB.lay8 BKg256.out
       have H := HH.out
       simp only [Option.some.injEq, Prod.mk.injEq] at H
       obtain ⟨rfl, rfl, rfl, rfl, rfl, rfl, rfl, rfl, rfl⟩ := H
       clear HH
       go_wp2
       refine bodyPost_ret (results_ct rfl _ _ g13 27 #[.int .i64 t50, .int .i64 x364, .bool false, .int .i64 t667, .string ((rd_T57 ((rd_T57 l0_4 (1 : Int)).f4) (1 : Int)).f3), .string ((rd_T57 ((rd_T57 l0_4 (1 : Int)).f4) (2 : Int)).f3), .string ((rd_T57 ((rd_T57 l0_4 (1 : Int)).f4) (3 : Int)).f3), .slice none 0 0] (0, 0) _ rfl BKg13.out Try.underlying27 rfl (by kernel_rfl)) rfl ?_
       exact ⟨_, by first | rfl | (simp; done) | (simp [*]; done), (Kd.N_nil _ _ _ _ _), HB.out⟩
      (try simp only [hk1070, Bool.not_true, Bool.not_false])
      (try simp only [hk1071, Bool.not_true, Bool.not_false])
      go_wp2_with ((with_reducible refine gs 27 2 rfl ?_); refine zs 27 2 #[.int .i64 t50, .int .i64 x364, .bool false, .int .i64 t667, .string ((rd_T57 ((rd_T57 l0_4 (1 : Int)).f4) (1 : Int)).f3), .string ((rd_T57 ((rd_T57 l0_4 (1 : Int)).f4) (2 : Int)).f3), .string (⟨#[]⟩ : ByteArray), .slice none 0 0] BKg13.out [.int .i64 t50, .int .i64 x364, .bool false, .int .i64 t667, .string ((rd_T57 ((rd_T57 l0_4 (1 : Int)).f4) (1 : Int)).f3), .string ((rd_T57 ((rd_T57 l0_4 (1 : Int)).f4) (2 : Int)).f3), .string (⟨#[]⟩ : ByteArray), .slice none 0 0] (h := ?_); intro w1072 hbk hg)
      refine Stop.go ?_
      replace BKg1 := zbg BKg1.out hg NEg1_g13
      replace BKg86 := zbg BKg86.out hg NEg86_g13
      replace BKg256 := zbg BKg256.out hg NEg256_g13
      replace HB := zhg HB.out hg (below_size HB.out) GEg13
      replace BKg13 := hbk
      clear hg hbk
      clear jev jew jex jey jez jeA jeB jeC jeD jeE jeF jeG jeH jeI jeJ jeK jeL jeM jeN jeO jeP jeQ jeR jeS jeT jeU jeV jeW jeX jeY jeZ jf0 jf1 jf2 jf3 jf4 jf5 jf6 jf7 jf8 jf9 jfa jfb jfc jfd jfe jff jfg jfh jfi jfj jfk
      obtain ⟨jhj, jhk, jhl, jhm, jhn, jho, jhp, jhq, jhr, jhs⟩ := MB.lay5 BKg1.out
      obtain ⟨jht, jhu, jhv, jhw, jhx, jhy, jhz, jhA, jhB, jhC, jhD, jhE, jhF, jhG, jhH, jhI⟩ := MB.lay8 BKg13.out
      obtain ⟨jhJ, jhK, jhL, jhM, jhN, jhO, jhP, jhQ, jhR, jhS⟩ := MB.lay5 BKg86.out
      obtain ⟨jhT, jhU, jhV, jhW, jhX, jhY, jhZ, ji0, ji1, ji2, ji3, ji4, ji5, ji6, ji7, ji8⟩ := MB.lay8 BKg256.out
      have H := HH.out
      simp only [Option.some.injEq, Prod.mk.injEq] at H
      obtain ⟨rfl, rfl, rfl, rfl, rfl, rfl, rfl, rfl, rfl⟩ := H
      clear HH
      go_wp2
      refine bodyPost_ret (results_ct rfl _ _ g13 27 #[.int .i64 t50, .int .i64 x364, .bool false, .int .i64 t667, .string ((rd_T57 ((rd_T57 l0_4 (1 : Int)).f4) (1 : Int)).f3), .string ((rd_T57 ((rd_T57 l0_4 (1 : Int)).f4) (2 : Int)).f3), .string (⟨#[]⟩ : ByteArray), .slice none 0 0] (0, 0) _ rfl BKg13.out Try.underlying27 rfl (by kernel_rfl)) rfl ?_
      exact ⟨_, by first | rfl | (simp; done) | (simp [*]; done), (Kd.N_nil _ _ _ _ _), HB.out⟩
     replace HH := MW.hneg HH c660
     replace c660 := Bool.eq_false_iff.mpr c660
     subst c660
     go_wp2_with ((with_reducible refine gs 27 2 rfl ?_); refine zs 27 2 #[.int .i64 0, .int .i64 0, .bool false, .int .i64 0, .string (⟨#[]⟩ : ByteArray), .string (⟨#[]⟩ : ByteArray), .string (⟨#[]⟩ : ByteArray), .slice none 0 0] BKg13.out [.int .i64 0, .int .i64 0, .bool false, .int .i64 0, .string (⟨#[]⟩ : ByteArray), .string (⟨#[]⟩ : ByteArray), .string (⟨#[]⟩ : ByteArray), .slice none 0 0] (h := ?_); intro w1137 hbk hg)
     refine Stop.go ?_
     replace BKg1 := zbg BKg1.out hg NEg1_g13
     replace BKg86 := zbg BKg86.out hg NEg86_g13
     replace BKg256 := zbg BKg256.out hg NEg256_g13
     replace HB := zhg HB.out hg (below_size HB.out) GEg13
     replace BKg13 := hbk
     clear hg hbk
     clear j9O j9P j9Q j9R j9S j9T j9U j9V j9W j9X j9Y j9Z ja0 ja1 ja2 ja3 ja4 ja5 ja6 ja7 ja8 ja9 jaa jab jac jad jae jaf jag jah jai jaj jak jal jam jan jao jap jaq jar jas jat jau jav jaw jax jay jaz jaA jaB jaC jaD
     obtain ⟨jim, jin, jio, jip, jiq, jir, jis, jit, jiu, jiv⟩ := MB.lay5 BKg1.out
     obtain ⟨jiw, jix, jiy, jiz, jiA, jiB, jiC, jiD, jiE, jiF, jiG, jiH, jiI, jiJ, jiK, jiL⟩ := MB.lay8 BKg13.out
     obtain ⟨jiM, jiN, jiO, jiP, jiQ, jiR, jiS, jiT, jiU, jiV⟩ := MB.lay5 BKg86.out
     obtain ⟨jiW, jiX, jiY, jiZ, jj0, jj1, jj2, jj3, jj4, jj5, jj6, jj7, jj8, jj9, jja, jjb⟩ := MB.lay8 BKg256.out
     have H := HH.out
     simp only [Option.some.injEq, Prod.mk.injEq] at H
     obtain ⟨rfl, rfl, rfl, rfl, rfl, rfl, rfl, rfl, rfl⟩ := H
     clear HH
     go_wp2
     refine bodyPost_ret (results_ct rfl _ _ g13 27 #[.int .i64 0, .int .i64 0, .bool false, .int .i64 0, .string (⟨#[]⟩ : ByteArray), .string (⟨#[]⟩ : ByteArray), .string (⟨#[]⟩ : ByteArray), .slice none 0 0] (0, 0) _ rfl BKg13.out Try.underlying27 rfl (by kernel_rfl)) rfl ?_
     exact ⟨_, by first | rfl | (simp; done) | (simp [*]; done), (Kd.N_nil _ _ _ _ _), HB.out⟩
  go_wp2_with ((with_reducible refine gs 27 2 rfl ?_); refine zs 27 2 #[.int .i64 0, .int .i64 0, .bool false, .int .i64 0, .string (⟨#[]⟩ : ByteArray), .string (⟨#[]⟩ : ByteArray), .string (⟨#[]⟩ : ByteArray), .slice none 0 0] BKg13.out [.int .i64 0, .int .i64 0, .bool false, .int .i64 0, .string (⟨#[]⟩ : ByteArray), .string (⟨#[]⟩ : ByteArray), .string (⟨#[]⟩ : ByteArray), .slice none 0 0] (h := ?_); intro w1194 hbk hg)
  refine Stop.go ?_
  replace BKg1 := zbg BKg1.out hg NEg1_g13
  replace BKg86 := zbg BKg86.out hg NEg86_g13
  replace HB := zhg HB.out hg (below_size HB.out) GEg13
  replace BKg13 := hbk
  clear hg hbk
  clear j21 j22 j23 j24 j25 j26 j27 j28 j29 j2a j2b j2c j2d j2e j2f j2g j2h j2i j2j j2k j2l j2m j2n j2o j2p j2q j2r j2s j2t j2u j2v j2w j2x j2y j2z j2A
  obtain ⟨jjh, jji, jjj, jjk, jjl, jjm, jjn, jjo, jjp, jjq⟩ := MB.lay5 BKg1.out
  obtain ⟨jjr, jjs, jjt, jju, jjv, jjw, jjx, jjy, jjz, jjA, jjB, jjC, jjD, jjE, jjF, jjG⟩ := MB.lay8 BKg13.out
  obtain ⟨jjH, jjI, jjJ, jjK, jjL, jjM, jjN, jjO, jjP, jjQ⟩ := MB.lay5 BKg86.out
  have H := HH.out
  simp only [Option.some.injEq, Prod.mk.injEq] at H
  obtain ⟨rfl, rfl, rfl, rfl, rfl, rfl, rfl, rfl, rfl⟩ := H
  clear HH
  go_wp2
  refine bodyPost_ret (results_ct rfl _ _ g13 27 #[.int .i64 0, .int .i64 0, .bool false, .int .i64 0, .string (⟨#[]⟩ : ByteArray), .string (⟨#[]⟩ : ByteArray), .string (⟨#[]⟩ : ByteArray), .slice none 0 0] (0, 0) _ rfl BKg13.out Try.underlying27 rfl (by kernel_rfl)) rfl ?_
  exact ⟨_, by first | rfl | (simp; done) | (simp [*]; done), (Kd.N_nil _ _ _ _ _), HB.out⟩
 go_wp2_with ((with_reducible refine gs 27 2 rfl ?_); refine zs 27 2 #[.int .i64 0, .int .i64 0, .bool false, .int .i64 0, .string (⟨#[]⟩ : ByteArray), .string (⟨#[]⟩ : ByteArray), .string (⟨#[]⟩ : ByteArray), .slice none 0 0] BKg13.out [.int .i64 0, .int .i64 0, .bool false, .int .i64 0, .string (⟨#[]⟩ : ByteArray), .string (⟨#[]⟩ : ByteArray), .string (⟨#[]⟩ : ByteArray), .slice none 0 0] (h := ?_); intro w1241 hbk hg)
 refine Stop.go ?_
 replace BKg1 := zbg BKg1.out hg NEg1_g13
 replace HB := zhg HB.out hg (below_size HB.out) GEg13
 replace BKg13 := hbk
 clear hg hbk
 clear jf jg jh ji jj jk jl jm jn jo jp jq jr js jt ju jv jw jx jy jz jA jB jC jD jE
 obtain ⟨jk2, jk3, jk4, jk5, jk6, jk7, jk8, jk9, jka, jkb⟩ := MB.lay5 BKg1.out
 obtain ⟨jkc, jkd, jke, jkf, jkg, jkh, jki, jkj, jkk, jkl, jkm, jkn, jko, jkp, jkq, jkr⟩ := MB.lay8 BKg13.out
 have H := HH.out
 simp only [Option.some.injEq, Prod.mk.injEq] at H
 obtain ⟨rfl, rfl, rfl, rfl, rfl, rfl, rfl, rfl, rfl⟩ := H
 clear HH
 go_wp2
 refine bodyPost_ret (results_ct rfl _ _ g13 27 #[.int .i64 0, .int .i64 0, .bool false, .int .i64 0, .string (⟨#[]⟩ : ByteArray), .string (⟨#[]⟩ : ByteArray), .string (⟨#[]⟩ : ByteArray), .slice none 0 0] (0, 0) _ rfl BKg13.out Try.underlying27 rfl (by kernel_rfl)) rfl ?_
 exact ⟨_, by first | rfl | (simp; done) | (simp [*]; done), (Kd.N_nil _ _ _ _ _), HB.out⟩
end Go.Proofs.Ytdjkemhmhkpmkaa.GA
