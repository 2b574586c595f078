import Derived.Test.YtdjkemhmhkpmkaaGA0
import Derived.Test.YtdjkemhmhkpmkaaGM1
namespace Go.Proofs.Ytdjkemhmhkpmkaa.GA
open Go.RowKit Go.Proofs.Ytdjkemhmhkpmkaa Go.Proofs.Ytdjkemhmhkpmkaa.MW Go.Proofs.YtdjkemhmhkpmkaaW.PrintWords Go.Proofs.YtdjkemhmhkpmkaaW.PrintLast Go.Proofs.YtdjkemhmhkpmkaaW.PrintMore
attribute [local go_sem] max2_int min2_int max_two min_two
set_option linter.unusedVariables false
set_option linter.unusedSimpArgs false
/-! ### ber_take, ber_several: functions 49, 74 -/
mutual
def ber_take.f : Nat → ByteArray → Int → Int → Option (Int × Bool × Int × ByteArray × (List (S57)) × Int × Int)
 | 0, _, _, _ => none
 | k + 1, a0, a1, a2 => if a1 ≥ (a0.size : Int) then (some (0, false, 0, (⟨#[]⟩ : ByteArray), ([] : List (S57)), 0, 150)) else (if 0 ≤ a1 then (if a1 < (a0.size : Int) then (if (Go.bits .and .i64 (wrap64 (bt a0 a1)) 31) = 31 then (some (0, false, 0, (⟨#[]⟩ : ByteArray), ([] : List (S57)), 0, 151)) else ((ber_sized.f a0 (wrap64 (a1 + 1))).bind fun bt102 => (if bt102.2.2 = 0 then (if bt102.1 > (wrap64 ((a0.size : Int) - bt102.2.1)) then (some (0, false, 0, (⟨#[]⟩ : ByteArray), ([] : List (S57)), 0, 150)) else (if (wrap64 ((wrap64 (bt102.2.1 + bt102.1)) - a1)) > 4000 then (some (0, false, 0, (⟨#[]⟩ : ByteArray), ([] : List (S57)), 0, 3)) else (if 0 ≤ bt102.2.1 then (if bt102.2.1 ≤ (wrap64 (bt102.2.1 + bt102.1)) then (if (wrap64 (bt102.2.1 + bt102.1)) ≤ (a0.size : Int) then (if (Go.bits .and .i64 (wrap64 (bt a0 a1)) 32) = 0 then (some ((wrap64 (bt a0 a1)) / 64, false, Go.bits .and .i64 (wrap64 (bt a0 a1)) 31, a0.extract bt102.2.1.toNat (wrap64 (bt102.2.1 + bt102.1)).toNat, ([] : List (S57)), wrap64 (bt102.2.1 + bt102.1), 0)) else (if a2 = 1 then (if bt102.1 > 0 then (some (0, false, 0, (⟨#[]⟩ : ByteArray), ([] : List (S57)), 0, 153)) else ((ber_several.f k (a0.extract bt102.2.1.toNat (wrap64 (bt102.2.1 + bt102.1)).toNat) (wrap64 (a2 - 1))).bind fun bt259 => (if bt259.2 = 0 then (some ((wrap64 (bt a0 a1)) / 64, true, Go.bits .and .i64 (wrap64 (bt a0 a1)) 31, (⟨#[]⟩ : ByteArray), bt259.1, wrap64 (bt102.2.1 + bt102.1), 0)) else (some (0, false, 0, (⟨#[]⟩ : ByteArray), ([] : List (S57)), 0, bt259.2))))) else ((ber_several.f k (a0.extract bt102.2.1.toNat (wrap64 (bt102.2.1 + bt102.1)).toNat) (wrap64 (a2 - 1))).bind fun bt356 => (if bt356.2 = 0 then (some ((wrap64 (bt a0 a1)) / 64, true, Go.bits .and .i64 (wrap64 (bt a0 a1)) 31, (⟨#[]⟩ : ByteArray), bt356.1, wrap64 (bt102.2.1 + bt102.1), 0)) else (some (0, false, 0, (⟨#[]⟩ : ByteArray), ([] : List (S57)), 0, bt356.2)))))) else (none)) else (none)) else (none)))) else (some (0, false, 0, (⟨#[]⟩ : ByteArray), ([] : List (S57)), 0, bt102.2.2))))) else (none)) else (none))
def ber_several.l0 : Nat → (List (S57)) → Int → ByteArray → Int → Option ((List (S57)) × Int)
 | 0, _, _, _, _ => none
 | k + 1, x1, x4, a0, a1 => if x4 < (a0.size : Int) then ((ber_take.f k a0 x4 a1).bind fun bt10 => (if bt10.2.2.2.2.2.2 = 0 then (if x1.length < 2199023255552 then ((some (x1 ++ [(⟨bt10.1, bt10.2.1, bt10.2.2.1, bt10.2.2.2.1, bt10.2.2.2.2.1⟩ : S57)] : List (S57))).bind fun y53 => ((ber_several.l0 k y53 bt10.2.2.2.2.2.1 a0 a1))) else (none)) else (some (([] : List (S57)), bt10.2.2.2.2.2.2)))) else (some (x1, 0))
def ber_several.f : Nat → ByteArray → Int → Option ((List (S57)) × Int)
 | 0, _, _ => none
 | k + 1, a0, a1 => (ber_several.l0 k ([] : List (S57)) 0 a0 a1)
end
theorem ber_take.mono_l : ∀ k, (∀ y0 y1 y2, LeO (ber_take.f k y0 y1 y2) (ber_take.f (k + 1) y0 y1 y2)) ∧ (∀ y0 y1, LeO (ber_several.f k y0 y1) (ber_several.f (k + 1) y0 y1)) ∧ (∀ y0 y1 y2 y3, LeO (ber_several.l0 k y0 y1 y2 y3) (ber_several.l0 (k + 1) y0 y1 y2 y3))
 | 0 => ⟨fun _ _ _ r h => by simp [ber_take.f] at h, fun _ _ r h => by simp [ber_several.f] at h, fun _ _ _ _ r h => by simp [ber_several.l0] at h⟩
 | k + 1 => by
  obtain ⟨ih0, ih1, ih2⟩ := ber_take.mono_l k
  refine ⟨?_, ?_, ?_⟩
  ·intro y0 y1 y2
   unfold ber_take.f
   repeat' first
   | (with_reducible exact ih0 _ _ _)
   | (with_reducible exact ih1 _ _)
   | (with_reducible exact ih2 _ _ _ _)
   | (with_reducible exact LeO.refl _)
   | (with_reducible exact LeO.none _)
   | (with_reducible refine LeO.ite ?_ ?_)
   | (with_reducible refine LeO.bind ?_ (fun _ => ?_))
  ·intro y0 y1
   unfold ber_several.f
   repeat' first
   | (with_reducible exact ih0 _ _ _)
   | (with_reducible exact ih1 _ _)
   | (with_reducible exact ih2 _ _ _ _)
   | (with_reducible exact LeO.refl _)
   | (with_reducible exact LeO.none _)
   | (with_reducible refine LeO.ite ?_ ?_)
   | (with_reducible refine LeO.bind ?_ (fun _ => ?_))
  intro y0 y1 y2 y3
  unfold ber_several.l0
  repeat' first
  | (with_reducible exact ih0 _ _ _)
  | (with_reducible exact ih1 _ _)
  | (with_reducible exact ih2 _ _ _ _)
  | (with_reducible exact LeO.refl _)
  | (with_reducible exact LeO.none _)
  | (with_reducible refine LeO.ite ?_ ?_)
  | (with_reducible refine LeO.bind ?_ (fun _ => ?_))
theorem ber_take.mono : ∀ a0_ a1_ a2_ k, LeO (ber_take.f k a0_ a1_ a2_) (ber_take.f (k + 1) a0_ a1_ a2_) := by
 intro a0_ a1_ a2_ k
 obtain ⟨ih0, ih1, ih2⟩ := ber_take.mono_l k
 exact ih0 a0_ a1_ a2_
theorem ber_several.mono : ∀ a0_ a1_ k, LeO (ber_several.f k a0_ a1_) (ber_several.f (k + 1) a0_ a1_) := by
 intro a0_ a1_ k
 obtain ⟨ih0, ih1, ih2⟩ := ber_take.mono_l k
 exact ih1 a0_ a1_
set_option maxHeartbeats 8000000 in
set_option maxRecDepth 100000 in
theorem ber_take.group (k : Nat) : (∀ (a0 : ByteArray) (a1 : Int) (a2 : Int) (r1 : Int) (r2 : Bool) (r3 : Int) (r4 : ByteArray) (r5 : List (S57)) (r6 : Int) (r7 : Int) (w : World) (h : ber_take.f k a0 a1 a2 = some (r1, r2, r3, r4, r5, r6, r7)),
  Calls Try.prog 49 #[.string a0, .int .i64 a1, .int .i64 a2] w (fun e w' => ∃ v4_ : Value, e = .returned (.tuple #[.agg #[.int .i64 r1, .bool r2, .int .i64 r3, .string r4, v4_], .int .i64 r6, .int .i64 r7]) ∧ Kd.N k57 57 w' w.heap.size (fun k_ => w.heap.size ≤ k_) v4_ r5 ∧ Below w.heap.size w w')) ∧
  (∀ (a0 : ByteArray) (a1 : Int) (r1 : List (S57)) (r2 : Int) (w : World) (h : ber_several.f k a0 a1 = some (r1, r2)),
  Calls Try.prog 74 #[.string a0, .int .i64 a1] w (fun e w' => ∃ v0_ : Value, e = .returned (.tuple #[v0_, .int .i64 r2]) ∧ Kd.N k57 57 w' w.heap.size (fun k_ => w.heap.size ≤ k_) v0_ r1 ∧ Below w.heap.size w w')) := by
 induction k using Nat.strongRecOn with
 | _ k ih =>
 refine ⟨?_, ?_⟩
 ·intro a0 a1 a2 r1 r2 r3 r4 r5 r6 r7 w h
  cases k with
  | zero => exact absurd h (by simp [ber_take.f])
  | succ k1 =>
  simp only [ber_take.f] at h
  have HH := Aside0.mk h
  clear h
  have HB := Aside0.mk (Below.refl w.heap.size w)
  have hu57 := Try.underlying57
  go_enter Try.func49, Try.ntmps49
  go_wp2_with ((with_reducible refine gd 6 rfl ?_); refine zb 6 57 #[.int .i64 0, .bool false, .int .i64 0, .string (⟨#[]⟩ : ByteArray), .slice none 0 0] (h := ?_); intro g1 hg w2 BKg1 hb)
  refine Stop.go ?_
  have GEg1 := zge hg (below_size HB.out)
  replace HB := zhb HB.out hb
  clear hg hb
  obtain ⟨j3, j4, j5, j6, j7, j8, j9, ja, jb, jc⟩ := MB.lay5 BKg1.out
  replace HH := zqG HH
  rcases HH with ⟨HH, hk14⟩ | ⟨HH, hk26⟩
  ·go_wp2_with ((with_reducible refine gs 57 6 rfl ?_); refine zs 57 6 #[.int .i64 0, .bool false, .int .i64 0, .string (⟨#[]⟩ : ByteArray), .slice none 0 0] BKg1.out [.int .i64 0, .bool false, .int .i64 0, .string (⟨#[]⟩ : ByteArray), .slice none 0 0] (h := ?_); intro w15 hbk hg)
   refine Stop.go ?_
   replace HB := zhg HB.out hg (below_size HB.out) GEg1
   replace BKg1 := hbk
   clear hg hbk
   clear j3 j4 j5 j6 j7 j8 j9 ja jb jc
   obtain ⟨jg, jh, ji, jj, jk, jl, jm, jn, jo, jp⟩ := MB.lay5 BKg1.out
   have H := HH.out
   simp only [Option.some.injEq, Prod.mk.injEq] at H
   obtain ⟨rfl, rfl, rfl, rfl, rfl, rfl, rfl⟩ := H
   clear HH
   go_wp2
   refine bodyPost_ret (results_ctt rfl _ _ g1 57 #[.int .i64 0, .bool false, .int .i64 0, .string (⟨#[]⟩ : ByteArray), .slice none 0 0] (0, 0) _ rfl BKg1.out Try.underlying57 rfl (by kernel_rfl)) rfl ?_
   exact ⟨_, by first | rfl | (simp; done) | (simp [*]; done), (Kd.N_nil _ _ _ _ _), HB.out⟩
  replace HH := zqdo HH
  obtain ⟨HH, hk28⟩ := HH
  replace HH := zqto HH
  obtain ⟨HH, hk30, hk31⟩ := HH
  have p32 : 0 ≤ (a1 : Int) := of_decide_eq_true (by first | (with_reducible assumption) | assumption)
  have q32 : a1 < (a0.size : Int) := of_decide_eq_true (by first | (with_reducible assumption) | assumption)
  have hx32 := MW.bt_at' a0 a1
  replace p32 := eq_true p32
  replace q32 := eq_true q32
  go_wp2_with ((with_reducible refine gd 10 rfl ?_); refine zb 10 57 #[.int .i64 0, .bool false, .int .i64 0, .string (⟨#[]⟩ : ByteArray), .slice none 0 0] (h := ?_); intro g33 hg w34 BKg33 hb)
  refine Stop.go ?_
  have GEg33 := zge hg (below_size HB.out)
  have NEg1_g33 := znq hg BKg1.out
  have NEg33_g1 := zsy NEg1_g33
  replace BKg1 := zbb BKg1.out hb
  replace HB := zhb HB.out hb
  clear hg hb
  clear j3 j4 j5 j6 j7 j8 j9 ja jb jc
  obtain ⟨jz, jA, jB, jC, jD, jE, jF, jG, jH, jI⟩ := MB.lay5 BKg1.out
  obtain ⟨jJ, jK, jL, jM, jN, jO, jP, jQ, jR, jS⟩ := MB.lay5 BKg33.out
  go_wp2_with ((with_reducible refine gs 57 10 rfl ?_); refine zs 57 10 #[.int .i64 ((wrap64 (bt a0 a1)) / 64), .bool ((Go.bits .and .i64 (wrap64 (bt a0 a1)) 32) != 0), .int .i64 (Go.bits .and .i64 (wrap64 (bt a0 a1)) 31), .string (⟨#[]⟩ : ByteArray), .slice none 0 0] BKg33.out [.int .i64 ((wrap64 (bt a0 a1)) / 64), .bool ((Go.bits .and .i64 (wrap64 (bt a0 a1)) 32) != 0), .int .i64 (Go.bits .and .i64 (wrap64 (bt a0 a1)) 31), .string (⟨#[]⟩ : ByteArray), .slice none 0 0] (h := ?_); intro w55 hbk hg)
  refine Stop.go ?_
  replace BKg1 := zbg BKg1.out hg NEg1_g33
  replace HB := zhg HB.out hg (below_size HB.out) GEg33
  replace BKg33 := hbk
  clear hg hbk
  clear jz jA jB jC jD jE jF jG jH jI jJ jK jL jM jN jO jP jQ jR jS
  obtain ⟨jU, jV, jW, jX, jY, jZ, j10, j11, j12, j13⟩ := MB.lay5 BKg1.out
  obtain ⟨j14, j15, j16, j17, j18, j19, j1a, j1b, j1c, j1d⟩ := MB.lay5 BKg33.out
  replace HH := zqe HH
  rcases HH with ⟨HH, hk77, hk78⟩ | ⟨HH, hk100, hk101⟩
  ·go_wp2_with ((with_reducible refine gs 57 6 rfl ?_); refine zs 57 6 #[.int .i64 0, .bool false, .int .i64 0, .string (⟨#[]⟩ : ByteArray), .slice none 0 0] BKg1.out [.int .i64 0, .bool false, .int .i64 0, .string (⟨#[]⟩ : ByteArray), .slice none 0 0] (h := ?_); intro w79 hbk hg)
   refine Stop.go ?_
   replace BKg33 := zbg BKg33.out hg NEg33_g1
   replace HB := zhg HB.out hg (below_size HB.out) GEg1
   replace BKg1 := hbk
   clear hg hbk
   clear jU jV jW jX jY jZ j10 j11 j12 j13 j14 j15 j16 j17 j18 j19 j1a j1b j1c j1d
   obtain ⟨j1i, j1j, j1k, j1l, j1m, j1n, j1o, j1p, j1q, j1r⟩ := MB.lay5 BKg1.out
   obtain ⟨j1s, j1t, j1u, j1v, j1w, j1x, j1y, j1z, j1A, j1B⟩ := MB.lay5 BKg33.out
   have H := HH.out
   simp only [Option.some.injEq, Prod.mk.injEq] at H
   obtain ⟨rfl, rfl, rfl, rfl, rfl, rfl, rfl⟩ := H
   clear HH
   go_wp2
   refine bodyPost_ret (results_ctt rfl _ _ g1 57 #[.int .i64 0, .bool false, .int .i64 0, .string (⟨#[]⟩ : ByteArray), .slice none 0 0] (0, 0) _ rfl BKg1.out Try.underlying57 rfl (by kernel_rfl)) rfl ?_
   exact ⟨_, by first | rfl | (simp; done) | (simp [*]; done), (Kd.N_nil _ _ _ _ _), HB.out⟩
  replace HH := zd HH
  obtain ⟨⟨t102, t103, t104⟩, At105, HH⟩ := HH
  dsimp only at HH
  go_wp2_with ((with_reducible refine gc 73 rfl ?_); refine zc 73 (some 41) Try.func73 #[.string a0, .int .i64 (wrap64 (a1 + 1))] (h := ?_); (with_reducible refine (ber_sized.calls  a0 (wrap64 (a1 + 1)) t102 t103 t104 _  At105.out).mono ?_); rintro e w106 ⟨rfl, hb⟩; refine ⟨_, rfl, ?_⟩)
  refine Stop.go ?_
  replace BKg1 := zbb BKg1.out hb
  replace BKg33 := zbb BKg33.out hb
  replace HB := zhb HB.out hb
  clear hb
  clear jU jV jW jX jY jZ j10 j11 j12 j13 j14 j15 j16 j17 j18 j19 j1a j1b j1c j1d
  obtain ⟨j1J, j1K, j1L, j1M, j1N, j1O, j1P, j1Q, j1R, j1S⟩ := MB.lay5 BKg1.out
  obtain ⟨j1T, j1U, j1V, j1W, j1X, j1Y, j1Z, j20, j21, j22⟩ := MB.lay5 BKg33.out
  replace HH := zqe HH
  rcases HH with ⟨HH, hk128, hk129⟩ | ⟨HH, hk454, hk455⟩
  ·replace HH := zqg HH
   rcases HH with ⟨HH, hk131⟩ | ⟨HH, hk153⟩
   ·go_wp2_with ((with_reducible refine gs 57 6 rfl ?_); refine zs 57 6 #[.int .i64 0, .bool false, .int .i64 0, .string (⟨#[]⟩ : ByteArray), .slice none 0 0] BKg1.out [.int .i64 0, .bool false, .int .i64 0, .string (⟨#[]⟩ : ByteArray), .slice none 0 0] (h := ?_); intro w132 hbk hg)
    refine Stop.go ?_
    replace BKg33 := zbg BKg33.out hg NEg33_g1
    replace HB := zhg HB.out hg (below_size HB.out) GEg1
    replace BKg1 := hbk
    clear hg hbk
    clear j1J j1K j1L j1M j1N j1O j1P j1Q j1R j1S j1T j1U j1V j1W j1X j1Y j1Z j20 j21 j22
    obtain ⟨j29, j2a, j2b, j2c, j2d, j2e, j2f, j2g, j2h, j2i⟩ := MB.lay5 BKg1.out
    obtain ⟨j2j, j2k, j2l, j2m, j2n, j2o, j2p, j2q, j2r, j2s⟩ := MB.lay5 BKg33.out
    have H := HH.out
    simp only [Option.some.injEq, Prod.mk.injEq] at H
    obtain ⟨rfl, rfl, rfl, rfl, rfl, rfl, rfl⟩ := H
    clear HH
    go_wp2
    refine bodyPost_ret (results_ctt rfl _ _ g1 57 #[.int .i64 0, .bool false, .int .i64 0, .string (⟨#[]⟩ : ByteArray), .slice none 0 0] (0, 0) _ rfl BKg1.out Try.underlying57 rfl (by kernel_rfl)) rfl ?_
    exact ⟨_, by first | rfl | (simp; done) | (simp [*]; done), (Kd.N_nil _ _ _ _ _), HB.out⟩
   replace HH := zqg HH
   rcases HH with ⟨HH, hk155⟩ | ⟨HH, hk177⟩
   ·go_wp2_with ((with_reducible refine gs 57 6 rfl ?_); refine zs 57 6 #[.int .i64 0, .bool false, .int .i64 0, .string (⟨#[]⟩ : ByteArray), .slice none 0 0] BKg1.out [.int .i64 0, .bool false, .int .i64 0, .string (⟨#[]⟩ : ByteArray), .slice none 0 0] (h := ?_); intro w156 hbk hg)
    refine Stop.go ?_
    replace BKg33 := zbg BKg33.out hg NEg33_g1
    replace HB := zhg HB.out hg (below_size HB.out) GEg1
    replace BKg1 := hbk
    clear hg hbk
    clear j1J j1K j1L j1M j1N j1O j1P j1Q j1R j1S j1T j1U j1V j1W j1X j1Y j1Z j20 j21 j22
    obtain ⟨j2x, j2y, j2z, j2A, j2B, j2C, j2D, j2E, j2F, j2G⟩ := MB.lay5 BKg1.out
    obtain ⟨j2H, j2I, j2J, j2K, j2L, j2M, j2N, j2O, j2P, j2Q⟩ := MB.lay5 BKg33.out
    have H := HH.out
    simp only [Option.some.injEq, Prod.mk.injEq] at H
    obtain ⟨rfl, rfl, rfl, rfl, rfl, rfl, rfl⟩ := H
    clear HH
    go_wp2
    refine bodyPost_ret (results_ctt rfl _ _ g1 57 #[.int .i64 0, .bool false, .int .i64 0, .string (⟨#[]⟩ : ByteArray), .slice none 0 0] (0, 0) _ rfl BKg1.out Try.underlying57 rfl (by kernel_rfl)) rfl ?_
    exact ⟨_, by first | rfl | (simp; done) | (simp [*]; done), (Kd.N_nil _ _ _ _ _), HB.out⟩
   replace HH := zqdo HH
   obtain ⟨HH, hk179⟩ := HH
   replace HH := zqdo HH
   obtain ⟨HH, hk181⟩ := HH
   replace HH := zqdo HH
   obtain ⟨HH, hk183⟩ := HH
   have hmx184 : max ((wrap64 (t103 + t102)) : Int) 0 = ((wrap64 (t103 + t102)) : Int) := Int.max_eq_left (Int.le_trans (by first | exact Int.natCast_nonneg _ | exact (of_decide_eq_true (by first | (with_reducible assumption) | assumption | (simp; done)) : 0 ≤ (t103 : Int))) (by first | exact Int.le_refl _ | exact (of_decide_eq_true (by first | (with_reducible assumption) | assumption | (simp; done)) : (t103 : Int) ≤ ((wrap64 (t103 + t102)) : Int))))
   have hh0184 : (0 ≤ ((wrap64 (t103 + t102)) : Int)) = True := eq_true (Int.le_trans (by first | exact Int.natCast_nonneg _ | exact (of_decide_eq_true (by first | (with_reducible assumption) | assumption | (simp; done)) : 0 ≤ (t103 : Int))) (by first | exact Int.le_refl _ | exact (of_decide_eq_true (by first | (with_reducible assumption) | assumption | (simp; done)) : (t103 : Int) ≤ ((wrap64 (t103 + t102)) : Int))))
   have hh1184 : ((t103 : Int) ≤ ((wrap64 (t103 + t102)) : Int)) = True := eq_true (by first | exact Int.le_refl _ | exact (of_decide_eq_true (by first | (with_reducible assumption) | assumption | (simp; done)) : (t103 : Int) ≤ ((wrap64 (t103 + t102)) : Int)))
   have hh2184 : (0 ≤ (t103 : Int)) = True := eq_true (by first | exact Int.natCast_nonneg _ | exact (of_decide_eq_true (by first | (with_reducible assumption) | assumption | (simp; done)) : 0 ≤ (t103 : Int)))
   have hh3184 : (((wrap64 (t103 + t102)) : Int) ≤ (a0.size : Int)) = True := eq_true (of_decide_eq_true (by first | (with_reducible assumption) | assumption | (simp; done)) : ((wrap64 (t103 + t102)) : Int) ≤ (a0.size : Int))
   replace HH := zqe HH
   rcases HH with ⟨HH, hk186, hk187⟩ | ⟨HH, hk230, hk231⟩
   ·go_wp2_with ((with_reducible refine gs 9 76 rfl ?_); refine zs 9 76 #[.int .i64 ((wrap64 (bt a0 a1)) / 64), .bool ((Go.bits .and .i64 (wrap64 (bt a0 a1)) 32) != 0), .int .i64 (Go.bits .and .i64 (wrap64 (bt a0 a1)) 31), .string (a0.extract t103.toNat (wrap64 (t103 + t102)).toNat), .slice none 0 0] BKg33.out [.string (a0.extract t103.toNat (wrap64 (t103 + t102)).toNat)] (h := ?_); intro w188 hbk hg)
    refine Stop.go ?_
    replace BKg1 := zbg BKg1.out hg NEg1_g33
    replace HB := zhg HB.out hg (below_size HB.out) GEg33
    replace BKg33 := hbk
    clear hg hbk
    clear j1J j1K j1L j1M j1N j1O j1P j1Q j1R j1S j1T j1U j1V j1W j1X j1Y j1Z j20 j21 j22 hmx184 hh0184 hh1184 hh2184 hh3184
    obtain ⟨j33, j34, j35, j36, j37, j38, j39, j3a, j3b, j3c⟩ := MB.lay5 BKg1.out
    obtain ⟨j3d, j3e, j3f, j3g, j3h, j3i, j3j, j3k, j3l, j3m⟩ := MB.lay5 BKg33.out
    go_wp2_with ((with_reducible refine gs 57 6 rfl ?_); refine zs 57 6 #[.int .i64 ((wrap64 (bt a0 a1)) / 64), .bool false, .int .i64 (Go.bits .and .i64 (wrap64 (bt a0 a1)) 31), .string (a0.extract t103.toNat (wrap64 (t103 + t102)).toNat), .slice none 0 0] BKg1.out [.int .i64 ((wrap64 (bt a0 a1)) / 64), .bool false, .int .i64 (Go.bits .and .i64 (wrap64 (bt a0 a1)) 31), .string (a0.extract t103.toNat (wrap64 (t103 + t102)).toNat), .slice none 0 0] (h := ?_); intro w209 hbk hg)
    refine Stop.go ?_
    replace BKg33 := zbg BKg33.out hg NEg33_g1
    replace HB := zhg HB.out hg (below_size HB.out) GEg1
    replace BKg1 := hbk
    clear hg hbk
    clear j33 j34 j35 j36 j37 j38 j39 j3a j3b j3c j3d j3e j3f j3g j3h j3i j3j j3k j3l j3m
    obtain ⟨j3o, j3p, j3q, j3r, j3s, j3t, j3u, j3v, j3w, j3x⟩ := MB.lay5 BKg1.out
    obtain ⟨j3y, j3z, j3A, j3B, j3C, j3D, j3E, j3F, j3G, j3H⟩ := MB.lay5 BKg33.out
    have H := HH.out
    simp only [Option.some.injEq, Prod.mk.injEq] at H
    obtain ⟨rfl, rfl, rfl, rfl, rfl, rfl, rfl⟩ := H
    clear HH
    go_wp2
    refine bodyPost_ret (results_ctt rfl _ _ g1 57 #[.int .i64 ((wrap64 (bt a0 a1)) / 64), .bool false, .int .i64 (Go.bits .and .i64 (wrap64 (bt a0 a1)) 31), .string (a0.extract t103.toNat (wrap64 (t103 + t102)).toNat), .slice none 0 0] (0, 0) _ rfl BKg1.out Try.underlying57 rfl (by kernel_rfl)) rfl ?_
    exact ⟨_, by first | rfl | (simp; done) | (simp [*]; done), (Kd.N_nil _ _ _ _ _), HB.out⟩
   replace HH := zqe HH
   rcases HH with ⟨HH, hk233, hk234⟩ | ⟨HH, hk354, hk355⟩
   ·replace HH := zqg HH
    rcases HH with ⟨HH, hk236⟩ | ⟨HH, hk258⟩
    ·go_wp2_with ((with_reducible refine gs 57 6 rfl ?_); refine zs 57 6 #[.int .i64 0, .bool false, .int .i64 0, .string (⟨#[]⟩ : ByteArray), .slice none 0 0] BKg1.out [.int .i64 0, .bool false, .int .i64 0, .string (⟨#[]⟩ : ByteArray), .slice none 0 0] (h := ?_); intro w237 hbk hg)
     refine Stop.go ?_
     replace BKg33 := zbg BKg33.out hg NEg33_g1
     replace HB := zhg HB.out hg (below_size HB.out) GEg1
     replace BKg1 := hbk
     clear hg hbk
     clear j1J j1K j1L j1M j1N j1O j1P j1Q j1R j1S j1T j1U j1V j1W j1X j1Y j1Z j20 j21 j22 hmx184 hh0184 hh1184 hh2184 hh3184
     obtain ⟨j3Q, j3R, j3S, j3T, j3U, j3V, j3W, j3X, j3Y, j3Z⟩ := MB.lay5 BKg1.out
     obtain ⟨j40, j41, j42, j43, j44, j45, j46, j47, j48, j49⟩ := MB.lay5 BKg33.out
     have H := HH.out
     simp only [Option.some.injEq, Prod.mk.injEq] at H
     obtain ⟨rfl, rfl, rfl, rfl, rfl, rfl, rfl⟩ := H
     clear HH
     go_wp2
     refine bodyPost_ret (results_ctt rfl _ _ g1 57 #[.int .i64 0, .bool false, .int .i64 0, .string (⟨#[]⟩ : ByteArray), .slice none 0 0] (0, 0) _ rfl BKg1.out Try.underlying57 rfl (by kernel_rfl)) rfl ?_
     exact ⟨_, by first | rfl | (simp; done) | (simp [*]; done), (Kd.N_nil _ _ _ _ _), HB.out⟩
    replace HH := zd HH
    obtain ⟨⟨t259, t260⟩, At261, HH⟩ := HH
    dsimp only at HH
    go_wp2_with ((with_reducible refine gc 74 rfl ?_); refine zc 74 (some 92) Try.func74 #[.string (a0.extract t103.toNat (wrap64 (t103 + t102)).toNat), .int .i64 (wrap64 (a2 - 1))] (h := ?_); (with_reducible refine ((ih k1 (by omega)).2  (a0.extract t103.toNat (wrap64 (t103 + t102)).toNat) (wrap64 (a2 - 1)) t259 t260 _  At261.out).mono ?_); rintro e w262 ⟨v263, rfl, hn263, hb⟩; refine ⟨_, rfl, ?_⟩)
    refine Stop.go ?_
    have hba := Kd.N_base hn263
    have HN263 := znl (ok2 := (fun k_ => ((w.heap.size ≤ k_) ∧ k_ ≠ g1) ∧ k_ ≠ g33)) hn263 (below_size HB.out) (fun k_ h_ => ⟨⟨(Nat.le_trans (below_size HB.out) h_), Kd.freshB (g := g1) BKg1.out k_ h_⟩, Kd.freshB (g := g33) BKg33.out k_ h_⟩)
    replace BKg1 := zbb BKg1.out hb
    replace BKg33 := zbb BKg33.out hb
    replace HB := zhb HB.out hb
    clear hn263 hba hb
    clear j1J j1K j1L j1M j1N j1O j1P j1Q j1R j1S j1T j1U j1V j1W j1X j1Y j1Z j20 j21 j22 hmx184 hh0184 hh1184 hh2184 hh3184
    obtain ⟨j4g, j4h, j4i, j4j, j4k, j4l, j4m, j4n, j4o, j4p⟩ := MB.lay5 BKg1.out
    obtain ⟨j4q, j4r, j4s, j4t, j4u, j4v, j4w, j4x, j4y, j4z⟩ := MB.lay5 BKg33.out
    replace HH := zqe HH
    rcases HH with ⟨HH, hk285, hk286⟩ | ⟨HH, hk331, hk332⟩
    ·obtain ⟨A288, cp289, he_⟩ := Kd.N_slice HN263.out
     subst he_
     go_wp2_with ((with_reducible refine gs 55 100 rfl ?_); refine zs 55 100 #[.int .i64 ((wrap64 (bt a0 a1)) / 64), .bool ((Go.bits .and .i64 (wrap64 (bt a0 a1)) 32) != 0), .int .i64 (Go.bits .and .i64 (wrap64 (bt a0 a1)) 31), .string (⟨#[]⟩ : ByteArray), (.slice A288 t259.length cp289)] BKg33.out [(.slice A288 t259.length cp289)] (h := ?_); intro w287 hbk hg)
     refine Stop.go ?_
     replace HN263 := zng HN263.out hg fun k_ hk_ => hk_.2
     replace BKg1 := zbg BKg1.out hg NEg1_g33
     replace HB := zhg HB.out hg (below_size HB.out) GEg33
     replace BKg33 := hbk
     clear hg hbk
     clear j4g j4h j4i j4j j4k j4l j4m j4n j4o j4p j4q j4r j4s j4t j4u j4v j4w j4x j4y j4z
     obtain ⟨j4G, j4H, j4I, j4J, j4K, j4L, j4M, j4N, j4O, j4P⟩ := MB.lay5 BKg1.out
     obtain ⟨j4Q, j4R, j4S, j4T, j4U, j4V, j4W, j4X, j4Y, j4Z⟩ := MB.lay5 BKg33.out
     go_wp2_with ((with_reducible refine gs 57 6 rfl ?_); refine zs 57 6 #[.int .i64 ((wrap64 (bt a0 a1)) / 64), .bool true, .int .i64 (Go.bits .and .i64 (wrap64 (bt a0 a1)) 31), .string (⟨#[]⟩ : ByteArray), (.slice A288 t259.length cp289)] BKg1.out [.int .i64 ((wrap64 (bt a0 a1)) / 64), .bool true, .int .i64 (Go.bits .and .i64 (wrap64 (bt a0 a1)) 31), .string (⟨#[]⟩ : ByteArray), (.slice A288 t259.length cp289)] (h := ?_); intro w310 hbk hg)
     refine Stop.go ?_
     replace HN263 := zng HN263.out hg fun k_ hk_ => hk_.1.2
     replace BKg33 := zbg BKg33.out hg NEg33_g1
     replace HB := zhg HB.out hg (below_size HB.out) GEg1
     replace BKg1 := hbk
     clear hg hbk
     clear j4G j4H j4I j4J j4K j4L j4M j4N j4O j4P j4Q j4R j4S j4T j4U j4V j4W j4X j4Y j4Z
     obtain ⟨j51, j52, j53, j54, j55, j56, j57, j58, j59, j5a⟩ := MB.lay5 BKg1.out
     obtain ⟨j5b, j5c, j5d, j5e, j5f, j5g, j5h, j5i, j5j, j5k⟩ := MB.lay5 BKg33.out
     have H := HH.out
     simp only [Option.some.injEq, Prod.mk.injEq] at H
     obtain ⟨rfl, rfl, rfl, rfl, rfl, rfl, rfl⟩ := H
     clear HH
     go_wp2
     refine bodyPost_ret (results_ctt rfl _ _ g1 57 #[.int .i64 ((wrap64 (bt a0 a1)) / 64), .bool true, .int .i64 (Go.bits .and .i64 (wrap64 (bt a0 a1)) 31), .string (⟨#[]⟩ : ByteArray), (.slice A288 t259.length cp289)] (0, 0) _ rfl BKg1.out Try.underlying57 rfl (by kernel_rfl)) rfl ?_
     exact ⟨_, by first | rfl | (simp; done) | (simp [*]; done), (Kd.N_mono (ok := (fun k_ => ((w.heap.size ≤ k_) ∧ k_ ≠ g1) ∧ k_ ≠ g33)) HN263.out (fun k_ hk_ => hk_.1.1)), HB.out⟩
    go_wp2_with ((with_reducible refine gs 57 6 rfl ?_); refine zs 57 6 #[.int .i64 0, .bool false, .int .i64 0, .string (⟨#[]⟩ : ByteArray), .slice none 0 0] BKg1.out [.int .i64 0, .bool false, .int .i64 0, .string (⟨#[]⟩ : ByteArray), .slice none 0 0] (h := ?_); intro w333 hbk hg)
    refine Stop.go ?_
    replace BKg33 := zbg BKg33.out hg NEg33_g1
    replace HB := zhg HB.out hg (below_size HB.out) GEg1
    replace BKg1 := hbk
    clear hg hbk
    clear j4g j4h j4i j4j j4k j4l j4m j4n j4o j4p j4q j4r j4s j4t j4u j4v j4w j4x j4y j4z
    obtain ⟨j5o, j5p, j5q, j5r, j5s, j5t, j5u, j5v, j5w, j5x⟩ := MB.lay5 BKg1.out
    obtain ⟨j5y, j5z, j5A, j5B, j5C, j5D, j5E, j5F, j5G, j5H⟩ := MB.lay5 BKg33.out
    have H := HH.out
    simp only [Option.some.injEq, Prod.mk.injEq] at H
    obtain ⟨rfl, rfl, rfl, rfl, rfl, rfl, rfl⟩ := H
    clear HH
    go_wp2
    refine bodyPost_ret (results_ctt rfl _ _ g1 57 #[.int .i64 0, .bool false, .int .i64 0, .string (⟨#[]⟩ : ByteArray), .slice none 0 0] (0, 0) _ rfl BKg1.out Try.underlying57 rfl (by kernel_rfl)) rfl ?_
    exact ⟨_, by first | rfl | (simp; done) | (simp [*]; done), (Kd.N_nil _ _ _ _ _), HB.out⟩
   replace HH := zd HH
   obtain ⟨⟨t356, t357⟩, At358, HH⟩ := HH
   dsimp only at HH
   go_wp2_with ((with_reducible refine gc 74 rfl ?_); refine zc 74 (some 92) Try.func74 #[.string (a0.extract t103.toNat (wrap64 (t103 + t102)).toNat), .int .i64 (wrap64 (a2 - 1))] (h := ?_); (with_reducible refine ((ih k1 (by omega)).2  (a0.extract t103.toNat (wrap64 (t103 + t102)).toNat) (wrap64 (a2 - 1)) t356 t357 _  At358.out).mono ?_); rintro e w359 ⟨v360, rfl, hn360, hb⟩; refine ⟨_, rfl, ?_⟩)
   refine Stop.go ?_
   have hba := Kd.N_base hn360
   have HN360 := znl (ok2 := (fun k_ => ((w.heap.size ≤ k_) ∧ k_ ≠ g1) ∧ k_ ≠ g33)) hn360 (below_size HB.out) (fun k_ h_ => ⟨⟨(Nat.le_trans (below_size HB.out) h_), Kd.freshB (g := g1) BKg1.out k_ h_⟩, Kd.freshB (g := g33) BKg33.out k_ h_⟩)
   replace BKg1 := zbb BKg1.out hb
   replace BKg33 := zbb BKg33.out hb
   replace HB := zhb HB.out hb
   clear hn360 hba hb
   clear j1J j1K j1L j1M j1N j1O j1P j1Q j1R j1S j1T j1U j1V j1W j1X j1Y j1Z j20 j21 j22 hmx184 hh0184 hh1184 hh2184 hh3184
   obtain ⟨j5P, j5Q, j5R, j5S, j5T, j5U, j5V, j5W, j5X, j5Y⟩ := MB.lay5 BKg1.out
   obtain ⟨j5Z, j60, j61, j62, j63, j64, j65, j66, j67, j68⟩ := MB.lay5 BKg33.out
   replace HH := zqe HH
   rcases HH with ⟨HH, hk382, hk383⟩ | ⟨HH, hk428, hk429⟩
   ·obtain ⟨A385, cp386, he_⟩ := Kd.N_slice HN360.out
    subst he_
    go_wp2_with ((with_reducible refine gs 55 100 rfl ?_); refine zs 55 100 #[.int .i64 ((wrap64 (bt a0 a1)) / 64), .bool ((Go.bits .and .i64 (wrap64 (bt a0 a1)) 32) != 0), .int .i64 (Go.bits .and .i64 (wrap64 (bt a0 a1)) 31), .string (⟨#[]⟩ : ByteArray), (.slice A385 t356.length cp386)] BKg33.out [(.slice A385 t356.length cp386)] (h := ?_); intro w384 hbk hg)
    refine Stop.go ?_
    replace HN360 := zng HN360.out hg fun k_ hk_ => hk_.2
    replace BKg1 := zbg BKg1.out hg NEg1_g33
    replace HB := zhg HB.out hg (below_size HB.out) GEg33
    replace BKg33 := hbk
    clear hg hbk
    clear j5P j5Q j5R j5S j5T j5U j5V j5W j5X j5Y j5Z j60 j61 j62 j63 j64 j65 j66 j67 j68
    obtain ⟨j6f, j6g, j6h, j6i, j6j, j6k, j6l, j6m, j6n, j6o⟩ := MB.lay5 BKg1.out
    obtain ⟨j6p, j6q, j6r, j6s, j6t, j6u, j6v, j6w, j6x, j6y⟩ := MB.lay5 BKg33.out
    go_wp2_with ((with_reducible refine gs 57 6 rfl ?_); refine zs 57 6 #[.int .i64 ((wrap64 (bt a0 a1)) / 64), .bool true, .int .i64 (Go.bits .and .i64 (wrap64 (bt a0 a1)) 31), .string (⟨#[]⟩ : ByteArray), (.slice A385 t356.length cp386)] BKg1.out [.int .i64 ((wrap64 (bt a0 a1)) / 64), .bool true, .int .i64 (Go.bits .and .i64 (wrap64 (bt a0 a1)) 31), .string (⟨#[]⟩ : ByteArray), (.slice A385 t356.length cp386)] (h := ?_); intro w407 hbk hg)
    refine Stop.go ?_
    replace HN360 := zng HN360.out hg fun k_ hk_ => hk_.1.2
    replace BKg33 := zbg BKg33.out hg NEg33_g1
    replace HB := zhg HB.out hg (below_size HB.out) GEg1
    replace BKg1 := hbk
    clear hg hbk
    clear j6f j6g j6h j6i j6j j6k j6l j6m j6n j6o j6p j6q j6r j6s j6t j6u j6v j6w j6x j6y
    obtain ⟨j6A, j6B, j6C, j6D, j6E, j6F, j6G, j6H, j6I, j6J⟩ := MB.lay5 BKg1.out
    obtain ⟨j6K, j6L, j6M, j6N, j6O, j6P, j6Q, j6R, j6S, j6T⟩ := MB.lay5 BKg33.out
    have H := HH.out
    simp only [Option.some.injEq, Prod.mk.injEq] at H
    obtain ⟨rfl, rfl, rfl, rfl, rfl, rfl, rfl⟩ := H
    clear HH
    go_wp2
    refine bodyPost_ret (results_ctt rfl _ _ g1 57 #[.int .i64 ((wrap64 (bt a0 a1)) / 64), .bool true, .int .i64 (Go.bits .and .i64 (wrap64 (bt a0 a1)) 31), .string (⟨#[]⟩ : ByteArray), (.slice A385 t356.length cp386)] (0, 0) _ rfl BKg1.out Try.underlying57 rfl (by kernel_rfl)) rfl ?_
    exact ⟨_, by first | rfl | (simp; done) | (simp [*]; done), (Kd.N_mono (ok := (fun k_ => ((w.heap.size ≤ k_) ∧ k_ ≠ g1) ∧ k_ ≠ g33)) HN360.out (fun k_ hk_ => hk_.1.1)), HB.out⟩
   go_wp2_with ((with_reducible refine gs 57 6 rfl ?_); refine zs 57 6 #[.int .i64 0, .bool false, .int .i64 0, .string (⟨#[]⟩ : ByteArray), .slice none 0 0] BKg1.out [.int .i64 0, .bool false, .int .i64 0, .string (⟨#[]⟩ : ByteArray), .slice none 0 0] (h := ?_); intro w430 hbk hg)
   refine Stop.go ?_
   replace BKg33 := zbg BKg33.out hg NEg33_g1
   replace HB := zhg HB.out hg (below_size HB.out) GEg1
   replace BKg1 := hbk
   clear hg hbk
   clear j5P j5Q j5R j5S j5T j5U j5V j5W j5X j5Y j5Z j60 j61 j62 j63 j64 j65 j66 j67 j68
   obtain ⟨j6X, j6Y, j6Z, j70, j71, j72, j73, j74, j75, j76⟩ := MB.lay5 BKg1.out
   obtain ⟨j77, j78, j79, j7a, j7b, j7c, j7d, j7e, j7f, j7g⟩ := MB.lay5 BKg33.out
   have H := HH.out
   simp only [Option.some.injEq, Prod.mk.injEq] at H
   obtain ⟨rfl, rfl, rfl, rfl, rfl, rfl, rfl⟩ := H
   clear HH
   go_wp2
   refine bodyPost_ret (results_ctt rfl _ _ g1 57 #[.int .i64 0, .bool false, .int .i64 0, .string (⟨#[]⟩ : ByteArray), .slice none 0 0] (0, 0) _ rfl BKg1.out Try.underlying57 rfl (by kernel_rfl)) rfl ?_
   exact ⟨_, by first | rfl | (simp; done) | (simp [*]; done), (Kd.N_nil _ _ _ _ _), HB.out⟩
  go_wp2_with ((with_reducible refine gs 57 6 rfl ?_); refine zs 57 6 #[.int .i64 0, .bool false, .int .i64 0, .string (⟨#[]⟩ : ByteArray), .slice none 0 0] BKg1.out [.int .i64 0, .bool false, .int .i64 0, .string (⟨#[]⟩ : ByteArray), .slice none 0 0] (h := ?_); intro w456 hbk hg)
  refine Stop.go ?_
  replace BKg33 := zbg BKg33.out hg NEg33_g1
  replace HB := zhg HB.out hg (below_size HB.out) GEg1
  replace BKg1 := hbk
  clear hg hbk
  clear j1J j1K j1L j1M j1N j1O j1P j1Q j1R j1S j1T j1U j1V j1W j1X j1Y j1Z j20 j21 j22
  obtain ⟨j7n, j7o, j7p, j7q, j7r, j7s, j7t, j7u, j7v, j7w⟩ := MB.lay5 BKg1.out
  obtain ⟨j7x, j7y, j7z, j7A, j7B, j7C, j7D, j7E, j7F, j7G⟩ := MB.lay5 BKg33.out
  have H := HH.out
  simp only [Option.some.injEq, Prod.mk.injEq] at H
  obtain ⟨rfl, rfl, rfl, rfl, rfl, rfl, rfl⟩ := H
  clear HH
  go_wp2
  refine bodyPost_ret (results_ctt rfl _ _ g1 57 #[.int .i64 0, .bool false, .int .i64 0, .string (⟨#[]⟩ : ByteArray), .slice none 0 0] (0, 0) _ rfl BKg1.out Try.underlying57 rfl (by kernel_rfl)) rfl ?_
  exact ⟨_, by first | rfl | (simp; done) | (simp [*]; done), (Kd.N_nil _ _ _ _ _), HB.out⟩
 intro a0 a1 r1 r2 w h
 cases k with
 | zero => exact absurd h (by simp [ber_several.f])
 | succ k1 =>
 simp only [ber_several.f] at h
 have HH := Aside0.mk h
 clear h
 have HB := Aside0.mk (Below.refl w.heap.size w)
 have hu57 := Try.underlying57
 go_enter Try.func74, Try.ntmps74
 go_wp2
 go_loopg [6, 7] k1 (fun kq u6 u7 w' => ∃ (x1 : List (S57)) (x4 : Int), u7 = .int .i64 x4 ∧ Aside0 ((ber_several.l0 kq x1 x4 a0 a1) = some (r1, r2)) ∧ Aside0 (kq ≤ k1) ∧ Aside0 (Kd.N k57 57 w' w.heap.size (fun k_ => (w.heap.size ≤ k_)) u6 x1) ∧ Aside0 (Below w.heap.size w w'))
 case atStart => exact ⟨([] : List (S57)), 0, (by first | rfl | (simp; done) | (simp [*]; done)), HH, ⟨Nat.le_refl _⟩, ⟨Kd.N_nil _ _ _ _ _⟩, ⟨HB.out⟩⟩
 case round =>
  clear HH
  clear HB
  obtain ⟨x1, x4, rfl, HA, HK0, HN3, HB⟩ := hrel
  obtain ⟨v2, rfl⟩ : ∃ z_ : Value, z_ = u6 := ⟨_, rfl⟩
  obtain ⟨w6, rfl⟩ : ∃ wo_ : World, wo_ = wr := ⟨_, rfl⟩
  cases gk with
  | zero => exact absurd HA.out (by simp [ber_several.l0])
  | succ k5 =>
   have H := HA.out
   clear HA
   simp only [ber_several.l0] at H
   have HH := Aside0.mk H
   clear H
   replace HH := zqt HH
   rcases HH with ⟨HH, hk8, hk9⟩ | ⟨HH, hk69, hk70⟩
   ·replace HH := zd HH
    obtain ⟨⟨t10, t11, t12, t13, t14, t15, t16⟩, At17, HH⟩ := HH
    dsimp only at HH
    go_wp2_with ((with_reducible refine gc 49 rfl ?_); refine zc 49 (some 19) Try.func49 #[.string a0, .int .i64 x4, .int .i64 a1] (h := ?_); (with_reducible refine ((ih k5 (by have := HK0.out; omega)).1  a0 x4 a1 t10 t11 t12 t13 t14 t15 t16 _  At17.out).mono ?_); rintro e w18 ⟨v19, rfl, hn19, hb⟩; refine ⟨_, rfl, ?_⟩)
    refine Stop.go ?_
    have hba := Kd.N_base hn19
    have HN19 := znl (ok2 := (fun k_ => (w.heap.size ≤ k_) ∧ some k_ ≠ (v2 : Value).ownBlock)) hn19 (below_size HB.out) (fun k_ h_ => ⟨(Nat.le_trans (below_size HB.out) h_), Kd.fresh' (Kd.N_lt HN3.out) k_ h_⟩)
    replace HN3 := znr (u := v19) HN3.out hba hb
    replace HB := zhb HB.out hb
    clear hn19 hba hb
    go_wp2_with ((with_reducible refine gd 8 rfl ?_); refine zb 8 57 #[.int .i64 0, .bool false, .int .i64 0, .string (⟨#[]⟩ : ByteArray), .slice none 0 0] (h := ?_); intro g20 hg w21 BKg20 hb)
    refine Stop.go ?_
    have GEg20 := zge hg (below_size HB.out)
    replace HN3 := zne HN3.out hg hb
    replace HN19 := zne HN19.out hg hb
    replace HB := zhb HB.out hb
    clear hg hb
    obtain ⟨jm, jn, jo, jp, jq, jr, js, jt, ju, jv⟩ := MB.lay5 BKg20.out
    obtain ⟨A33, cp34, he_⟩ := Kd.N_slice HN19.out
    subst he_
    go_wp2_with ((with_reducible refine gs 57 8 rfl ?_); refine zs 57 8 #[.int .i64 t10, .bool t11, .int .i64 t12, .string t13, (.slice A33 t14.length cp34)] BKg20.out [.int .i64 t10, .bool t11, .int .i64 t12, .string t13, (.slice A33 t14.length cp34)] (h := ?_); intro w32 hbk hg)
    refine Stop.go ?_
    replace HN3 := zng HN3.out hg fun k_ hk_ => hk_.2
    replace HN19 := zng HN19.out hg fun k_ hk_ => hk_.2
    replace HB := zhg HB.out hg (below_size HB.out) GEg20
    replace BKg20 := hbk
    clear hg hbk
    clear jm jn jo jp jq jr js jt ju jv
    obtain ⟨jz, jA, jB, jC, jD, jE, jF, jG, jH, jI⟩ := MB.lay5 BKg20.out
    replace HH := zqe HH
    rcases HH with ⟨HH, hk46, hk47⟩ | ⟨HH, hk67, hk68⟩
    ·have HL51 := Aside0.mk (Kd.N_reads' HN19.out).2.1
     have HF50 := Aside0.mk (Kd.N_F HN19.out)
     clear HN19
     replace HN3 := Aside0.mk (Kd.N_mono (ok := (fun k_ => ((w.heap.size ≤ k_) ∧ some k_ ≠ ((.slice A33 t14.length cp34) : Value).ownBlock) ∧ k_ ≠ g20)) HN3.out (fun k_ hk_ => ⟨hk_.1.1, hk_.2⟩) : Kd.N k57 _ _ _ (fun k_ => (w.heap.size ≤ k_) ∧ k_ ≠ g20) _ _)
     obtain ⟨HH, LMc52⟩ := zlm HH
     obtain ⟨y53, hy53⟩ : ∃ y_ : List (S57), y_ = (x1 ++ [(⟨t10, t11, t12, t13, t14⟩ : S57)]) := ⟨_, rfl⟩
     have H : ((ber_several.l0 k5 y53 t15 a0 a1)) = some (r1, r2) := by rw [hy53]; exact HH.out
     replace HH := Aside0.mk H
     clear H
     have NYy53 := Aside0.mk hy53
     clear hy53
     go_wp2_with (((with_reducible refine gate_dst (N := 29) rfl ?_); (try (refine gate_guard (by rfl) ?_; dsimp only)); refine Kd.N_append k57 w.heap.size rfl _ _ 55 57 (.agg #[(.int .i64 0), (.bool false), (.int .i64 0), (.string ⟨#[]⟩), (.slice none 0 0)]) 64 rfl Try.underlying55 info57 rfl (by decide) (by decide) (v2) x1 (⟨t10, t11, t12, t13, t14⟩ : S57) [.int .i64 t10, .bool t11, .int .i64 t12, .string t13, .slice A33 t14.length cp34] (fun k_ => (w.heap.size ≤ k_) ∧ k_ ≠ g20) (fun k_ => (fun k_ => (w.heap.size ≤ k_) ∧ k_ ≠ g20) k_ ∧ some k_ ≠ (v2 : Value).ownBlock) rfl rfl (k57_mkF _ _ (⟨t10, t11, t12, t13, t14⟩ : S57) HL51.out (Kd.F_mono (ok := (fun k_ => ((w.heap.size ≤ k_) ∧ some k_ ≠ (v2 : Value).ownBlock) ∧ k_ ≠ g20)) (by (with_reducible repeat (first | apply Kd.F_alloc | apply Kd.F_drewN | apply Kd.F_drew)); exact HF50.out) (fun k_ hk_ => ⟨⟨hk_.1.1, hk_.2⟩, hk_.1.2⟩))) (fun _ hk_ => hk_) (fun k_ h_ => ⟨(Nat.le_trans (below_size (by repeat (first | (with_reducible first | exact HB.out | apply below_alloc | apply pw_below_drewN | apply below_drew1) | exact HB.out))) h_), Kd.freshB (g := g20) (o := .cells #[.int .i64 t10, .bool t11, .int .i64 t12, .string t13, .slice A33 t14.length cp34] 57 (0, 0)) (by (with_reducible repeat (first | refine blk_drewN ?_ _ | refine blk_drew ?_ | refine blk_alloc ?_ _)); exact BKg20.out) k_ h_⟩) (by (with_reducible repeat (first | apply Kd.N_alloc | apply Kd.N_drewN | apply Kd.N_drew)); exact HN3.out) (by repeat (first | (with_reducible first | exact HB.out | apply below_alloc | apply pw_below_drewN | apply below_drew1) | exact HB.out)) (below_size (by repeat (first | (with_reducible first | exact HB.out | apply below_alloc | apply pw_below_drewN | apply below_drew1) | exact HB.out))) (by first | (have := LMc52.out; omega) | (have := LMc52.out; simp at *; omega)) ?_; intro v54 w55 hn1 hb1 hg1 hat1); replace hat1 := Aside0.mk hat1; refine stop_ ?_)
     refine Stop.go ?_
     replace hat1 := hat1.out
     replace BKg20 := Aside0.mk (blk_grown (g := g20) (o := .cells #[.int .i64 t10, .bool t11, .int .i64 t12, .string t13, .slice A33 t14.length cp34] 57 (0, 0)) (by (with_reducible repeat (first | refine blk_drewN ?_ _ | refine blk_drew ?_ | refine blk_alloc ?_ _)); exact BKg20.out) hg1 (Kd.N_away (ok := (fun k_ => (w.heap.size ≤ k_) ∧ k_ ≠ g20)) HN3.out (fun k_ hk_ => hk_.2)))
     replace HB := Aside0.mk hb1
     clear HN3
     have HN56 := Aside0.mk hn1
     clear hn1 hb1 hg1 hat1
     replace HN56 := Aside0.mk (by rw [NYy53.out]; exact HN56.out : Kd.N k57 57 w55 w.heap.size (fun k_ => (w.heap.size ≤ k_) ∧ k_ ≠ g20) v54 y53)
     clear jz jA jB jC jD jE jF jG jH jI
     obtain ⟨jV, jW, jX, jY, jZ, j10, j11, j12, j13, j14⟩ := MB.lay5 BKg20.out
     go_wp2
     go_roundg k5
     case measure => have := HK0.out; omega
     case rel => exact ⟨y53, t15, (by first | rfl | (simp; done) | (simp [*]; done)), HH, ⟨by have := HK0.out; omega⟩, ⟨(Kd.N_mono (ok := (fun k_ => (w.heap.size ≤ k_) ∧ k_ ≠ g20)) HN56.out (fun k_ hk_ => hk_.1))⟩, ⟨HB.out⟩⟩
    have H := HH.out
    simp only [Option.some.injEq, Prod.mk.injEq] at H
    obtain ⟨rfl, rfl⟩ := H
    clear HH
    go_wp2
    go_ret2
    exact ⟨_, by first | rfl | (simp; done) | (simp [*]; done), (Kd.N_nil _ _ _ _ _), HB.out⟩
   have H := HH.out
   simp only [Option.some.injEq, Prod.mk.injEq] at H
   obtain ⟨rfl, rfl⟩ := H
   clear HH
   go_wp2
   go_ret2
   exact ⟨_, by first | rfl | (simp; done) | (simp [*]; done), (Kd.N_mono (ok := (fun k_ => (w.heap.size ≤ k_))) HN3.out (fun k_ hk_ => hk_)), HB.out⟩
theorem ber_take.calls (k : Nat) : ∀ (a0 : ByteArray) (a1 : Int) (a2 : Int) (r1 : Int) (r2 : Bool) (r3 : Int) (r4 : ByteArray) (r5 : List (S57)) (r6 : Int) (r7 : Int) (w : World) (h : ber_take.f k a0 a1 a2 = some (r1, r2, r3, r4, r5, r6, r7)),
  Calls Try.prog 49 #[.string a0, .int .i64 a1, .int .i64 a2] w (fun e w' => ∃ v4_ : Value, e = .returned (.tuple #[.agg #[.int .i64 r1, .bool r2, .int .i64 r3, .string r4, v4_], .int .i64 r6, .int .i64 r7]) ∧ Kd.N k57 57 w' w.heap.size (fun k_ => w.heap.size ≤ k_) v4_ r5 ∧ Below w.heap.size w w') := (ber_take.group k).1
theorem ber_several.calls (k : Nat) : ∀ (a0 : ByteArray) (a1 : Int) (r1 : List (S57)) (r2 : Int) (w : World) (h : ber_several.f k a0 a1 = some (r1, r2)),
  Calls Try.prog 74 #[.string a0, .int .i64 a1] w (fun e w' => ∃ v0_ : Value, e = .returned (.tuple #[v0_, .int .i64 r2]) ∧ Kd.N k57 57 w' w.heap.size (fun k_ => w.heap.size ≤ k_) v0_ r1 ∧ Below w.heap.size w w') := (ber_take.group k).2
end Go.Proofs.Ytdjkemhmhkpmkaa.GA
