import Derived.Test.YtdjkemhmhkpmkaaGA0
import Derived.Test.YtdjkemhmhkpmkaaGAF25
import Derived.Test.YtdjkemhmhkpmkaaGAF28
import Derived.Test.YtdjkemhmhkpmkaaGM1
import Derived.Test.YtdjkemhmhkpmkaaGM2
namespace Go.Proofs.Ytdjkemhmhkpmkaa.GA
open Go.RowKit Go.Proofs.Ytdjkemhmhkpmkaa Go.Proofs.Ytdjkemhmhkpmkaa.MW Go.Proofs.YtdjkemhmhkpmkaaW.PrintWords Go.Proofs.YtdjkemhmhkpmkaaW.PrintLast Go.Proofs.YtdjkemhmhkpmkaaW.PrintMore
attribute [local go_sem] max2_int min2_int max_two min_two
set_option linter.unusedVariables false
set_option linter.unusedSimpArgs false
/-! ### reply_Decode: function 15 -/
def reply_Decode.f (k : Nat) (a0 : ByteArray) : Option (Int × Int × Bool × Int × ByteArray × ByteArray × ByteArray × (List (S46)) × Int) := if (a0.size : Int) > 4000 then (some (0, 0, false, 0, (⟨#[]⟩ : ByteArray), (⟨#[]⟩ : ByteArray), (⟨#[]⟩ : ByteArray), ([] : List (S46)), 3)) else ((ber_Decode.f k a0 0).bind fun bt41 => (if bt41.2.2.2.2.2.2 = 0 then (if bt41.2.2.2.2.2.1 = (a0.size : Int) then ((reply_read.f k bt41.1 bt41.2.1 bt41.2.2.1 bt41.2.2.2.1 bt41.2.2.2.2.1).bind fun bt134 => (if bt134.2.2.2.2.2.2.2.2 = true then ((reply_Check.f k bt134.1 bt134.2.1 bt134.2.2.1 bt134.2.2.2.1 bt134.2.2.2.2.1 bt134.2.2.2.2.2.1 bt134.2.2.2.2.2.2.1 bt134.2.2.2.2.2.2.2.1).bind fun t266 => (if t266 = 0 then ((reply_laid.f k bt134.1 bt134.2.1 bt134.2.2.1 bt134.2.2.2.1 bt134.2.2.2.2.1 bt134.2.2.2.2.2.1 bt134.2.2.2.2.2.2.1 bt134.2.2.2.2.2.2.2.1).bind fun bt314 => (if bt314.2 = 0 then (if bt314.1.toList = a0.toList then (some (bt134.1, bt134.2.1, bt134.2.2.1, bt134.2.2.2.1, bt134.2.2.2.2.1, bt134.2.2.2.2.2.1, bt134.2.2.2.2.2.2.1, bt134.2.2.2.2.2.2.2.1, 0)) else (some (0, 0, false, 0, (⟨#[]⟩ : ByteArray), (⟨#[]⟩ : ByteArray), (⟨#[]⟩ : ByteArray), ([] : List (S46)), 270))) else (some (0, 0, false, 0, (⟨#[]⟩ : ByteArray), (⟨#[]⟩ : ByteArray), (⟨#[]⟩ : ByteArray), ([] : List (S46)), 270)))) else (some (0, 0, false, 0, (⟨#[]⟩ : ByteArray), (⟨#[]⟩ : ByteArray), (⟨#[]⟩ : ByteArray), ([] : List (S46)), 270)))) else (some (0, 0, false, 0, (⟨#[]⟩ : ByteArray), (⟨#[]⟩ : ByteArray), (⟨#[]⟩ : ByteArray), ([] : List (S46)), 270)))) else (some (0, 0, false, 0, (⟨#[]⟩ : ByteArray), (⟨#[]⟩ : ByteArray), (⟨#[]⟩ : ByteArray), ([] : List (S46)), 270))) else (some (0, 0, false, 0, (⟨#[]⟩ : ByteArray), (⟨#[]⟩ : ByteArray), (⟨#[]⟩ : ByteArray), ([] : List (S46)), 270))))
theorem reply_Decode.mono : ∀ a0_ k, LeO (reply_Decode.f k a0_) (reply_Decode.f (k + 1) a0_) := by
 intro a0_ k
 unfold reply_Decode.f
 repeat' first
   | (with_reducible exact ber_Decode.mono _ _ _)
   | (with_reducible exact reply_Check.mono _ _ _ _ _ _ _ _ _)
   | (with_reducible exact reply_laid.mono _ _ _ _ _ _ _ _ _)
   | (with_reducible exact reply_read.mono _ _ _ _ _ _)
   | (with_reducible exact LeO.refl _)
   | (with_reducible exact LeO.none _)
   | (with_reducible refine LeO.ite ?_ ?_)
   | (with_reducible refine LeO.bind ?_ (fun _ => ?_))
set_option maxHeartbeats 8000000 in
set_option maxRecDepth 100000 in
theorem reply_Decode.calls (k : Nat) (a0 : ByteArray) (r1 : Int) (r2 : Int) (r3 : Bool) (r4 : Int) (r5 : ByteArray) (r6 : ByteArray) (r7 : ByteArray) (r8 : List (S46)) (r9 : Int) (w : World) (h : reply_Decode.f k a0 = some (r1, r2, r3, r4, r5, r6, r7, r8, r9)) :
  Calls Try.prog 15 #[.string a0] w (fun e w' => ∃ (A7_ : Option Addr) (c7_ : Nat), e = .returned (.tuple #[.agg #[.int .i64 r1, .int .i64 r2, .bool r3, .int .i64 r4, .string r5, .string r6, .string r7, .slice A7_ r8.length c7_], .int .i64 r9]) ∧ r8.length ≤ c7_ ∧ Kd.F k46 w' (fun k_ => w.heap.size ≤ k_) A7_ r8.length r8 ∧ Below w.heap.size w w') := by
 have HH := Aside0.mk (show (if (a0.size : Int) > 4000 then (some (0, 0, false, 0, (⟨#[]⟩ : ByteArray), (⟨#[]⟩ : ByteArray), (⟨#[]⟩ : ByteArray), ([] : List (S46)), 3)) else ((ber_Decode.f k a0 0).bind fun bt41 => (if bt41.2.2.2.2.2.2 = 0 then (if bt41.2.2.2.2.2.1 = (a0.size : Int) then ((reply_read.f k bt41.1 bt41.2.1 bt41.2.2.1 bt41.2.2.2.1 bt41.2.2.2.2.1).bind fun bt134 => (if bt134.2.2.2.2.2.2.2.2 = true then ((reply_Check.f k bt134.1 bt134.2.1 bt134.2.2.1 bt134.2.2.2.1 bt134.2.2.2.2.1 bt134.2.2.2.2.2.1 bt134.2.2.2.2.2.2.1 bt134.2.2.2.2.2.2.2.1).bind fun t266 => (if t266 = 0 then ((reply_laid.f k bt134.1 bt134.2.1 bt134.2.2.1 bt134.2.2.2.1 bt134.2.2.2.2.1 bt134.2.2.2.2.2.1 bt134.2.2.2.2.2.2.1 bt134.2.2.2.2.2.2.2.1).bind fun bt314 => (if bt314.2 = 0 then (if bt314.1.toList = a0.toList then (some (bt134.1, bt134.2.1, bt134.2.2.1, bt134.2.2.2.1, bt134.2.2.2.2.1, bt134.2.2.2.2.2.1, bt134.2.2.2.2.2.2.1, bt134.2.2.2.2.2.2.2.1, 0)) else (some (0, 0, false, 0, (⟨#[]⟩ : ByteArray), (⟨#[]⟩ : ByteArray), (⟨#[]⟩ : ByteArray), ([] : List (S46)), 270))) else (some (0, 0, false, 0, (⟨#[]⟩ : ByteArray), (⟨#[]⟩ : ByteArray), (⟨#[]⟩ : ByteArray), ([] : List (S46)), 270)))) else (some (0, 0, false, 0, (⟨#[]⟩ : ByteArray), (⟨#[]⟩ : ByteArray), (⟨#[]⟩ : ByteArray), ([] : List (S46)), 270)))) else (some (0, 0, false, 0, (⟨#[]⟩ : ByteArray), (⟨#[]⟩ : ByteArray), (⟨#[]⟩ : ByteArray), ([] : List (S46)), 270)))) else (some (0, 0, false, 0, (⟨#[]⟩ : ByteArray), (⟨#[]⟩ : ByteArray), (⟨#[]⟩ : ByteArray), ([] : List (S46)), 270))) else (some (0, 0, false, 0, (⟨#[]⟩ : ByteArray), (⟨#[]⟩ : ByteArray), (⟨#[]⟩ : ByteArray), ([] : List (S46)), 270))))) = some (r1, r2, r3, r4, r5, r6, r7, r8, r9) from h)
 clear h
 have HB := Aside0.mk (Below.refl w.heap.size w)
 have hu27 := Try.underlying27
 have hu57 := Try.underlying57
 go_enter Try.func15, Try.ntmps15
 go_wp2_with ((with_reducible refine gd 2 rfl ?_); refine zb 2 27 #[.int .i64 0, .int .i64 0, .bool false, .int .i64 0, .string (⟨#[]⟩ : ByteArray), .string (⟨#[]⟩ : ByteArray), .string (⟨#[]⟩ : ByteArray), .slice none 0 0] (h := ?_); intro g1 hg w2 BKg1 hb)
 refine Stop.go ?_
 have GEg1 := zge hg (below_size HB.out)
 replace HB := zhb HB.out hb
 clear hg hb
 obtain ⟨j3, j4, j5, j6, j7, j8, j9, ja, jb, jc, jd, je, jf, jg, jh, ji⟩ := MB.lay8 BKg1.out
 replace HH := zqK 4000 HH
 rcases HH with ⟨HH, hk20, hk21⟩ | ⟨HH, hk39, hk40⟩
 ·go_wp2_with ((with_reducible refine gs 27 2 rfl ?_); refine zs 27 2 #[.int .i64 0, .int .i64 0, .bool false, .int .i64 0, .string (⟨#[]⟩ : ByteArray), .string (⟨#[]⟩ : ByteArray), .string (⟨#[]⟩ : ByteArray), .slice none 0 0] BKg1.out [.int .i64 0, .int .i64 0, .bool false, .int .i64 0, .string (⟨#[]⟩ : ByteArray), .string (⟨#[]⟩ : ByteArray), .string (⟨#[]⟩ : ByteArray), .slice none 0 0] (h := ?_); intro w22 hbk hg)
  refine Stop.go ?_
  replace HB := zhg HB.out hg (below_size HB.out) GEg1
  replace BKg1 := hbk
  clear hg hbk
  clear j3 j4 j5 j6 j7 j8 j9 ja jb jc jd je jf jg jh ji
  obtain ⟨jn, jo, jp, jq, jr, js, jt, ju, jv, jw, jx, jy, jz, jA, jB, jC⟩ := MB.lay8 BKg1.out
  have H := HH.out
  simp only [Option.some.injEq, Prod.mk.injEq] at H
  obtain ⟨rfl, rfl, rfl, rfl, rfl, rfl, rfl, rfl, rfl⟩ := H
  clear HH
  go_wp2
  refine bodyPost_ret (results_ct rfl _ _ g1 27 #[.int .i64 0, .int .i64 0, .bool false, .int .i64 0, .string (⟨#[]⟩ : ByteArray), .string (⟨#[]⟩ : ByteArray), .string (⟨#[]⟩ : ByteArray), .slice none 0 0] (0, 0) _ rfl BKg1.out Try.underlying27 rfl (by kernel_rfl)) rfl ?_
  exact ⟨none, 0, by first | rfl | (simp; done) | (simp [*]; done), (Nat.le_refl _), (Kd.F_nil _ _ _), HB.out⟩
 replace HH := zd HH
 obtain ⟨⟨t41, t42, t43, t44, t45, t46, t47⟩, At48, HH⟩ := HH
 dsimp only at HH
 go_wp2_with ((with_reducible refine gc 27 rfl ?_); refine zc 27 (some 17) Try.func27 #[.string a0, .int .i64 0] (h := ?_); (with_reducible refine (ber_Decode.calls k  a0 0 t41 t42 t43 t44 t45 t46 t47 _  At48.out).mono ?_); rintro e w49 ⟨v50, rfl, hn50, hb⟩; refine ⟨_, rfl, ?_⟩)
 refine Stop.go ?_
 have hba := Kd.N_base hn50
 have HN50 := znl (ok2 := (fun k_ => (w.heap.size ≤ k_) ∧ k_ ≠ g1)) hn50 (below_size HB.out) (fun k_ h_ => ⟨(Nat.le_trans (below_size HB.out) h_), Kd.freshB (g := g1) BKg1.out k_ h_⟩)
 replace BKg1 := zbb BKg1.out hb
 replace HB := zhb HB.out hb
 clear hn50 hba hb
 clear j3 j4 j5 j6 j7 j8 j9 ja jb jc jd je jf jg jh ji
 obtain ⟨jP, jQ, jR, jS, jT, jU, jV, jW, jX, jY, jZ, j10, j11, j12, j13, j14⟩ := MB.lay8 BKg1.out
 go_wp2_with ((with_reducible refine gd 4 rfl ?_); refine zb 4 57 #[.int .i64 0, .bool false, .int .i64 0, .string (⟨#[]⟩ : ByteArray), .slice none 0 0] (h := ?_); intro g67 hg w68 BKg67 hb)
 refine Stop.go ?_
 have GEg67 := zge hg (below_size HB.out)
 have NEg1_g67 := znq hg BKg1.out
 have NEg67_g1 := zsy NEg1_g67
 replace HN50 := zne HN50.out hg hb
 replace BKg1 := zbb BKg1.out hb
 replace HB := zhb HB.out hb
 clear hg hb
 clear jP jQ jR jS jT jU jV jW jX jY jZ j10 j11 j12 j13 j14
 obtain ⟨j17, j18, j19, j1a, j1b, j1c, j1d, j1e, j1f, j1g, j1h, j1i, j1j, j1k, j1l, j1m⟩ := MB.lay8 BKg1.out
 obtain ⟨j1n, j1o, j1p, j1q, j1r, j1s, j1t, j1u, j1v, j1w⟩ := MB.lay5 BKg67.out
 obtain ⟨A96, cp97, he_⟩ := Kd.N_slice HN50.out
 subst he_
 go_wp2_with ((with_reducible refine gs 57 4 rfl ?_); refine zs 57 4 #[.int .i64 t41, .bool t42, .int .i64 t43, .string t44, (.slice A96 t45.length cp97)] BKg67.out [.int .i64 t41, .bool t42, .int .i64 t43, .string t44, (.slice A96 t45.length cp97)] (h := ?_); intro w95 hbk hg)
 refine Stop.go ?_
 replace HN50 := zng HN50.out hg fun k_ hk_ => hk_.2
 replace BKg1 := zbg BKg1.out hg NEg1_g67
 replace HB := zhg HB.out hg (below_size HB.out) GEg67
 replace BKg67 := hbk
 clear hg hbk
 clear j17 j18 j19 j1a j1b j1c j1d j1e j1f j1g j1h j1i j1j j1k j1l j1m j1n j1o j1p j1q j1r j1s j1t j1u j1v j1w
 obtain ⟨j1A, j1B, j1C, j1D, j1E, j1F, j1G, j1H, j1I, j1J, j1K, j1L, j1M, j1N, j1O, j1P⟩ := MB.lay8 BKg1.out
 obtain ⟨j1Q, j1R, j1S, j1T, j1U, j1V, j1W, j1X, j1Y, j1Z⟩ := MB.lay5 BKg67.out
 replace HH := zqe HH
 rcases HH with ⟨HH, hk125, hk126⟩ | ⟨HH, hk616, hk617⟩
 ·replace HH := zqe HH
  rcases HH with ⟨HH, hk128, hk129⟩ | ⟨HH, hk587, hk588⟩
  ·have HL133 := Aside0.mk (Kd.N_reads' HN50.out).2.1
   have HF132 := Aside0.mk (Kd.N_F HN50.out)
   clear HN50
   replace HH := zd HH
   obtain ⟨⟨t134, t135, t136, t137, t138, t139, t140, t141, t142⟩, At143, HH⟩ := HH
   dsimp only at HH
   go_wp2_with ((with_reducible refine gc 28 rfl ?_); refine zc 28 (some 32) Try.func28 #[.agg #[.int .i64 t41, .bool t42, .int .i64 t43, .string t44, .slice A96 t45.length cp97]] (h := ?_); (with_reducible refine (reply_read.calls k (fun k_ => ((w.heap.size ≤ k_) ∧ k_ ≠ g1) ∧ k_ ≠ g67) t41 t42 t43 t44 _ _ t45 t134 t135 t136 t137 t138 t139 t140 t141 t142 _ (Kd.F_mono (ok := (fun k_ => ((w.heap.size ≤ k_) ∧ k_ ≠ g1) ∧ k_ ≠ g67)) HF132.out (fun k_ hk_ => hk_)) HL133.out At143.out).mono ?_); rintro e w144 ⟨v145, rfl, hn145, hb⟩; refine ⟨_, rfl, ?_⟩)
   refine Stop.go ?_
   have hba := Kd.N_base hn145
   have HN145 := znl (ok2 := (fun k_ => ((w.heap.size ≤ k_) ∧ k_ ≠ g1) ∧ k_ ≠ g67)) hn145 (below_size HB.out) (fun k_ hk_ => hk_.elim (fun h_ => h_) (fun h_ => ⟨⟨(Nat.le_trans (below_size HB.out) h_), Kd.freshB (g := g1) BKg1.out k_ h_⟩, Kd.freshB (g := g67) BKg67.out k_ h_⟩))
   replace BKg1 := zbb BKg1.out hb
   replace BKg67 := zbb BKg67.out hb
   replace HB := zhb HB.out hb
   clear hn145 hba hb
   clear j1A j1B j1C j1D j1E j1F j1G j1H j1I j1J j1K j1L j1M j1N j1O j1P j1Q j1R j1S j1T j1U j1V j1W j1X j1Y j1Z
   obtain ⟨j2m, j2n, j2o, j2p, j2q, j2r, j2s, j2t, j2u, j2v, j2w, j2x, j2y, j2z, j2A, j2B⟩ := MB.lay8 BKg1.out
   obtain ⟨j2C, j2D, j2E, j2F, j2G, j2H, j2I, j2J, j2K, j2L⟩ := MB.lay5 BKg67.out
   go_wp2_with ((with_reducible refine gd 7 rfl ?_); refine zb 7 27 #[.int .i64 0, .int .i64 0, .bool false, .int .i64 0, .string (⟨#[]⟩ : ByteArray), .string (⟨#[]⟩ : ByteArray), .string (⟨#[]⟩ : ByteArray), .slice none 0 0] (h := ?_); intro g172 hg w173 BKg172 hb)
   refine Stop.go ?_
   have GEg172 := zge hg (below_size HB.out)
   have NEg1_g172 := znq hg BKg1.out
   have NEg172_g1 := zsy NEg1_g172
   have NEg67_g172 := znq hg BKg67.out
   replace HN145 := zne HN145.out hg hb
   replace BKg1 := zbb BKg1.out hb
   replace BKg67 := zbb BKg67.out hb
   replace HB := zhb HB.out hb
   clear hg hb
   clear j2m j2n j2o j2p j2q j2r j2s j2t j2u j2v j2w j2x j2y j2z j2A j2B j2C j2D j2E j2F j2G j2H j2I j2J j2K j2L
   obtain ⟨j2O, j2P, j2Q, j2R, j2S, j2T, j2U, j2V, j2W, j2X, j2Y, j2Z, j30, j31, j32, j33⟩ := MB.lay8 BKg1.out
   obtain ⟨j34, j35, j36, j37, j38, j39, j3a, j3b, j3c, j3d⟩ := MB.lay5 BKg67.out
   obtain ⟨j3e, j3f, j3g, j3h, j3i, j3j, j3k, j3l, j3m, j3n, j3o, j3p, j3q, j3r, j3s, j3t⟩ := MB.lay8 BKg172.out
   obtain ⟨A217, cp218, he_⟩ := Kd.N_slice HN145.out
   subst he_
   go_wp2_with ((with_reducible refine gs 27 7 rfl ?_); refine zs 27 7 #[.int .i64 t134, .int .i64 t135, .bool t136, .int .i64 t137, .string t138, .string t139, .string t140, (.slice A217 t141.length cp218)] BKg172.out [.int .i64 t134, .int .i64 t135, .bool t136, .int .i64 t137, .string t138, .string t139, .string t140, (.slice A217 t141.length cp218)] (h := ?_); intro w216 hbk hg)
   refine Stop.go ?_
   replace HN145 := zng HN145.out hg fun k_ hk_ => hk_.2
   replace BKg1 := zbg BKg1.out hg NEg1_g172
   replace BKg67 := zbg BKg67.out hg NEg67_g172
   replace HB := zhg HB.out hg (below_size HB.out) GEg172
   replace BKg172 := hbk
   clear hg hbk
   clear j2O j2P j2Q j2R j2S j2T j2U j2V j2W j2X j2Y j2Z j30 j31 j32 j33 j34 j35 j36 j37 j38 j39 j3a j3b j3c j3d j3e j3f j3g j3h j3i j3j j3k j3l j3m j3n j3o j3p j3q j3r j3s j3t
   obtain ⟨j3x, j3y, j3z, j3A, j3B, j3C, j3D, j3E, j3F, j3G, j3H, j3I, j3J, j3K, j3L, j3M⟩ := MB.lay8 BKg1.out
   obtain ⟨j3N, j3O, j3P, j3Q, j3R, j3S, j3T, j3U, j3V, j3W⟩ := MB.lay5 BKg67.out
   obtain ⟨j3X, j3Y, j3Z, j40, j41, j42, j43, j44, j45, j46, j47, j48, j49, j4a, j4b, j4c⟩ := MB.lay8 BKg172.out
   by_cases c261 : t142 = true
   ·replace HH := MW.hpos HH c261
    subst c261
    have HL265 := Aside0.mk (Kd.N_reads' HN145.out).2.1
    have HF264 := Aside0.mk (Kd.N_F HN145.out)
    clear HN145
    replace HH := zd HH
    obtain ⟨t266, At267, HH⟩ := HH
    go_wp2_with ((with_reducible refine gc 10 rfl ?_); refine zc 10 (some 39) Try.func10 #[.agg #[.int .i64 t134, .int .i64 t135, .bool t136, .int .i64 t137, .string t138, .string t139, .string t140, .slice A217 t141.length cp218]] (h := ?_); (with_reducible refine (reply_Check.calls k (fun k_ => (((w.heap.size ≤ k_) ∧ k_ ≠ g1) ∧ k_ ≠ g67) ∧ k_ ≠ g172) t134 t135 t136 t137 t138 t139 t140 _ _ t141 t266 _ (Kd.F_mono (ok := (fun k_ => (((w.heap.size ≤ k_) ∧ k_ ≠ g1) ∧ k_ ≠ g67) ∧ k_ ≠ g172)) HF264.out (fun k_ hk_ => hk_)) HL265.out At267.out).mono ?_); rintro e w268 ⟨rfl, hb⟩; refine ⟨_, rfl, ?_⟩)
    refine Stop.go ?_
    replace HF264 := zfb HF264.out hb
    replace BKg1 := zbb BKg1.out hb
    replace BKg67 := zbb BKg67.out hb
    replace BKg172 := zbb BKg172.out hb
    replace HB := zhb HB.out hb
    clear hb
    clear j3x j3y j3z j3A j3B j3C j3D j3E j3F j3G j3H j3I j3J j3K j3L j3M j3N j3O j3P j3Q j3R j3S j3T j3U j3V j3W j3X j3Y j3Z j40 j41 j42 j43 j44 j45 j46 j47 j48 j49 j4a j4b j4c
    obtain ⟨j4l, j4m, j4n, j4o, j4p, j4q, j4r, j4s, j4t, j4u, j4v, j4w, j4x, j4y, j4z, j4A⟩ := MB.lay8 BKg1.out
    obtain ⟨j4B, j4C, j4D, j4E, j4F, j4G, j4H, j4I, j4J, j4K⟩ := MB.lay5 BKg67.out
    obtain ⟨j4L, j4M, j4N, j4O, j4P, j4Q, j4R, j4S, j4T, j4U, j4V, j4W, j4X, j4Y, j4Z, j50⟩ := MB.lay8 BKg172.out
    replace HH := zqe HH
    rcases HH with ⟨HH, hk312, hk313⟩ | ⟨HH, hk499, hk500⟩
    ·replace HH := zd HH
     obtain ⟨⟨t314, t315⟩, At316, HH⟩ := HH
     dsimp only at HH
     go_wp2_with ((with_reducible refine gc 25 rfl ?_); refine zc 25 (some 45) Try.func25 #[.agg #[.int .i64 t134, .int .i64 t135, .bool t136, .int .i64 t137, .string t138, .string t139, .string t140, .slice A217 t141.length cp218]] (h := ?_); (with_reducible refine (reply_laid.calls k (fun k_ => (((w.heap.size ≤ k_) ∧ k_ ≠ g1) ∧ k_ ≠ g67) ∧ k_ ≠ g172) t134 t135 t136 t137 t138 t139 t140 _ _ t141 t314 t315 _ (Kd.F_mono (ok := (fun k_ => (((w.heap.size ≤ k_) ∧ k_ ≠ g1) ∧ k_ ≠ g67) ∧ k_ ≠ g172)) HF264.out (fun k_ hk_ => hk_)) HL265.out At316.out).mono ?_); rintro e w317 ⟨rfl, hb⟩; refine ⟨_, rfl, ?_⟩)
     refine Stop.go ?_
     replace HF264 := zfb HF264.out hb
     replace BKg1 := zbb BKg1.out hb
     replace BKg67 := zbb BKg67.out hb
     replace BKg172 := zbb BKg172.out hb
     replace HB := zhb HB.out hb
     clear hb
     clear j4l j4m j4n j4o j4p j4q j4r j4s j4t j4u j4v j4w j4x j4y j4z j4A j4B j4C j4D j4E j4F j4G j4H j4I j4J j4K j4L j4M j4N j4O j4P j4Q j4R j4S j4T j4U j4V j4W j4X j4Y j4Z j50
     obtain ⟨j58, j59, j5a, j5b, j5c, j5d, j5e, j5f, j5g, j5h, j5i, j5j, j5k, j5l, j5m, j5n⟩ := MB.lay8 BKg1.out
     obtain ⟨j5o, j5p, j5q, j5r, j5s, j5t, j5u, j5v, j5w, j5x⟩ := MB.lay5 BKg67.out
     obtain ⟨j5y, j5z, j5A, j5B, j5C, j5D, j5E, j5F, j5G, j5H, j5I, j5J, j5K, j5L, j5M, j5N⟩ := MB.lay8 BKg172.out
     replace HH := zqe HH
     rcases HH with ⟨HH, hk361, hk362⟩ | ⟨HH, hk454, hk455⟩
     ·replace HH := zqe HH
      rcases HH with ⟨HH, hk364, hk365⟩ | ⟨HH, hk409, hk410⟩
      ·go_wp2_with ((with_reducible refine gs 27 2 rfl ?_); refine zs 27 2 #[.int .i64 t134, .int .i64 t135, .bool t136, .int .i64 t137, .string t138, .string t139, .string t140, .slice A217 t141.length cp218] BKg1.out [.int .i64 t134, .int .i64 t135, .bool t136, .int .i64 t137, .string t138, .string t139, .string t140, .slice A217 t141.length cp218] (h := ?_); intro w366 hbk hg)
       refine Stop.go ?_
       replace HF264 := zfg HF264.out hg fun k_ hk_ => hk_.1.1.2
       replace BKg67 := zbg BKg67.out hg NEg67_g1
       replace BKg172 := zbg BKg172.out hg NEg172_g1
       replace HB := zhg HB.out hg (below_size HB.out) GEg1
       replace BKg1 := hbk
       clear hg hbk
       clear j58 j59 j5a j5b j5c j5d j5e j5f j5g j5h j5i j5j j5k j5l j5m j5n j5o j5p j5q j5r j5s j5t j5u j5v j5w j5x j5y j5z j5A j5B j5C j5D j5E j5F j5G j5H j5I j5J j5K j5L j5M j5N
       obtain ⟨j5V, j5W, j5X, j5Y, j5Z, j60, j61, j62, j63, j64, j65, j66, j67, j68, j69, j6a⟩ := MB.lay8 BKg1.out
       obtain ⟨j6b, j6c, j6d, j6e, j6f, j6g, j6h, j6i, j6j, j6k⟩ := MB.lay5 BKg67.out
       obtain ⟨j6l, j6m, j6n, j6o, j6p, j6q, j6r, j6s, j6t, j6u, j6v, j6w, j6x, j6y, j6z, j6A⟩ := MB.lay8 BKg172.out
       have H := HH.out
       simp only [Option.some.injEq, Prod.mk.injEq] at H
       obtain ⟨rfl, rfl, rfl, rfl, rfl, rfl, rfl, rfl, rfl⟩ := H
       clear HH
       go_wp2
       refine bodyPost_ret (results_ct rfl _ _ g1 27 #[.int .i64 t134, .int .i64 t135, .bool t136, .int .i64 t137, .string t138, .string t139, .string t140, .slice A217 t141.length cp218] (0, 0) _ rfl BKg1.out Try.underlying27 rfl (by kernel_rfl)) rfl ?_
       exact ⟨_, _, by first | rfl | (simp; done) | (simp [*]; done), HL265.out, (Kd.F_mono (ok := (fun k_ => (((w.heap.size ≤ k_) ∧ k_ ≠ g1) ∧ k_ ≠ g67) ∧ k_ ≠ g172)) HF264.out (fun k_ hk_ => hk_.1.1.1)), HB.out⟩
      go_wp2_with ((with_reducible refine gs 27 2 rfl ?_); refine zs 27 2 #[.int .i64 0, .int .i64 0, .bool false, .int .i64 0, .string (⟨#[]⟩ : ByteArray), .string (⟨#[]⟩ : ByteArray), .string (⟨#[]⟩ : ByteArray), .slice none 0 0] BKg1.out [.int .i64 0, .int .i64 0, .bool false, .int .i64 0, .string (⟨#[]⟩ : ByteArray), .string (⟨#[]⟩ : ByteArray), .string (⟨#[]⟩ : ByteArray), .slice none 0 0] (h := ?_); intro w411 hbk hg)
      refine Stop.go ?_
      replace BKg67 := zbg BKg67.out hg NEg67_g1
      replace BKg172 := zbg BKg172.out hg NEg172_g1
      replace HB := zhg HB.out hg (below_size HB.out) GEg1
      replace BKg1 := hbk
      clear hg hbk
      clear j58 j59 j5a j5b j5c j5d j5e j5f j5g j5h j5i j5j j5k j5l j5m j5n j5o j5p j5q j5r j5s j5t j5u j5v j5w j5x j5y j5z j5A j5B j5C j5D j5E j5F j5G j5H j5I j5J j5K j5L j5M j5N
      obtain ⟨j6E, j6F, j6G, j6H, j6I, j6J, j6K, j6L, j6M, j6N, j6O, j6P, j6Q, j6R, j6S, j6T⟩ := MB.lay8 BKg1.out
      obtain ⟨j6U, j6V, j6W, j6X, j6Y, j6Z, j70, j71, j72, j73⟩ := MB.lay5 BKg67.out
      obtain ⟨j74, j75, j76, j77, j78, j79, j7a, j7b, j7c, j7d, j7e, j7f, j7g, j7h, j7i, j7j⟩ := MB.lay8 BKg172.out
      have H := HH.out
      simp only [Option.some.injEq, Prod.mk.injEq] at H
      obtain ⟨rfl, rfl, rfl, rfl, rfl, rfl, rfl, rfl, rfl⟩ := H
      clear HH
      go_wp2
      refine bodyPost_ret (results_ct rfl _ _ g1 27 #[.int .i64 0, .int .i64 0, .bool false, .int .i64 0, .string (⟨#[]⟩ : ByteArray), .string (⟨#[]⟩ : ByteArray), .string (⟨#[]⟩ : ByteArray), .slice none 0 0] (0, 0) _ rfl BKg1.out Try.underlying27 rfl (by kernel_rfl)) rfl ?_
      exact ⟨none, 0, by first | rfl | (simp; done) | (simp [*]; done), (Nat.le_refl _), (Kd.F_nil _ _ _), HB.out⟩
     go_wp2_with ((with_reducible refine gs 27 2 rfl ?_); refine zs 27 2 #[.int .i64 0, .int .i64 0, .bool false, .int .i64 0, .string (⟨#[]⟩ : ByteArray), .string (⟨#[]⟩ : ByteArray), .string (⟨#[]⟩ : ByteArray), .slice none 0 0] BKg1.out [.int .i64 0, .int .i64 0, .bool false, .int .i64 0, .string (⟨#[]⟩ : ByteArray), .string (⟨#[]⟩ : ByteArray), .string (⟨#[]⟩ : ByteArray), .slice none 0 0] (h := ?_); intro w456 hbk hg)
     refine Stop.go ?_
     replace BKg67 := zbg BKg67.out hg NEg67_g1
     replace BKg172 := zbg BKg172.out hg NEg172_g1
     replace HB := zhg HB.out hg (below_size HB.out) GEg1
     replace BKg1 := hbk
     clear hg hbk
     clear j58 j59 j5a j5b j5c j5d j5e j5f j5g j5h j5i j5j j5k j5l j5m j5n j5o j5p j5q j5r j5s j5t j5u j5v j5w j5x j5y j5z j5A j5B j5C j5D j5E j5F j5G j5H j5I j5J j5K j5L j5M j5N
     obtain ⟨j7n, j7o, j7p, j7q, j7r, j7s, j7t, j7u, j7v, j7w, j7x, j7y, j7z, j7A, j7B, j7C⟩ := MB.lay8 BKg1.out
     obtain ⟨j7D, j7E, j7F, j7G, j7H, j7I, j7J, j7K, j7L, j7M⟩ := MB.lay5 BKg67.out
     obtain ⟨j7N, j7O, j7P, j7Q, j7R, j7S, j7T, j7U, j7V, j7W, j7X, j7Y, j7Z, j80, j81, j82⟩ := MB.lay8 BKg172.out
     have H := HH.out
     simp only [Option.some.injEq, Prod.mk.injEq] at H
     obtain ⟨rfl, rfl, rfl, rfl, rfl, rfl, rfl, rfl, rfl⟩ := H
     clear HH
     go_wp2
     refine bodyPost_ret (results_ct rfl _ _ g1 27 #[.int .i64 0, .int .i64 0, .bool false, .int .i64 0, .string (⟨#[]⟩ : ByteArray), .string (⟨#[]⟩ : ByteArray), .string (⟨#[]⟩ : ByteArray), .slice none 0 0] (0, 0) _ rfl BKg1.out Try.underlying27 rfl (by kernel_rfl)) rfl ?_
     exact ⟨none, 0, by first | rfl | (simp; done) | (simp [*]; done), (Nat.le_refl _), (Kd.F_nil _ _ _), HB.out⟩
    go_wp2_with ((with_reducible refine gs 27 2 rfl ?_); refine zs 27 2 #[.int .i64 0, .int .i64 0, .bool false, .int .i64 0, .string (⟨#[]⟩ : ByteArray), .string (⟨#[]⟩ : ByteArray), .string (⟨#[]⟩ : ByteArray), .slice none 0 0] BKg1.out [.int .i64 0, .int .i64 0, .bool false, .int .i64 0, .string (⟨#[]⟩ : ByteArray), .string (⟨#[]⟩ : ByteArray), .string (⟨#[]⟩ : ByteArray), .slice none 0 0] (h := ?_); intro w501 hbk hg)
    refine Stop.go ?_
    replace BKg67 := zbg BKg67.out hg NEg67_g1
    replace BKg172 := zbg BKg172.out hg NEg172_g1
    replace HB := zhg HB.out hg (below_size HB.out) GEg1
    replace BKg1 := hbk
    clear hg hbk
    clear j4l j4m j4n j4o j4p j4q j4r j4s j4t j4u j4v j4w j4x j4y j4z j4A j4B j4C j4D j4E j4F j4G j4H j4I j4J j4K j4L j4M j4N j4O j4P j4Q j4R j4S j4T j4U j4V j4W j4X j4Y j4Z j50
    obtain ⟨j86, j87, j88, j89, j8a, j8b, j8c, j8d, j8e, j8f, j8g, j8h, j8i, j8j, j8k, j8l⟩ := MB.lay8 BKg1.out
    obtain ⟨j8m, j8n, j8o, j8p, j8q, j8r, j8s, j8t, j8u, j8v⟩ := MB.lay5 BKg67.out
    obtain ⟨j8w, j8x, j8y, j8z, j8A, j8B, j8C, j8D, j8E, j8F, j8G, j8H, j8I, j8J, j8K, j8L⟩ := MB.lay8 BKg172.out
    have H := HH.out
    simp only [Option.some.injEq, Prod.mk.injEq] at H
    obtain ⟨rfl, rfl, rfl, rfl, rfl, rfl, rfl, rfl, rfl⟩ := H
    clear HH
    go_wp2
    refine bodyPost_ret (results_ct rfl _ _ g1 27 #[.int .i64 0, .int .i64 0, .bool false, .int .i64 0, .string (⟨#[]⟩ : ByteArray), .string (⟨#[]⟩ : ByteArray), .string (⟨#[]⟩ : ByteArray), .slice none 0 0] (0, 0) _ rfl BKg1.out Try.underlying27 rfl (by kernel_rfl)) rfl ?_
    exact ⟨none, 0, by first | rfl | (simp; done) | (simp [*]; done), (Nat.le_refl _), (Kd.F_nil _ _ _), HB.out⟩
   replace HH := MW.hneg HH c261
   replace c261 := Bool.eq_false_iff.mpr c261
   subst c261
   go_wp2_with ((with_reducible refine gs 27 2 rfl ?_); refine zs 27 2 #[.int .i64 0, .int .i64 0, .bool false, .int .i64 0, .string (⟨#[]⟩ : ByteArray), .string (⟨#[]⟩ : ByteArray), .string (⟨#[]⟩ : ByteArray), .slice none 0 0] BKg1.out [.int .i64 0, .int .i64 0, .bool false, .int .i64 0, .string (⟨#[]⟩ : ByteArray), .string (⟨#[]⟩ : ByteArray), .string (⟨#[]⟩ : ByteArray), .slice none 0 0] (h := ?_); intro w544 hbk hg)
   refine Stop.go ?_
   replace BKg67 := zbg BKg67.out hg NEg67_g1
   replace BKg172 := zbg BKg172.out hg NEg172_g1
   replace HB := zhg HB.out hg (below_size HB.out) GEg1
   replace BKg1 := hbk
   clear hg hbk
   clear j3x j3y j3z j3A j3B j3C j3D j3E j3F j3G j3H j3I j3J j3K j3L j3M j3N j3O j3P j3Q j3R j3S j3T j3U j3V j3W j3X j3Y j3Z j40 j41 j42 j43 j44 j45 j46 j47 j48 j49 j4a j4b j4c
   obtain ⟨j8N, j8O, j8P, j8Q, j8R, j8S, j8T, j8U, j8V, j8W, j8X, j8Y, j8Z, j90, j91, j92⟩ := MB.lay8 BKg1.out
   obtain ⟨j93, j94, j95, j96, j97, j98, j99, j9a, j9b, j9c⟩ := MB.lay5 BKg67.out
   obtain ⟨j9d, j9e, j9f, j9g, j9h, j9i, j9j, j9k, j9l, j9m, j9n, j9o, j9p, j9q, j9r, j9s⟩ := MB.lay8 BKg172.out
   have H := HH.out
   simp only [Option.some.injEq, Prod.mk.injEq] at H
   obtain ⟨rfl, rfl, rfl, rfl, rfl, rfl, rfl, rfl, rfl⟩ := H
   clear HH
   go_wp2
   refine bodyPost_ret (results_ct rfl _ _ g1 27 #[.int .i64 0, .int .i64 0, .bool false, .int .i64 0, .string (⟨#[]⟩ : ByteArray), .string (⟨#[]⟩ : ByteArray), .string (⟨#[]⟩ : ByteArray), .slice none 0 0] (0, 0) _ rfl BKg1.out Try.underlying27 rfl (by kernel_rfl)) rfl ?_
   exact ⟨none, 0, by first | rfl | (simp; done) | (simp [*]; done), (Nat.le_refl _), (Kd.F_nil _ _ _), HB.out⟩
  go_wp2_with ((with_reducible refine gs 27 2 rfl ?_); refine zs 27 2 #[.int .i64 0, .int .i64 0, .bool false, .int .i64 0, .string (⟨#[]⟩ : ByteArray), .string (⟨#[]⟩ : ByteArray), .string (⟨#[]⟩ : ByteArray), .slice none 0 0] BKg1.out [.int .i64 0, .int .i64 0, .bool false, .int .i64 0, .string (⟨#[]⟩ : ByteArray), .string (⟨#[]⟩ : ByteArray), .string (⟨#[]⟩ : ByteArray), .slice none 0 0] (h := ?_); intro w589 hbk hg)
  refine Stop.go ?_
  replace BKg67 := zbg BKg67.out hg NEg67_g1
  replace HB := zhg HB.out hg (below_size HB.out) GEg1
  replace BKg1 := hbk
  clear hg hbk
  clear j1A j1B j1C j1D j1E j1F j1G j1H j1I j1J j1K j1L j1M j1N j1O j1P j1Q j1R j1S j1T j1U j1V j1W j1X j1Y j1Z
  obtain ⟨j9w, j9x, j9y, j9z, j9A, j9B, j9C, j9D, j9E, j9F, j9G, j9H, j9I, j9J, j9K, j9L⟩ := MB.lay8 BKg1.out
  obtain ⟨j9M, j9N, j9O, j9P, j9Q, j9R, j9S, j9T, j9U, j9V⟩ := MB.lay5 BKg67.out
  have H := HH.out
  simp only [Option.some.injEq, Prod.mk.injEq] at H
  obtain ⟨rfl, rfl, rfl, rfl, rfl, rfl, rfl, rfl, rfl⟩ := H
  clear HH
  go_wp2
  refine bodyPost_ret (results_ct rfl _ _ g1 27 #[.int .i64 0, .int .i64 0, .bool false, .int .i64 0, .string (⟨#[]⟩ : ByteArray), .string (⟨#[]⟩ : ByteArray), .string (⟨#[]⟩ : ByteArray), .slice none 0 0] (0, 0) _ rfl BKg1.out Try.underlying27 rfl (by kernel_rfl)) rfl ?_
  exact ⟨none, 0, by first | rfl | (simp; done) | (simp [*]; done), (Nat.le_refl _), (Kd.F_nil _ _ _), HB.out⟩
 go_wp2_with ((with_reducible refine gs 27 2 rfl ?_); refine zs 27 2 #[.int .i64 0, .int .i64 0, .bool false, .int .i64 0, .string (⟨#[]⟩ : ByteArray), .string (⟨#[]⟩ : ByteArray), .string (⟨#[]⟩ : ByteArray), .slice none 0 0] BKg1.out [.int .i64 0, .int .i64 0, .bool false, .int .i64 0, .string (⟨#[]⟩ : ByteArray), .string (⟨#[]⟩ : ByteArray), .string (⟨#[]⟩ : ByteArray), .slice none 0 0] (h := ?_); intro w618 hbk hg)
 refine Stop.go ?_
 replace BKg67 := zbg BKg67.out hg NEg67_g1
 replace HB := zhg HB.out hg (below_size HB.out) GEg1
 replace BKg1 := hbk
 clear hg hbk
 clear j1A j1B j1C j1D j1E j1F j1G j1H j1I j1J j1K j1L j1M j1N j1O j1P j1Q j1R j1S j1T j1U j1V j1W j1X j1Y j1Z
 obtain ⟨j9Z, ja0, ja1, ja2, ja3, ja4, ja5, ja6, ja7, ja8, ja9, jaa, jab, jac, jad, jae⟩ := MB.lay8 BKg1.out
 obtain ⟨jaf, jag, jah, jai, jaj, jak, jal, jam, jan, jao⟩ := MB.lay5 BKg67.out
 have H := HH.out
 simp only [Option.some.injEq, Prod.mk.injEq] at H
 obtain ⟨rfl, rfl, rfl, rfl, rfl, rfl, rfl, rfl, rfl⟩ := H
 clear HH
 go_wp2
 refine bodyPost_ret (results_ct rfl _ _ g1 27 #[.int .i64 0, .int .i64 0, .bool false, .int .i64 0, .string (⟨#[]⟩ : ByteArray), .string (⟨#[]⟩ : ByteArray), .string (⟨#[]⟩ : ByteArray), .slice none 0 0] (0, 0) _ rfl BKg1.out Try.underlying27 rfl (by kernel_rfl)) rfl ?_
 exact ⟨none, 0, by first | rfl | (simp; done) | (simp [*]; done), (Nat.le_refl _), (Kd.F_nil _ _ _), HB.out⟩
end Go.Proofs.Ytdjkemhmhkpmkaa.GA
