import Derived.Test.YtdjkemhmhkpmkaaGA0
import Derived.Test.YtdjkemhmhkpmkaaGM1
namespace Go.Proofs.Ytdjkemhmhkpmkaa.GA
open Go.RowKit Go.Proofs.Ytdjkemhmhkpmkaa Go.Proofs.Ytdjkemhmhkpmkaa.MW Go.Proofs.YtdjkemhmhkpmkaaW.PrintWords Go.Proofs.YtdjkemhmhkpmkaaW.PrintLast Go.Proofs.YtdjkemhmhkpmkaaW.PrintMore
attribute [local go_sem] max2_int min2_int max_two min_two
set_option linter.unusedVariables false
set_option linter.unusedSimpArgs false
/-! ### reply_entry: function 43 -/
mutual
def reply_entry.l0 : Nat → (List (S57)) → Int → ByteArray → (List (S46)) → Option (Int × Bool × Int × ByteArray × (List (S57)))
 | 0, _, _, _, _ => none
 | k + 1, x47, x50, a0_6, l0_7 => if x50 < (l0_7.length : Int) then (if 0 ≤ x50 then ((reply_entry.l1 k ([] : List (S57)) 0 a0_6 l0_7 x47 x50)) else (none)) else ((reply_text.f a0_6).bind fun bt475 => ((reply_group.f 0 16 x47).bind fun bt513 => ((reply_group.f 1 4 [(⟨bt475.1, bt475.2.1, bt475.2.2.1, bt475.2.2.2.1, bt475.2.2.2.2⟩ : S57), (⟨bt513.1, bt513.2.1, bt513.2.2.1, bt513.2.2.2.1, bt513.2.2.2.2⟩ : S57)]).bind fun bt588 => (some (bt588.1, bt588.2.1, bt588.2.2.1, bt588.2.2.2.1, bt588.2.2.2.2)))))
def reply_entry.l1 : Nat → (List (S57)) → Int → ByteArray → (List (S46)) → (List (S57)) → Int → Option (Int × Bool × Int × ByteArray × (List (S57)))
 | 0, _, _, _, _, _, _ => none
 | k + 1, x148, x151, a0_6, l0_7, x47, x50 => if x151 < (((rd_T46 l0_7 x50).f1).length : Int) then (if 0 ≤ x151 then ((reply_text.f (rdOf ByteArray.empty ((rd_T46 l0_7 x50).f1) x151)).bind fun bt190 => (if x148.length < 2199023255552 then ((some (x148 ++ [(⟨bt190.1, bt190.2.1, bt190.2.2.1, bt190.2.2.2.1, bt190.2.2.2.2⟩ : S57)] : List (S57))).bind fun y233 => ((reply_entry.l1 k y233 (wrap64 (x151 + 1)) a0_6 l0_7 x47 x50))) else (none))) else (none)) else ((reply_text.f ((rd_T46 l0_7 x50).f0)).bind fun bt270 => ((reply_group.f 0 17 x148).bind fun bt312 => ((reply_group.f 0 16 [(⟨bt270.1, bt270.2.1, bt270.2.2.1, bt270.2.2.2.1, bt270.2.2.2.2⟩ : S57), (⟨bt312.1, bt312.2.1, bt312.2.2.1, bt312.2.2.2.1, bt312.2.2.2.2⟩ : S57)]).bind fun bt395 => (if x47.length < 2199023255552 then ((some (x47 ++ [(⟨bt395.1, bt395.2.1, bt395.2.2.1, bt395.2.2.2.1, bt395.2.2.2.2⟩ : S57)] : List (S57))).bind fun y438 => ((reply_entry.l0 k y438 (wrap64 (x50 + 1)) a0_6 l0_7))) else (none)))))
end
def reply_entry.f (k : Nat) (a0_0 : Int) (a0_1 : Int) (a0_2 : Bool) (a0_3 : Int) (a0_4 : ByteArray) (a0_5 : ByteArray) (a0_6 : ByteArray) (l0_7 : List (S46)) : Option (Int × Bool × Int × ByteArray × (List (S57))) := (reply_entry.l0 k ([] : List (S57)) 0 a0_6 l0_7)
theorem reply_entry.mono_l : ∀ k, (∀ y0 y1 y2 y3, LeO (reply_entry.l0 k y0 y1 y2 y3) (reply_entry.l0 (k + 1) y0 y1 y2 y3)) ∧ (∀ y0 y1 y2 y3 y4 y5, LeO (reply_entry.l1 k y0 y1 y2 y3 y4 y5) (reply_entry.l1 (k + 1) y0 y1 y2 y3 y4 y5))
 | 0 => ⟨fun _ _ _ _ r h => by simp [reply_entry.l0] at h, fun _ _ _ _ _ _ r h => by simp [reply_entry.l1] at h⟩
 | k + 1 => by
  obtain ⟨ih0, ih1⟩ := reply_entry.mono_l k
  refine ⟨?_, ?_⟩
  ·intro y0 y1 y2 y3
   unfold reply_entry.l0
   repeat' first
   | (with_reducible exact ih0 _ _ _ _)
   | (with_reducible exact ih1 _ _ _ _ _ _)
   | (with_reducible exact LeO.refl _)
   | (with_reducible exact LeO.none _)
   | (with_reducible refine LeO.ite ?_ ?_)
   | (with_reducible refine LeO.bind ?_ (fun _ => ?_))
  intro y0 y1 y2 y3 y4 y5
  unfold reply_entry.l1
  repeat' first
  | (with_reducible exact ih0 _ _ _ _)
  | (with_reducible exact ih1 _ _ _ _ _ _)
  | (with_reducible exact LeO.refl _)
  | (with_reducible exact LeO.none _)
  | (with_reducible refine LeO.ite ?_ ?_)
  | (with_reducible refine LeO.bind ?_ (fun _ => ?_))
theorem reply_entry.mono : ∀ a0_ a1_ a2_ a3_ a4_ a5_ a6_ a7_ k, LeO (reply_entry.f k a0_ a1_ a2_ a3_ a4_ a5_ a6_ a7_) (reply_entry.f (k + 1) a0_ a1_ a2_ a3_ a4_ a5_ a6_ a7_) := by
 intro a0_ a1_ a2_ a3_ a4_ a5_ a6_ a7_ k
 obtain ⟨ih0, ih1⟩ := reply_entry.mono_l k
 unfold reply_entry.f
 repeat' first
   | (with_reducible exact ih0 _ _ _ _)
   | (with_reducible exact ih1 _ _ _ _ _ _)
   | (with_reducible exact LeO.refl _)
   | (with_reducible exact LeO.none _)
   | (with_reducible refine LeO.ite ?_ ?_)
   | (with_reducible refine LeO.bind ?_ (fun _ => ?_))
set_option maxHeartbeats 8000000 in
set_option maxRecDepth 100000 in
theorem reply_entry.calls (k : Nat) (P_ : Nat → Prop) (a0_0 : Int) (a0_1 : Int) (a0_2 : Bool) (a0_3 : Int) (a0_4 : ByteArray) (a0_5 : ByteArray) (a0_6 : ByteArray) (A0_7 : Option Addr) (c0_7 : Nat) (l0_7 : List (S46)) (r1 : Int) (r2 : Bool) (r3 : Int) (r4 : ByteArray) (r5 : List (S57)) (w : World) (hs0_7 : Kd.F k46 w P_ A0_7 l0_7.length l0_7) (hc0_7 : l0_7.length ≤ c0_7) (h : reply_entry.f k a0_0 a0_1 a0_2 a0_3 a0_4 a0_5 a0_6 l0_7 = some (r1, r2, r3, r4, r5)) :
  Calls Try.prog 43 #[.agg #[.int .i64 a0_0, .int .i64 a0_1, .bool a0_2, .int .i64 a0_3, .string a0_4, .string a0_5, .string a0_6, .slice A0_7 l0_7.length c0_7]] w (fun e w' => ∃ v4_ : Value, e = .returned (.agg #[.int .i64 r1, .bool r2, .int .i64 r3, .string r4, v4_]) ∧ Kd.N k57 57 w' w.heap.size (fun k_ => P_ k_ ∨ w.heap.size ≤ k_) v4_ r5 ∧ Below w.heap.size w w') := by
 have HH := Aside0.mk (show ((reply_entry.l0 k ([] : List (S57)) 0 a0_6 l0_7)) = some (r1, r2, r3, r4, r5) from h)
 clear h
 have HF0_7 := zfp hs0_7
 clear hs0_7 hc0_7
 have HB := Aside0.mk (Below.refl w.heap.size w)
 have hu27 := Try.underlying27
 have hu46 := Try.underlying46
 have hu57 := Try.underlying57
 go_enter Try.func43, Try.ntmps43
 go_wp2_with ((with_reducible refine gd 1 rfl ?_); refine zb 1 27 #[.int .i64 a0_0, .int .i64 a0_1, .bool a0_2, .int .i64 a0_3, .string a0_4, .string a0_5, .string a0_6, .slice A0_7 l0_7.length c0_7] (h := ?_); intro g1 hg w2 BKg1 hb)
 refine Stop.go ?_
 replace HF0_7 := zfe HF0_7.out hg hb
 replace HB := zhb HB.out hb
 clear hg hb
 obtain ⟨j3, j4, j5, j6, j7, j8, j9, ja, jb, jc, jd, je, jf, jg, jh, ji⟩ := MB.lay8 BKg1.out
 go_wp2_with ((with_reducible refine gd 2 rfl ?_); refine zb 2 57 #[.int .i64 0, .bool false, .int .i64 0, .string (⟨#[]⟩ : ByteArray), .slice none 0 0] (h := ?_); intro g19 hg w20 BKg19 hb)
 refine Stop.go ?_
 have GEg19 := zge hg (below_size HB.out)
 have NEg1_g19 := znq hg BKg1.out
 replace HF0_7 := zfe HF0_7.out hg hb
 replace BKg1 := zbb BKg1.out hb
 replace HB := zhb HB.out hb
 clear hg hb
 clear j3 j4 j5 j6 j7 j8 j9 ja jb jc jd je jf jg jh ji
 obtain ⟨jl, jm, jn, jo, jp, jq, jr, js, jt, ju, jv, jw, jx, jy, jz, jA⟩ := MB.lay8 BKg1.out
 obtain ⟨jB, jC, jD, jE, jF, jG, jH, jI, jJ, jK⟩ := MB.lay5 BKg19.out
 go_wp2
 go_loopg [3, 12] k (fun kq u3 u12 w' => ∃ (x47 : List (S57)) (x50 : Int), u12 = .int .i64 x50 ∧ Aside0 ((reply_entry.l0 kq x47 x50 a0_6 l0_7) = some (r1, r2, r3, r4, r5)) ∧ Aside0 (kq ≤ k) ∧ Aside0 (Kd.F k46 w' (fun k_ => (((P_ k_ ∨ w.heap.size ≤ k_) ∧ some k_ ≠ (u3 : Value).ownBlock) ∧ k_ ≠ g1) ∧ k_ ≠ g19) A0_7 l0_7.length l0_7) ∧ Aside0 (Kd.N k57 57 w' w.heap.size (fun k_ => ((P_ k_ ∨ w.heap.size ≤ k_) ∧ k_ ≠ g1) ∧ k_ ≠ g19) u3 x47) ∧ Aside0 (w'.heap[g1]? = some (.cells #[.int .i64 a0_0, .int .i64 a0_1, .bool a0_2, .int .i64 a0_3, .string a0_4, .string a0_5, .string a0_6, .slice A0_7 l0_7.length c0_7] 27 (0, 0))) ∧ Aside0 (w'.heap[g19]? = some (.cells #[.int .i64 0, .bool false, .int .i64 0, .string (⟨#[]⟩ : ByteArray), .slice none 0 0] 57 (0, 0))) ∧ Aside0 (Below w.heap.size w w'))
 case atStart => exact ⟨([] : List (S57)), 0, (by first | rfl | (simp; done) | (simp [*]; done)), HH, ⟨Nat.le_refl _⟩, ⟨(Kd.F_mono (ok := (fun k_ => ((P_ k_ ∨ w.heap.size ≤ k_) ∧ k_ ≠ g1) ∧ k_ ≠ g19)) HF0_7.out (fun k_ hk_ => ⟨⟨⟨hk_.1.1, (by simp [Value.ownBlock])⟩, hk_.1.2⟩, hk_.2⟩))⟩, ⟨Kd.N_nil _ _ _ _ _⟩, ⟨BKg1.out⟩, ⟨BKg19.out⟩, ⟨HB.out⟩⟩
 case round =>
  clear jl jm jn jo jp jq jr js jt ju jv jw jx jy jz jA jB jC jD jE jF jG jH jI jJ jK
  clear HH
  clear HF0_7 BKg1 BKg19 HB
  obtain ⟨x47, x50, rfl, HA, HK0, HF0_7, HN49, BKg1, BKg19, HB⟩ := hrel
  obtain ⟨v48, rfl⟩ : ∃ z_ : Value, z_ = u3 := ⟨_, rfl⟩
  obtain ⟨w52, rfl⟩ : ∃ wo_ : World, wo_ = wr := ⟨_, rfl⟩
  cases gk with
  | zero => exact absurd HA.out (by simp [reply_entry.l0])
  | succ k51 =>
   have H := HA.out
   clear HA
   simp only [reply_entry.l0] at H
   have HH := Aside0.mk H
   clear H
   obtain ⟨jR, jS, jT, jU, jV, jW, jX, jY, jZ, j10, j11, j12, j13, j14, j15, j16⟩ := MB.lay8 BKg1.out
   obtain ⟨j17, j18, j19, j1a, j1b, j1c, j1d, j1e, j1f, j1g⟩ := MB.lay5 BKg19.out
   replace HH := zqt HH
   rcases HH with ⟨HH, hk80, hk81⟩ | ⟨HH, hk473, hk474⟩
   ·replace HH := zqdo HH
    obtain ⟨HH, hk83⟩ := HH
    have p84 : 0 ≤ (x50 : Int) := of_decide_eq_true (by first | (with_reducible assumption) | assumption)
    have q84 : x50 < (l0_7.length : Int) := of_decide_eq_true (by first | (with_reducible assumption) | assumption)
    obtain ⟨ad84, A84_1, c84_1, e84, hx84_0, hx84_1, hl84_1, hi84_1⟩ := atF_T46 HF0_7.out x50 p84 q84
    cases e84
    have HF84_1 := Aside0.mk hi84_1
    clear hi84_1 hl84_1
    replace p84 := eq_true p84
    replace q84 := eq_true q84
    go_wp2_with ((with_reducible refine gd 5 rfl ?_); refine zb 5 46 #[.string (⟨#[]⟩ : ByteArray), .slice none 0 0] (h := ?_); intro g85 hg w86 BKg85 hb)
    refine Stop.go ?_
    have GEg85 := zge hg (below_size HB.out)
    have NEg1_g85 := znq hg BKg1.out
    have NEg19_g85 := znq hg BKg19.out
    replace HF0_7 := zfe HF0_7.out hg hb
    replace HF84_1 := zfe HF84_1.out hg hb
    replace HN49 := zne HN49.out hg hb
    replace BKg1 := zbb BKg1.out hb
    replace BKg19 := zbb BKg19.out hb
    replace HB := zhb HB.out hb
    clear hg hb
    clear jR jS jT jU jV jW jX jY jZ j10 j11 j12 j13 j14 j15 j16 j17 j18 j19 j1a j1b j1c j1d j1e j1f j1g hx84_0 hx84_1 p84 q84
    obtain ⟨j1p, j1q, j1r, j1s, j1t, j1u, j1v, j1w, j1x, j1y, j1z, j1A, j1B, j1C, j1D, j1E⟩ := MB.lay8 BKg1.out
    obtain ⟨j1F, j1G, j1H, j1I, j1J, j1K, j1L, j1M, j1N, j1O⟩ := MB.lay5 BKg19.out
    obtain ⟨j1P, j1Q, j1R, j1S⟩ := MB.lay2 BKg85.out
    go_wp2_with ((with_reducible refine gs 46 5 rfl ?_); refine zs 46 5 #[.string ((rd_T46 l0_7 x50).f0), .slice A84_1 ((rd_T46 l0_7 x50).f1).length c84_1] BKg85.out [.string ((rd_T46 l0_7 x50).f0), .slice A84_1 ((rd_T46 l0_7 x50).f1).length c84_1] (h := ?_); intro w117 hbk hg)
    refine Stop.go ?_
    replace HF0_7 := zfg HF0_7.out hg fun k_ hk_ => hk_.2
    replace HF84_1 := zfg HF84_1.out hg fun k_ hk_ => hk_.2
    replace HN49 := zng HN49.out hg fun k_ hk_ => hk_.2
    replace BKg1 := zbg BKg1.out hg NEg1_g85
    replace BKg19 := zbg BKg19.out hg NEg19_g85
    replace HB := zhg HB.out hg (below_size HB.out) GEg85
    replace BKg85 := hbk
    clear hg hbk
    clear j1p j1q j1r j1s j1t j1u j1v j1w j1x j1y j1z j1A j1B j1C j1D j1E j1F j1G j1H j1I j1J j1K j1L j1M j1N j1O j1P j1Q j1R j1S
    obtain ⟨j1U, j1V, j1W, j1X, j1Y, j1Z, j20, j21, j22, j23, j24, j25, j26, j27, j28, j29⟩ := MB.lay8 BKg1.out
    obtain ⟨j2a, j2b, j2c, j2d, j2e, j2f, j2g, j2h, j2i, j2j⟩ := MB.lay5 BKg19.out
    obtain ⟨j2k, j2l, j2m, j2n⟩ := MB.lay2 BKg85.out
    go_wp2
    go_loopg [6, 19] k51 (fun kq u6 u19 w' => ∃ (x148 : List (S57)) (x151 : Int), u19 = .int .i64 x151 ∧ Aside0 ((reply_entry.l1 kq x148 x151 a0_6 l0_7 x47 x50) = some (r1, r2, r3, r4, r5)) ∧ Aside0 (kq ≤ k51) ∧ Aside0 (Kd.F k46 w' (fun k_ => (((((P_ k_ ∨ w.heap.size ≤ k_) ∧ some k_ ≠ (v48 : Value).ownBlock) ∧ some k_ ≠ (u6 : Value).ownBlock) ∧ k_ ≠ g1) ∧ k_ ≠ g19) ∧ k_ ≠ g85) (some ad84) l0_7.length l0_7) ∧ Aside0 (Kd.F Kd.string w' (fun k_ => (((((P_ k_ ∨ w.heap.size ≤ k_) ∧ some k_ ≠ (v48 : Value).ownBlock) ∧ some k_ ≠ (u6 : Value).ownBlock) ∧ k_ ≠ g1) ∧ k_ ≠ g19) ∧ k_ ≠ g85) A84_1 ((rd_T46 l0_7 x50).f1).length ((rd_T46 l0_7 x50).f1)) ∧ Aside0 (Kd.N k57 57 w' w.heap.size (fun k_ => ((((P_ k_ ∨ w.heap.size ≤ k_) ∧ some k_ ≠ (u6 : Value).ownBlock) ∧ k_ ≠ g1) ∧ k_ ≠ g19) ∧ k_ ≠ g85) v48 x47) ∧ Aside0 (Kd.N k57 57 w' w.heap.size (fun k_ => ((((P_ k_ ∨ w.heap.size ≤ k_) ∧ some k_ ≠ (v48 : Value).ownBlock) ∧ k_ ≠ g1) ∧ k_ ≠ g19) ∧ k_ ≠ g85) u6 x148) ∧ Aside0 (w'.heap[g1]? = some (.cells #[.int .i64 a0_0, .int .i64 a0_1, .bool a0_2, .int .i64 a0_3, .string a0_4, .string a0_5, .string a0_6, .slice (some ad84) l0_7.length c0_7] 27 (0, 0))) ∧ Aside0 (w'.heap[g19]? = some (.cells #[.int .i64 0, .bool false, .int .i64 0, .string (⟨#[]⟩ : ByteArray), .slice none 0 0] 57 (0, 0))) ∧ Aside0 (w'.heap[g85]? = some (.cells #[.string ((rd_T46 l0_7 x50).f0), .slice A84_1 ((rd_T46 l0_7 x50).f1).length c84_1] 46 (0, 0))) ∧ Aside0 (Below w.heap.size w w'))
    case atStart => exact ⟨([] : List (S57)), 0, (by first | rfl | (simp; done) | (simp [*]; done)), HH, ⟨Nat.le_refl _⟩, ⟨(Kd.F_mono (ok := (fun k_ => ((((P_ k_ ∨ w.heap.size ≤ k_) ∧ some k_ ≠ (v48 : Value).ownBlock) ∧ k_ ≠ g1) ∧ k_ ≠ g19) ∧ k_ ≠ g85)) HF0_7.out (fun k_ hk_ => ⟨⟨⟨⟨⟨hk_.1.1.1.1, hk_.1.1.1.2⟩, (by simp [Value.ownBlock])⟩, hk_.1.1.2⟩, hk_.1.2⟩, hk_.2⟩))⟩, ⟨(Kd.F_mono (ok := (fun k_ => ((((P_ k_ ∨ w.heap.size ≤ k_) ∧ some k_ ≠ (v48 : Value).ownBlock) ∧ k_ ≠ g1) ∧ k_ ≠ g19) ∧ k_ ≠ g85)) HF84_1.out (fun k_ hk_ => ⟨⟨⟨⟨⟨hk_.1.1.1.1, hk_.1.1.1.2⟩, (by simp [Value.ownBlock])⟩, hk_.1.1.2⟩, hk_.1.2⟩, hk_.2⟩))⟩, ⟨(Kd.N_mono (ok := (fun k_ => (((P_ k_ ∨ w.heap.size ≤ k_) ∧ k_ ≠ g1) ∧ k_ ≠ g19) ∧ k_ ≠ g85)) HN49.out (fun k_ hk_ => ⟨⟨⟨⟨hk_.1.1.1, (by simp [Value.ownBlock])⟩, hk_.1.1.2⟩, hk_.1.2⟩, hk_.2⟩))⟩, ⟨Kd.N_nil _ _ _ _ _⟩, ⟨BKg1.out⟩, ⟨BKg19.out⟩, ⟨BKg85.out⟩, ⟨HB.out⟩⟩
    case round =>
     clear j1U j1V j1W j1X j1Y j1Z j20 j21 j22 j23 j24 j25 j26 j27 j28 j29 j2a j2b j2c j2d j2e j2f j2g j2h j2i j2j j2k j2l j2m j2n
     clear hk80
     clear hk81
     clear hk83
     clear HH
     clear HF0_7 HF84_1 HN49 BKg1 BKg19 BKg85 HB
     obtain ⟨x148, x151, rfl, HA, HK1, HF0_7, HF84_1, HN49, HN150, BKg1, BKg19, BKg85, HB⟩ := hrel
     obtain ⟨v149, rfl⟩ : ∃ z_ : Value, z_ = u6 := ⟨_, rfl⟩
     obtain ⟨w153, rfl⟩ : ∃ wo_ : World, wo_ = wr := ⟨_, rfl⟩
     cases gk with
     | zero => exact absurd HA.out (by simp [reply_entry.l1])
     | succ k152 =>
      have H := HA.out
      clear HA
      simp only [reply_entry.l1] at H
      have HH := Aside0.mk H
      clear H
      obtain ⟨j2u, j2v, j2w, j2x, j2y, j2z, j2A, j2B, j2C, j2D, j2E, j2F, j2G, j2H, j2I, j2J⟩ := MB.lay8 BKg1.out
      obtain ⟨j2K, j2L, j2M, j2N, j2O, j2P, j2Q, j2R, j2S, j2T⟩ := MB.lay5 BKg19.out
      obtain ⟨j2U, j2V, j2W, j2X⟩ := MB.lay2 BKg85.out
      replace HH := zqt HH
      rcases HH with ⟨HH, hk185, hk186⟩ | ⟨HH, hk268, hk269⟩
      ·replace HH := zqdo HH
       obtain ⟨HH, hk188⟩ := HH
       have p189 : 0 ≤ (x151 : Int) := of_decide_eq_true (by first | (with_reducible assumption) | assumption)
       have q189 : x151 < (((rd_T46 l0_7 x50).f1).length : Int) := of_decide_eq_true (by first | (with_reducible assumption) | assumption)
       obtain ⟨ad189, e189, hx189_0⟩ := Kd.at_string (Kd.F_now HF84_1.out) x151 p189 q189
       cases e189
       replace p189 := eq_true p189
       replace q189 := eq_true q189
       replace HH := zd HH
       obtain ⟨⟨t190, t191, t192, t193, t194⟩, At195, HH⟩ := HH
       dsimp only at HH
       go_wp2_with ((with_reducible refine gc 60 rfl ?_); refine zc 60 (some 25) Try.func60 #[.string (rdOf ByteArray.empty ((rd_T46 l0_7 x50).f1) x151)] (h := ?_); (with_reducible refine (reply_text.calls  (rdOf ByteArray.empty ((rd_T46 l0_7 x50).f1) x151) t190 t191 t192 t193 t194 _  At195.out).mono ?_); rintro e w196 ⟨v197, rfl, hn197, hb⟩; refine ⟨_, rfl, ?_⟩)
       refine Stop.go ?_
       have hba := Kd.N_base hn197
       have HN197 := znl (ok2 := (fun k_ => (((((P_ k_ ∨ w.heap.size ≤ k_) ∧ some k_ ≠ (v48 : Value).ownBlock) ∧ some k_ ≠ (v149 : Value).ownBlock) ∧ k_ ≠ g1) ∧ k_ ≠ g19) ∧ k_ ≠ g85)) hn197 (below_size HB.out) (fun k_ h_ => ⟨⟨⟨⟨⟨.inr (Nat.le_trans (below_size HB.out) h_), Kd.fresh' (Kd.N_lt HN49.out) k_ h_⟩, Kd.fresh' (Kd.N_lt HN150.out) k_ h_⟩, Kd.freshB (g := g1) BKg1.out k_ h_⟩, Kd.freshB (g := g19) BKg19.out k_ h_⟩, Kd.freshB (g := g85) BKg85.out k_ h_⟩)
       replace HF0_7 := zfr (v := v197) HF0_7.out hba hb
       replace HF84_1 := zfr (v := v197) HF84_1.out hba hb
       replace HN49 := znr (u := v197) HN49.out hba hb
       replace HN150 := znr (u := v197) HN150.out hba hb
       replace BKg1 := zbb BKg1.out hb
       replace BKg19 := zbb BKg19.out hb
       replace BKg85 := zbb BKg85.out hb
       replace HB := zhb HB.out hb
       clear hn197 hba hb
       clear j2u j2v j2w j2x j2y j2z j2A j2B j2C j2D j2E j2F j2G j2H j2I j2J j2K j2L j2M j2N j2O j2P j2Q j2R j2S j2T j2U j2V j2W j2X hx189_0 p189 q189
       obtain ⟨j3c, j3d, j3e, j3f, j3g, j3h, j3i, j3j, j3k, j3l, j3m, j3n, j3o, j3p, j3q, j3r⟩ := MB.lay8 BKg1.out
       obtain ⟨j3s, j3t, j3u, j3v, j3w, j3x, j3y, j3z, j3A, j3B⟩ := MB.lay5 BKg19.out
       obtain ⟨j3C, j3D, j3E, j3F⟩ := MB.lay2 BKg85.out
       obtain ⟨A228, cp229, he_⟩ := Kd.N_slice HN197.out
       subst he_
       have HL231 := Aside0.mk (Kd.N_reads' HN197.out).2.1
       have HF230 := Aside0.mk (Kd.N_F HN197.out)
       clear HN197
       replace HF0_7 := Aside0.mk (Kd.F_mono (ok := (fun k_ => ((((((P_ k_ ∨ w.heap.size ≤ k_) ∧ some k_ ≠ (v48 : Value).ownBlock) ∧ some k_ ≠ (v149 : Value).ownBlock) ∧ k_ ≠ g1) ∧ k_ ≠ g19) ∧ k_ ≠ g85) ∧ some k_ ≠ ((.slice A228 t194.length cp229) : Value).ownBlock)) HF0_7.out (fun k_ hk_ => hk_.1) : Kd.F k46 _ (fun k_ => (((((P_ k_ ∨ w.heap.size ≤ k_) ∧ some k_ ≠ (v48 : Value).ownBlock) ∧ some k_ ≠ (v149 : Value).ownBlock) ∧ k_ ≠ g1) ∧ k_ ≠ g19) ∧ k_ ≠ g85) _ _ _)
       replace HF84_1 := Aside0.mk (Kd.F_mono (ok := (fun k_ => ((((((P_ k_ ∨ w.heap.size ≤ k_) ∧ some k_ ≠ (v48 : Value).ownBlock) ∧ some k_ ≠ (v149 : Value).ownBlock) ∧ k_ ≠ g1) ∧ k_ ≠ g19) ∧ k_ ≠ g85) ∧ some k_ ≠ ((.slice A228 t194.length cp229) : Value).ownBlock)) HF84_1.out (fun k_ hk_ => hk_.1) : Kd.F Kd.string _ (fun k_ => (((((P_ k_ ∨ w.heap.size ≤ k_) ∧ some k_ ≠ (v48 : Value).ownBlock) ∧ some k_ ≠ (v149 : Value).ownBlock) ∧ k_ ≠ g1) ∧ k_ ≠ g19) ∧ k_ ≠ g85) _ _ _)
       replace HN49 := Aside0.mk (Kd.N_mono (ok := (fun k_ => (((((P_ k_ ∨ w.heap.size ≤ k_) ∧ some k_ ≠ (v149 : Value).ownBlock) ∧ k_ ≠ g1) ∧ k_ ≠ g19) ∧ k_ ≠ g85) ∧ some k_ ≠ ((.slice A228 t194.length cp229) : Value).ownBlock)) HN49.out (fun k_ hk_ => hk_.1) : Kd.N k57 _ _ _ (fun k_ => ((((P_ k_ ∨ w.heap.size ≤ k_) ∧ some k_ ≠ (v149 : Value).ownBlock) ∧ k_ ≠ g1) ∧ k_ ≠ g19) ∧ k_ ≠ g85) _ _)
       replace HN150 := Aside0.mk (Kd.N_mono (ok := (fun k_ => (((((P_ k_ ∨ w.heap.size ≤ k_) ∧ some k_ ≠ (v48 : Value).ownBlock) ∧ k_ ≠ g1) ∧ k_ ≠ g19) ∧ k_ ≠ g85) ∧ some k_ ≠ ((.slice A228 t194.length cp229) : Value).ownBlock)) HN150.out (fun k_ hk_ => hk_.1) : Kd.N k57 _ _ _ (fun k_ => ((((P_ k_ ∨ w.heap.size ≤ k_) ∧ some k_ ≠ (v48 : Value).ownBlock) ∧ k_ ≠ g1) ∧ k_ ≠ g19) ∧ k_ ≠ g85) _ _)
       obtain ⟨HH, LMc232⟩ := zlm HH
       obtain ⟨y233, hy233⟩ : ∃ y_ : List (S57), y_ = (x148 ++ [(⟨t190, t191, t192, t193, t194⟩ : S57)]) := ⟨_, rfl⟩
       have H : ((reply_entry.l1 k152 y233 (wrap64 (x151 + 1)) a0_6 l0_7 x47 x50)) = some (r1, r2, r3, r4, r5) := by rw [hy233]; exact HH.out
       replace HH := Aside0.mk H
       clear H
       have NYy233 := Aside0.mk hy233
       clear hy233
       go_wp2_with (((with_reducible refine gate_dst (N := 27) rfl ?_); (try (refine gate_guard (by rfl) ?_; dsimp only)); refine Kd.N_append k57 w.heap.size rfl _ _ 55 57 (.agg #[(.int .i64 0), (.bool false), (.int .i64 0), (.string ⟨#[]⟩), (.slice none 0 0)]) 64 rfl Try.underlying55 info57 rfl (by decide) (by decide) (v149) x148 (⟨t190, t191, t192, t193, t194⟩ : S57) [.int .i64 t190, .bool t191, .int .i64 t192, .string t193, .slice A228 t194.length cp229] (fun k_ => ((((P_ k_ ∨ w.heap.size ≤ k_) ∧ some k_ ≠ (v48 : Value).ownBlock) ∧ k_ ≠ g1) ∧ k_ ≠ g19) ∧ k_ ≠ g85) (fun k_ => (fun k_ => ((((P_ k_ ∨ w.heap.size ≤ k_) ∧ some k_ ≠ (v48 : Value).ownBlock) ∧ k_ ≠ g1) ∧ k_ ≠ g19) ∧ k_ ≠ g85) k_ ∧ some k_ ≠ (v149 : Value).ownBlock) rfl rfl (k57_mkF _ _ (⟨t190, t191, t192, t193, t194⟩ : S57) HL231.out (Kd.F_mono (ok := (fun k_ => (((((P_ k_ ∨ w.heap.size ≤ k_) ∧ some k_ ≠ (v48 : Value).ownBlock) ∧ some k_ ≠ (v149 : Value).ownBlock) ∧ k_ ≠ g1) ∧ k_ ≠ g19) ∧ k_ ≠ g85)) (by (with_reducible repeat (first | apply Kd.F_alloc | apply Kd.F_drewN | apply Kd.F_drew)); exact HF230.out) (fun k_ hk_ => ⟨⟨⟨⟨⟨hk_.1.1.1.1.1, hk_.1.1.1.1.2⟩, hk_.1.1.2⟩, hk_.1.2⟩, hk_.2⟩, hk_.1.1.1.2⟩))) (fun _ hk_ => hk_) (fun k_ h_ => ⟨⟨⟨⟨.inr (Nat.le_trans (below_size (by repeat (first | (with_reducible first | exact HB.out | apply below_alloc | apply pw_below_drewN | apply below_drew1) | exact HB.out))) h_), Kd.fresh' (Kd.N_lt (by (with_reducible repeat (first | apply Kd.N_alloc | apply Kd.N_drewN | apply Kd.N_drew)); exact HN49.out)) k_ h_⟩, Kd.freshB (g := g1) (o := .cells #[.int .i64 a0_0, .int .i64 a0_1, .bool a0_2, .int .i64 a0_3, .string a0_4, .string a0_5, .string a0_6, .slice (some ad84) l0_7.length c0_7] 27 (0, 0)) (by (with_reducible repeat (first | refine blk_drewN ?_ _ | refine blk_drew ?_ | refine blk_alloc ?_ _)); exact BKg1.out) k_ h_⟩, Kd.freshB (g := g19) (o := .cells #[.int .i64 0, .bool false, .int .i64 0, .string (⟨#[]⟩ : ByteArray), .slice none 0 0] 57 (0, 0)) (by (with_reducible repeat (first | refine blk_drewN ?_ _ | refine blk_drew ?_ | refine blk_alloc ?_ _)); exact BKg19.out) k_ h_⟩, Kd.freshB (g := g85) (o := .cells #[.string ((rd_T46 l0_7 x50).f0), .slice (some ad189) ((rd_T46 l0_7 x50).f1).length c84_1] 46 (0, 0)) (by (with_reducible repeat (first | refine blk_drewN ?_ _ | refine blk_drew ?_ | refine blk_alloc ?_ _)); exact BKg85.out) k_ h_⟩) (by (with_reducible repeat (first | apply Kd.N_alloc | apply Kd.N_drewN | apply Kd.N_drew)); exact HN150.out) (by repeat (first | (with_reducible first | exact HB.out | apply below_alloc | apply pw_below_drewN | apply below_drew1) | exact HB.out)) (below_size (by repeat (first | (with_reducible first | exact HB.out | apply below_alloc | apply pw_below_drewN | apply below_drew1) | exact HB.out))) (by first | (have := LMc232.out; omega) | (have := LMc232.out; simp at *; omega)) ?_; intro v234 w235 hn1 hb1 hg1 hat1); replace hat1 := Aside0.mk hat1; refine stop_ ?_)
       refine Stop.go ?_
       replace hat1 := hat1.out
       replace HF0_7 := Aside0.mk (Kd.F_mono (Kd.F_after (v := v149) (ok := (fun k_ => ((((P_ k_ ∨ w.heap.size ≤ k_) ∧ some k_ ≠ (v48 : Value).ownBlock) ∧ k_ ≠ g1) ∧ k_ ≠ g19) ∧ k_ ≠ g85)) (Kd.F_mono (ok := (fun k_ => (((((P_ k_ ∨ w.heap.size ≤ k_) ∧ some k_ ≠ (v48 : Value).ownBlock) ∧ some k_ ≠ (v149 : Value).ownBlock) ∧ k_ ≠ g1) ∧ k_ ≠ g19) ∧ k_ ≠ g85)) (by (with_reducible repeat (first | apply Kd.F_alloc | apply Kd.F_drewN | apply Kd.F_drew)); exact HF0_7.out) (fun k_ hk_ => ⟨⟨⟨⟨⟨hk_.1.1.1.1.1, hk_.1.1.1.1.2⟩, hk_.1.1.2⟩, hk_.1.2⟩, hk_.2⟩, hk_.1.1.1.2⟩)) hg1 hat1) (fun k_ hk_ => hk_) : Kd.F k46 _ (fun k_ => (((((P_ k_ ∨ w.heap.size ≤ k_) ∧ some k_ ≠ (v48 : Value).ownBlock) ∧ k_ ≠ g1) ∧ k_ ≠ g19) ∧ k_ ≠ g85) ∧ some k_ ≠ (v234 : Value).ownBlock) _ _ _)
       replace HF84_1 := Aside0.mk (Kd.F_mono (Kd.F_after (v := v149) (ok := (fun k_ => ((((P_ k_ ∨ w.heap.size ≤ k_) ∧ some k_ ≠ (v48 : Value).ownBlock) ∧ k_ ≠ g1) ∧ k_ ≠ g19) ∧ k_ ≠ g85)) (Kd.F_mono (ok := (fun k_ => (((((P_ k_ ∨ w.heap.size ≤ k_) ∧ some k_ ≠ (v48 : Value).ownBlock) ∧ some k_ ≠ (v149 : Value).ownBlock) ∧ k_ ≠ g1) ∧ k_ ≠ g19) ∧ k_ ≠ g85)) (by (with_reducible repeat (first | apply Kd.F_alloc | apply Kd.F_drewN | apply Kd.F_drew)); exact HF84_1.out) (fun k_ hk_ => ⟨⟨⟨⟨⟨hk_.1.1.1.1.1, hk_.1.1.1.1.2⟩, hk_.1.1.2⟩, hk_.1.2⟩, hk_.2⟩, hk_.1.1.1.2⟩)) hg1 hat1) (fun k_ hk_ => hk_) : Kd.F Kd.string _ (fun k_ => (((((P_ k_ ∨ w.heap.size ≤ k_) ∧ some k_ ≠ (v48 : Value).ownBlock) ∧ k_ ≠ g1) ∧ k_ ≠ g19) ∧ k_ ≠ g85) ∧ some k_ ≠ (v234 : Value).ownBlock) _ _ _)
       replace HN49 := Aside0.mk (Kd.N_mono (Kd.N_after (u := v149) (ok := (fun k_ => (((P_ k_ ∨ w.heap.size ≤ k_) ∧ k_ ≠ g1) ∧ k_ ≠ g19) ∧ k_ ≠ g85)) (Kd.N_mono (ok := (fun k_ => ((((P_ k_ ∨ w.heap.size ≤ k_) ∧ some k_ ≠ (v149 : Value).ownBlock) ∧ k_ ≠ g1) ∧ k_ ≠ g19) ∧ k_ ≠ g85)) (by (with_reducible repeat (first | apply Kd.N_alloc | apply Kd.N_drewN | apply Kd.N_drew)); exact HN49.out) (fun k_ hk_ => ⟨⟨⟨⟨hk_.1.1.1.1, hk_.1.1.2⟩, hk_.1.2⟩, hk_.2⟩, hk_.1.1.1.2⟩)) hg1 hat1) (fun k_ hk_ => hk_) : Kd.N k57 _ _ _ (fun k_ => ((((P_ k_ ∨ w.heap.size ≤ k_) ∧ k_ ≠ g1) ∧ k_ ≠ g19) ∧ k_ ≠ g85) ∧ some k_ ≠ (v234 : Value).ownBlock) _ _)
       replace BKg1 := Aside0.mk (blk_grown (g := g1) (o := .cells #[.int .i64 a0_0, .int .i64 a0_1, .bool a0_2, .int .i64 a0_3, .string a0_4, .string a0_5, .string a0_6, .slice (some ad84) l0_7.length c0_7] 27 (0, 0)) (by (with_reducible repeat (first | refine blk_drewN ?_ _ | refine blk_drew ?_ | refine blk_alloc ?_ _)); exact BKg1.out) hg1 (Kd.N_away (ok := (fun k_ => ((((P_ k_ ∨ w.heap.size ≤ k_) ∧ some k_ ≠ (v48 : Value).ownBlock) ∧ k_ ≠ g1) ∧ k_ ≠ g19) ∧ k_ ≠ g85)) HN150.out (fun k_ hk_ => hk_.1.1.2)))
       replace BKg19 := Aside0.mk (blk_grown (g := g19) (o := .cells #[.int .i64 0, .bool false, .int .i64 0, .string (⟨#[]⟩ : ByteArray), .slice none 0 0] 57 (0, 0)) (by (with_reducible repeat (first | refine blk_drewN ?_ _ | refine blk_drew ?_ | refine blk_alloc ?_ _)); exact BKg19.out) hg1 (Kd.N_away (ok := (fun k_ => ((((P_ k_ ∨ w.heap.size ≤ k_) ∧ some k_ ≠ (v48 : Value).ownBlock) ∧ k_ ≠ g1) ∧ k_ ≠ g19) ∧ k_ ≠ g85)) HN150.out (fun k_ hk_ => hk_.1.2)))
       replace BKg85 := Aside0.mk (blk_grown (g := g85) (o := .cells #[.string ((rd_T46 l0_7 x50).f0), .slice (some ad189) ((rd_T46 l0_7 x50).f1).length c84_1] 46 (0, 0)) (by (with_reducible repeat (first | refine blk_drewN ?_ _ | refine blk_drew ?_ | refine blk_alloc ?_ _)); exact BKg85.out) hg1 (Kd.N_away (ok := (fun k_ => ((((P_ k_ ∨ w.heap.size ≤ k_) ∧ some k_ ≠ (v48 : Value).ownBlock) ∧ k_ ≠ g1) ∧ k_ ≠ g19) ∧ k_ ≠ g85)) HN150.out (fun k_ hk_ => hk_.2)))
       replace HB := Aside0.mk hb1
       clear HN150
       have HN236 := Aside0.mk hn1
       clear hn1 hb1 hg1 hat1
       replace HN236 := Aside0.mk (by rw [NYy233.out]; exact HN236.out : Kd.N k57 57 w235 w.heap.size (fun k_ => ((((P_ k_ ∨ w.heap.size ≤ k_) ∧ some k_ ≠ (v48 : Value).ownBlock) ∧ k_ ≠ g1) ∧ k_ ≠ g19) ∧ k_ ≠ g85) v234 y233)
       clear j3c j3d j3e j3f j3g j3h j3i j3j j3k j3l j3m j3n j3o j3p j3q j3r j3s j3t j3u j3v j3w j3x j3y j3z j3A j3B j3C j3D j3E j3F
       obtain ⟨j3P, j3Q, j3R, j3S, j3T, j3U, j3V, j3W, j3X, j3Y, j3Z, j40, j41, j42, j43, j44⟩ := MB.lay8 BKg1.out
       obtain ⟨j45, j46, j47, j48, j49, j4a, j4b, j4c, j4d, j4e⟩ := MB.lay5 BKg19.out
       obtain ⟨j4f, j4g, j4h, j4i⟩ := MB.lay2 BKg85.out
       go_wp2
       go_roundg k152
       case measure => have := HK0.out; have := HK1.out; omega
       case rel => exact ⟨y233, wrap64 (x151 + 1), (by first | rfl | (simp; done) | (simp [*]; done)), HH, ⟨by have := HK0.out; have := HK1.out; omega⟩, ⟨(Kd.F_mono (ok := (fun k_ => (((((P_ k_ ∨ w.heap.size ≤ k_) ∧ some k_ ≠ (v48 : Value).ownBlock) ∧ k_ ≠ g1) ∧ k_ ≠ g19) ∧ k_ ≠ g85) ∧ some k_ ≠ (v234 : Value).ownBlock)) HF0_7.out (fun k_ hk_ => ⟨⟨⟨⟨⟨hk_.1.1.1.1.1, hk_.1.1.1.1.2⟩, hk_.2⟩, hk_.1.1.1.2⟩, hk_.1.1.2⟩, hk_.1.2⟩))⟩, ⟨(Kd.F_mono (ok := (fun k_ => (((((P_ k_ ∨ w.heap.size ≤ k_) ∧ some k_ ≠ (v48 : Value).ownBlock) ∧ k_ ≠ g1) ∧ k_ ≠ g19) ∧ k_ ≠ g85) ∧ some k_ ≠ (v234 : Value).ownBlock)) HF84_1.out (fun k_ hk_ => ⟨⟨⟨⟨⟨hk_.1.1.1.1.1, hk_.1.1.1.1.2⟩, hk_.2⟩, hk_.1.1.1.2⟩, hk_.1.1.2⟩, hk_.1.2⟩))⟩, ⟨(Kd.N_mono (ok := (fun k_ => ((((P_ k_ ∨ w.heap.size ≤ k_) ∧ k_ ≠ g1) ∧ k_ ≠ g19) ∧ k_ ≠ g85) ∧ some k_ ≠ (v234 : Value).ownBlock)) HN49.out (fun k_ hk_ => ⟨⟨⟨⟨hk_.1.1.1.1, hk_.2⟩, hk_.1.1.1.2⟩, hk_.1.1.2⟩, hk_.1.2⟩))⟩, ⟨(Kd.N_mono (ok := (fun k_ => ((((P_ k_ ∨ w.heap.size ≤ k_) ∧ some k_ ≠ (v48 : Value).ownBlock) ∧ k_ ≠ g1) ∧ k_ ≠ g19) ∧ k_ ≠ g85)) HN236.out (fun k_ hk_ => hk_))⟩, ⟨BKg1.out⟩, ⟨BKg19.out⟩, ⟨BKg85.out⟩, ⟨HB.out⟩⟩
      replace HH := zd HH
      obtain ⟨⟨t270, t271, t272, t273, t274⟩, At275, HH⟩ := HH
      dsimp only at HH
      go_wp2_with ((with_reducible refine gc 60 rfl ?_); refine zc 60 (some 32) Try.func60 #[.string ((rd_T46 l0_7 x50).f0)] (h := ?_); (with_reducible refine (reply_text.calls  ((rd_T46 l0_7 x50).f0) t270 t271 t272 t273 t274 _  At275.out).mono ?_); rintro e w276 ⟨v277, rfl, hn277, hb⟩; refine ⟨_, rfl, ?_⟩)
      refine Stop.go ?_
      have hba := Kd.N_base hn277
      have HN277 := znl (ok2 := (fun k_ => (((((P_ k_ ∨ w.heap.size ≤ k_) ∧ some k_ ≠ (v48 : Value).ownBlock) ∧ some k_ ≠ (v149 : Value).ownBlock) ∧ k_ ≠ g1) ∧ k_ ≠ g19) ∧ k_ ≠ g85)) hn277 (below_size HB.out) (fun k_ h_ => ⟨⟨⟨⟨⟨.inr (Nat.le_trans (below_size HB.out) h_), Kd.fresh' (Kd.N_lt HN49.out) k_ h_⟩, Kd.fresh' (Kd.N_lt HN150.out) k_ h_⟩, Kd.freshB (g := g1) BKg1.out k_ h_⟩, Kd.freshB (g := g19) BKg19.out k_ h_⟩, Kd.freshB (g := g85) BKg85.out k_ h_⟩)
      replace HF0_7 := zfr (v := v277) HF0_7.out hba hb
      replace HN49 := znr (u := v277) HN49.out hba hb
      replace HN150 := znr (u := v277) HN150.out hba hb
      replace BKg1 := zbb BKg1.out hb
      replace BKg19 := zbb BKg19.out hb
      replace BKg85 := zbb BKg85.out hb
      replace HB := zhb HB.out hb
      clear hn277 hba hb
      clear j2u j2v j2w j2x j2y j2z j2A j2B j2C j2D j2E j2F j2G j2H j2I j2J j2K j2L j2M j2N j2O j2P j2Q j2R j2S j2T j2U j2V j2W j2X
      obtain ⟨j4u, j4v, j4w, j4x, j4y, j4z, j4A, j4B, j4C, j4D, j4E, j4F, j4G, j4H, j4I, j4J⟩ := MB.lay8 BKg1.out
      obtain ⟨j4K, j4L, j4M, j4N, j4O, j4P, j4Q, j4R, j4S, j4T⟩ := MB.lay5 BKg19.out
      obtain ⟨j4U, j4V, j4W, j4X⟩ := MB.lay2 BKg85.out
      obtain ⟨A308, cp309, he_⟩ := Kd.N_slice HN150.out
      subst he_
      have HL311 := Aside0.mk (Kd.N_reads' HN150.out).2.1
      have HF310 := Aside0.mk (Kd.N_F HN150.out)
      clear HN150
      replace HF0_7 := Aside0.mk (Kd.F_mono (ok := (fun k_ => ((((((P_ k_ ∨ w.heap.size ≤ k_) ∧ some k_ ≠ (v48 : Value).ownBlock) ∧ some k_ ≠ ((.slice A308 x148.length cp309) : Value).ownBlock) ∧ k_ ≠ g1) ∧ k_ ≠ g19) ∧ k_ ≠ g85) ∧ some k_ ≠ (v277 : Value).ownBlock)) HF0_7.out (fun k_ hk_ => ⟨⟨⟨⟨⟨hk_.1.1.1.1.1.1, hk_.1.1.1.1.1.2⟩, hk_.1.1.1.2⟩, hk_.1.1.2⟩, hk_.1.2⟩, hk_.2⟩) : Kd.F k46 _ (fun k_ => (((((P_ k_ ∨ w.heap.size ≤ k_) ∧ some k_ ≠ (v48 : Value).ownBlock) ∧ k_ ≠ g1) ∧ k_ ≠ g19) ∧ k_ ≠ g85) ∧ some k_ ≠ (v277 : Value).ownBlock) _ _ _)
      replace HN49 := Aside0.mk (Kd.N_mono (ok := (fun k_ => (((((P_ k_ ∨ w.heap.size ≤ k_) ∧ some k_ ≠ ((.slice A308 x148.length cp309) : Value).ownBlock) ∧ k_ ≠ g1) ∧ k_ ≠ g19) ∧ k_ ≠ g85) ∧ some k_ ≠ (v277 : Value).ownBlock)) HN49.out (fun k_ hk_ => ⟨⟨⟨⟨hk_.1.1.1.1.1, hk_.1.1.1.2⟩, hk_.1.1.2⟩, hk_.1.2⟩, hk_.2⟩) : Kd.N k57 _ _ _ (fun k_ => ((((P_ k_ ∨ w.heap.size ≤ k_) ∧ k_ ≠ g1) ∧ k_ ≠ g19) ∧ k_ ≠ g85) ∧ some k_ ≠ (v277 : Value).ownBlock) _ _)
      replace HN277 := Aside0.mk (Kd.N_mono (ok := (fun k_ => (((((P_ k_ ∨ w.heap.size ≤ k_) ∧ some k_ ≠ (v48 : Value).ownBlock) ∧ some k_ ≠ ((.slice A308 x148.length cp309) : Value).ownBlock) ∧ k_ ≠ g1) ∧ k_ ≠ g19) ∧ k_ ≠ g85)) HN277.out (fun k_ hk_ => ⟨⟨⟨⟨hk_.1.1.1.1.1, hk_.1.1.1.1.2⟩, hk_.1.1.2⟩, hk_.1.2⟩, hk_.2⟩) : Kd.N k57 _ _ _ (fun k_ => ((((P_ k_ ∨ w.heap.size ≤ k_) ∧ some k_ ≠ (v48 : Value).ownBlock) ∧ k_ ≠ g1) ∧ k_ ≠ g19) ∧ k_ ≠ g85) _ _)
      replace HH := zd HH
      obtain ⟨⟨t312, t313, t314, t315, t316⟩, At317, HH⟩ := HH
      dsimp only at HH
      go_wp2_with ((with_reducible refine gc 45 rfl ?_); refine zc 45 (some 34) Try.func45 #[.int .i64 0, .int .i64 17, .slice A308 x148.length cp309] (h := ?_); (with_reducible refine (reply_group.calls (fun k_ => (((((P_ k_ ∨ w.heap.size ≤ k_) ∧ some k_ ≠ (v48 : Value).ownBlock) ∧ some k_ ≠ (v277 : Value).ownBlock) ∧ k_ ≠ g1) ∧ k_ ≠ g19) ∧ k_ ≠ g85) 0 17 _ _ x148 t312 t313 t314 t315 t316 _ (Kd.F_mono (ok := (fun k_ => (((((P_ k_ ∨ w.heap.size ≤ k_) ∧ some k_ ≠ (v48 : Value).ownBlock) ∧ k_ ≠ g1) ∧ k_ ≠ g19) ∧ k_ ≠ g85) ∧ some k_ ≠ (v277 : Value).ownBlock)) HF310.out (fun k_ hk_ => ⟨⟨⟨⟨⟨hk_.1.1.1.1.1, hk_.1.1.1.1.2⟩, hk_.2⟩, hk_.1.1.1.2⟩, hk_.1.1.2⟩, hk_.1.2⟩)) HL311.out At317.out).mono ?_); rintro e w318 ⟨v319, rfl, hn319, hb⟩; refine ⟨_, rfl, ?_⟩)
      refine Stop.go ?_
      have hba := Kd.N_base hn319
      have HN319 := znl (ok2 := (fun k_ => (((((P_ k_ ∨ w.heap.size ≤ k_) ∧ some k_ ≠ (v48 : Value).ownBlock) ∧ some k_ ≠ (v277 : Value).ownBlock) ∧ k_ ≠ g1) ∧ k_ ≠ g19) ∧ k_ ≠ g85)) hn319 (below_size HB.out) (fun k_ hk_ => hk_.elim (fun h_ => h_) (fun h_ => ⟨⟨⟨⟨⟨.inr (Nat.le_trans (below_size HB.out) h_), Kd.fresh' (Kd.N_lt HN49.out) k_ h_⟩, Kd.fresh' (Kd.N_lt HN277.out) k_ h_⟩, Kd.freshB (g := g1) BKg1.out k_ h_⟩, Kd.freshB (g := g19) BKg19.out k_ h_⟩, Kd.freshB (g := g85) BKg85.out k_ h_⟩))
      replace HF0_7 := zfr (v := v319) HF0_7.out hba hb
      replace HN49 := znr (u := v319) HN49.out hba hb
      replace HN277 := znr (u := v319) HN277.out hba hb
      replace BKg1 := zbb BKg1.out hb
      replace BKg19 := zbb BKg19.out hb
      replace BKg85 := zbb BKg85.out hb
      replace HB := zhb HB.out hb
      clear hn319 hba hb
      clear j4u j4v j4w j4x j4y j4z j4A j4B j4C j4D j4E j4F j4G j4H j4I j4J j4K j4L j4M j4N j4O j4P j4Q j4R j4S j4T j4U j4V j4W j4X
      obtain ⟨j5a, j5b, j5c, j5d, j5e, j5f, j5g, j5h, j5i, j5j, j5k, j5l, j5m, j5n, j5o, j5p⟩ := MB.lay8 BKg1.out
      obtain ⟨j5q, j5r, j5s, j5t, j5u, j5v, j5w, j5x, j5y, j5z⟩ := MB.lay5 BKg19.out
      obtain ⟨j5A, j5B, j5C, j5D⟩ := MB.lay2 BKg85.out
      obtain ⟨A350, cp351, he_⟩ := Kd.N_slice HN277.out
      subst he_
      have HL353 := Aside0.mk (Kd.N_reads' HN277.out).2.1
      have HF352 := Aside0.mk (Kd.N_F HN277.out)
      clear HN277
      replace HF0_7 := Aside0.mk (Kd.F_mono (ok := (fun k_ => ((((((P_ k_ ∨ w.heap.size ≤ k_) ∧ some k_ ≠ (v48 : Value).ownBlock) ∧ k_ ≠ g1) ∧ k_ ≠ g19) ∧ k_ ≠ g85) ∧ some k_ ≠ ((.slice A350 t274.length cp351) : Value).ownBlock) ∧ some k_ ≠ (v319 : Value).ownBlock)) HF0_7.out (fun k_ hk_ => ⟨⟨⟨⟨⟨hk_.1.1.1.1.1.1, hk_.1.1.1.1.1.2⟩, hk_.1.1.1.1.2⟩, hk_.1.1.1.2⟩, hk_.1.1.2⟩, hk_.2⟩) : Kd.F k46 _ (fun k_ => (((((P_ k_ ∨ w.heap.size ≤ k_) ∧ some k_ ≠ (v48 : Value).ownBlock) ∧ k_ ≠ g1) ∧ k_ ≠ g19) ∧ k_ ≠ g85) ∧ some k_ ≠ (v319 : Value).ownBlock) _ _ _)
      replace HN49 := Aside0.mk (Kd.N_mono (ok := (fun k_ => (((((P_ k_ ∨ w.heap.size ≤ k_) ∧ k_ ≠ g1) ∧ k_ ≠ g19) ∧ k_ ≠ g85) ∧ some k_ ≠ ((.slice A350 t274.length cp351) : Value).ownBlock) ∧ some k_ ≠ (v319 : Value).ownBlock)) HN49.out (fun k_ hk_ => ⟨⟨⟨⟨hk_.1.1.1.1.1, hk_.1.1.1.1.2⟩, hk_.1.1.1.2⟩, hk_.1.1.2⟩, hk_.2⟩) : Kd.N k57 _ _ _ (fun k_ => ((((P_ k_ ∨ w.heap.size ≤ k_) ∧ k_ ≠ g1) ∧ k_ ≠ g19) ∧ k_ ≠ g85) ∧ some k_ ≠ (v319 : Value).ownBlock) _ _)
      replace HN319 := Aside0.mk (Kd.N_mono (ok := (fun k_ => (((((P_ k_ ∨ w.heap.size ≤ k_) ∧ some k_ ≠ (v48 : Value).ownBlock) ∧ some k_ ≠ ((.slice A350 t274.length cp351) : Value).ownBlock) ∧ k_ ≠ g1) ∧ k_ ≠ g19) ∧ k_ ≠ g85)) HN319.out (fun k_ hk_ => ⟨⟨⟨⟨hk_.1.1.1.1.1, hk_.1.1.1.1.2⟩, hk_.1.1.2⟩, hk_.1.2⟩, hk_.2⟩) : Kd.N k57 _ _ _ (fun k_ => ((((P_ k_ ∨ w.heap.size ≤ k_) ∧ some k_ ≠ (v48 : Value).ownBlock) ∧ k_ ≠ g1) ∧ k_ ≠ g19) ∧ k_ ≠ g85) _ _)
      obtain ⟨A354, cp355, he_⟩ := Kd.N_slice HN319.out
      subst he_
      have HL357 := Aside0.mk (Kd.N_reads' HN319.out).2.1
      have HF356 := Aside0.mk (Kd.N_F HN319.out)
      clear HN319
      replace HF0_7 := Aside0.mk (Kd.F_mono (ok := (fun k_ => (((((P_ k_ ∨ w.heap.size ≤ k_) ∧ some k_ ≠ (v48 : Value).ownBlock) ∧ k_ ≠ g1) ∧ k_ ≠ g19) ∧ k_ ≠ g85) ∧ some k_ ≠ ((.slice A354 t316.length cp355) : Value).ownBlock)) HF0_7.out (fun k_ hk_ => hk_.1) : Kd.F k46 _ (fun k_ => ((((P_ k_ ∨ w.heap.size ≤ k_) ∧ some k_ ≠ (v48 : Value).ownBlock) ∧ k_ ≠ g1) ∧ k_ ≠ g19) ∧ k_ ≠ g85) _ _ _)
      replace HF352 := Aside0.mk (Kd.F_mono (ok := (fun k_ => (((((P_ k_ ∨ w.heap.size ≤ k_) ∧ some k_ ≠ (v48 : Value).ownBlock) ∧ k_ ≠ g1) ∧ k_ ≠ g19) ∧ k_ ≠ g85) ∧ some k_ ≠ ((.slice A354 t316.length cp355) : Value).ownBlock)) HF352.out (fun k_ hk_ => hk_.1) : Kd.F k57 _ (fun k_ => ((((P_ k_ ∨ w.heap.size ≤ k_) ∧ some k_ ≠ (v48 : Value).ownBlock) ∧ k_ ≠ g1) ∧ k_ ≠ g19) ∧ k_ ≠ g85) _ _ _)
      replace HN49 := Aside0.mk (Kd.N_mono (ok := (fun k_ => ((((P_ k_ ∨ w.heap.size ≤ k_) ∧ k_ ≠ g1) ∧ k_ ≠ g19) ∧ k_ ≠ g85) ∧ some k_ ≠ ((.slice A354 t316.length cp355) : Value).ownBlock)) HN49.out (fun k_ hk_ => hk_.1) : Kd.N k57 _ _ _ (fun k_ => (((P_ k_ ∨ w.heap.size ≤ k_) ∧ k_ ≠ g1) ∧ k_ ≠ g19) ∧ k_ ≠ g85) _ _)
      go_wp2_with (((with_reducible refine gate_dst (N := 35) rfl ?_); (try (refine gate_guard (by rfl) ?_; dsimp only)); refine Kd.N_lit k57 w.heap.size 57 rfl (N' := 35) rfl (xs := [(⟨t270, t271, t272, t273, t274⟩ : S57), (⟨t312, t313, t314, t315, t316⟩ : S57)]) (inner := [.int .i64 t270, .bool t271, .int .i64 t272, .string t273, .slice A350 t274.length cp351, .int .i64 t312, .bool t313, .int .i64 t314, .string t315, .slice A354 t316.length cp355]) (ok := (fun k_ => ((((P_ k_ ∨ w.heap.size ≤ k_) ∧ some k_ ≠ (v48 : Value).ownBlock) ∧ k_ ≠ g1) ∧ k_ ≠ g19) ∧ k_ ≠ g85)) (okp := (fun k_ => ((((P_ k_ ∨ w.heap.size ≤ k_) ∧ some k_ ≠ (v48 : Value).ownBlock) ∧ k_ ≠ g1) ∧ k_ ≠ g19) ∧ k_ ≠ g85)) ?hr ?hp (fun _ hk_ => hk_) ?hf HB.out (below_size HB.out) (by first | simp | decide) ?_; (case hr => first | (go_simp; done) | (go_simp; rfl)); (case hp => exact (Reps.c5 (k57_mkF _ _ (⟨t270, t271, t272, t273, t274⟩ : S57) HL353.out (Kd.F_mono (ok := (fun k_ => ((((P_ k_ ∨ w.heap.size ≤ k_) ∧ some k_ ≠ (v48 : Value).ownBlock) ∧ k_ ≠ g1) ∧ k_ ≠ g19) ∧ k_ ≠ g85)) HF352.out (fun k_ hk_ => hk_))) (Reps.c5 (k57_mkF _ _ (⟨t312, t313, t314, t315, t316⟩ : S57) HL357.out (Kd.F_mono (ok := (fun k_ => ((((P_ k_ ∨ w.heap.size ≤ k_) ∧ some k_ ≠ (v48 : Value).ownBlock) ∧ k_ ≠ g1) ∧ k_ ≠ g19) ∧ k_ ≠ g85)) HF356.out (fun k_ hk_ => hk_))) (Reps.none _ _)))); (case hf => exact (show ∀ k_, w318.heap.size ≤ k_ → (fun k_ => ((((P_ k_ ∨ w.heap.size ≤ k_) ∧ some k_ ≠ (v48 : Value).ownBlock) ∧ k_ ≠ g1) ∧ k_ ≠ g19) ∧ k_ ≠ g85) k_ from fun k_ h_ => ⟨⟨⟨⟨.inr (Nat.le_trans (below_size HB.out) h_), Kd.fresh' (Kd.N_lt HN49.out) k_ h_⟩, Kd.freshB (g := g1) BKg1.out k_ h_⟩, Kd.freshB (g := g19) BKg19.out k_ h_⟩, Kd.freshB (g := g85) BKg85.out k_ h_⟩) _ (Nat.le_refl _)); intro v358 w359 hn1 hb1 hg1 hat1); replace hat1 := Aside0.mk hat1; refine stop_ ?_)
      refine Stop.go ?_
      replace hat1 := hat1.out
      have hbe := MW.grown_below hg1
      have hba := MW.base_of hat1
      replace HF0_7 := Aside0.mk (Kd.F_mono (Kd.F_elder' (ok := (fun k_ => ((((P_ k_ ∨ w.heap.size ≤ k_) ∧ some k_ ≠ (v48 : Value).ownBlock) ∧ k_ ≠ g1) ∧ k_ ≠ g19) ∧ k_ ≠ g85)) HF0_7.out hba hbe) (fun k_ hk_ => hk_) : Kd.F k46 _ (fun k_ => (((((P_ k_ ∨ w.heap.size ≤ k_) ∧ some k_ ≠ (v48 : Value).ownBlock) ∧ k_ ≠ g1) ∧ k_ ≠ g19) ∧ k_ ≠ g85) ∧ some k_ ≠ (v358 : Value).ownBlock) _ _ _)
      replace HN49 := Aside0.mk (Kd.N_mono (Kd.N_elder' (ok := (fun k_ => (((P_ k_ ∨ w.heap.size ≤ k_) ∧ k_ ≠ g1) ∧ k_ ≠ g19) ∧ k_ ≠ g85)) HN49.out hba hbe) (fun k_ hk_ => hk_) : Kd.N k57 _ _ _ (fun k_ => ((((P_ k_ ∨ w.heap.size ≤ k_) ∧ k_ ≠ g1) ∧ k_ ≠ g19) ∧ k_ ≠ g85) ∧ some k_ ≠ (v358 : Value).ownBlock) _ _)
      replace BKg1 := Aside0.mk (blk_below (g := g1) BKg1.out hbe)
      replace BKg19 := Aside0.mk (blk_below (g := g19) BKg19.out hbe)
      replace BKg85 := Aside0.mk (blk_below (g := g85) BKg85.out hbe)
      replace HB := Aside0.mk hb1
      have HN360 := Aside0.mk hn1
      clear hn1 hb1 hg1 hat1 hbe hba
      clear j5a j5b j5c j5d j5e j5f j5g j5h j5i j5j j5k j5l j5m j5n j5o j5p j5q j5r j5s j5t j5u j5v j5w j5x j5y j5z j5A j5B j5C j5D
      obtain ⟨j5P, j5Q, j5R, j5S, j5T, j5U, j5V, j5W, j5X, j5Y, j5Z, j60, j61, j62, j63, j64⟩ := MB.lay8 BKg1.out
      obtain ⟨j65, j66, j67, j68, j69, j6a, j6b, j6c, j6d, j6e⟩ := MB.lay5 BKg19.out
      obtain ⟨j6f, j6g, j6h, j6i⟩ := MB.lay2 BKg85.out
      obtain ⟨A391, cp392, he_⟩ := Kd.N_slice HN360.out
      subst he_
      have HL394 := Aside0.mk (Kd.N_reads' HN360.out).2.1
      have HF393 := Aside0.mk (Kd.N_F HN360.out)
      clear HN360
      replace HF0_7 := Aside0.mk (Kd.F_mono (ok := (fun k_ => (((((P_ k_ ∨ w.heap.size ≤ k_) ∧ some k_ ≠ (v48 : Value).ownBlock) ∧ k_ ≠ g1) ∧ k_ ≠ g19) ∧ k_ ≠ g85) ∧ some k_ ≠ ((.slice A391 [(⟨t270, t271, t272, t273, t274⟩ : S57), (⟨t312, t313, t314, t315, t316⟩ : S57)].length cp392) : Value).ownBlock)) HF0_7.out (fun k_ hk_ => hk_.1) : Kd.F k46 _ (fun k_ => ((((P_ k_ ∨ w.heap.size ≤ k_) ∧ some k_ ≠ (v48 : Value).ownBlock) ∧ k_ ≠ g1) ∧ k_ ≠ g19) ∧ k_ ≠ g85) _ _ _)
      replace HN49 := Aside0.mk (Kd.N_mono (ok := (fun k_ => ((((P_ k_ ∨ w.heap.size ≤ k_) ∧ k_ ≠ g1) ∧ k_ ≠ g19) ∧ k_ ≠ g85) ∧ some k_ ≠ ((.slice A391 [(⟨t270, t271, t272, t273, t274⟩ : S57), (⟨t312, t313, t314, t315, t316⟩ : S57)].length cp392) : Value).ownBlock)) HN49.out (fun k_ hk_ => hk_.1) : Kd.N k57 _ _ _ (fun k_ => (((P_ k_ ∨ w.heap.size ≤ k_) ∧ k_ ≠ g1) ∧ k_ ≠ g19) ∧ k_ ≠ g85) _ _)
      replace HH := zd HH
      obtain ⟨⟨t395, t396, t397, t398, t399⟩, At400, HH⟩ := HH
      dsimp only at HH
      go_wp2_with ((with_reducible refine gc 45 rfl ?_); refine zc 45 (some 36) Try.func45 #[.int .i64 0, .int .i64 16, .slice A391 [(⟨t270, t271, t272, t273, t274⟩ : S57), (⟨t312, t313, t314, t315, t316⟩ : S57)].length cp392] (h := ?_); (with_reducible refine (reply_group.calls (fun k_ => ((((P_ k_ ∨ w.heap.size ≤ k_) ∧ some k_ ≠ (v48 : Value).ownBlock) ∧ k_ ≠ g1) ∧ k_ ≠ g19) ∧ k_ ≠ g85) 0 16 _ _ [(⟨t270, t271, t272, t273, t274⟩ : S57), (⟨t312, t313, t314, t315, t316⟩ : S57)] t395 t396 t397 t398 t399 _ (Kd.F_mono (ok := (fun k_ => ((((P_ k_ ∨ w.heap.size ≤ k_) ∧ some k_ ≠ (v48 : Value).ownBlock) ∧ k_ ≠ g1) ∧ k_ ≠ g19) ∧ k_ ≠ g85)) HF393.out (fun k_ hk_ => hk_)) HL394.out At400.out).mono ?_); rintro e w401 ⟨v402, rfl, hn402, hb⟩; refine ⟨_, rfl, ?_⟩)
      refine Stop.go ?_
      have hba := Kd.N_base hn402
      have HN402 := znl (ok2 := (fun k_ => ((((P_ k_ ∨ w.heap.size ≤ k_) ∧ some k_ ≠ (v48 : Value).ownBlock) ∧ k_ ≠ g1) ∧ k_ ≠ g19) ∧ k_ ≠ g85)) hn402 (below_size HB.out) (fun k_ hk_ => hk_.elim (fun h_ => h_) (fun h_ => ⟨⟨⟨⟨.inr (Nat.le_trans (below_size HB.out) h_), Kd.fresh' (Kd.N_lt HN49.out) k_ h_⟩, Kd.freshB (g := g1) BKg1.out k_ h_⟩, Kd.freshB (g := g19) BKg19.out k_ h_⟩, Kd.freshB (g := g85) BKg85.out k_ h_⟩))
      replace HF0_7 := zfr (v := v402) HF0_7.out hba hb
      replace HN49 := znr (u := v402) HN49.out hba hb
      replace BKg1 := zbb BKg1.out hb
      replace BKg19 := zbb BKg19.out hb
      replace BKg85 := zbb BKg85.out hb
      replace HB := zhb HB.out hb
      clear hn402 hba hb
      clear j5P j5Q j5R j5S j5T j5U j5V j5W j5X j5Y j5Z j60 j61 j62 j63 j64 j65 j66 j67 j68 j69 j6a j6b j6c j6d j6e j6f j6g j6h j6i
      obtain ⟨j6v, j6w, j6x, j6y, j6z, j6A, j6B, j6C, j6D, j6E, j6F, j6G, j6H, j6I, j6J, j6K⟩ := MB.lay8 BKg1.out
      obtain ⟨j6L, j6M, j6N, j6O, j6P, j6Q, j6R, j6S, j6T, j6U⟩ := MB.lay5 BKg19.out
      obtain ⟨j6V, j6W, j6X, j6Y⟩ := MB.lay2 BKg85.out
      obtain ⟨A433, cp434, he_⟩ := Kd.N_slice HN402.out
      subst he_
      have HL436 := Aside0.mk (Kd.N_reads' HN402.out).2.1
      have HF435 := Aside0.mk (Kd.N_F HN402.out)
      clear HN402
      replace HF0_7 := Aside0.mk (Kd.F_mono (ok := (fun k_ => (((((P_ k_ ∨ w.heap.size ≤ k_) ∧ some k_ ≠ (v48 : Value).ownBlock) ∧ k_ ≠ g1) ∧ k_ ≠ g19) ∧ k_ ≠ g85) ∧ some k_ ≠ ((.slice A433 t399.length cp434) : Value).ownBlock)) HF0_7.out (fun k_ hk_ => hk_.1) : Kd.F k46 _ (fun k_ => ((((P_ k_ ∨ w.heap.size ≤ k_) ∧ some k_ ≠ (v48 : Value).ownBlock) ∧ k_ ≠ g1) ∧ k_ ≠ g19) ∧ k_ ≠ g85) _ _ _)
      replace HN49 := Aside0.mk (Kd.N_mono (ok := (fun k_ => ((((P_ k_ ∨ w.heap.size ≤ k_) ∧ k_ ≠ g1) ∧ k_ ≠ g19) ∧ k_ ≠ g85) ∧ some k_ ≠ ((.slice A433 t399.length cp434) : Value).ownBlock)) HN49.out (fun k_ hk_ => hk_.1) : Kd.N k57 _ _ _ (fun k_ => (((P_ k_ ∨ w.heap.size ≤ k_) ∧ k_ ≠ g1) ∧ k_ ≠ g19) ∧ k_ ≠ g85) _ _)
      obtain ⟨HH, LMc437⟩ := zlm HH
      obtain ⟨y438, hy438⟩ : ∃ y_ : List (S57), y_ = (x47 ++ [(⟨t395, t396, t397, t398, t399⟩ : S57)]) := ⟨_, rfl⟩
      have H : ((reply_entry.l0 k152 y438 (wrap64 (x50 + 1)) a0_6 l0_7)) = some (r1, r2, r3, r4, r5) := by rw [hy438]; exact HH.out
      replace HH := Aside0.mk H
      clear H
      have NYy438 := Aside0.mk hy438
      clear hy438
      go_wp2_with (((with_reducible refine gate_dst (N := 38) rfl ?_); (try (refine gate_guard (by rfl) ?_; dsimp only)); refine Kd.N_append k57 w.heap.size rfl _ _ 55 57 (.agg #[(.int .i64 0), (.bool false), (.int .i64 0), (.string ⟨#[]⟩), (.slice none 0 0)]) 64 rfl Try.underlying55 info57 rfl (by decide) (by decide) (v48) x47 (⟨t395, t396, t397, t398, t399⟩ : S57) [.int .i64 t395, .bool t396, .int .i64 t397, .string t398, .slice A433 t399.length cp434] (fun k_ => (((P_ k_ ∨ w.heap.size ≤ k_) ∧ k_ ≠ g1) ∧ k_ ≠ g19) ∧ k_ ≠ g85) (fun k_ => (fun k_ => (((P_ k_ ∨ w.heap.size ≤ k_) ∧ k_ ≠ g1) ∧ k_ ≠ g19) ∧ k_ ≠ g85) k_ ∧ some k_ ≠ (v48 : Value).ownBlock) rfl rfl (k57_mkF _ _ (⟨t395, t396, t397, t398, t399⟩ : S57) HL436.out (Kd.F_mono (ok := (fun k_ => ((((P_ k_ ∨ w.heap.size ≤ k_) ∧ some k_ ≠ (v48 : Value).ownBlock) ∧ k_ ≠ g1) ∧ k_ ≠ g19) ∧ k_ ≠ g85)) (by (with_reducible repeat (first | apply Kd.F_alloc | apply Kd.F_drewN | apply Kd.F_drew)); exact HF435.out) (fun k_ hk_ => ⟨⟨⟨⟨hk_.1.1.1.1, hk_.1.1.2⟩, hk_.1.2⟩, hk_.2⟩, hk_.1.1.1.2⟩))) (fun _ hk_ => hk_) (fun k_ h_ => ⟨⟨⟨.inr (Nat.le_trans (below_size (by repeat (first | (with_reducible first | exact HB.out | apply below_alloc | apply pw_below_drewN | apply below_drew1) | exact HB.out))) h_), Kd.freshB (g := g1) (o := .cells #[.int .i64 a0_0, .int .i64 a0_1, .bool a0_2, .int .i64 a0_3, .string a0_4, .string a0_5, .string a0_6, .slice (some ad84) l0_7.length c0_7] 27 (0, 0)) (by (with_reducible repeat (first | refine blk_drewN ?_ _ | refine blk_drew ?_ | refine blk_alloc ?_ _)); exact BKg1.out) k_ h_⟩, Kd.freshB (g := g19) (o := .cells #[.int .i64 0, .bool false, .int .i64 0, .string (⟨#[]⟩ : ByteArray), .slice none 0 0] 57 (0, 0)) (by (with_reducible repeat (first | refine blk_drewN ?_ _ | refine blk_drew ?_ | refine blk_alloc ?_ _)); exact BKg19.out) k_ h_⟩, Kd.freshB (g := g85) (o := .cells #[.string ((rd_T46 l0_7 x50).f0), .slice A84_1 ((rd_T46 l0_7 x50).f1).length c84_1] 46 (0, 0)) (by (with_reducible repeat (first | refine blk_drewN ?_ _ | refine blk_drew ?_ | refine blk_alloc ?_ _)); exact BKg85.out) k_ h_⟩) (by (with_reducible repeat (first | apply Kd.N_alloc | apply Kd.N_drewN | apply Kd.N_drew)); exact HN49.out) (by repeat (first | (with_reducible first | exact HB.out | apply below_alloc | apply pw_below_drewN | apply below_drew1) | exact HB.out)) (below_size (by repeat (first | (with_reducible first | exact HB.out | apply below_alloc | apply pw_below_drewN | apply below_drew1) | exact HB.out))) (by first | (have := LMc437.out; omega) | (have := LMc437.out; simp at *; omega)) ?_; intro v439 w440 hn1 hb1 hg1 hat1); replace hat1 := Aside0.mk hat1; refine stop_ ?_)
      refine Stop.go ?_
      replace hat1 := hat1.out
      replace HF0_7 := Aside0.mk (Kd.F_mono (Kd.F_after (v := v48) (ok := (fun k_ => (((P_ k_ ∨ w.heap.size ≤ k_) ∧ k_ ≠ g1) ∧ k_ ≠ g19) ∧ k_ ≠ g85)) (Kd.F_mono (ok := (fun k_ => ((((P_ k_ ∨ w.heap.size ≤ k_) ∧ some k_ ≠ (v48 : Value).ownBlock) ∧ k_ ≠ g1) ∧ k_ ≠ g19) ∧ k_ ≠ g85)) (by (with_reducible repeat (first | apply Kd.F_alloc | apply Kd.F_drewN | apply Kd.F_drew)); exact HF0_7.out) (fun k_ hk_ => ⟨⟨⟨⟨hk_.1.1.1.1, hk_.1.1.2⟩, hk_.1.2⟩, hk_.2⟩, hk_.1.1.1.2⟩)) hg1 hat1) (fun k_ hk_ => hk_) : Kd.F k46 _ (fun k_ => ((((P_ k_ ∨ w.heap.size ≤ k_) ∧ k_ ≠ g1) ∧ k_ ≠ g19) ∧ k_ ≠ g85) ∧ some k_ ≠ (v439 : Value).ownBlock) _ _ _)
      replace BKg1 := Aside0.mk (blk_grown (g := g1) (o := .cells #[.int .i64 a0_0, .int .i64 a0_1, .bool a0_2, .int .i64 a0_3, .string a0_4, .string a0_5, .string a0_6, .slice (some ad84) l0_7.length c0_7] 27 (0, 0)) (by (with_reducible repeat (first | refine blk_drewN ?_ _ | refine blk_drew ?_ | refine blk_alloc ?_ _)); exact BKg1.out) hg1 (Kd.N_away (ok := (fun k_ => (((P_ k_ ∨ w.heap.size ≤ k_) ∧ k_ ≠ g1) ∧ k_ ≠ g19) ∧ k_ ≠ g85)) HN49.out (fun k_ hk_ => hk_.1.1.2)))
      replace BKg19 := Aside0.mk (blk_grown (g := g19) (o := .cells #[.int .i64 0, .bool false, .int .i64 0, .string (⟨#[]⟩ : ByteArray), .slice none 0 0] 57 (0, 0)) (by (with_reducible repeat (first | refine blk_drewN ?_ _ | refine blk_drew ?_ | refine blk_alloc ?_ _)); exact BKg19.out) hg1 (Kd.N_away (ok := (fun k_ => (((P_ k_ ∨ w.heap.size ≤ k_) ∧ k_ ≠ g1) ∧ k_ ≠ g19) ∧ k_ ≠ g85)) HN49.out (fun k_ hk_ => hk_.1.2)))
      replace BKg85 := Aside0.mk (blk_grown (g := g85) (o := .cells #[.string ((rd_T46 l0_7 x50).f0), .slice A84_1 ((rd_T46 l0_7 x50).f1).length c84_1] 46 (0, 0)) (by (with_reducible repeat (first | refine blk_drewN ?_ _ | refine blk_drew ?_ | refine blk_alloc ?_ _)); exact BKg85.out) hg1 (Kd.N_away (ok := (fun k_ => (((P_ k_ ∨ w.heap.size ≤ k_) ∧ k_ ≠ g1) ∧ k_ ≠ g19) ∧ k_ ≠ g85)) HN49.out (fun k_ hk_ => hk_.2)))
      replace HB := Aside0.mk hb1
      clear HN49
      have HN441 := Aside0.mk hn1
      clear hn1 hb1 hg1 hat1
      replace HN441 := Aside0.mk (by rw [NYy438.out]; exact HN441.out : Kd.N k57 57 w440 w.heap.size (fun k_ => (((P_ k_ ∨ w.heap.size ≤ k_) ∧ k_ ≠ g1) ∧ k_ ≠ g19) ∧ k_ ≠ g85) v439 y438)
      clear j6v j6w j6x j6y j6z j6A j6B j6C j6D j6E j6F j6G j6H j6I j6J j6K j6L j6M j6N j6O j6P j6Q j6R j6S j6T j6U j6V j6W j6X j6Y
      obtain ⟨j78, j79, j7a, j7b, j7c, j7d, j7e, j7f, j7g, j7h, j7i, j7j, j7k, j7l, j7m, j7n⟩ := MB.lay8 BKg1.out
      obtain ⟨j7o, j7p, j7q, j7r, j7s, j7t, j7u, j7v, j7w, j7x⟩ := MB.lay5 BKg19.out
      obtain ⟨j7y, j7z, j7A, j7B⟩ := MB.lay2 BKg85.out
      go_wp2
      go_roundg k152
      case measure => have := HK0.out; have := HK1.out; omega
      case rel => exact ⟨y438, wrap64 (x50 + 1), (by first | rfl | (simp; done) | (simp [*]; done)), HH, ⟨by have := HK0.out; have := HK1.out; omega⟩, ⟨(Kd.F_mono (ok := (fun k_ => ((((P_ k_ ∨ w.heap.size ≤ k_) ∧ k_ ≠ g1) ∧ k_ ≠ g19) ∧ k_ ≠ g85) ∧ some k_ ≠ (v439 : Value).ownBlock)) HF0_7.out (fun k_ hk_ => ⟨⟨⟨hk_.1.1.1.1, hk_.2⟩, hk_.1.1.1.2⟩, hk_.1.1.2⟩))⟩, ⟨(Kd.N_mono (ok := (fun k_ => (((P_ k_ ∨ w.heap.size ≤ k_) ∧ k_ ≠ g1) ∧ k_ ≠ g19) ∧ k_ ≠ g85)) HN441.out (fun k_ hk_ => ⟨⟨hk_.1.1.1, hk_.1.1.2⟩, hk_.1.2⟩))⟩, ⟨BKg1.out⟩, ⟨BKg19.out⟩, ⟨HB.out⟩⟩
   replace HH := zd HH
   obtain ⟨⟨t475, t476, t477, t478, t479⟩, At480, HH⟩ := HH
   dsimp only at HH
   go_wp2_with ((with_reducible refine gc 60 rfl ?_); refine zc 60 (some 42) Try.func60 #[.string a0_6] (h := ?_); (with_reducible refine (reply_text.calls  a0_6 t475 t476 t477 t478 t479 _  At480.out).mono ?_); rintro e w481 ⟨v482, rfl, hn482, hb⟩; refine ⟨_, rfl, ?_⟩)
   refine Stop.go ?_
   have hba := Kd.N_base hn482
   have HN482 := znl (ok2 := (fun k_ => (((P_ k_ ∨ w.heap.size ≤ k_) ∧ some k_ ≠ (v48 : Value).ownBlock) ∧ k_ ≠ g1) ∧ k_ ≠ g19)) hn482 (below_size HB.out) (fun k_ h_ => ⟨⟨⟨.inr (Nat.le_trans (below_size HB.out) h_), Kd.fresh' (Kd.N_lt HN49.out) k_ h_⟩, Kd.freshB (g := g1) BKg1.out k_ h_⟩, Kd.freshB (g := g19) BKg19.out k_ h_⟩)
   replace HN49 := znr (u := v482) HN49.out hba hb
   replace BKg1 := zbb BKg1.out hb
   replace BKg19 := zbb BKg19.out hb
   replace HB := zhb HB.out hb
   clear hn482 hba hb
   clear jR jS jT jU jV jW jX jY jZ j10 j11 j12 j13 j14 j15 j16 j17 j18 j19 j1a j1b j1c j1d j1e j1f j1g
   obtain ⟨j7N, j7O, j7P, j7Q, j7R, j7S, j7T, j7U, j7V, j7W, j7X, j7Y, j7Z, j80, j81, j82⟩ := MB.lay8 BKg1.out
   obtain ⟨j83, j84, j85, j86, j87, j88, j89, j8a, j8b, j8c⟩ := MB.lay5 BKg19.out
   obtain ⟨A509, cp510, he_⟩ := Kd.N_slice HN49.out
   subst he_
   have HL512 := Aside0.mk (Kd.N_reads' HN49.out).2.1
   have HF511 := Aside0.mk (Kd.N_F HN49.out)
   clear HN49
   replace HN482 := Aside0.mk (Kd.N_mono (ok := (fun k_ => (((P_ k_ ∨ w.heap.size ≤ k_) ∧ some k_ ≠ ((.slice A509 x47.length cp510) : Value).ownBlock) ∧ k_ ≠ g1) ∧ k_ ≠ g19)) HN482.out (fun k_ hk_ => ⟨⟨hk_.1.1.1, hk_.1.2⟩, hk_.2⟩) : Kd.N k57 _ _ _ (fun k_ => ((P_ k_ ∨ w.heap.size ≤ k_) ∧ k_ ≠ g1) ∧ k_ ≠ g19) _ _)
   replace HH := zd HH
   obtain ⟨⟨t513, t514, t515, t516, t517⟩, At518, HH⟩ := HH
   dsimp only at HH
   go_wp2_with ((with_reducible refine gc 45 rfl ?_); refine zc 45 (some 44) Try.func45 #[.int .i64 0, .int .i64 16, .slice A509 x47.length cp510] (h := ?_); (with_reducible refine (reply_group.calls (fun k_ => (((P_ k_ ∨ w.heap.size ≤ k_) ∧ some k_ ≠ (v482 : Value).ownBlock) ∧ k_ ≠ g1) ∧ k_ ≠ g19) 0 16 _ _ x47 t513 t514 t515 t516 t517 _ (Kd.F_mono (ok := (fun k_ => (((P_ k_ ∨ w.heap.size ≤ k_) ∧ k_ ≠ g1) ∧ k_ ≠ g19) ∧ some k_ ≠ (v482 : Value).ownBlock)) HF511.out (fun k_ hk_ => ⟨⟨⟨hk_.1.1.1, hk_.2⟩, hk_.1.1.2⟩, hk_.1.2⟩)) HL512.out At518.out).mono ?_); rintro e w519 ⟨v520, rfl, hn520, hb⟩; refine ⟨_, rfl, ?_⟩)
   refine Stop.go ?_
   have hba := Kd.N_base hn520
   have HN520 := znl (ok2 := (fun k_ => (((P_ k_ ∨ w.heap.size ≤ k_) ∧ some k_ ≠ (v482 : Value).ownBlock) ∧ k_ ≠ g1) ∧ k_ ≠ g19)) hn520 (below_size HB.out) (fun k_ hk_ => hk_.elim (fun h_ => h_) (fun h_ => ⟨⟨⟨.inr (Nat.le_trans (below_size HB.out) h_), Kd.fresh' (Kd.N_lt HN482.out) k_ h_⟩, Kd.freshB (g := g1) BKg1.out k_ h_⟩, Kd.freshB (g := g19) BKg19.out k_ h_⟩))
   replace HN482 := znr (u := v520) HN482.out hba hb
   replace BKg1 := zbb BKg1.out hb
   replace BKg19 := zbb BKg19.out hb
   replace HB := zhb HB.out hb
   clear hn520 hba hb
   clear j7N j7O j7P j7Q j7R j7S j7T j7U j7V j7W j7X j7Y j7Z j80 j81 j82 j83 j84 j85 j86 j87 j88 j89 j8a j8b j8c
   obtain ⟨j8p, j8q, j8r, j8s, j8t, j8u, j8v, j8w, j8x, j8y, j8z, j8A, j8B, j8C, j8D, j8E⟩ := MB.lay8 BKg1.out
   obtain ⟨j8F, j8G, j8H, j8I, j8J, j8K, j8L, j8M, j8N, j8O⟩ := MB.lay5 BKg19.out
   obtain ⟨A547, cp548, he_⟩ := Kd.N_slice HN482.out
   subst he_
   have HL550 := Aside0.mk (Kd.N_reads' HN482.out).2.1
   have HF549 := Aside0.mk (Kd.N_F HN482.out)
   clear HN482
   replace HN520 := Aside0.mk (Kd.N_mono (ok := (fun k_ => (((P_ k_ ∨ w.heap.size ≤ k_) ∧ some k_ ≠ ((.slice A547 t479.length cp548) : Value).ownBlock) ∧ k_ ≠ g1) ∧ k_ ≠ g19)) HN520.out (fun k_ hk_ => ⟨⟨hk_.1.1.1, hk_.1.2⟩, hk_.2⟩) : Kd.N k57 _ _ _ (fun k_ => ((P_ k_ ∨ w.heap.size ≤ k_) ∧ k_ ≠ g1) ∧ k_ ≠ g19) _ _)
   obtain ⟨A551, cp552, he_⟩ := Kd.N_slice HN520.out
   subst he_
   have HL554 := Aside0.mk (Kd.N_reads' HN520.out).2.1
   have HF553 := Aside0.mk (Kd.N_F HN520.out)
   clear HN520
   replace HF549 := Aside0.mk (Kd.F_mono (ok := (fun k_ => (((P_ k_ ∨ w.heap.size ≤ k_) ∧ k_ ≠ g1) ∧ k_ ≠ g19) ∧ some k_ ≠ ((.slice A551 t517.length cp552) : Value).ownBlock)) HF549.out (fun k_ hk_ => hk_.1) : Kd.F k57 _ (fun k_ => ((P_ k_ ∨ w.heap.size ≤ k_) ∧ k_ ≠ g1) ∧ k_ ≠ g19) _ _ _)
   go_wp2_with (((with_reducible refine gate_dst (N := 45) rfl ?_); (try (refine gate_guard (by rfl) ?_; dsimp only)); refine Kd.N_lit k57 w.heap.size 57 rfl (N' := 45) rfl (xs := [(⟨t475, t476, t477, t478, t479⟩ : S57), (⟨t513, t514, t515, t516, t517⟩ : S57)]) (inner := [.int .i64 t475, .bool t476, .int .i64 t477, .string t478, .slice A547 t479.length cp548, .int .i64 t513, .bool t514, .int .i64 t515, .string t516, .slice A551 t517.length cp552]) (ok := (fun k_ => ((P_ k_ ∨ w.heap.size ≤ k_) ∧ k_ ≠ g1) ∧ k_ ≠ g19)) (okp := (fun k_ => ((P_ k_ ∨ w.heap.size ≤ k_) ∧ k_ ≠ g1) ∧ k_ ≠ g19)) ?hr ?hp (fun _ hk_ => hk_) ?hf HB.out (below_size HB.out) (by first | simp | decide) ?_; (case hr => first | (go_simp; done) | (go_simp; rfl)); (case hp => exact (Reps.c5 (k57_mkF _ _ (⟨t475, t476, t477, t478, t479⟩ : S57) HL550.out (Kd.F_mono (ok := (fun k_ => ((P_ k_ ∨ w.heap.size ≤ k_) ∧ k_ ≠ g1) ∧ k_ ≠ g19)) HF549.out (fun k_ hk_ => hk_))) (Reps.c5 (k57_mkF _ _ (⟨t513, t514, t515, t516, t517⟩ : S57) HL554.out (Kd.F_mono (ok := (fun k_ => ((P_ k_ ∨ w.heap.size ≤ k_) ∧ k_ ≠ g1) ∧ k_ ≠ g19)) HF553.out (fun k_ hk_ => hk_))) (Reps.none _ _)))); (case hf => exact (show ∀ k_, w519.heap.size ≤ k_ → (fun k_ => ((P_ k_ ∨ w.heap.size ≤ k_) ∧ k_ ≠ g1) ∧ k_ ≠ g19) k_ from fun k_ h_ => ⟨⟨.inr (Nat.le_trans (below_size HB.out) h_), Kd.freshB (g := g1) BKg1.out k_ h_⟩, Kd.freshB (g := g19) BKg19.out k_ h_⟩) _ (Nat.le_refl _)); intro v555 w556 hn1 hb1 hg1 hat1); replace hat1 := Aside0.mk hat1; refine stop_ ?_)
   refine Stop.go ?_
   replace hat1 := hat1.out
   have hbe := MW.grown_below hg1
   have hba := MW.base_of hat1
   replace BKg1 := Aside0.mk (blk_below (g := g1) BKg1.out hbe)
   replace BKg19 := Aside0.mk (blk_below (g := g19) BKg19.out hbe)
   replace HB := Aside0.mk hb1
   have HN557 := Aside0.mk hn1
   clear hn1 hb1 hg1 hat1 hbe hba
   clear j8p j8q j8r j8s j8t j8u j8v j8w j8x j8y j8z j8A j8B j8C j8D j8E j8F j8G j8H j8I j8J j8K j8L j8M j8N j8O
   obtain ⟨j90, j91, j92, j93, j94, j95, j96, j97, j98, j99, j9a, j9b, j9c, j9d, j9e, j9f⟩ := MB.lay8 BKg1.out
   obtain ⟨j9g, j9h, j9i, j9j, j9k, j9l, j9m, j9n, j9o, j9p⟩ := MB.lay5 BKg19.out
   obtain ⟨A584, cp585, he_⟩ := Kd.N_slice HN557.out
   subst he_
   have HL587 := Aside0.mk (Kd.N_reads' HN557.out).2.1
   have HF586 := Aside0.mk (Kd.N_F HN557.out)
   clear HN557
   replace HH := zd HH
   obtain ⟨⟨t588, t589, t590, t591, t592⟩, At593, HH⟩ := HH
   dsimp only at HH
   go_wp2_with ((with_reducible refine gc 45 rfl ?_); refine zc 45 (some 46) Try.func45 #[.int .i64 1, .int .i64 4, .slice A584 [(⟨t475, t476, t477, t478, t479⟩ : S57), (⟨t513, t514, t515, t516, t517⟩ : S57)].length cp585] (h := ?_); (with_reducible refine (reply_group.calls (fun k_ => ((P_ k_ ∨ w.heap.size ≤ k_) ∧ k_ ≠ g1) ∧ k_ ≠ g19) 1 4 _ _ [(⟨t475, t476, t477, t478, t479⟩ : S57), (⟨t513, t514, t515, t516, t517⟩ : S57)] t588 t589 t590 t591 t592 _ (Kd.F_mono (ok := (fun k_ => ((P_ k_ ∨ w.heap.size ≤ k_) ∧ k_ ≠ g1) ∧ k_ ≠ g19)) HF586.out (fun k_ hk_ => hk_)) HL587.out At593.out).mono ?_); rintro e w594 ⟨v595, rfl, hn595, hb⟩; refine ⟨_, rfl, ?_⟩)
   refine Stop.go ?_
   have hba := Kd.N_base hn595
   have HN595 := znl (ok2 := (fun k_ => ((P_ k_ ∨ w.heap.size ≤ k_) ∧ k_ ≠ g1) ∧ k_ ≠ g19)) hn595 (below_size HB.out) (fun k_ hk_ => hk_.elim (fun h_ => h_) (fun h_ => ⟨⟨.inr (Nat.le_trans (below_size HB.out) h_), Kd.freshB (g := g1) BKg1.out k_ h_⟩, Kd.freshB (g := g19) BKg19.out k_ h_⟩))
   replace BKg1 := zbb BKg1.out hb
   replace BKg19 := zbb BKg19.out hb
   replace HB := zhb HB.out hb
   clear hn595 hba hb
   clear j90 j91 j92 j93 j94 j95 j96 j97 j98 j99 j9a j9b j9c j9d j9e j9f j9g j9h j9i j9j j9k j9l j9m j9n j9o j9p
   obtain ⟨j9C, j9D, j9E, j9F, j9G, j9H, j9I, j9J, j9K, j9L, j9M, j9N, j9O, j9P, j9Q, j9R⟩ := MB.lay8 BKg1.out
   obtain ⟨j9S, j9T, j9U, j9V, j9W, j9X, j9Y, j9Z, ja0, ja1⟩ := MB.lay5 BKg19.out
   obtain ⟨A623, cp624, he_⟩ := Kd.N_slice HN595.out
   subst he_
   go_wp2_with ((with_reducible refine gs 57 2 rfl ?_); refine zs 57 2 #[.int .i64 t588, .bool t589, .int .i64 t590, .string t591, (.slice A623 t592.length cp624)] BKg19.out [.int .i64 t588, .bool t589, .int .i64 t590, .string t591, (.slice A623 t592.length cp624)] (h := ?_); intro w622 hbk hg)
   refine Stop.go ?_
   replace HN595 := zng HN595.out hg fun k_ hk_ => hk_.2
   replace BKg1 := zbg BKg1.out hg NEg1_g19
   replace HB := zhg HB.out hg (below_size HB.out) GEg19
   replace BKg19 := hbk
   clear hg hbk
   clear j9C j9D j9E j9F j9G j9H j9I j9J j9K j9L j9M j9N j9O j9P j9Q j9R j9S j9T j9U j9V j9W j9X j9Y j9Z ja0 ja1
   obtain ⟨ja5, ja6, ja7, ja8, ja9, jaa, jab, jac, jad, jae, jaf, jag, jah, jai, jaj, jak⟩ := MB.lay8 BKg1.out
   obtain ⟨jal, jam, jan, jao, jap, jaq, jar, jas, jat, jau⟩ := MB.lay5 BKg19.out
   have H := HH.out
   simp only [Option.some.injEq, Prod.mk.injEq] at H
   obtain ⟨rfl, rfl, rfl, rfl, rfl⟩ := H
   clear HH
   go_wp2
   refine bodyPost_ret (MW.results_c rfl _ _ g19 57 #[.int .i64 t588, .bool t589, .int .i64 t590, .string t591, (.slice A623 t592.length cp624)] (0, 0) _ rfl BKg19.out Try.underlying57 rfl (by kernel_rfl)) rfl ?_
   exact ⟨_, by first | rfl | (simp; done) | (simp [*]; done), (Kd.N_mono (ok := (fun k_ => ((P_ k_ ∨ w.heap.size ≤ k_) ∧ k_ ≠ g1) ∧ k_ ≠ g19)) HN595.out (fun k_ hk_ => hk_.1.1)), HB.out⟩
end Go.Proofs.Ytdjkemhmhkpmkaa.GA
