import Derived.Test.YtdjkemhmhkpmkaaGA0
namespace Go.Proofs.Ytdjkemhmhkpmkaa.GA
open Go.RowKit Go.Proofs.Ytdjkemhmhkpmkaa Go.Proofs.Ytdjkemhmhkpmkaa.MW Go.Proofs.YtdjkemhmhkpmkaaW.PrintWords Go.Proofs.YtdjkemhmhkpmkaaW.PrintLast Go.Proofs.YtdjkemhmhkpmkaaW.PrintMore
attribute [local go_sem] max2_int min2_int max_two min_two
set_option linter.unusedVariables false
set_option linter.unusedSimpArgs false
/-! ### reply_entered: function 51 -/
mutual
def reply_entered.l0 : Nat → Int → (List (S46)) → Int → (List (S57)) → Option (Int × Int × Bool × Int × ByteArray × ByteArray × ByteArray × (List (S46)) × Bool)
 | 0, _, _, _, _ => none
 | k + 1, x135, x136, a0, l1 => if x135 < (((rd_T57 l1 (1 : Int)).f4).length : Int) then (if 0 ≤ x135 then (if (((rd_T57 ((rd_T57 l1 (1 : Int)).f4) x135).f4).length : Int) = 2 then (if 0 < (((rd_T57 ((rd_T57 l1 (1 : Int)).f4) x135).f4).length : Int) then (if 1 < (((rd_T57 ((rd_T57 l1 (1 : Int)).f4) x135).f4).length : Int) then ((reply_entered.l1 k 0 ([] : List ByteArray) a0 l1 x135 x136)) else (none)) else (none)) else (some (a0, 3, true, 0, (⟨#[]⟩ : ByteArray), (⟨#[]⟩ : ByteArray), (rd_T57 l1 (0 : Int)).f3, x136, false))) else (none)) else (some (a0, 3, true, 0, (⟨#[]⟩ : ByteArray), (⟨#[]⟩ : ByteArray), (rd_T57 l1 (0 : Int)).f3, x136, true))
def reply_entered.l1 : Nat → Int → (List ByteArray) → Int → (List (S57)) → Int → (List (S46)) → Option (Int × Int × Bool × Int × ByteArray × ByteArray × ByteArray × (List (S46)) × Bool)
 | 0, _, _, _, _, _, _ => none
 | k + 1, x376, x377, a0, l1, x135, x136 => if x376 < (((rd_T57 ((rd_T57 ((rd_T57 l1 (1 : Int)).f4) x135).f4) (1 : Int)).f4).length : Int) then (if 0 ≤ x376 then (if x377.length < 8796093022208 then ((some (x377 ++ [(rd_T57 ((rd_T57 ((rd_T57 ((rd_T57 l1 (1 : Int)).f4) x135).f4) (1 : Int)).f4) x376).f3] : List ByteArray)).bind fun y549 => ((reply_entered.l1 k (wrap64 (x376 + 1)) y549 a0 l1 x135 x136))) else (none)) else (none)) else (if x136.length < 3518437208883 then ((some (x136 ++ [(⟨(rd_T57 ((rd_T57 ((rd_T57 l1 (1 : Int)).f4) x135).f4) (0 : Int)).f3, x377⟩ : S46)] : List (S46))).bind fun y676 => ((reply_entered.l0 k (wrap64 (x135 + 1)) y676 a0 l1))) else (none))
end
def reply_entered.f (k : Nat) (a0 : Int) (l1 : List (S57)) : Option (Int × Int × Bool × Int × ByteArray × ByteArray × ByteArray × (List (S46)) × Bool) := if (l1.length : Int) = 2 then (if 0 < (l1.length : Int) then (if 1 < (l1.length : Int) then ((reply_entered.l0 k 0 ([] : List (S46)) a0 l1)) else (none)) else (none)) else (some (a0, 3, true, 0, (⟨#[]⟩ : ByteArray), (⟨#[]⟩ : ByteArray), (⟨#[]⟩ : ByteArray), ([] : List (S46)), false))
theorem reply_entered.mono_l : ∀ k, (∀ y0 y1 y2 y3, LeO (reply_entered.l0 k y0 y1 y2 y3) (reply_entered.l0 (k + 1) y0 y1 y2 y3)) ∧ (∀ y0 y1 y2 y3 y4 y5, LeO (reply_entered.l1 k y0 y1 y2 y3 y4 y5) (reply_entered.l1 (k + 1) y0 y1 y2 y3 y4 y5))
 | 0 => ⟨fun _ _ _ _ r h => by simp [reply_entered.l0] at h, fun _ _ _ _ _ _ r h => by simp [reply_entered.l1] at h⟩
 | k + 1 => by
  obtain ⟨ih0, ih1⟩ := reply_entered.mono_l k
  refine ⟨?_, ?_⟩
  ·intro y0 y1 y2 y3
   unfold reply_entered.l0
   repeat' first
   | (with_reducible exact ih0 _ _ _ _)
   | (with_reducible exact ih1 _ _ _ _ _ _)
   | (with_reducible exact LeO.refl _)
   | (with_reducible exact LeO.none _)
   | (with_reducible refine LeO.ite ?_ ?_)
   | (with_reducible refine LeO.bind ?_ (fun _ => ?_))
  intro y0 y1 y2 y3 y4 y5
  unfold reply_entered.l1
  repeat' first
  | (with_reducible exact ih0 _ _ _ _)
  | (with_reducible exact ih1 _ _ _ _ _ _)
  | (with_reducible exact LeO.refl _)
  | (with_reducible exact LeO.none _)
  | (with_reducible refine LeO.ite ?_ ?_)
  | (with_reducible refine LeO.bind ?_ (fun _ => ?_))
theorem reply_entered.mono : ∀ a0_ a1_ k, LeO (reply_entered.f k a0_ a1_) (reply_entered.f (k + 1) a0_ a1_) := by
 intro a0_ a1_ k
 obtain ⟨ih0, ih1⟩ := reply_entered.mono_l k
 unfold reply_entered.f
 repeat' first
   | (with_reducible exact ih0 _ _ _ _)
   | (with_reducible exact ih1 _ _ _ _ _ _)
   | (with_reducible exact LeO.refl _)
   | (with_reducible exact LeO.none _)
   | (with_reducible refine LeO.ite ?_ ?_)
   | (with_reducible refine LeO.bind ?_ (fun _ => ?_))
set_option maxHeartbeats 8000000 in
set_option maxRecDepth 100000 in
theorem reply_entered.calls (k : Nat) (P_ : Nat → Prop) (a0 : Int) (A1 : Option Addr) (c1 : Nat) (l1 : List (S57)) (r1 : Int) (r2 : Int) (r3 : Bool) (r4 : Int) (r5 : ByteArray) (r6 : ByteArray) (r7 : ByteArray) (r8 : List (S46)) (r9 : Bool) (w : World) (hs1 : Kd.F k57 w P_ A1 l1.length l1) (hc1 : l1.length ≤ c1) (h : reply_entered.f k a0 l1 = some (r1, r2, r3, r4, r5, r6, r7, r8, r9)) :
  Calls Try.prog 51 #[.int .i64 a0, .slice A1 l1.length c1] w (fun e w' => ∃ v7_ : Value, e = .returned (.tuple #[.agg #[.int .i64 r1, .int .i64 r2, .bool r3, .int .i64 r4, .string r5, .string r6, .string r7, v7_], .bool r9]) ∧ Kd.N k46 46 w' w.heap.size (fun k_ => P_ k_ ∨ w.heap.size ≤ k_) v7_ r8 ∧ Below w.heap.size w w') := by
 have HH := Aside0.mk (show (if (l1.length : Int) = 2 then (if 0 < (l1.length : Int) then (if 1 < (l1.length : Int) then ((reply_entered.l0 k 0 ([] : List (S46)) a0 l1)) else (none)) else (none)) else (some (a0, 3, true, 0, (⟨#[]⟩ : ByteArray), (⟨#[]⟩ : ByteArray), (⟨#[]⟩ : ByteArray), ([] : List (S46)), false))) = some (r1, r2, r3, r4, r5, r6, r7, r8, r9) from h)
 clear h
 have HF1 := zfp hs1
 clear hs1 hc1
 have HB := Aside0.mk (Below.refl w.heap.size w)
 have hu27 := Try.underlying27
 have hu46 := Try.underlying46
 have hu57 := Try.underlying57
 go_enter Try.func51, Try.ntmps51
 go_wp2_with ((with_reducible refine gd 4 rfl ?_); refine zb 4 27 #[.int .i64 0, .int .i64 0, .bool false, .int .i64 0, .string (⟨#[]⟩ : ByteArray), .string (⟨#[]⟩ : ByteArray), .string (⟨#[]⟩ : ByteArray), .slice none 0 0] (h := ?_); intro g1 hg w2 BKg1 hb)
 refine Stop.go ?_
 have GEg1 := zge hg (below_size HB.out)
 replace HF1 := zfe HF1.out hg hb
 replace HB := zhb HB.out hb
 clear hg hb
 obtain ⟨j3, j4, j5, j6, j7, j8, j9, ja, jb, jc, jd, je, jf, jg, jh, ji⟩ := MB.lay8 BKg1.out
 go_wp2_with ((with_reducible refine gd 6 rfl ?_); refine zb 6 27 #[.int .i64 0, .int .i64 0, .bool false, .int .i64 0, .string (⟨#[]⟩ : ByteArray), .string (⟨#[]⟩ : ByteArray), .string (⟨#[]⟩ : ByteArray), .slice none 0 0] (h := ?_); intro g19 hg w20 BKg19 hb)
 refine Stop.go ?_
 have GEg19 := zge hg (below_size HB.out)
 have NEg1_g19 := znq hg BKg1.out
 have NEg19_g1 := zsy NEg1_g19
 replace HF1 := zfe HF1.out hg hb
 replace BKg1 := zbb BKg1.out hb
 replace HB := zhb HB.out hb
 clear hg hb
 clear j3 j4 j5 j6 j7 j8 j9 ja jb jc jd je jf jg jh ji
 obtain ⟨jl, jm, jn, jo, jp, jq, jr, js, jt, ju, jv, jw, jx, jy, jz, jA⟩ := MB.lay8 BKg1.out
 obtain ⟨jB, jC, jD, jE, jF, jG, jH, jI, jJ, jK, jL, jM, jN, jO, jP, jQ⟩ := MB.lay8 BKg19.out
 go_wp2_with ((with_reducible refine gs 27 6 rfl ?_); refine zs 27 6 #[.int .i64 a0, .int .i64 3, .bool true, .int .i64 0, .string (⟨#[]⟩ : ByteArray), .string (⟨#[]⟩ : ByteArray), .string (⟨#[]⟩ : ByteArray), .slice none 0 0] BKg19.out [.int .i64 a0, .int .i64 3, .bool true, .int .i64 0, .string (⟨#[]⟩ : ByteArray), .string (⟨#[]⟩ : ByteArray), .string (⟨#[]⟩ : ByteArray), .slice none 0 0] (h := ?_); intro w53 hbk hg)
 refine Stop.go ?_
 replace HF1 := zfg HF1.out hg fun k_ hk_ => hk_.2
 replace BKg1 := zbg BKg1.out hg NEg1_g19
 replace HB := zhg HB.out hg (below_size HB.out) GEg19
 replace BKg19 := hbk
 clear hg hbk
 clear jl jm jn jo jp jq jr js jt ju jv jw jx jy jz jA jB jC jD jE jF jG jH jI jJ jK jL jM jN jO jP jQ
 obtain ⟨jS, jT, jU, jV, jW, jX, jY, jZ, j10, j11, j12, j13, j14, j15, j16, j17⟩ := MB.lay8 BKg1.out
 obtain ⟨j18, j19, j1a, j1b, j1c, j1d, j1e, j1f, j1g, j1h, j1i, j1j, j1k, j1l, j1m, j1n⟩ := MB.lay8 BKg19.out
 replace HH := zqe HH
 rcases HH with ⟨HH, hk87, hk88⟩ | ⟨HH, hk876, hk877⟩
 ·replace HH := zqno 0 HH
  obtain ⟨HH, hk90, hk91, hk92, hk93⟩ := HH
  have p94 : 0 ≤ (0 : Int) := by decide
  have q94 : (0 : Int) < (l1.length : Int) := of_decide_eq_true (by first | (with_reducible assumption) | assumption)
  obtain ⟨ad94, A94_4, c94_4, e94, hx94_0, hx94_1, hx94_2, hx94_3, hx94_4, hl94_4, hi94_4⟩ := atF_T57 HF1.out (0 : Int) p94 q94
  cases e94
  (try simp only [show ((0 : Int)).toNat = 0 from rfl, show 0 * 5 = 0 from rfl] at hx94_0)
  (try rw [Addr.add_zero'] at hx94_0)
  (try simp only [show ((0 : Int)).toNat = 0 from rfl, show 0 * 5 = 0 from rfl] at hx94_1)
  (try rw [Addr.add_zero'] at hx94_1)
  (try simp only [show ((0 : Int)).toNat = 0 from rfl, show 0 * 5 = 0 from rfl] at hx94_2)
  (try rw [Addr.add_zero'] at hx94_2)
  (try simp only [show ((0 : Int)).toNat = 0 from rfl, show 0 * 5 = 0 from rfl] at hx94_3)
  (try rw [Addr.add_zero'] at hx94_3)
  (try simp only [show ((0 : Int)).toNat = 0 from rfl, show 0 * 5 = 0 from rfl] at hx94_4)
  (try rw [Addr.add_zero'] at hx94_4)
  have HF94_4 := Aside0.mk hi94_4
  clear hi94_4 hl94_4
  replace p94 := eq_true p94
  replace q94 := eq_true q94
  go_wp2_with ((with_reducible refine gs 9 22 rfl ?_); refine zs 9 22 #[.int .i64 a0, .int .i64 3, .bool true, .int .i64 0, .string (⟨#[]⟩ : ByteArray), .string (⟨#[]⟩ : ByteArray), .string ((rd_T57 l1 (0 : Int)).f3), .slice none 0 0] BKg19.out [.string ((rd_T57 l1 (0 : Int)).f3)] (h := ?_); intro w95 hbk hg)
  refine Stop.go ?_
  replace HF1 := zfg HF1.out hg fun k_ hk_ => hk_.2
  replace HF94_4 := zfg HF94_4.out hg fun k_ hk_ => hk_.2
  replace BKg1 := zbg BKg1.out hg NEg1_g19
  replace HB := zhg HB.out hg (below_size HB.out) GEg19
  replace BKg19 := hbk
  clear hg hbk
  clear jS jT jU jV jW jX jY jZ j10 j11 j12 j13 j14 j15 j16 j17 j18 j19 j1a j1b j1c j1d j1e j1f j1g j1h j1i j1j j1k j1l j1m j1n hx94_0 hx94_1 hx94_2 hx94_3 hx94_4 p94 q94
  obtain ⟨j1y, j1z, j1A, j1B, j1C, j1D, j1E, j1F, j1G, j1H, j1I, j1J, j1K, j1L, j1M, j1N⟩ := MB.lay8 BKg1.out
  obtain ⟨j1O, j1P, j1Q, j1R, j1S, j1T, j1U, j1V, j1W, j1X, j1Y, j1Z, j20, j21, j22, j23⟩ := MB.lay8 BKg19.out
  replace HH := zqno 1 HH
  obtain ⟨HH, hk129, hk130, hk131, hk132⟩ := HH
  have p133 : 0 ≤ (1 : Int) := by decide
  have q133 : (1 : Int) < (l1.length : Int) := of_decide_eq_true (by first | (with_reducible assumption) | assumption)
  obtain ⟨ad133, A133_4, c133_4, e133, hx133_0, hx133_1, hx133_2, hx133_3, hx133_4, hl133_4, hi133_4⟩ := atF_T57 HF1.out (1 : Int) p133 q133
  cases e133
  (try simp only [show ((1 : Int)).toNat = 1 from rfl, show 1 * 5 = 5 from rfl] at hx133_0)
  (try simp only [Nat.reduceMul, Nat.reduceEqDiff, Go.Addr.add, ↓reduceIte] at hx133_0)
  (try simp only [show ((1 : Int)).toNat = 1 from rfl, show 1 * 5 = 5 from rfl] at hx133_1)
  (try simp only [Nat.reduceMul, Nat.reduceEqDiff, Go.Addr.add, ↓reduceIte] at hx133_1)
  (try simp only [show ((1 : Int)).toNat = 1 from rfl, show 1 * 5 = 5 from rfl] at hx133_2)
  (try simp only [Nat.reduceMul, Nat.reduceEqDiff, Go.Addr.add, ↓reduceIte] at hx133_2)
  (try simp only [show ((1 : Int)).toNat = 1 from rfl, show 1 * 5 = 5 from rfl] at hx133_3)
  (try simp only [Nat.reduceMul, Nat.reduceEqDiff, Go.Addr.add, ↓reduceIte] at hx133_3)
  (try simp only [show ((1 : Int)).toNat = 1 from rfl, show 1 * 5 = 5 from rfl] at hx133_4)
  (try simp only [Nat.reduceMul, Nat.reduceEqDiff, Go.Addr.add, ↓reduceIte] at hx133_4)
  have HF133_4 := Aside0.mk hi133_4
  clear hi133_4 hl133_4
  replace p133 := eq_true p133
  replace q133 := eq_true q133
  go_wp2
  go_loopg [28] k (fun kq u28 w' => ∃ (x135 : Int) (x136 : List (S46)) (v134 : Value), u28 = .int .i64 x135 ∧ Aside0 ((reply_entered.l0 kq x135 x136 a0 l1) = some (r1, r2, r3, r4, r5, r6, r7, r8, r9)) ∧ Aside0 (kq ≤ k) ∧ Aside0 (Kd.F k57 w' (fun k_ => (((P_ k_ ∨ w.heap.size ≤ k_) ∧ some k_ ≠ (v134 : Value).ownBlock) ∧ k_ ≠ g1) ∧ k_ ≠ g19) A133_4 ((rd_T57 l1 (1 : Int)).f4).length ((rd_T57 l1 (1 : Int)).f4)) ∧ Aside0 (Kd.N k46 46 w' w.heap.size (fun k_ => ((P_ k_ ∨ w.heap.size ≤ k_) ∧ k_ ≠ g1) ∧ k_ ≠ g19) v134 x136) ∧ Aside0 (w'.heap[g1]? = some (.cells #[.int .i64 0, .int .i64 0, .bool false, .int .i64 0, .string (⟨#[]⟩ : ByteArray), .string (⟨#[]⟩ : ByteArray), .string (⟨#[]⟩ : ByteArray), .slice none 0 0] 27 (0, 0))) ∧ Aside0 (w'.heap[g19]? = some (.cells #[.int .i64 a0, .int .i64 3, .bool true, .int .i64 0, .string (⟨#[]⟩ : ByteArray), .string (⟨#[]⟩ : ByteArray), .string ((rd_T57 l1 (0 : Int)).f3), v134] 27 (0, 0))) ∧ Aside0 (Below w.heap.size w w'))
  case atStart => exact ⟨0, ([] : List (S46)), .slice none 0 0, (by first | rfl | (simp; done) | (simp [*]; done)), HH, ⟨Nat.le_refl _⟩, ⟨(Kd.F_mono (ok := (fun k_ => ((P_ k_ ∨ w.heap.size ≤ k_) ∧ k_ ≠ g1) ∧ k_ ≠ g19)) HF133_4.out (fun k_ hk_ => ⟨⟨⟨hk_.1.1, (by simp [Value.ownBlock])⟩, hk_.1.2⟩, hk_.2⟩))⟩, ⟨Kd.N_nil _ _ _ _ _⟩, ⟨BKg1.out⟩, ⟨BKg19.out⟩, ⟨HB.out⟩⟩
  case round =>
   clear j1y j1z j1A j1B j1C j1D j1E j1F j1G j1H j1I j1J j1K j1L j1M j1N j1O j1P j1Q j1R j1S j1T j1U j1V j1W j1X j1Y j1Z j20 j21 j22 j23 hx133_0 hx133_1 hx133_2 hx133_3 hx133_4 p133 q133
   clear hk87
   clear hk88
   clear hk90
   clear hk91
   clear hk92
   clear hk93
   clear hk129
   clear hk130
   clear hk131
   clear hk132
   clear HH
   clear HF1 HF94_4 HF133_4 BKg1 BKg19 HB
   obtain ⟨x135, x136, v134, rfl, HA, HK0, HF133_4, HN137, BKg1, BKg19, HB⟩ := hrel
   obtain ⟨w139, rfl⟩ : ∃ wo_ : World, wo_ = wr := ⟨_, rfl⟩
   cases gk with
   | zero => exact absurd HA.out (by simp [reply_entered.l0])
   | succ k138 =>
    have H := HA.out
    clear HA
    simp only [reply_entered.l0] at H
    have HH := Aside0.mk H
    clear H
    obtain ⟨j2g, j2h, j2i, j2j, j2k, j2l, j2m, j2n, j2o, j2p, j2q, j2r, j2s, j2t, j2u, j2v⟩ := MB.lay8 BKg1.out
    obtain ⟨j2w, j2x, j2y, j2z, j2A, j2B, j2C, j2D, j2E, j2F, j2G, j2H, j2I, j2J, j2K, j2L⟩ := MB.lay8 BKg19.out
    replace HH := zqt HH
    rcases HH with ⟨HH, hk173, hk174⟩ | ⟨HH, hk831, hk832⟩
    ·replace HH := zqdo HH
     obtain ⟨HH, hk176⟩ := HH
     have p177 : 0 ≤ (x135 : Int) := of_decide_eq_true (by first | (with_reducible assumption) | assumption)
     have q177 : x135 < (((rd_T57 l1 (1 : Int)).f4).length : Int) := of_decide_eq_true (by first | (with_reducible assumption) | assumption)
     obtain ⟨ad177, A177_4, c177_4, e177, hx177_0, hx177_1, hx177_2, hx177_3, hx177_4, hl177_4, hi177_4⟩ := atF_T57 HF133_4.out x135 p177 q177
     cases e177
     have HF177_4 := Aside0.mk hi177_4
     clear hi177_4 hl177_4
     replace p177 := eq_true p177
     replace q177 := eq_true q177
     go_wp2_with ((with_reducible refine gd 8 rfl ?_); refine zb 8 57 #[.int .i64 0, .bool false, .int .i64 0, .string (⟨#[]⟩ : ByteArray), .slice none 0 0] (h := ?_); intro g178 hg w179 BKg178 hb)
     refine Stop.go ?_
     have GEg178 := zge hg (below_size HB.out)
     have NEg1_g178 := znq hg BKg1.out
     have NEg178_g1 := zsy NEg1_g178
     have NEg19_g178 := znq hg BKg19.out
     have NEg178_g19 := zsy NEg19_g178
     replace HF133_4 := zfe HF133_4.out hg hb
     replace HF177_4 := zfe HF177_4.out hg hb
     replace HN137 := zne HN137.out hg hb
     replace BKg1 := zbb BKg1.out hb
     replace BKg19 := zbb BKg19.out hb
     replace HB := zhb HB.out hb
     clear hg hb
     clear j2g j2h j2i j2j j2k j2l j2m j2n j2o j2p j2q j2r j2s j2t j2u j2v j2w j2x j2y j2z j2A j2B j2C j2D j2E j2F j2G j2H j2I j2J j2K j2L hx177_0 hx177_1 hx177_2 hx177_3 hx177_4 p177 q177
     obtain ⟨j2U, j2V, j2W, j2X, j2Y, j2Z, j30, j31, j32, j33, j34, j35, j36, j37, j38, j39⟩ := MB.lay8 BKg1.out
     obtain ⟨j3a, j3b, j3c, j3d, j3e, j3f, j3g, j3h, j3i, j3j, j3k, j3l, j3m, j3n, j3o, j3p⟩ := MB.lay8 BKg19.out
     obtain ⟨j3q, j3r, j3s, j3t, j3u, j3v, j3w, j3x, j3y, j3z⟩ := MB.lay5 BKg178.out
     go_wp2_with ((with_reducible refine gs 57 8 rfl ?_); refine zs 57 8 #[.int .i64 ((rd_T57 ((rd_T57 l1 (1 : Int)).f4) x135).f0), .bool ((rd_T57 ((rd_T57 l1 (1 : Int)).f4) x135).f1), .int .i64 ((rd_T57 ((rd_T57 l1 (1 : Int)).f4) x135).f2), .string ((rd_T57 ((rd_T57 l1 (1 : Int)).f4) x135).f3), .slice A177_4 ((rd_T57 ((rd_T57 l1 (1 : Int)).f4) x135).f4).length c177_4] BKg178.out [.int .i64 ((rd_T57 ((rd_T57 l1 (1 : Int)).f4) x135).f0), .bool ((rd_T57 ((rd_T57 l1 (1 : Int)).f4) x135).f1), .int .i64 ((rd_T57 ((rd_T57 l1 (1 : Int)).f4) x135).f2), .string ((rd_T57 ((rd_T57 l1 (1 : Int)).f4) x135).f3), .slice A177_4 ((rd_T57 ((rd_T57 l1 (1 : Int)).f4) x135).f4).length c177_4] (h := ?_); intro w222 hbk hg)
     refine Stop.go ?_
     replace HF133_4 := zfg HF133_4.out hg fun k_ hk_ => hk_.2
     replace HF177_4 := zfg HF177_4.out hg fun k_ hk_ => hk_.2
     replace HN137 := zng HN137.out hg fun k_ hk_ => hk_.2
     replace BKg1 := zbg BKg1.out hg NEg1_g178
     replace BKg19 := zbg BKg19.out hg NEg19_g178
     replace HB := zhg HB.out hg (below_size HB.out) GEg178
     replace BKg178 := hbk
     clear hg hbk
     clear j2U j2V j2W j2X j2Y j2Z j30 j31 j32 j33 j34 j35 j36 j37 j38 j39 j3a j3b j3c j3d j3e j3f j3g j3h j3i j3j j3k j3l j3m j3n j3o j3p j3q j3r j3s j3t j3u j3v j3w j3x j3y j3z
     obtain ⟨j3B, j3C, j3D, j3E, j3F, j3G, j3H, j3I, j3J, j3K, j3L, j3M, j3N, j3O, j3P, j3Q⟩ := MB.lay8 BKg1.out
     obtain ⟨j3R, j3S, j3T, j3U, j3V, j3W, j3X, j3Y, j3Z, j40, j41, j42, j43, j44, j45, j46⟩ := MB.lay8 BKg19.out
     obtain ⟨j47, j48, j49, j4a, j4b, j4c, j4d, j4e, j4f, j4g⟩ := MB.lay5 BKg178.out
     replace HH := zqe HH
     rcases HH with ⟨HH, hk266, hk267⟩ | ⟨HH, hk783, hk784⟩
     ·replace HH := zqno 0 HH
      obtain ⟨HH, hk269, hk270, hk271, hk272⟩ := HH
      have p273 : 0 ≤ (0 : Int) := by decide
      have q273 : (0 : Int) < (((rd_T57 ((rd_T57 l1 (1 : Int)).f4) x135).f4).length : Int) := of_decide_eq_true (by first | (with_reducible assumption) | assumption)
      obtain ⟨ad273, A273_4, c273_4, e273, hx273_0, hx273_1, hx273_2, hx273_3, hx273_4, hl273_4, hi273_4⟩ := atF_T57 HF177_4.out (0 : Int) p273 q273
      cases e273
      (try simp only [show ((0 : Int)).toNat = 0 from rfl, show 0 * 5 = 0 from rfl] at hx273_0)
      (try rw [Addr.add_zero'] at hx273_0)
      (try simp only [show ((0 : Int)).toNat = 0 from rfl, show 0 * 5 = 0 from rfl] at hx273_1)
      (try rw [Addr.add_zero'] at hx273_1)
      (try simp only [show ((0 : Int)).toNat = 0 from rfl, show 0 * 5 = 0 from rfl] at hx273_2)
      (try rw [Addr.add_zero'] at hx273_2)
      (try simp only [show ((0 : Int)).toNat = 0 from rfl, show 0 * 5 = 0 from rfl] at hx273_3)
      (try rw [Addr.add_zero'] at hx273_3)
      (try simp only [show ((0 : Int)).toNat = 0 from rfl, show 0 * 5 = 0 from rfl] at hx273_4)
      (try rw [Addr.add_zero'] at hx273_4)
      have HF273_4 := Aside0.mk hi273_4
      clear hi273_4 hl273_4
      replace p273 := eq_true p273
      replace q273 := eq_true q273
      go_wp2_with ((with_reducible refine gd 9 rfl ?_); refine zb 9 46 #[.string (⟨#[]⟩ : ByteArray), .slice none 0 0] (h := ?_); intro g274 hg w275 BKg274 hb)
      refine Stop.go ?_
      have GEg274 := zge hg (below_size HB.out)
      have NEg1_g274 := znq hg BKg1.out
      have NEg19_g274 := znq hg BKg19.out
      have NEg274_g19 := zsy NEg19_g274
      have NEg178_g274 := znq hg BKg178.out
      replace HF133_4 := zfe HF133_4.out hg hb
      replace HF177_4 := zfe HF177_4.out hg hb
      replace HF273_4 := zfe HF273_4.out hg hb
      replace HN137 := zne HN137.out hg hb
      replace BKg1 := zbb BKg1.out hb
      replace BKg19 := zbb BKg19.out hb
      replace BKg178 := zbb BKg178.out hb
      replace HB := zhb HB.out hb
      clear hg hb
      clear j3B j3C j3D j3E j3F j3G j3H j3I j3J j3K j3L j3M j3N j3O j3P j3Q j3R j3S j3T j3U j3V j3W j3X j3Y j3Z j40 j41 j42 j43 j44 j45 j46 j47 j48 j49 j4a j4b j4c j4d j4e j4f j4g hx273_0 hx273_1 hx273_2 hx273_3 hx273_4 p273 q273
      obtain ⟨j4s, j4t, j4u, j4v, j4w, j4x, j4y, j4z, j4A, j4B, j4C, j4D, j4E, j4F, j4G, j4H⟩ := MB.lay8 BKg1.out
      obtain ⟨j4I, j4J, j4K, j4L, j4M, j4N, j4O, j4P, j4Q, j4R, j4S, j4T, j4U, j4V, j4W, j4X⟩ := MB.lay8 BKg19.out
      obtain ⟨j4Y, j4Z, j50, j51, j52, j53, j54, j55, j56, j57⟩ := MB.lay5 BKg178.out
      obtain ⟨j58, j59, j5a, j5b⟩ := MB.lay2 BKg274.out
      go_wp2_with ((with_reducible refine gs 46 9 rfl ?_); refine zs 46 9 #[.string ((rd_T57 ((rd_T57 ((rd_T57 l1 (1 : Int)).f4) x135).f4) (0 : Int)).f3), .slice none 0 0] BKg274.out [.string ((rd_T57 ((rd_T57 ((rd_T57 l1 (1 : Int)).f4) x135).f4) (0 : Int)).f3), .slice none 0 0] (h := ?_); intro w322 hbk hg)
      refine Stop.go ?_
      replace HF133_4 := zfg HF133_4.out hg fun k_ hk_ => hk_.2
      replace HF177_4 := zfg HF177_4.out hg fun k_ hk_ => hk_.2
      replace HF273_4 := zfg HF273_4.out hg fun k_ hk_ => hk_.2
      replace HN137 := zng HN137.out hg fun k_ hk_ => hk_.2
      replace BKg1 := zbg BKg1.out hg NEg1_g274
      replace BKg19 := zbg BKg19.out hg NEg19_g274
      replace BKg178 := zbg BKg178.out hg NEg178_g274
      replace HB := zhg HB.out hg (below_size HB.out) GEg274
      replace BKg274 := hbk
      clear hg hbk
      clear j4s j4t j4u j4v j4w j4x j4y j4z j4A j4B j4C j4D j4E j4F j4G j4H j4I j4J j4K j4L j4M j4N j4O j4P j4Q j4R j4S j4T j4U j4V j4W j4X j4Y j4Z j50 j51 j52 j53 j54 j55 j56 j57 j58 j59 j5a j5b
      obtain ⟨j5d, j5e, j5f, j5g, j5h, j5i, j5j, j5k, j5l, j5m, j5n, j5o, j5p, j5q, j5r, j5s⟩ := MB.lay8 BKg1.out
      obtain ⟨j5t, j5u, j5v, j5w, j5x, j5y, j5z, j5A, j5B, j5C, j5D, j5E, j5F, j5G, j5H, j5I⟩ := MB.lay8 BKg19.out
      obtain ⟨j5J, j5K, j5L, j5M, j5N, j5O, j5P, j5Q, j5R, j5S⟩ := MB.lay5 BKg178.out
      obtain ⟨j5T, j5U, j5V, j5W⟩ := MB.lay2 BKg274.out
      replace HH := zqno 1 HH
      obtain ⟨HH, hk370, hk371, hk372, hk373⟩ := HH
      have p374 : 0 ≤ (1 : Int) := by decide
      have q374 : (1 : Int) < (((rd_T57 ((rd_T57 l1 (1 : Int)).f4) x135).f4).length : Int) := of_decide_eq_true (by first | (with_reducible assumption) | assumption)
      obtain ⟨ad374, A374_4, c374_4, e374, hx374_0, hx374_1, hx374_2, hx374_3, hx374_4, hl374_4, hi374_4⟩ := atF_T57 HF177_4.out (1 : Int) p374 q374
      cases e374
      (try simp only [show ((1 : Int)).toNat = 1 from rfl, show 1 * 5 = 5 from rfl] at hx374_0)
      (try simp only [Nat.reduceMul, Nat.reduceEqDiff, Go.Addr.add, ↓reduceIte] at hx374_0)
      (try simp only [show ((1 : Int)).toNat = 1 from rfl, show 1 * 5 = 5 from rfl] at hx374_1)
      (try simp only [Nat.reduceMul, Nat.reduceEqDiff, Go.Addr.add, ↓reduceIte] at hx374_1)
      (try simp only [show ((1 : Int)).toNat = 1 from rfl, show 1 * 5 = 5 from rfl] at hx374_2)
      (try simp only [Nat.reduceMul, Nat.reduceEqDiff, Go.Addr.add, ↓reduceIte] at hx374_2)
      (try simp only [show ((1 : Int)).toNat = 1 from rfl, show 1 * 5 = 5 from rfl] at hx374_3)
      (try simp only [Nat.reduceMul, Nat.reduceEqDiff, Go.Addr.add, ↓reduceIte] at hx374_3)
      (try simp only [show ((1 : Int)).toNat = 1 from rfl, show 1 * 5 = 5 from rfl] at hx374_4)
      (try simp only [Nat.reduceMul, Nat.reduceEqDiff, Go.Addr.add, ↓reduceIte] at hx374_4)
      have HF374_4 := Aside0.mk hi374_4
      clear hi374_4 hl374_4
      replace p374 := eq_true p374
      replace q374 := eq_true q374
      go_wp2
      go_loopg [49] k138 (fun kq u49 w' => ∃ (x376 : Int) (x377 : List ByteArray) (v375 : Value), u49 = .int .i64 x376 ∧ Aside0 ((reply_entered.l1 kq x376 x377 a0 l1 x135 x136) = some (r1, r2, r3, r4, r5, r6, r7, r8, r9)) ∧ Aside0 (kq ≤ k138) ∧ Aside0 (Kd.F k57 w' (fun k_ => ((((((P_ k_ ∨ w.heap.size ≤ k_) ∧ some k_ ≠ (v134 : Value).ownBlock) ∧ some k_ ≠ (v375 : Value).ownBlock) ∧ k_ ≠ g1) ∧ k_ ≠ g19) ∧ k_ ≠ g178) ∧ k_ ≠ g274) (some ad177) ((rd_T57 l1 (1 : Int)).f4).length ((rd_T57 l1 (1 : Int)).f4)) ∧ Aside0 (Kd.F k57 w' (fun k_ => ((((((P_ k_ ∨ w.heap.size ≤ k_) ∧ some k_ ≠ (v134 : Value).ownBlock) ∧ some k_ ≠ (v375 : Value).ownBlock) ∧ k_ ≠ g1) ∧ k_ ≠ g19) ∧ k_ ≠ g178) ∧ k_ ≠ g274) (some ad273) ((rd_T57 ((rd_T57 l1 (1 : Int)).f4) x135).f4).length ((rd_T57 ((rd_T57 l1 (1 : Int)).f4) x135).f4)) ∧ Aside0 (Kd.F k57 w' (fun k_ => ((((((P_ k_ ∨ w.heap.size ≤ k_) ∧ some k_ ≠ (v134 : Value).ownBlock) ∧ some k_ ≠ (v375 : Value).ownBlock) ∧ k_ ≠ g1) ∧ k_ ≠ g19) ∧ k_ ≠ g178) ∧ k_ ≠ g274) A374_4 ((rd_T57 ((rd_T57 ((rd_T57 l1 (1 : Int)).f4) x135).f4) (1 : Int)).f4).length ((rd_T57 ((rd_T57 ((rd_T57 l1 (1 : Int)).f4) x135).f4) (1 : Int)).f4)) ∧ Aside0 (Kd.N k46 46 w' w.heap.size (fun k_ => (((((P_ k_ ∨ w.heap.size ≤ k_) ∧ some k_ ≠ (v375 : Value).ownBlock) ∧ k_ ≠ g1) ∧ k_ ≠ g19) ∧ k_ ≠ g178) ∧ k_ ≠ g274) v134 x136) ∧ Aside0 (Kd.N Kd.string 9 w' w.heap.size (fun k_ => (((((P_ k_ ∨ w.heap.size ≤ k_) ∧ some k_ ≠ (v134 : Value).ownBlock) ∧ k_ ≠ g1) ∧ k_ ≠ g19) ∧ k_ ≠ g178) ∧ k_ ≠ g274) v375 x377) ∧ Aside0 (w'.heap[g1]? = some (.cells #[.int .i64 0, .int .i64 0, .bool false, .int .i64 0, .string (⟨#[]⟩ : ByteArray), .string (⟨#[]⟩ : ByteArray), .string (⟨#[]⟩ : ByteArray), .slice none 0 0] 27 (0, 0))) ∧ Aside0 (w'.heap[g19]? = some (.cells #[.int .i64 a0, .int .i64 3, .bool true, .int .i64 0, .string (⟨#[]⟩ : ByteArray), .string (⟨#[]⟩ : ByteArray), .string ((rd_T57 l1 (0 : Int)).f3), v134] 27 (0, 0))) ∧ Aside0 (w'.heap[g178]? = some (.cells #[.int .i64 ((rd_T57 ((rd_T57 l1 (1 : Int)).f4) x135).f0), .bool ((rd_T57 ((rd_T57 l1 (1 : Int)).f4) x135).f1), .int .i64 ((rd_T57 ((rd_T57 l1 (1 : Int)).f4) x135).f2), .string ((rd_T57 ((rd_T57 l1 (1 : Int)).f4) x135).f3), .slice (some ad273) ((rd_T57 ((rd_T57 l1 (1 : Int)).f4) x135).f4).length c177_4] 57 (0, 0))) ∧ Aside0 (w'.heap[g274]? = some (.cells #[.string ((rd_T57 ((rd_T57 ((rd_T57 l1 (1 : Int)).f4) x135).f4) (0 : Int)).f3), v375] 46 (0, 0))) ∧ Aside0 (Below w.heap.size w w'))
      case atStart => exact ⟨0, ([] : List ByteArray), .slice none 0 0, (by first | rfl | (simp; done) | (simp [*]; done)), HH, ⟨Nat.le_refl _⟩, ⟨(Kd.F_mono (ok := (fun k_ => (((((P_ k_ ∨ w.heap.size ≤ k_) ∧ some k_ ≠ (v134 : Value).ownBlock) ∧ k_ ≠ g1) ∧ k_ ≠ g19) ∧ k_ ≠ g178) ∧ k_ ≠ g274)) HF133_4.out (fun k_ hk_ => ⟨⟨⟨⟨⟨⟨hk_.1.1.1.1.1, hk_.1.1.1.1.2⟩, (by simp [Value.ownBlock])⟩, hk_.1.1.1.2⟩, hk_.1.1.2⟩, hk_.1.2⟩, hk_.2⟩))⟩, ⟨(Kd.F_mono (ok := (fun k_ => (((((P_ k_ ∨ w.heap.size ≤ k_) ∧ some k_ ≠ (v134 : Value).ownBlock) ∧ k_ ≠ g1) ∧ k_ ≠ g19) ∧ k_ ≠ g178) ∧ k_ ≠ g274)) HF177_4.out (fun k_ hk_ => ⟨⟨⟨⟨⟨⟨hk_.1.1.1.1.1, hk_.1.1.1.1.2⟩, (by simp [Value.ownBlock])⟩, hk_.1.1.1.2⟩, hk_.1.1.2⟩, hk_.1.2⟩, hk_.2⟩))⟩, ⟨(Kd.F_mono (ok := (fun k_ => (((((P_ k_ ∨ w.heap.size ≤ k_) ∧ some k_ ≠ (v134 : Value).ownBlock) ∧ k_ ≠ g1) ∧ k_ ≠ g19) ∧ k_ ≠ g178) ∧ k_ ≠ g274)) HF374_4.out (fun k_ hk_ => ⟨⟨⟨⟨⟨⟨hk_.1.1.1.1.1, hk_.1.1.1.1.2⟩, (by simp [Value.ownBlock])⟩, hk_.1.1.1.2⟩, hk_.1.1.2⟩, hk_.1.2⟩, hk_.2⟩))⟩, ⟨(Kd.N_mono (ok := (fun k_ => ((((P_ k_ ∨ w.heap.size ≤ k_) ∧ k_ ≠ g1) ∧ k_ ≠ g19) ∧ k_ ≠ g178) ∧ k_ ≠ g274)) HN137.out (fun k_ hk_ => ⟨⟨⟨⟨⟨hk_.1.1.1.1, (by simp [Value.ownBlock])⟩, hk_.1.1.1.2⟩, hk_.1.1.2⟩, hk_.1.2⟩, hk_.2⟩))⟩, ⟨Kd.N_nil _ _ _ _ _⟩, ⟨BKg1.out⟩, ⟨BKg19.out⟩, ⟨BKg178.out⟩, ⟨BKg274.out⟩, ⟨HB.out⟩⟩
      case round =>
       clear j5d j5e j5f j5g j5h j5i j5j j5k j5l j5m j5n j5o j5p j5q j5r j5s j5t j5u j5v j5w j5x j5y j5z j5A j5B j5C j5D j5E j5F j5G j5H j5I j5J j5K j5L j5M j5N j5O j5P j5Q j5R j5S j5T j5U j5V j5W hx374_0 hx374_1 hx374_2 hx374_3 hx374_4 p374 q374
       clear hk173
       clear hk174
       clear hk176
       clear hk266
       clear hk267
       clear hk269
       clear hk270
       clear hk271
       clear hk272
       clear hk370
       clear hk371
       clear hk372
       clear hk373
       clear HH
       clear HF133_4 HF177_4 HF273_4 HF374_4 HN137 BKg1 BKg19 BKg178 BKg274 HB
       obtain ⟨x376, x377, v375, rfl, HA, HK1, HF133_4, HF177_4, HF374_4, HN137, HN378, BKg1, BKg19, BKg178, BKg274, HB⟩ := hrel
       obtain ⟨w380, rfl⟩ : ∃ wo_ : World, wo_ = wr := ⟨_, rfl⟩
       cases gk with
       | zero => exact absurd HA.out (by simp [reply_entered.l1])
       | succ k379 =>
        have H := HA.out
        clear HA
        simp only [reply_entered.l1] at H
        have HH := Aside0.mk H
        clear H
        obtain ⟨j69, j6a, j6b, j6c, j6d, j6e, j6f, j6g, j6h, j6i, j6j, j6k, j6l, j6m, j6n, j6o⟩ := MB.lay8 BKg1.out
        obtain ⟨j6p, j6q, j6r, j6s, j6t, j6u, j6v, j6w, j6x, j6y, j6z, j6A, j6B, j6C, j6D, j6E⟩ := MB.lay8 BKg19.out
        obtain ⟨j6F, j6G, j6H, j6I, j6J, j6K, j6L, j6M, j6N, j6O⟩ := MB.lay5 BKg178.out
        obtain ⟨j6P, j6Q, j6R, j6S⟩ := MB.lay2 BKg274.out
        replace HH := zqt HH
        rcases HH with ⟨HH, hk428, hk429⟩ | ⟨HH, hk669, hk670⟩
        ·replace HH := zqdo HH
         obtain ⟨HH, hk431⟩ := HH
         have p432 : 0 ≤ (x376 : Int) := of_decide_eq_true (by first | (with_reducible assumption) | assumption)
         have q432 : x376 < (((rd_T57 ((rd_T57 ((rd_T57 l1 (1 : Int)).f4) x135).f4) (1 : Int)).f4).length : Int) := of_decide_eq_true (by first | (with_reducible assumption) | assumption)
         obtain ⟨ad432, A432_4, c432_4, e432, hx432_0, hx432_1, hx432_2, hx432_3, hx432_4, hl432_4, hi432_4⟩ := atF_T57 HF374_4.out x376 p432 q432
         cases e432
         clear hi432_4 hl432_4
         replace p432 := eq_true p432
         replace q432 := eq_true q432
         go_wp2_with ((with_reducible refine gd 11 rfl ?_); refine zb 11 57 #[.int .i64 0, .bool false, .int .i64 0, .string (⟨#[]⟩ : ByteArray), .slice none 0 0] (h := ?_); intro g433 hg w434 BKg433 hb)
         refine Stop.go ?_
         have GEg433 := zge hg (below_size HB.out)
         have NEg1_g433 := znq hg BKg1.out
         have NEg19_g433 := znq hg BKg19.out
         have NEg178_g433 := znq hg BKg178.out
         have NEg274_g433 := znq hg BKg274.out
         have NEg433_g274 := zsy NEg274_g433
         replace HF133_4 := zfe HF133_4.out hg hb
         replace HF177_4 := zfe HF177_4.out hg hb
         replace HF374_4 := zfe HF374_4.out hg hb
         replace HN137 := zne HN137.out hg hb
         replace HN378 := zne HN378.out hg hb
         replace BKg1 := zbb BKg1.out hb
         replace BKg19 := zbb BKg19.out hb
         replace BKg178 := zbb BKg178.out hb
         replace BKg274 := zbb BKg274.out hb
         replace HB := zhb HB.out hb
         clear hg hb
         clear j69 j6a j6b j6c j6d j6e j6f j6g j6h j6i j6j j6k j6l j6m j6n j6o j6p j6q j6r j6s j6t j6u j6v j6w j6x j6y j6z j6A j6B j6C j6D j6E j6F j6G j6H j6I j6J j6K j6L j6M j6N j6O j6P j6Q j6R j6S hx432_0 hx432_1 hx432_2 hx432_3 hx432_4 p432 q432
         obtain ⟨j71, j72, j73, j74, j75, j76, j77, j78, j79, j7a, j7b, j7c, j7d, j7e, j7f, j7g⟩ := MB.lay8 BKg1.out
         obtain ⟨j7h, j7i, j7j, j7k, j7l, j7m, j7n, j7o, j7p, j7q, j7r, j7s, j7t, j7u, j7v, j7w⟩ := MB.lay8 BKg19.out
         obtain ⟨j7x, j7y, j7z, j7A, j7B, j7C, j7D, j7E, j7F, j7G⟩ := MB.lay5 BKg178.out
         obtain ⟨j7H, j7I, j7J, j7K⟩ := MB.lay2 BKg274.out
         obtain ⟨j7L, j7M, j7N, j7O, j7P, j7Q, j7R, j7S, j7T, j7U⟩ := MB.lay5 BKg433.out
         go_wp2_with ((with_reducible refine gs 57 11 rfl ?_); refine zs 57 11 #[.int .i64 ((rd_T57 ((rd_T57 ((rd_T57 ((rd_T57 l1 (1 : Int)).f4) x135).f4) (1 : Int)).f4) x376).f0), .bool ((rd_T57 ((rd_T57 ((rd_T57 ((rd_T57 l1 (1 : Int)).f4) x135).f4) (1 : Int)).f4) x376).f1), .int .i64 ((rd_T57 ((rd_T57 ((rd_T57 ((rd_T57 l1 (1 : Int)).f4) x135).f4) (1 : Int)).f4) x376).f2), .string ((rd_T57 ((rd_T57 ((rd_T57 ((rd_T57 l1 (1 : Int)).f4) x135).f4) (1 : Int)).f4) x376).f3), .slice A432_4 ((rd_T57 ((rd_T57 ((rd_T57 ((rd_T57 l1 (1 : Int)).f4) x135).f4) (1 : Int)).f4) x376).f4).length c432_4] BKg433.out [.int .i64 ((rd_T57 ((rd_T57 ((rd_T57 ((rd_T57 l1 (1 : Int)).f4) x135).f4) (1 : Int)).f4) x376).f0), .bool ((rd_T57 ((rd_T57 ((rd_T57 ((rd_T57 l1 (1 : Int)).f4) x135).f4) (1 : Int)).f4) x376).f1), .int .i64 ((rd_T57 ((rd_T57 ((rd_T57 ((rd_T57 l1 (1 : Int)).f4) x135).f4) (1 : Int)).f4) x376).f2), .string ((rd_T57 ((rd_T57 ((rd_T57 ((rd_T57 l1 (1 : Int)).f4) x135).f4) (1 : Int)).f4) x376).f3), .slice A432_4 ((rd_T57 ((rd_T57 ((rd_T57 ((rd_T57 l1 (1 : Int)).f4) x135).f4) (1 : Int)).f4) x376).f4).length c432_4] (h := ?_); intro w491 hbk hg)
         refine Stop.go ?_
         replace HF133_4 := zfg HF133_4.out hg fun k_ hk_ => hk_.2
         replace HF177_4 := zfg HF177_4.out hg fun k_ hk_ => hk_.2
         replace HF374_4 := zfg HF374_4.out hg fun k_ hk_ => hk_.2
         replace HN137 := zng HN137.out hg fun k_ hk_ => hk_.2
         replace HN378 := zng HN378.out hg fun k_ hk_ => hk_.2
         replace BKg1 := zbg BKg1.out hg NEg1_g433
         replace BKg19 := zbg BKg19.out hg NEg19_g433
         replace BKg178 := zbg BKg178.out hg NEg178_g433
         replace BKg274 := zbg BKg274.out hg NEg274_g433
         replace HB := zhg HB.out hg (below_size HB.out) GEg433
         replace BKg433 := hbk
         clear hg hbk
         clear j71 j72 j73 j74 j75 j76 j77 j78 j79 j7a j7b j7c j7d j7e j7f j7g j7h j7i j7j j7k j7l j7m j7n j7o j7p j7q j7r j7s j7t j7u j7v j7w j7x j7y j7z j7A j7B j7C j7D j7E j7F j7G j7H j7I j7J j7K j7L j7M j7N j7O j7P j7Q j7R j7S j7T j7U
         obtain ⟨j7W, j7X, j7Y, j7Z, j80, j81, j82, j83, j84, j85, j86, j87, j88, j89, j8a, j8b⟩ := MB.lay8 BKg1.out
         obtain ⟨j8c, j8d, j8e, j8f, j8g, j8h, j8i, j8j, j8k, j8l, j8m, j8n, j8o, j8p, j8q, j8r⟩ := MB.lay8 BKg19.out
         obtain ⟨j8s, j8t, j8u, j8v, j8w, j8x, j8y, j8z, j8A, j8B⟩ := MB.lay5 BKg178.out
         obtain ⟨j8C, j8D, j8E, j8F⟩ := MB.lay2 BKg274.out
         obtain ⟨j8G, j8H, j8I, j8J, j8K, j8L, j8M, j8N, j8O, j8P⟩ := MB.lay5 BKg433.out
         obtain ⟨HH, LMc548⟩ := zlm HH
         obtain ⟨y549, hy549⟩ : ∃ y_ : List ByteArray, y_ = (x377 ++ [(rd_T57 ((rd_T57 ((rd_T57 ((rd_T57 l1 (1 : Int)).f4) x135).f4) (1 : Int)).f4) x376).f3]) := ⟨_, rfl⟩
         have H : ((reply_entered.l1 k379 (wrap64 (x376 + 1)) y549 a0 l1 x135 x136)) = some (r1, r2, r3, r4, r5, r6, r7, r8, r9) := by rw [hy549]; exact HH.out
         replace HH := Aside0.mk H
         clear H
         have NYy549 := Aside0.mk hy549
         clear hy549
         go_wp2_with (((with_reducible refine gate_dst (N := 58) rfl ?_); (try (refine gate_guard (by rfl) ?_; dsimp only)); refine Kd.N_append Kd.string w.heap.size rfl _ _ 31 9 (.string ⟨#[]⟩) 16 rfl Try.underlying31 info9 rfl (by decide) (by decide) (v375) x377 ((rd_T57 ((rd_T57 ((rd_T57 ((rd_T57 l1 (1 : Int)).f4) x135).f4) (1 : Int)).f4) x376).f3) [.string ((rd_T57 ((rd_T57 ((rd_T57 ((rd_T57 l1 (1 : Int)).f4) x135).f4) (1 : Int)).f4) x376).f3)] (fun k_ => ((((((P_ k_ ∨ w.heap.size ≤ k_) ∧ some k_ ≠ (v134 : Value).ownBlock) ∧ k_ ≠ g1) ∧ k_ ≠ g19) ∧ k_ ≠ g178) ∧ k_ ≠ g274) ∧ k_ ≠ g433) (fun k_ => (fun k_ => ((((((P_ k_ ∨ w.heap.size ≤ k_) ∧ some k_ ≠ (v134 : Value).ownBlock) ∧ k_ ≠ g1) ∧ k_ ≠ g19) ∧ k_ ≠ g178) ∧ k_ ≠ g274) ∧ k_ ≠ g433) k_ ∧ some k_ ≠ (v375 : Value).ownBlock) rfl rfl (fun _ _ => rfl) (fun _ hk_ => hk_) (fun k_ h_ => ⟨⟨⟨⟨⟨⟨.inr (Nat.le_trans (below_size (by repeat (first | (with_reducible first | exact HB.out | apply below_alloc | apply pw_below_drewN | apply below_drew1) | exact HB.out))) h_), Kd.fresh' (Kd.N_lt (by (with_reducible repeat (first | apply Kd.N_alloc | apply Kd.N_drewN | apply Kd.N_drew)); exact HN137.out)) k_ h_⟩, Kd.freshB (g := g1) (o := .cells #[.int .i64 0, .int .i64 0, .bool false, .int .i64 0, .string (⟨#[]⟩ : ByteArray), .string (⟨#[]⟩ : ByteArray), .string (⟨#[]⟩ : ByteArray), .slice none 0 0] 27 (0, 0)) (by (with_reducible repeat (first | refine blk_drewN ?_ _ | refine blk_drew ?_ | refine blk_alloc ?_ _)); exact BKg1.out) k_ h_⟩, Kd.freshB (g := g19) (o := .cells #[.int .i64 a0, .int .i64 3, .bool true, .int .i64 0, .string (⟨#[]⟩ : ByteArray), .string (⟨#[]⟩ : ByteArray), .string ((rd_T57 l1 (0 : Int)).f3), v134] 27 (0, 0)) (by (with_reducible repeat (first | refine blk_drewN ?_ _ | refine blk_drew ?_ | refine blk_alloc ?_ _)); exact BKg19.out) k_ h_⟩, Kd.freshB (g := g178) (o := .cells #[.int .i64 ((rd_T57 ((rd_T57 l1 (1 : Int)).f4) x135).f0), .bool ((rd_T57 ((rd_T57 l1 (1 : Int)).f4) x135).f1), .int .i64 ((rd_T57 ((rd_T57 l1 (1 : Int)).f4) x135).f2), .string ((rd_T57 ((rd_T57 l1 (1 : Int)).f4) x135).f3), .slice (some ad273) ((rd_T57 ((rd_T57 l1 (1 : Int)).f4) x135).f4).length c177_4] 57 (0, 0)) (by (with_reducible repeat (first | refine blk_drewN ?_ _ | refine blk_drew ?_ | refine blk_alloc ?_ _)); exact BKg178.out) k_ h_⟩, Kd.freshB (g := g274) (o := .cells #[.string ((rd_T57 ((rd_T57 ((rd_T57 l1 (1 : Int)).f4) x135).f4) (0 : Int)).f3), v375] 46 (0, 0)) (by (with_reducible repeat (first | refine blk_drewN ?_ _ | refine blk_drew ?_ | refine blk_alloc ?_ _)); exact BKg274.out) k_ h_⟩, Kd.freshB (g := g433) (o := .cells #[.int .i64 ((rd_T57 ((rd_T57 ((rd_T57 ((rd_T57 l1 (1 : Int)).f4) x135).f4) (1 : Int)).f4) x376).f0), .bool ((rd_T57 ((rd_T57 ((rd_T57 ((rd_T57 l1 (1 : Int)).f4) x135).f4) (1 : Int)).f4) x376).f1), .int .i64 ((rd_T57 ((rd_T57 ((rd_T57 ((rd_T57 l1 (1 : Int)).f4) x135).f4) (1 : Int)).f4) x376).f2), .string ((rd_T57 ((rd_T57 ((rd_T57 ((rd_T57 l1 (1 : Int)).f4) x135).f4) (1 : Int)).f4) x376).f3), .slice A432_4 ((rd_T57 ((rd_T57 ((rd_T57 ((rd_T57 l1 (1 : Int)).f4) x135).f4) (1 : Int)).f4) x376).f4).length c432_4] 57 (0, 0)) (by (with_reducible repeat (first | refine blk_drewN ?_ _ | refine blk_drew ?_ | refine blk_alloc ?_ _)); exact BKg433.out) k_ h_⟩) (by (with_reducible repeat (first | apply Kd.N_alloc | apply Kd.N_drewN | apply Kd.N_drew)); exact HN378.out) (by repeat (first | (with_reducible first | exact HB.out | apply below_alloc | apply pw_below_drewN | apply below_drew1) | exact HB.out)) (below_size (by repeat (first | (with_reducible first | exact HB.out | apply below_alloc | apply pw_below_drewN | apply below_drew1) | exact HB.out))) (by first | (have := LMc548.out; omega) | (have := LMc548.out; simp at *; omega)) ?_; intro v550 w551 hn1 hb1 hg1 hat1); replace hat1 := Aside0.mk hat1; refine stop_ ?_)
         refine Stop.go ?_
         replace hat1 := hat1.out
         replace HF133_4 := Aside0.mk (Kd.F_mono (Kd.F_after (v := v375) (ok := (fun k_ => ((((((P_ k_ ∨ w.heap.size ≤ k_) ∧ some k_ ≠ (v134 : Value).ownBlock) ∧ k_ ≠ g1) ∧ k_ ≠ g19) ∧ k_ ≠ g178) ∧ k_ ≠ g274) ∧ k_ ≠ g433)) (Kd.F_mono (ok := (fun k_ => (((((((P_ k_ ∨ w.heap.size ≤ k_) ∧ some k_ ≠ (v134 : Value).ownBlock) ∧ some k_ ≠ (v375 : Value).ownBlock) ∧ k_ ≠ g1) ∧ k_ ≠ g19) ∧ k_ ≠ g178) ∧ k_ ≠ g274) ∧ k_ ≠ g433)) (by (with_reducible repeat (first | apply Kd.F_alloc | apply Kd.F_drewN | apply Kd.F_drew)); exact HF133_4.out) (fun k_ hk_ => ⟨⟨⟨⟨⟨⟨⟨hk_.1.1.1.1.1.1.1, hk_.1.1.1.1.1.1.2⟩, hk_.1.1.1.1.2⟩, hk_.1.1.1.2⟩, hk_.1.1.2⟩, hk_.1.2⟩, hk_.2⟩, hk_.1.1.1.1.1.2⟩)) hg1 hat1) (fun k_ hk_ => hk_) : Kd.F k57 _ (fun k_ => (((((((P_ k_ ∨ w.heap.size ≤ k_) ∧ some k_ ≠ (v134 : Value).ownBlock) ∧ k_ ≠ g1) ∧ k_ ≠ g19) ∧ k_ ≠ g178) ∧ k_ ≠ g274) ∧ k_ ≠ g433) ∧ some k_ ≠ (v550 : Value).ownBlock) _ _ _)
         replace HF177_4 := Aside0.mk (Kd.F_mono (Kd.F_after (v := v375) (ok := (fun k_ => ((((((P_ k_ ∨ w.heap.size ≤ k_) ∧ some k_ ≠ (v134 : Value).ownBlock) ∧ k_ ≠ g1) ∧ k_ ≠ g19) ∧ k_ ≠ g178) ∧ k_ ≠ g274) ∧ k_ ≠ g433)) (Kd.F_mono (ok := (fun k_ => (((((((P_ k_ ∨ w.heap.size ≤ k_) ∧ some k_ ≠ (v134 : Value).ownBlock) ∧ some k_ ≠ (v375 : Value).ownBlock) ∧ k_ ≠ g1) ∧ k_ ≠ g19) ∧ k_ ≠ g178) ∧ k_ ≠ g274) ∧ k_ ≠ g433)) (by (with_reducible repeat (first | apply Kd.F_alloc | apply Kd.F_drewN | apply Kd.F_drew)); exact HF177_4.out) (fun k_ hk_ => ⟨⟨⟨⟨⟨⟨⟨hk_.1.1.1.1.1.1.1, hk_.1.1.1.1.1.1.2⟩, hk_.1.1.1.1.2⟩, hk_.1.1.1.2⟩, hk_.1.1.2⟩, hk_.1.2⟩, hk_.2⟩, hk_.1.1.1.1.1.2⟩)) hg1 hat1) (fun k_ hk_ => hk_) : Kd.F k57 _ (fun k_ => (((((((P_ k_ ∨ w.heap.size ≤ k_) ∧ some k_ ≠ (v134 : Value).ownBlock) ∧ k_ ≠ g1) ∧ k_ ≠ g19) ∧ k_ ≠ g178) ∧ k_ ≠ g274) ∧ k_ ≠ g433) ∧ some k_ ≠ (v550 : Value).ownBlock) _ _ _)
         replace HF374_4 := Aside0.mk (Kd.F_mono (Kd.F_after (v := v375) (ok := (fun k_ => ((((((P_ k_ ∨ w.heap.size ≤ k_) ∧ some k_ ≠ (v134 : Value).ownBlock) ∧ k_ ≠ g1) ∧ k_ ≠ g19) ∧ k_ ≠ g178) ∧ k_ ≠ g274) ∧ k_ ≠ g433)) (Kd.F_mono (ok := (fun k_ => (((((((P_ k_ ∨ w.heap.size ≤ k_) ∧ some k_ ≠ (v134 : Value).ownBlock) ∧ some k_ ≠ (v375 : Value).ownBlock) ∧ k_ ≠ g1) ∧ k_ ≠ g19) ∧ k_ ≠ g178) ∧ k_ ≠ g274) ∧ k_ ≠ g433)) (by (with_reducible repeat (first | apply Kd.F_alloc | apply Kd.F_drewN | apply Kd.F_drew)); exact HF374_4.out) (fun k_ hk_ => ⟨⟨⟨⟨⟨⟨⟨hk_.1.1.1.1.1.1.1, hk_.1.1.1.1.1.1.2⟩, hk_.1.1.1.1.2⟩, hk_.1.1.1.2⟩, hk_.1.1.2⟩, hk_.1.2⟩, hk_.2⟩, hk_.1.1.1.1.1.2⟩)) hg1 hat1) (fun k_ hk_ => hk_) : Kd.F k57 _ (fun k_ => (((((((P_ k_ ∨ w.heap.size ≤ k_) ∧ some k_ ≠ (v134 : Value).ownBlock) ∧ k_ ≠ g1) ∧ k_ ≠ g19) ∧ k_ ≠ g178) ∧ k_ ≠ g274) ∧ k_ ≠ g433) ∧ some k_ ≠ (v550 : Value).ownBlock) _ _ _)
         replace HN137 := Aside0.mk (Kd.N_mono (Kd.N_after (u := v375) (ok := (fun k_ => (((((P_ k_ ∨ w.heap.size ≤ k_) ∧ k_ ≠ g1) ∧ k_ ≠ g19) ∧ k_ ≠ g178) ∧ k_ ≠ g274) ∧ k_ ≠ g433)) (Kd.N_mono (ok := (fun k_ => ((((((P_ k_ ∨ w.heap.size ≤ k_) ∧ some k_ ≠ (v375 : Value).ownBlock) ∧ k_ ≠ g1) ∧ k_ ≠ g19) ∧ k_ ≠ g178) ∧ k_ ≠ g274) ∧ k_ ≠ g433)) (by (with_reducible repeat (first | apply Kd.N_alloc | apply Kd.N_drewN | apply Kd.N_drew)); exact HN137.out) (fun k_ hk_ => ⟨⟨⟨⟨⟨⟨hk_.1.1.1.1.1.1, hk_.1.1.1.1.2⟩, hk_.1.1.1.2⟩, hk_.1.1.2⟩, hk_.1.2⟩, hk_.2⟩, hk_.1.1.1.1.1.2⟩)) hg1 hat1) (fun k_ hk_ => hk_) : Kd.N k46 _ _ _ (fun k_ => ((((((P_ k_ ∨ w.heap.size ≤ k_) ∧ k_ ≠ g1) ∧ k_ ≠ g19) ∧ k_ ≠ g178) ∧ k_ ≠ g274) ∧ k_ ≠ g433) ∧ some k_ ≠ (v550 : Value).ownBlock) _ _)
         replace BKg1 := Aside0.mk (blk_grown (g := g1) (o := .cells #[.int .i64 0, .int .i64 0, .bool false, .int .i64 0, .string (⟨#[]⟩ : ByteArray), .string (⟨#[]⟩ : ByteArray), .string (⟨#[]⟩ : ByteArray), .slice none 0 0] 27 (0, 0)) (by (with_reducible repeat (first | refine blk_drewN ?_ _ | refine blk_drew ?_ | refine blk_alloc ?_ _)); exact BKg1.out) hg1 (Kd.N_away (ok := (fun k_ => ((((((P_ k_ ∨ w.heap.size ≤ k_) ∧ some k_ ≠ (v134 : Value).ownBlock) ∧ k_ ≠ g1) ∧ k_ ≠ g19) ∧ k_ ≠ g178) ∧ k_ ≠ g274) ∧ k_ ≠ g433)) HN378.out (fun k_ hk_ => hk_.1.1.1.1.2)))
         replace BKg19 := Aside0.mk (blk_grown (g := g19) (o := .cells #[.int .i64 a0, .int .i64 3, .bool true, .int .i64 0, .string (⟨#[]⟩ : ByteArray), .string (⟨#[]⟩ : ByteArray), .string ((rd_T57 l1 (0 : Int)).f3), v134] 27 (0, 0)) (by (with_reducible repeat (first | refine blk_drewN ?_ _ | refine blk_drew ?_ | refine blk_alloc ?_ _)); exact BKg19.out) hg1 (Kd.N_away (ok := (fun k_ => ((((((P_ k_ ∨ w.heap.size ≤ k_) ∧ some k_ ≠ (v134 : Value).ownBlock) ∧ k_ ≠ g1) ∧ k_ ≠ g19) ∧ k_ ≠ g178) ∧ k_ ≠ g274) ∧ k_ ≠ g433)) HN378.out (fun k_ hk_ => hk_.1.1.1.2)))
         replace BKg178 := Aside0.mk (blk_grown (g := g178) (o := .cells #[.int .i64 ((rd_T57 ((rd_T57 l1 (1 : Int)).f4) x135).f0), .bool ((rd_T57 ((rd_T57 l1 (1 : Int)).f4) x135).f1), .int .i64 ((rd_T57 ((rd_T57 l1 (1 : Int)).f4) x135).f2), .string ((rd_T57 ((rd_T57 l1 (1 : Int)).f4) x135).f3), .slice (some ad273) ((rd_T57 ((rd_T57 l1 (1 : Int)).f4) x135).f4).length c177_4] 57 (0, 0)) (by (with_reducible repeat (first | refine blk_drewN ?_ _ | refine blk_drew ?_ | refine blk_alloc ?_ _)); exact BKg178.out) hg1 (Kd.N_away (ok := (fun k_ => ((((((P_ k_ ∨ w.heap.size ≤ k_) ∧ some k_ ≠ (v134 : Value).ownBlock) ∧ k_ ≠ g1) ∧ k_ ≠ g19) ∧ k_ ≠ g178) ∧ k_ ≠ g274) ∧ k_ ≠ g433)) HN378.out (fun k_ hk_ => hk_.1.1.2)))
         replace BKg274 := Aside0.mk (blk_grown (g := g274) (o := .cells #[.string ((rd_T57 ((rd_T57 ((rd_T57 l1 (1 : Int)).f4) x135).f4) (0 : Int)).f3), v375] 46 (0, 0)) (by (with_reducible repeat (first | refine blk_drewN ?_ _ | refine blk_drew ?_ | refine blk_alloc ?_ _)); exact BKg274.out) hg1 (Kd.N_away (ok := (fun k_ => ((((((P_ k_ ∨ w.heap.size ≤ k_) ∧ some k_ ≠ (v134 : Value).ownBlock) ∧ k_ ≠ g1) ∧ k_ ≠ g19) ∧ k_ ≠ g178) ∧ k_ ≠ g274) ∧ k_ ≠ g433)) HN378.out (fun k_ hk_ => hk_.1.2)))
         replace BKg433 := Aside0.mk (blk_grown (g := g433) (o := .cells #[.int .i64 ((rd_T57 ((rd_T57 ((rd_T57 ((rd_T57 l1 (1 : Int)).f4) x135).f4) (1 : Int)).f4) x376).f0), .bool ((rd_T57 ((rd_T57 ((rd_T57 ((rd_T57 l1 (1 : Int)).f4) x135).f4) (1 : Int)).f4) x376).f1), .int .i64 ((rd_T57 ((rd_T57 ((rd_T57 ((rd_T57 l1 (1 : Int)).f4) x135).f4) (1 : Int)).f4) x376).f2), .string ((rd_T57 ((rd_T57 ((rd_T57 ((rd_T57 l1 (1 : Int)).f4) x135).f4) (1 : Int)).f4) x376).f3), .slice A432_4 ((rd_T57 ((rd_T57 ((rd_T57 ((rd_T57 l1 (1 : Int)).f4) x135).f4) (1 : Int)).f4) x376).f4).length c432_4] 57 (0, 0)) (by (with_reducible repeat (first | refine blk_drewN ?_ _ | refine blk_drew ?_ | refine blk_alloc ?_ _)); exact BKg433.out) hg1 (Kd.N_away (ok := (fun k_ => ((((((P_ k_ ∨ w.heap.size ≤ k_) ∧ some k_ ≠ (v134 : Value).ownBlock) ∧ k_ ≠ g1) ∧ k_ ≠ g19) ∧ k_ ≠ g178) ∧ k_ ≠ g274) ∧ k_ ≠ g433)) HN378.out (fun k_ hk_ => hk_.2)))
         replace HB := Aside0.mk hb1
         clear HN378
         have HN552 := Aside0.mk hn1
         clear hn1 hb1 hg1 hat1
         replace HN552 := Aside0.mk (by rw [NYy549.out]; exact HN552.out : Kd.N Kd.string 9 w551 w.heap.size (fun k_ => ((((((P_ k_ ∨ w.heap.size ≤ k_) ∧ some k_ ≠ (v134 : Value).ownBlock) ∧ k_ ≠ g1) ∧ k_ ≠ g19) ∧ k_ ≠ g178) ∧ k_ ≠ g274) ∧ k_ ≠ g433) v550 y549)
         clear j7W j7X j7Y j7Z j80 j81 j82 j83 j84 j85 j86 j87 j88 j89 j8a j8b j8c j8d j8e j8f j8g j8h j8i j8j j8k j8l j8m j8n j8o j8p j8q j8r j8s j8t j8u j8v j8w j8x j8y j8z j8A j8B j8C j8D j8E j8F j8G j8H j8I j8J j8K j8L j8M j8N j8O j8P
         obtain ⟨j8V, j8W, j8X, j8Y, j8Z, j90, j91, j92, j93, j94, j95, j96, j97, j98, j99, j9a⟩ := MB.lay8 BKg1.out
         obtain ⟨j9b, j9c, j9d, j9e, j9f, j9g, j9h, j9i, j9j, j9k, j9l, j9m, j9n, j9o, j9p, j9q⟩ := MB.lay8 BKg19.out
         obtain ⟨j9r, j9s, j9t, j9u, j9v, j9w, j9x, j9y, j9z, j9A⟩ := MB.lay5 BKg178.out
         obtain ⟨j9B, j9C, j9D, j9E⟩ := MB.lay2 BKg274.out
         obtain ⟨j9F, j9G, j9H, j9I, j9J, j9K, j9L, j9M, j9N, j9O⟩ := MB.lay5 BKg433.out
         obtain ⟨A610, cp611, he_⟩ := Kd.N_slice HN552.out
         subst he_
         go_wp2_with ((with_reducible refine gs 31 59 rfl ?_); refine zs 31 59 #[.string ((rd_T57 ((rd_T57 ((rd_T57 l1 (1 : Int)).f4) x135).f4) (0 : Int)).f3), (.slice A610 y549.length cp611)] BKg274.out [(.slice A610 y549.length cp611)] (h := ?_); intro w609 hbk hg)
         refine Stop.go ?_
         replace HF133_4 := zfg HF133_4.out hg fun k_ hk_ => hk_.1.1.2
         replace HF177_4 := zfg HF177_4.out hg fun k_ hk_ => hk_.1.1.2
         replace HF374_4 := zfg HF374_4.out hg fun k_ hk_ => hk_.1.1.2
         replace HN137 := zng HN137.out hg fun k_ hk_ => hk_.1.1.2
         replace HN552 := zng HN552.out hg fun k_ hk_ => hk_.1.2
         replace BKg1 := zbg BKg1.out hg NEg1_g274
         replace BKg19 := zbg BKg19.out hg NEg19_g274
         replace BKg178 := zbg BKg178.out hg NEg178_g274
         replace BKg433 := zbg BKg433.out hg NEg433_g274
         replace HB := zhg HB.out hg (below_size HB.out) GEg274
         replace BKg274 := hbk
         clear hg hbk
         clear j8V j8W j8X j8Y j8Z j90 j91 j92 j93 j94 j95 j96 j97 j98 j99 j9a j9b j9c j9d j9e j9f j9g j9h j9i j9j j9k j9l j9m j9n j9o j9p j9q j9r j9s j9t j9u j9v j9w j9x j9y j9z j9A j9B j9C j9D j9E j9F j9G j9H j9I j9J j9K j9L j9M j9N j9O
         obtain ⟨j9S, j9T, j9U, j9V, j9W, j9X, j9Y, j9Z, ja0, ja1, ja2, ja3, ja4, ja5, ja6, ja7⟩ := MB.lay8 BKg1.out
         obtain ⟨ja8, ja9, jaa, jab, jac, jad, jae, jaf, jag, jah, jai, jaj, jak, jal, jam, jan⟩ := MB.lay8 BKg19.out
         obtain ⟨jao, jap, jaq, jar, jas, jat, jau, jav, jaw, jax⟩ := MB.lay5 BKg178.out
         obtain ⟨jay, jaz, jaA, jaB⟩ := MB.lay2 BKg274.out
         obtain ⟨jaC, jaD, jaE, jaF, jaG, jaH, jaI, jaJ, jaK, jaL⟩ := MB.lay5 BKg433.out
         go_wp2
         go_roundg k379
         case measure => have := HK0.out; have := HK1.out; omega
         case rel => exact ⟨wrap64 (x376 + 1), y549, (.slice A610 y549.length cp611), (by first | rfl | (simp; done) | (simp [*]; done)), HH, ⟨by have := HK0.out; have := HK1.out; omega⟩, ⟨(Kd.F_mono (ok := (fun k_ => (((((((P_ k_ ∨ w.heap.size ≤ k_) ∧ some k_ ≠ (v134 : Value).ownBlock) ∧ k_ ≠ g1) ∧ k_ ≠ g19) ∧ k_ ≠ g178) ∧ k_ ≠ g274) ∧ k_ ≠ g433) ∧ some k_ ≠ ((.slice A610 y549.length cp611) : Value).ownBlock)) HF133_4.out (fun k_ hk_ => ⟨⟨⟨⟨⟨⟨hk_.1.1.1.1.1.1.1, hk_.1.1.1.1.1.1.2⟩, hk_.2⟩, hk_.1.1.1.1.1.2⟩, hk_.1.1.1.1.2⟩, hk_.1.1.1.2⟩, hk_.1.1.2⟩))⟩, ⟨(Kd.F_mono (ok := (fun k_ => (((((((P_ k_ ∨ w.heap.size ≤ k_) ∧ some k_ ≠ (v134 : Value).ownBlock) ∧ k_ ≠ g1) ∧ k_ ≠ g19) ∧ k_ ≠ g178) ∧ k_ ≠ g274) ∧ k_ ≠ g433) ∧ some k_ ≠ ((.slice A610 y549.length cp611) : Value).ownBlock)) HF177_4.out (fun k_ hk_ => ⟨⟨⟨⟨⟨⟨hk_.1.1.1.1.1.1.1, hk_.1.1.1.1.1.1.2⟩, hk_.2⟩, hk_.1.1.1.1.1.2⟩, hk_.1.1.1.1.2⟩, hk_.1.1.1.2⟩, hk_.1.1.2⟩))⟩, ⟨(Kd.F_mono (ok := (fun k_ => (((((((P_ k_ ∨ w.heap.size ≤ k_) ∧ some k_ ≠ (v134 : Value).ownBlock) ∧ k_ ≠ g1) ∧ k_ ≠ g19) ∧ k_ ≠ g178) ∧ k_ ≠ g274) ∧ k_ ≠ g433) ∧ some k_ ≠ ((.slice A610 y549.length cp611) : Value).ownBlock)) HF374_4.out (fun k_ hk_ => ⟨⟨⟨⟨⟨⟨hk_.1.1.1.1.1.1.1, hk_.1.1.1.1.1.1.2⟩, hk_.2⟩, hk_.1.1.1.1.1.2⟩, hk_.1.1.1.1.2⟩, hk_.1.1.1.2⟩, hk_.1.1.2⟩))⟩, ⟨(Kd.N_mono (ok := (fun k_ => ((((((P_ k_ ∨ w.heap.size ≤ k_) ∧ k_ ≠ g1) ∧ k_ ≠ g19) ∧ k_ ≠ g178) ∧ k_ ≠ g274) ∧ k_ ≠ g433) ∧ some k_ ≠ ((.slice A610 y549.length cp611) : Value).ownBlock)) HN137.out (fun k_ hk_ => ⟨⟨⟨⟨⟨hk_.1.1.1.1.1.1, hk_.2⟩, hk_.1.1.1.1.1.2⟩, hk_.1.1.1.1.2⟩, hk_.1.1.1.2⟩, hk_.1.1.2⟩))⟩, ⟨(Kd.N_mono (ok := (fun k_ => ((((((P_ k_ ∨ w.heap.size ≤ k_) ∧ some k_ ≠ (v134 : Value).ownBlock) ∧ k_ ≠ g1) ∧ k_ ≠ g19) ∧ k_ ≠ g178) ∧ k_ ≠ g274) ∧ k_ ≠ g433)) HN552.out (fun k_ hk_ => ⟨⟨⟨⟨⟨hk_.1.1.1.1.1.1, hk_.1.1.1.1.1.2⟩, hk_.1.1.1.1.2⟩, hk_.1.1.1.2⟩, hk_.1.1.2⟩, hk_.1.2⟩))⟩, ⟨BKg1.out⟩, ⟨BKg19.out⟩, ⟨BKg178.out⟩, ⟨BKg274.out⟩, ⟨HB.out⟩⟩
        obtain ⟨A671, cp672, he_⟩ := Kd.N_slice HN378.out
        subst he_
        have HL674 := Aside0.mk (Kd.N_reads' HN378.out).2.1
        have HF673 := Aside0.mk (Kd.N_F HN378.out)
        clear HN378
        replace HF133_4 := Aside0.mk (Kd.F_mono (ok := (fun k_ => ((((((P_ k_ ∨ w.heap.size ≤ k_) ∧ some k_ ≠ (v134 : Value).ownBlock) ∧ some k_ ≠ ((.slice A671 x377.length cp672) : Value).ownBlock) ∧ k_ ≠ g1) ∧ k_ ≠ g19) ∧ k_ ≠ g178) ∧ k_ ≠ g274)) HF133_4.out (fun k_ hk_ => ⟨⟨⟨⟨⟨hk_.1.1.1.1.1.1, hk_.1.1.1.1.1.2⟩, hk_.1.1.1.2⟩, hk_.1.1.2⟩, hk_.1.2⟩, hk_.2⟩) : Kd.F k57 _ (fun k_ => (((((P_ k_ ∨ w.heap.size ≤ k_) ∧ some k_ ≠ (v134 : Value).ownBlock) ∧ k_ ≠ g1) ∧ k_ ≠ g19) ∧ k_ ≠ g178) ∧ k_ ≠ g274) _ _ _)
        replace HN137 := Aside0.mk (Kd.N_mono (ok := (fun k_ => (((((P_ k_ ∨ w.heap.size ≤ k_) ∧ some k_ ≠ ((.slice A671 x377.length cp672) : Value).ownBlock) ∧ k_ ≠ g1) ∧ k_ ≠ g19) ∧ k_ ≠ g178) ∧ k_ ≠ g274)) HN137.out (fun k_ hk_ => ⟨⟨⟨⟨hk_.1.1.1.1.1, hk_.1.1.1.2⟩, hk_.1.1.2⟩, hk_.1.2⟩, hk_.2⟩) : Kd.N k46 _ _ _ (fun k_ => ((((P_ k_ ∨ w.heap.size ≤ k_) ∧ k_ ≠ g1) ∧ k_ ≠ g19) ∧ k_ ≠ g178) ∧ k_ ≠ g274) _ _)
        obtain ⟨HH, LMc675⟩ := zlm HH
        obtain ⟨y676, hy676⟩ : ∃ y_ : List (S46), y_ = (x136 ++ [(⟨(rd_T57 ((rd_T57 ((rd_T57 l1 (1 : Int)).f4) x135).f4) (0 : Int)).f3, x377⟩ : S46)]) := ⟨_, rfl⟩
        have H : ((reply_entered.l0 k379 (wrap64 (x135 + 1)) y676 a0 l1)) = some (r1, r2, r3, r4, r5, r6, r7, r8, r9) := by rw [hy676]; exact HH.out
        replace HH := Aside0.mk H
        clear H
        have NYy676 := Aside0.mk hy676
        clear hy676
        go_wp2_with (((with_reducible refine gate_dst (N := 65) rfl ?_); (try (refine gate_guard (by rfl) ?_; dsimp only)); refine Kd.N_append k46 w.heap.size rfl _ _ 25 46 (.agg #[(.string ⟨#[]⟩), (.slice none 0 0)]) 40 rfl Try.underlying25 info46 rfl (by decide) (by decide) (v134) x136 (⟨(rd_T57 ((rd_T57 ((rd_T57 l1 (1 : Int)).f4) x135).f4) (0 : Int)).f3, x377⟩ : S46) [.string ((rd_T57 ((rd_T57 ((rd_T57 l1 (1 : Int)).f4) x135).f4) (0 : Int)).f3), .slice A671 x377.length cp672] (fun k_ => ((((P_ k_ ∨ w.heap.size ≤ k_) ∧ k_ ≠ g1) ∧ k_ ≠ g19) ∧ k_ ≠ g178) ∧ k_ ≠ g274) (fun k_ => (fun k_ => ((((P_ k_ ∨ w.heap.size ≤ k_) ∧ k_ ≠ g1) ∧ k_ ≠ g19) ∧ k_ ≠ g178) ∧ k_ ≠ g274) k_ ∧ some k_ ≠ (v134 : Value).ownBlock) rfl rfl (k46_mkF _ _ (⟨(rd_T57 ((rd_T57 ((rd_T57 l1 (1 : Int)).f4) x135).f4) (0 : Int)).f3, x377⟩ : S46) HL674.out (Kd.F_mono (ok := (fun k_ => (((((P_ k_ ∨ w.heap.size ≤ k_) ∧ some k_ ≠ (v134 : Value).ownBlock) ∧ k_ ≠ g1) ∧ k_ ≠ g19) ∧ k_ ≠ g178) ∧ k_ ≠ g274)) (by (with_reducible repeat (first | apply Kd.F_alloc | apply Kd.F_drewN | apply Kd.F_drew)); exact HF673.out) (fun k_ hk_ => ⟨⟨⟨⟨⟨hk_.1.1.1.1.1, hk_.1.1.1.2⟩, hk_.1.1.2⟩, hk_.1.2⟩, hk_.2⟩, hk_.1.1.1.1.2⟩))) (fun _ hk_ => hk_) (fun k_ h_ => ⟨⟨⟨⟨.inr (Nat.le_trans (below_size (by repeat (first | (with_reducible first | exact HB.out | apply below_alloc | apply pw_below_drewN | apply below_drew1) | exact HB.out))) h_), Kd.freshB (g := g1) (o := .cells #[.int .i64 0, .int .i64 0, .bool false, .int .i64 0, .string (⟨#[]⟩ : ByteArray), .string (⟨#[]⟩ : ByteArray), .string (⟨#[]⟩ : ByteArray), .slice none 0 0] 27 (0, 0)) (by (with_reducible repeat (first | refine blk_drewN ?_ _ | refine blk_drew ?_ | refine blk_alloc ?_ _)); exact BKg1.out) k_ h_⟩, Kd.freshB (g := g19) (o := .cells #[.int .i64 a0, .int .i64 3, .bool true, .int .i64 0, .string (⟨#[]⟩ : ByteArray), .string (⟨#[]⟩ : ByteArray), .string ((rd_T57 l1 (0 : Int)).f3), v134] 27 (0, 0)) (by (with_reducible repeat (first | refine blk_drewN ?_ _ | refine blk_drew ?_ | refine blk_alloc ?_ _)); exact BKg19.out) k_ h_⟩, Kd.freshB (g := g178) (o := .cells #[.int .i64 ((rd_T57 ((rd_T57 l1 (1 : Int)).f4) x135).f0), .bool ((rd_T57 ((rd_T57 l1 (1 : Int)).f4) x135).f1), .int .i64 ((rd_T57 ((rd_T57 l1 (1 : Int)).f4) x135).f2), .string ((rd_T57 ((rd_T57 l1 (1 : Int)).f4) x135).f3), .slice (some ad273) ((rd_T57 ((rd_T57 l1 (1 : Int)).f4) x135).f4).length c177_4] 57 (0, 0)) (by (with_reducible repeat (first | refine blk_drewN ?_ _ | refine blk_drew ?_ | refine blk_alloc ?_ _)); exact BKg178.out) k_ h_⟩, Kd.freshB (g := g274) (o := .cells #[.string ((rd_T57 ((rd_T57 ((rd_T57 l1 (1 : Int)).f4) x135).f4) (0 : Int)).f3), .slice A671 x377.length cp672] 46 (0, 0)) (by (with_reducible repeat (first | refine blk_drewN ?_ _ | refine blk_drew ?_ | refine blk_alloc ?_ _)); exact BKg274.out) k_ h_⟩) (by (with_reducible repeat (first | apply Kd.N_alloc | apply Kd.N_drewN | apply Kd.N_drew)); exact HN137.out) (by repeat (first | (with_reducible first | exact HB.out | apply below_alloc | apply pw_below_drewN | apply below_drew1) | exact HB.out)) (below_size (by repeat (first | (with_reducible first | exact HB.out | apply below_alloc | apply pw_below_drewN | apply below_drew1) | exact HB.out))) (by first | (have := LMc675.out; omega) | (have := LMc675.out; simp at *; omega)) ?_; intro v677 w678 hn1 hb1 hg1 hat1); replace hat1 := Aside0.mk hat1; refine stop_ ?_)
        refine Stop.go ?_
        replace hat1 := hat1.out
        replace HF133_4 := Aside0.mk (Kd.F_mono (Kd.F_after (v := v134) (ok := (fun k_ => ((((P_ k_ ∨ w.heap.size ≤ k_) ∧ k_ ≠ g1) ∧ k_ ≠ g19) ∧ k_ ≠ g178) ∧ k_ ≠ g274)) (Kd.F_mono (ok := (fun k_ => (((((P_ k_ ∨ w.heap.size ≤ k_) ∧ some k_ ≠ (v134 : Value).ownBlock) ∧ k_ ≠ g1) ∧ k_ ≠ g19) ∧ k_ ≠ g178) ∧ k_ ≠ g274)) (by (with_reducible repeat (first | apply Kd.F_alloc | apply Kd.F_drewN | apply Kd.F_drew)); exact HF133_4.out) (fun k_ hk_ => ⟨⟨⟨⟨⟨hk_.1.1.1.1.1, hk_.1.1.1.2⟩, hk_.1.1.2⟩, hk_.1.2⟩, hk_.2⟩, hk_.1.1.1.1.2⟩)) hg1 hat1) (fun k_ hk_ => hk_) : Kd.F k57 _ (fun k_ => (((((P_ k_ ∨ w.heap.size ≤ k_) ∧ k_ ≠ g1) ∧ k_ ≠ g19) ∧ k_ ≠ g178) ∧ k_ ≠ g274) ∧ some k_ ≠ (v677 : Value).ownBlock) _ _ _)
        replace BKg1 := Aside0.mk (blk_grown (g := g1) (o := .cells #[.int .i64 0, .int .i64 0, .bool false, .int .i64 0, .string (⟨#[]⟩ : ByteArray), .string (⟨#[]⟩ : ByteArray), .string (⟨#[]⟩ : ByteArray), .slice none 0 0] 27 (0, 0)) (by (with_reducible repeat (first | refine blk_drewN ?_ _ | refine blk_drew ?_ | refine blk_alloc ?_ _)); exact BKg1.out) hg1 (Kd.N_away (ok := (fun k_ => ((((P_ k_ ∨ w.heap.size ≤ k_) ∧ k_ ≠ g1) ∧ k_ ≠ g19) ∧ k_ ≠ g178) ∧ k_ ≠ g274)) HN137.out (fun k_ hk_ => hk_.1.1.1.2)))
        replace BKg19 := Aside0.mk (blk_grown (g := g19) (o := .cells #[.int .i64 a0, .int .i64 3, .bool true, .int .i64 0, .string (⟨#[]⟩ : ByteArray), .string (⟨#[]⟩ : ByteArray), .string ((rd_T57 l1 (0 : Int)).f3), v134] 27 (0, 0)) (by (with_reducible repeat (first | refine blk_drewN ?_ _ | refine blk_drew ?_ | refine blk_alloc ?_ _)); exact BKg19.out) hg1 (Kd.N_away (ok := (fun k_ => ((((P_ k_ ∨ w.heap.size ≤ k_) ∧ k_ ≠ g1) ∧ k_ ≠ g19) ∧ k_ ≠ g178) ∧ k_ ≠ g274)) HN137.out (fun k_ hk_ => hk_.1.1.2)))
        replace BKg178 := Aside0.mk (blk_grown (g := g178) (o := .cells #[.int .i64 ((rd_T57 ((rd_T57 l1 (1 : Int)).f4) x135).f0), .bool ((rd_T57 ((rd_T57 l1 (1 : Int)).f4) x135).f1), .int .i64 ((rd_T57 ((rd_T57 l1 (1 : Int)).f4) x135).f2), .string ((rd_T57 ((rd_T57 l1 (1 : Int)).f4) x135).f3), .slice (some ad273) ((rd_T57 ((rd_T57 l1 (1 : Int)).f4) x135).f4).length c177_4] 57 (0, 0)) (by (with_reducible repeat (first | refine blk_drewN ?_ _ | refine blk_drew ?_ | refine blk_alloc ?_ _)); exact BKg178.out) hg1 (Kd.N_away (ok := (fun k_ => ((((P_ k_ ∨ w.heap.size ≤ k_) ∧ k_ ≠ g1) ∧ k_ ≠ g19) ∧ k_ ≠ g178) ∧ k_ ≠ g274)) HN137.out (fun k_ hk_ => hk_.1.2)))
        replace BKg274 := Aside0.mk (blk_grown (g := g274) (o := .cells #[.string ((rd_T57 ((rd_T57 ((rd_T57 l1 (1 : Int)).f4) x135).f4) (0 : Int)).f3), .slice A671 x377.length cp672] 46 (0, 0)) (by (with_reducible repeat (first | refine blk_drewN ?_ _ | refine blk_drew ?_ | refine blk_alloc ?_ _)); exact BKg274.out) hg1 (Kd.N_away (ok := (fun k_ => ((((P_ k_ ∨ w.heap.size ≤ k_) ∧ k_ ≠ g1) ∧ k_ ≠ g19) ∧ k_ ≠ g178) ∧ k_ ≠ g274)) HN137.out (fun k_ hk_ => hk_.2)))
        replace HB := Aside0.mk hb1
        clear HN137
        have HN679 := Aside0.mk hn1
        clear hn1 hb1 hg1 hat1
        replace HN679 := Aside0.mk (by rw [NYy676.out]; exact HN679.out : Kd.N k46 46 w678 w.heap.size (fun k_ => ((((P_ k_ ∨ w.heap.size ≤ k_) ∧ k_ ≠ g1) ∧ k_ ≠ g19) ∧ k_ ≠ g178) ∧ k_ ≠ g274) v677 y676)
        clear j69 j6a j6b j6c j6d j6e j6f j6g j6h j6i j6j j6k j6l j6m j6n j6o j6p j6q j6r j6s j6t j6u j6v j6w j6x j6y j6z j6A j6B j6C j6D j6E j6F j6G j6H j6I j6J j6K j6L j6M j6N j6O j6P j6Q j6R j6S
        obtain ⟨jaY, jaZ, jb0, jb1, jb2, jb3, jb4, jb5, jb6, jb7, jb8, jb9, jba, jbb, jbc, jbd⟩ := MB.lay8 BKg1.out
        obtain ⟨jbe, jbf, jbg, jbh, jbi, jbj, jbk, jbl, jbm, jbn, jbo, jbp, jbq, jbr, jbs, jbt⟩ := MB.lay8 BKg19.out
        obtain ⟨jbu, jbv, jbw, jbx, jby, jbz, jbA, jbB, jbC, jbD⟩ := MB.lay5 BKg178.out
        obtain ⟨jbE, jbF, jbG, jbH⟩ := MB.lay2 BKg274.out
        obtain ⟨A727, cp728, he_⟩ := Kd.N_slice HN679.out
        subst he_
        go_wp2_with ((with_reducible refine gs 25 66 rfl ?_); refine zs 25 66 #[.int .i64 a0, .int .i64 3, .bool true, .int .i64 0, .string (⟨#[]⟩ : ByteArray), .string (⟨#[]⟩ : ByteArray), .string ((rd_T57 l1 (0 : Int)).f3), (.slice A727 y676.length cp728)] BKg19.out [(.slice A727 y676.length cp728)] (h := ?_); intro w726 hbk hg)
        refine Stop.go ?_
        replace HF133_4 := zfg HF133_4.out hg fun k_ hk_ => hk_.1.1.1.2
        replace HN679 := zng HN679.out hg fun k_ hk_ => hk_.1.1.2
        replace BKg1 := zbg BKg1.out hg NEg1_g19
        replace BKg178 := zbg BKg178.out hg NEg178_g19
        replace BKg274 := zbg BKg274.out hg NEg274_g19
        replace HB := zhg HB.out hg (below_size HB.out) GEg19
        replace BKg19 := hbk
        clear hg hbk
        clear jaY jaZ jb0 jb1 jb2 jb3 jb4 jb5 jb6 jb7 jb8 jb9 jba jbb jbc jbd jbe jbf jbg jbh jbi jbj jbk jbl jbm jbn jbo jbp jbq jbr jbs jbt jbu jbv jbw jbx jby jbz jbA jbB jbC jbD jbE jbF jbG jbH
        obtain ⟨jbL, jbM, jbN, jbO, jbP, jbQ, jbR, jbS, jbT, jbU, jbV, jbW, jbX, jbY, jbZ, jc0⟩ := MB.lay8 BKg1.out
        obtain ⟨jc1, jc2, jc3, jc4, jc5, jc6, jc7, jc8, jc9, jca, jcb, jcc, jcd, jce, jcf, jcg⟩ := MB.lay8 BKg19.out
        obtain ⟨jch, jci, jcj, jck, jcl, jcm, jcn, jco, jcp, jcq⟩ := MB.lay5 BKg178.out
        obtain ⟨jcr, jcs, jct, jcu⟩ := MB.lay2 BKg274.out
        go_wp2
        go_roundg k379
        case measure => have := HK0.out; have := HK1.out; omega
        case rel => exact ⟨wrap64 (x135 + 1), y676, (.slice A727 y676.length cp728), (by first | rfl | (simp; done) | (simp [*]; done)), HH, ⟨by have := HK0.out; have := HK1.out; omega⟩, ⟨(Kd.F_mono (ok := (fun k_ => (((((P_ k_ ∨ w.heap.size ≤ k_) ∧ k_ ≠ g1) ∧ k_ ≠ g19) ∧ k_ ≠ g178) ∧ k_ ≠ g274) ∧ some k_ ≠ ((.slice A727 y676.length cp728) : Value).ownBlock)) HF133_4.out (fun k_ hk_ => ⟨⟨⟨hk_.1.1.1.1.1, hk_.2⟩, hk_.1.1.1.1.2⟩, hk_.1.1.1.2⟩))⟩, ⟨(Kd.N_mono (ok := (fun k_ => ((((P_ k_ ∨ w.heap.size ≤ k_) ∧ k_ ≠ g1) ∧ k_ ≠ g19) ∧ k_ ≠ g178) ∧ k_ ≠ g274)) HN679.out (fun k_ hk_ => ⟨⟨hk_.1.1.1.1, hk_.1.1.1.2⟩, hk_.1.1.2⟩))⟩, ⟨BKg1.out⟩, ⟨BKg19.out⟩, ⟨HB.out⟩⟩
     obtain ⟨A786, cp787, he_⟩ := Kd.N_slice HN137.out
     subst he_
     go_wp2_with ((with_reducible refine gs 27 4 rfl ?_); refine zs 27 4 #[.int .i64 a0, .int .i64 3, .bool true, .int .i64 0, .string (⟨#[]⟩ : ByteArray), .string (⟨#[]⟩ : ByteArray), .string ((rd_T57 l1 (0 : Int)).f3), (.slice A786 x136.length cp787)] BKg1.out [.int .i64 a0, .int .i64 3, .bool true, .int .i64 0, .string (⟨#[]⟩ : ByteArray), .string (⟨#[]⟩ : ByteArray), .string ((rd_T57 l1 (0 : Int)).f3), (.slice A786 x136.length cp787)] (h := ?_); intro w785 hbk hg)
     refine Stop.go ?_
     replace HN137 := zng HN137.out hg fun k_ hk_ => hk_.1.1.2
     replace BKg19 := zbg BKg19.out hg NEg19_g1
     replace BKg178 := zbg BKg178.out hg NEg178_g1
     replace HB := zhg HB.out hg (below_size HB.out) GEg1
     replace BKg1 := hbk
     clear hg hbk
     clear j3B j3C j3D j3E j3F j3G j3H j3I j3J j3K j3L j3M j3N j3O j3P j3Q j3R j3S j3T j3U j3V j3W j3X j3Y j3Z j40 j41 j42 j43 j44 j45 j46 j47 j48 j49 j4a j4b j4c j4d j4e j4f j4g
     obtain ⟨jcI, jcJ, jcK, jcL, jcM, jcN, jcO, jcP, jcQ, jcR, jcS, jcT, jcU, jcV, jcW, jcX⟩ := MB.lay8 BKg1.out
     obtain ⟨jcY, jcZ, jd0, jd1, jd2, jd3, jd4, jd5, jd6, jd7, jd8, jd9, jda, jdb, jdc, jdd⟩ := MB.lay8 BKg19.out
     obtain ⟨jde, jdf, jdg, jdh, jdi, jdj, jdk, jdl, jdm, jdn⟩ := MB.lay5 BKg178.out
     have H := HH.out
     simp only [Option.some.injEq, Prod.mk.injEq] at H
     obtain ⟨rfl, rfl, rfl, rfl, rfl, rfl, rfl, rfl, rfl⟩ := H
     clear HH
     go_wp2
     refine bodyPost_ret (results_ct rfl _ _ g1 27 #[.int .i64 a0, .int .i64 3, .bool true, .int .i64 0, .string (⟨#[]⟩ : ByteArray), .string (⟨#[]⟩ : ByteArray), .string ((rd_T57 l1 (0 : Int)).f3), (.slice A786 x136.length cp787)] (0, 0) _ rfl BKg1.out Try.underlying27 rfl (by kernel_rfl)) rfl ?_
     exact ⟨_, by first | rfl | (simp; done) | (simp [*]; done), (Kd.N_mono (ok := (fun k_ => (((P_ k_ ∨ w.heap.size ≤ k_) ∧ k_ ≠ g1) ∧ k_ ≠ g19) ∧ k_ ≠ g178)) HN137.out (fun k_ hk_ => hk_.1.1.1)), HB.out⟩
    obtain ⟨A834, cp835, he_⟩ := Kd.N_slice HN137.out
    subst he_
    go_wp2_with ((with_reducible refine gs 27 4 rfl ?_); refine zs 27 4 #[.int .i64 a0, .int .i64 3, .bool true, .int .i64 0, .string (⟨#[]⟩ : ByteArray), .string (⟨#[]⟩ : ByteArray), .string ((rd_T57 l1 (0 : Int)).f3), (.slice A834 x136.length cp835)] BKg1.out [.int .i64 a0, .int .i64 3, .bool true, .int .i64 0, .string (⟨#[]⟩ : ByteArray), .string (⟨#[]⟩ : ByteArray), .string ((rd_T57 l1 (0 : Int)).f3), (.slice A834 x136.length cp835)] (h := ?_); intro w833 hbk hg)
    refine Stop.go ?_
    replace HN137 := zng HN137.out hg fun k_ hk_ => hk_.1.2
    replace BKg19 := zbg BKg19.out hg NEg19_g1
    replace HB := zhg HB.out hg (below_size HB.out) GEg1
    replace BKg1 := hbk
    clear hg hbk
    clear j2g j2h j2i j2j j2k j2l j2m j2n j2o j2p j2q j2r j2s j2t j2u j2v j2w j2x j2y j2z j2A j2B j2C j2D j2E j2F j2G j2H j2I j2J j2K j2L
    obtain ⟨jdu, jdv, jdw, jdx, jdy, jdz, jdA, jdB, jdC, jdD, jdE, jdF, jdG, jdH, jdI, jdJ⟩ := MB.lay8 BKg1.out
    obtain ⟨jdK, jdL, jdM, jdN, jdO, jdP, jdQ, jdR, jdS, jdT, jdU, jdV, jdW, jdX, jdY, jdZ⟩ := MB.lay8 BKg19.out
    have H := HH.out
    simp only [Option.some.injEq, Prod.mk.injEq] at H
    obtain ⟨rfl, rfl, rfl, rfl, rfl, rfl, rfl, rfl, rfl⟩ := H
    clear HH
    go_wp2
    refine bodyPost_ret (results_ct rfl _ _ g1 27 #[.int .i64 a0, .int .i64 3, .bool true, .int .i64 0, .string (⟨#[]⟩ : ByteArray), .string (⟨#[]⟩ : ByteArray), .string ((rd_T57 l1 (0 : Int)).f3), (.slice A834 x136.length cp835)] (0, 0) _ rfl BKg1.out Try.underlying27 rfl (by kernel_rfl)) rfl ?_
    exact ⟨_, by first | rfl | (simp; done) | (simp [*]; done), (Kd.N_mono (ok := (fun k_ => ((P_ k_ ∨ w.heap.size ≤ k_) ∧ k_ ≠ g1) ∧ k_ ≠ g19)) HN137.out (fun k_ hk_ => hk_.1.1)), HB.out⟩
 go_wp2_with ((with_reducible refine gs 27 4 rfl ?_); refine zs 27 4 #[.int .i64 a0, .int .i64 3, .bool true, .int .i64 0, .string (⟨#[]⟩ : ByteArray), .string (⟨#[]⟩ : ByteArray), .string (⟨#[]⟩ : ByteArray), .slice none 0 0] BKg1.out [.int .i64 a0, .int .i64 3, .bool true, .int .i64 0, .string (⟨#[]⟩ : ByteArray), .string (⟨#[]⟩ : ByteArray), .string (⟨#[]⟩ : ByteArray), .slice none 0 0] (h := ?_); intro w878 hbk hg)
 refine Stop.go ?_
 replace BKg19 := zbg BKg19.out hg NEg19_g1
 replace HB := zhg HB.out hg (below_size HB.out) GEg1
 replace BKg1 := hbk
 clear hg hbk
 clear jS jT jU jV jW jX jY jZ j10 j11 j12 j13 j14 j15 j16 j17 j18 j19 j1a j1b j1c j1d j1e j1f j1g j1h j1i j1j j1k j1l j1m j1n
 obtain ⟨jeb, jec, jed, jee, jef, jeg, jeh, jei, jej, jek, jel, jem, jen, jeo, jep, jeq⟩ := MB.lay8 BKg1.out
 obtain ⟨jer, jes, jet, jeu, jev, jew, jex, jey, jez, jeA, jeB, jeC, jeD, jeE, jeF, jeG⟩ := MB.lay8 BKg19.out
 have H := HH.out
 simp only [Option.some.injEq, Prod.mk.injEq] at H
 obtain ⟨rfl, rfl, rfl, rfl, rfl, rfl, rfl, rfl, rfl⟩ := H
 clear HH
 go_wp2
 refine bodyPost_ret (results_ct rfl _ _ g1 27 #[.int .i64 a0, .int .i64 3, .bool true, .int .i64 0, .string (⟨#[]⟩ : ByteArray), .string (⟨#[]⟩ : ByteArray), .string (⟨#[]⟩ : ByteArray), .slice none 0 0] (0, 0) _ rfl BKg1.out Try.underlying27 rfl (by kernel_rfl)) rfl ?_
 exact ⟨_, by first | rfl | (simp; done) | (simp [*]; done), (Kd.N_nil _ _ _ _ _), HB.out⟩
end Go.Proofs.Ytdjkemhmhkpmkaa.GA
