import Derived.Test.YtdjkemhmhkpmkaaGA0
import Derived.Test.YtdjkemhmhkpmkaaGAF15
import Derived.Test.YtdjkemhmhkpmkaaGM1
import Derived.Test.YtdjkemhmhkpmkaaGM2
import Derived.Test.YtdjkemhmhkpmkaaGM3
namespace Go.Proofs.Ytdjkemhmhkpmkaa.GA
open Go.RowKit Go.Proofs.Ytdjkemhmhkpmkaa Go.Proofs.Ytdjkemhmhkpmkaa.MW Go.Proofs.YtdjkemhmhkpmkaaW.PrintWords Go.Proofs.YtdjkemhmhkpmkaaW.PrintLast Go.Proofs.YtdjkemhmhkpmkaaW.PrintMore
attribute [local go_sem] max2_int min2_int max_two min_two
set_option linter.unusedVariables false
set_option linter.unusedSimpArgs false
/-! ### toponymlaw27_ReplyBack: function 6 -/
def toponymlaw27_ReplyBack.f (k : Nat) (a0_0 : Int) (a0_1 : Int) (a0_2 : Bool) (a0_3 : Int) (a0_4 : ByteArray) (a0_5 : ByteArray) (a0_6 : ByteArray) (l0_7 : List (S46)) : Option (Bool) := (toponymlaw27_few.f k a0_0 a0_1 a0_2 a0_3 a0_4 a0_5 a0_6 l0_7).bind fun t19 => (if t19 = true then ((reply_Encode.f k [(⟨a0_0, a0_1, a0_2, a0_3, a0_4, a0_5, a0_6, l0_7⟩ : S27)]).bind fun bt62 => (if bt62.2 = 0 then (if (bt62.1.length : Int) = 1 then (if 0 < (bt62.1.length : Int) then ((reply_Decode.f k (rdOf ByteArray.empty bt62.1 (0 : Int))).bind fun bt97 => (if bt97.2.2.2.2.2.2.2.2 = 0 then ((toponymref27_Same.f k bt97.1 bt97.2.1 bt97.2.2.1 bt97.2.2.2.1 bt97.2.2.2.2.1 bt97.2.2.2.2.2.1 bt97.2.2.2.2.2.2.1 bt97.2.2.2.2.2.2.2.1 a0_0 a0_1 a0_2 a0_3 a0_4 a0_5 a0_6 l0_7).bind fun t195 => (if t195 = true then ((toponymlaw27_awake.f k ).bind fun t231 => (some t231)) else (some false))) else (some false))) else (none)) else (some false)) else (if (bt62.1.length : Int) = 0 then ((reply_Check.f k a0_0 a0_1 a0_2 a0_3 a0_4 a0_5 a0_6 l0_7).bind fun t281 => (if t281 = 270 then (if bt62.2 = 270 then ((toponymlaw27_awake.f k ).bind fun t306 => (some t306)) else ((reply_Check.f k a0_0 a0_1 a0_2 a0_3 a0_4 a0_5 a0_6 l0_7).bind fun t327 => (if t327 = 0 then (if bt62.2 = 3 then ((toponymlaw27_awake.f k ).bind fun t352 => (some t352)) else (some false)) else (some false)))) else ((reply_Check.f k a0_0 a0_1 a0_2 a0_3 a0_4 a0_5 a0_6 l0_7).bind fun t377 => (if t377 = 0 then (if bt62.2 = 3 then ((toponymlaw27_awake.f k ).bind fun t402 => (some t402)) else (some false)) else (some false))))) else (some false)))) else ((toponymlaw27_awake.f k ).bind fun t428 => (some t428)))
theorem toponymlaw27_ReplyBack.mono : ∀ a0_ a1_ a2_ a3_ a4_ a5_ a6_ a7_ k, LeO (toponymlaw27_ReplyBack.f k a0_ a1_ a2_ a3_ a4_ a5_ a6_ a7_) (toponymlaw27_ReplyBack.f (k + 1) a0_ a1_ a2_ a3_ a4_ a5_ a6_ a7_) := by
 intro a0_ a1_ a2_ a3_ a4_ a5_ a6_ a7_ k
 unfold toponymlaw27_ReplyBack.f
 repeat' first
   | (with_reducible exact reply_Check.mono _ _ _ _ _ _ _ _ _)
   | (with_reducible exact reply_Decode.mono _ _)
   | (with_reducible exact reply_Encode.mono _ _)
   | (with_reducible exact toponymlaw27_awake.mono _)
   | (with_reducible exact toponymlaw27_few.mono _ _ _ _ _ _ _ _ _)
   | (with_reducible exact toponymref27_Same.mono _ _ _ _ _ _ _ _ _ _ _ _ _ _ _ _ _)
   | (with_reducible exact LeO.refl _)
   | (with_reducible exact LeO.none _)
   | (with_reducible refine LeO.ite ?_ ?_)
   | (with_reducible refine LeO.bind ?_ (fun _ => ?_))
set_option maxHeartbeats 8000000 in
set_option maxRecDepth 100000 in
theorem toponymlaw27_ReplyBack.calls (k : Nat) (P_ : Nat → Prop) (a0_0 : Int) (a0_1 : Int) (a0_2 : Bool) (a0_3 : Int) (a0_4 : ByteArray) (a0_5 : ByteArray) (a0_6 : ByteArray) (A0_7 : Option Addr) (c0_7 : Nat) (l0_7 : List (S46)) (r : Bool) (w : World) (hs0_7 : Kd.F k46 w P_ A0_7 l0_7.length l0_7) (hc0_7 : l0_7.length ≤ c0_7) (h : toponymlaw27_ReplyBack.f k a0_0 a0_1 a0_2 a0_3 a0_4 a0_5 a0_6 l0_7 = some r) :
  Calls Try.prog 6 #[.agg #[.int .i64 a0_0, .int .i64 a0_1, .bool a0_2, .int .i64 a0_3, .string a0_4, .string a0_5, .string a0_6, .slice A0_7 l0_7.length c0_7]] w (fun e w' => e = .returned (.bool r) ∧ Below w.heap.size w w') := by
 have HH := Aside0.mk (show ((toponymlaw27_few.f k a0_0 a0_1 a0_2 a0_3 a0_4 a0_5 a0_6 l0_7).bind fun t19 => (if t19 = true then ((reply_Encode.f k [(⟨a0_0, a0_1, a0_2, a0_3, a0_4, a0_5, a0_6, l0_7⟩ : S27)]).bind fun bt62 => (if bt62.2 = 0 then (if (bt62.1.length : Int) = 1 then (if 0 < (bt62.1.length : Int) then ((reply_Decode.f k (rdOf ByteArray.empty bt62.1 (0 : Int))).bind fun bt97 => (if bt97.2.2.2.2.2.2.2.2 = 0 then ((toponymref27_Same.f k bt97.1 bt97.2.1 bt97.2.2.1 bt97.2.2.2.1 bt97.2.2.2.2.1 bt97.2.2.2.2.2.1 bt97.2.2.2.2.2.2.1 bt97.2.2.2.2.2.2.2.1 a0_0 a0_1 a0_2 a0_3 a0_4 a0_5 a0_6 l0_7).bind fun t195 => (if t195 = true then ((toponymlaw27_awake.f k ).bind fun t231 => (some t231)) else (some false))) else (some false))) else (none)) else (some false)) else (if (bt62.1.length : Int) = 0 then ((reply_Check.f k a0_0 a0_1 a0_2 a0_3 a0_4 a0_5 a0_6 l0_7).bind fun t281 => (if t281 = 270 then (if bt62.2 = 270 then ((toponymlaw27_awake.f k ).bind fun t306 => (some t306)) else ((reply_Check.f k a0_0 a0_1 a0_2 a0_3 a0_4 a0_5 a0_6 l0_7).bind fun t327 => (if t327 = 0 then (if bt62.2 = 3 then ((toponymlaw27_awake.f k ).bind fun t352 => (some t352)) else (some false)) else (some false)))) else ((reply_Check.f k a0_0 a0_1 a0_2 a0_3 a0_4 a0_5 a0_6 l0_7).bind fun t377 => (if t377 = 0 then (if bt62.2 = 3 then ((toponymlaw27_awake.f k ).bind fun t402 => (some t402)) else (some false)) else (some false))))) else (some false)))) else ((toponymlaw27_awake.f k ).bind fun t428 => (some t428)))) = some r from h)
 clear h
 have HF0_7 := zfp hs0_7
 have HL0_7 := Aside0.mk hc0_7
 clear hs0_7 hc0_7
 have HB := Aside0.mk (Below.refl w.heap.size w)
 have hu27 := Try.underlying27
 go_enter Try.func6, Try.ntmps6
 go_wp2_with ((with_reducible refine gd 1 rfl ?_); refine zb 1 27 #[.int .i64 a0_0, .int .i64 a0_1, .bool a0_2, .int .i64 a0_3, .string a0_4, .string a0_5, .string a0_6, .slice A0_7 l0_7.length c0_7] (h := ?_); intro g1 hg w2 BKg1 hb)
 refine Stop.go ?_
 replace HF0_7 := zfe HF0_7.out hg hb
 replace HB := zhb HB.out hb
 clear hg hb
 obtain ⟨j3, j4, j5, j6, j7, j8, j9, ja, jb, jc, jd, je, jf, jg, jh, ji⟩ := MB.lay8 BKg1.out
 replace HH := zd HH
 obtain ⟨t19, At20, HH⟩ := HH
 go_wp2_with ((with_reducible refine gc 9 rfl ?_); refine zc 9 (some 8) Try.func9 #[.agg #[.int .i64 a0_0, .int .i64 a0_1, .bool a0_2, .int .i64 a0_3, .string a0_4, .string a0_5, .string a0_6, .slice A0_7 l0_7.length c0_7]] (h := ?_); (with_reducible refine (toponymlaw27_few.calls k (fun k_ => (P_ k_ ∨ w.heap.size ≤ k_) ∧ k_ ≠ g1) a0_0 a0_1 a0_2 a0_3 a0_4 a0_5 a0_6 _ _ l0_7 t19 _ (Kd.F_mono (ok := (fun k_ => (P_ k_ ∨ w.heap.size ≤ k_) ∧ k_ ≠ g1)) HF0_7.out (fun k_ hk_ => hk_)) HL0_7.out At20.out).mono ?_); rintro e w21 ⟨rfl, hb⟩; refine ⟨_, rfl, ?_⟩)
 refine Stop.go ?_
 replace HF0_7 := zfb HF0_7.out hb
 replace BKg1 := zbb BKg1.out hb
 replace HB := zhb HB.out hb
 clear hb
 clear j3 j4 j5 j6 j7 j8 j9 ja jb jc jd je jf jg jh ji
 obtain ⟨jm, jn, jo, jp, jq, jr, js, jt, ju, jv, jw, jx, jy, jz, jA, jB⟩ := MB.lay8 BKg1.out
 by_cases c38 : t19 = true
 ·replace HH := MW.hpos HH c38
  subst c38
  go_wp2_with (((with_reducible refine gate_dst (N := 13) rfl ?_); (try (refine gate_guard (by rfl) ?_; dsimp only)); refine Kd.N_lit k27 w.heap.size 27 rfl (N' := 13) rfl (xs := [(⟨a0_0, a0_1, a0_2, a0_3, a0_4, a0_5, a0_6, l0_7⟩ : S27)]) (inner := [.int .i64 a0_0, .int .i64 a0_1, .bool a0_2, .int .i64 a0_3, .string a0_4, .string a0_5, .string a0_6, .slice A0_7 l0_7.length c0_7]) (ok := (fun k_ => (P_ k_ ∨ w.heap.size ≤ k_) ∧ k_ ≠ g1)) (okp := (fun k_ => (P_ k_ ∨ w.heap.size ≤ k_) ∧ k_ ≠ g1)) ?hr ?hp (fun _ hk_ => hk_) ?hf HB.out (below_size HB.out) (by first | simp | decide) ?_; (case hr => first | (go_simp; done) | (go_simp; rfl)); (case hp => exact (Reps.c8 (k27_mkF _ _ (⟨a0_0, a0_1, a0_2, a0_3, a0_4, a0_5, a0_6, l0_7⟩ : S27) HL0_7.out (Kd.F_mono (ok := (fun k_ => (P_ k_ ∨ w.heap.size ≤ k_) ∧ k_ ≠ g1)) HF0_7.out (fun k_ hk_ => hk_))) (Reps.none _ _))); (case hf => exact (show ∀ k_, w21.heap.size ≤ k_ → (fun k_ => (P_ k_ ∨ w.heap.size ≤ k_) ∧ k_ ≠ g1) k_ from fun k_ h_ => ⟨.inr (Nat.le_trans (below_size HB.out) h_), Kd.freshB (g := g1) BKg1.out k_ h_⟩) _ (Nat.le_refl _)); intro v39 w40 hn1 hb1 hg1 hat1); replace hat1 := Aside0.mk hat1; refine stop_ ?_)
  refine Stop.go ?_
  replace hat1 := hat1.out
  have hbe := MW.grown_below hg1
  have hba := MW.base_of hat1
  replace HF0_7 := Aside0.mk (Kd.F_mono (Kd.F_elder' (ok := (fun k_ => (P_ k_ ∨ w.heap.size ≤ k_) ∧ k_ ≠ g1)) HF0_7.out hba hbe) (fun k_ hk_ => hk_) : Kd.F k46 _ (fun k_ => ((P_ k_ ∨ w.heap.size ≤ k_) ∧ k_ ≠ g1) ∧ some k_ ≠ (v39 : Value).ownBlock) _ _ _)
  replace BKg1 := Aside0.mk (blk_below (g := g1) BKg1.out hbe)
  replace HB := Aside0.mk hb1
  have HN41 := Aside0.mk hn1
  clear hn1 hb1 hg1 hat1 hbe hba
  clear jm jn jo jp jq jr js jt ju jv jw jx jy jz jA jB
  obtain ⟨jG, jH, jI, jJ, jK, jL, jM, jN, jO, jP, jQ, jR, jS, jT, jU, jV⟩ := MB.lay8 BKg1.out
  obtain ⟨A58, cp59, he_⟩ := Kd.N_slice HN41.out
  subst he_
  have HL61 := Aside0.mk (Kd.N_reads' HN41.out).2.1
  have HF60 := Aside0.mk (Kd.N_F HN41.out)
  clear HN41
  replace HF0_7 := Aside0.mk (Kd.F_mono (ok := (fun k_ => ((P_ k_ ∨ w.heap.size ≤ k_) ∧ k_ ≠ g1) ∧ some k_ ≠ ((.slice A58 [(⟨a0_0, a0_1, a0_2, a0_3, a0_4, a0_5, a0_6, l0_7⟩ : S27)].length cp59) : Value).ownBlock)) HF0_7.out (fun k_ hk_ => hk_.1) : Kd.F k46 _ (fun k_ => (P_ k_ ∨ w.heap.size ≤ k_) ∧ k_ ≠ g1) _ _ _)
  replace HH := zd HH
  obtain ⟨⟨t62, t63⟩, At64, HH⟩ := HH
  dsimp only at HH
  go_wp2_with ((with_reducible refine gc 12 rfl ?_); refine zc 12 (some 14) Try.func12 #[.slice A58 [(⟨a0_0, a0_1, a0_2, a0_3, a0_4, a0_5, a0_6, l0_7⟩ : S27)].length cp59] (h := ?_); (with_reducible refine (reply_Encode.calls k (fun k_ => (P_ k_ ∨ w.heap.size ≤ k_) ∧ k_ ≠ g1) _ _ [(⟨a0_0, a0_1, a0_2, a0_3, a0_4, a0_5, a0_6, l0_7⟩ : S27)] t62 t63 _ (Kd.F_mono (ok := (fun k_ => (P_ k_ ∨ w.heap.size ≤ k_) ∧ k_ ≠ g1)) HF60.out (fun k_ hk_ => hk_)) HL61.out At64.out).mono ?_); rintro e w65 ⟨v66, rfl, hn66, hb⟩; refine ⟨_, rfl, ?_⟩)
  refine Stop.go ?_
  have hba := Kd.N_base hn66
  have HN66 := znl (ok2 := (fun k_ => (P_ k_ ∨ w.heap.size ≤ k_) ∧ k_ ≠ g1)) hn66 (below_size HB.out) (fun k_ hk_ => hk_.elim (fun h_ => h_) (fun h_ => ⟨.inr (Nat.le_trans (below_size HB.out) h_), Kd.freshB (g := g1) BKg1.out k_ h_⟩))
  replace HF0_7 := zfr (v := v66) HF0_7.out hba hb
  replace BKg1 := zbb BKg1.out hb
  replace HB := zhb HB.out hb
  clear hn66 hba hb
  clear jG jH jI jJ jK jL jM jN jO jP jQ jR jS jT jU jV
  obtain ⟨j15, j16, j17, j18, j19, j1a, j1b, j1c, j1d, j1e, j1f, j1g, j1h, j1i, j1j, j1k⟩ := MB.lay8 BKg1.out
  replace HH := zqe HH
  rcases HH with ⟨HH, hk84, hk85⟩ | ⟨HH, hk274, hk275⟩
  ·obtain ⟨A86, cp87, he_⟩ := Kd.N_slice HN66.out
   subst he_
   replace HH := zqe HH
   rcases HH with ⟨HH, hk89, hk90⟩ | ⟨HH, hk272, hk273⟩
   ·replace HH := zqno 0 HH
    obtain ⟨HH, hk92, hk93, hk94, hk95⟩ := HH
    have p96 : 0 ≤ (0 : Int) := by decide
    have q96 : (0 : Int) < (t62.length : Int) := of_decide_eq_true (by first | (with_reducible assumption) | assumption)
    obtain ⟨ad96, e96, hx96_0⟩ := Kd.at_string (Kd.F_now (Kd.N_F HN66.out)) (0 : Int) p96 q96
    cases e96
    (try simp only [show ((0 : Int)).toNat = 0 from rfl] at hx96_0)
    (try rw [Addr.add_zero'] at hx96_0)
    replace p96 := eq_true p96
    replace q96 := eq_true q96
    replace HH := zd HH
    obtain ⟨⟨t97, t98, t99, t100, t101, t102, t103, t104, t105⟩, At106, HH⟩ := HH
    dsimp only at HH
    go_wp2_with ((with_reducible refine gc 15 rfl ?_); refine zc 15 (some 50) Try.func15 #[.string (rdOf ByteArray.empty t62 (0 : Int))] (h := ?_); (with_reducible refine (reply_Decode.calls k  (rdOf ByteArray.empty t62 (0 : Int)) t97 t98 t99 t100 t101 t102 t103 t104 t105 _  At106.out).mono ?_); rintro e w107 ⟨A108, cp108, rfl, hl108, hn108, hb⟩; refine ⟨_, rfl, ?_⟩)
    refine Stop.go ?_
    have HL108 := Aside0.mk hl108
    have HF108 := Aside0.mk (Kd.F_mono hn108 (fun k_ h_ => ⟨⟨.inr (Nat.le_trans (below_size HB.out) h_), Kd.fresh' (Kd.N_lt HN66.out) k_ h_⟩, Kd.freshB (g := g1) BKg1.out k_ h_⟩) : Kd.F k46 _ (fun k_ => ((P_ k_ ∨ w.heap.size ≤ k_) ∧ some k_ ≠ ((.slice (some ad96) t62.length cp87) : Value).ownBlock) ∧ k_ ≠ g1) _ _ _)
    clear hn108 hl108
    replace HF0_7 := zfb HF0_7.out hb
    replace BKg1 := zbb BKg1.out hb
    replace HB := zhb HB.out hb
    clear hb
    clear j15 j16 j17 j18 j19 j1a j1b j1c j1d j1e j1f j1g j1h j1i j1j j1k hx96_0 p96 q96
    obtain ⟨j1L, j1M, j1N, j1O, j1P, j1Q, j1R, j1S, j1T, j1U, j1V, j1W, j1X, j1Y, j1Z, j20⟩ := MB.lay8 BKg1.out
    go_wp2_with ((with_reducible refine gd 5 rfl ?_); refine zb 5 27 #[.int .i64 0, .int .i64 0, .bool false, .int .i64 0, .string (⟨#[]⟩ : ByteArray), .string (⟨#[]⟩ : ByteArray), .string (⟨#[]⟩ : ByteArray), .slice none 0 0] (h := ?_); intro g125 hg w126 BKg125 hb)
    refine Stop.go ?_
    have GEg125 := zge hg (below_size HB.out)
    have NEg1_g125 := znq hg BKg1.out
    replace HF0_7 := zfe HF0_7.out hg hb
    replace HF108 := zfe HF108.out hg hb
    replace BKg1 := zbb BKg1.out hb
    replace HB := zhb HB.out hb
    clear hg hb
    clear j1L j1M j1N j1O j1P j1Q j1R j1S j1T j1U j1V j1W j1X j1Y j1Z j20
    obtain ⟨j23, j24, j25, j26, j27, j28, j29, j2a, j2b, j2c, j2d, j2e, j2f, j2g, j2h, j2i⟩ := MB.lay8 BKg1.out
    obtain ⟨j2j, j2k, j2l, j2m, j2n, j2o, j2p, j2q, j2r, j2s, j2t, j2u, j2v, j2w, j2x, j2y⟩ := MB.lay8 BKg125.out
    go_wp2_with ((with_reducible refine gs 27 5 rfl ?_); refine zs 27 5 #[.int .i64 t97, .int .i64 t98, .bool t99, .int .i64 t100, .string t101, .string t102, .string t103, .slice A108 t104.length cp108] BKg125.out [.int .i64 t97, .int .i64 t98, .bool t99, .int .i64 t100, .string t101, .string t102, .string t103, .slice A108 t104.length cp108] (h := ?_); intro w159 hbk hg)
    refine Stop.go ?_
    replace HF0_7 := zfg HF0_7.out hg fun k_ hk_ => hk_.2
    replace HF108 := zfg HF108.out hg fun k_ hk_ => hk_.2
    replace BKg1 := zbg BKg1.out hg NEg1_g125
    replace HB := zhg HB.out hg (below_size HB.out) GEg125
    replace BKg125 := hbk
    clear hg hbk
    clear j23 j24 j25 j26 j27 j28 j29 j2a j2b j2c j2d j2e j2f j2g j2h j2i j2j j2k j2l j2m j2n j2o j2p j2q j2r j2s j2t j2u j2v j2w j2x j2y
    obtain ⟨j2A, j2B, j2C, j2D, j2E, j2F, j2G, j2H, j2I, j2J, j2K, j2L, j2M, j2N, j2O, j2P⟩ := MB.lay8 BKg1.out
    obtain ⟨j2Q, j2R, j2S, j2T, j2U, j2V, j2W, j2X, j2Y, j2Z, j30, j31, j32, j33, j34, j35⟩ := MB.lay8 BKg125.out
    replace HH := zqe HH
    rcases HH with ⟨HH, hk193, hk194⟩ | ⟨HH, hk266, hk267⟩
    ·replace HH := zd HH
     obtain ⟨t195, At196, HH⟩ := HH
     go_wp2_with ((with_reducible refine gc 17 rfl ?_); refine zc 17 (some 58) Try.func17 #[.agg #[.int .i64 t97, .int .i64 t98, .bool t99, .int .i64 t100, .string t101, .string t102, .string t103, .slice A108 t104.length cp108], .agg #[.int .i64 a0_0, .int .i64 a0_1, .bool a0_2, .int .i64 a0_3, .string a0_4, .string a0_5, .string a0_6, .slice A0_7 l0_7.length c0_7]] (h := ?_); (with_reducible refine (toponymref27_Same.calls k (fun k_ => (((P_ k_ ∨ w.heap.size ≤ k_) ∧ some k_ ≠ ((.slice (some ad96) t62.length cp87) : Value).ownBlock) ∧ k_ ≠ g1) ∧ k_ ≠ g125) t97 t98 t99 t100 t101 t102 t103 _ _ t104 a0_0 a0_1 a0_2 a0_3 a0_4 a0_5 a0_6 _ _ l0_7 t195 _ (Kd.F_mono (ok := (fun k_ => (((P_ k_ ∨ w.heap.size ≤ k_) ∧ some k_ ≠ ((.slice (some ad96) t62.length cp87) : Value).ownBlock) ∧ k_ ≠ g1) ∧ k_ ≠ g125)) HF108.out (fun k_ hk_ => hk_)) HL108.out (Kd.F_mono (ok := (fun k_ => (((P_ k_ ∨ w.heap.size ≤ k_) ∧ k_ ≠ g1) ∧ some k_ ≠ ((.slice (some ad96) t62.length cp87) : Value).ownBlock) ∧ k_ ≠ g125)) HF0_7.out (fun k_ hk_ => ⟨⟨⟨hk_.1.1.1, hk_.1.2⟩, hk_.1.1.2⟩, hk_.2⟩)) HL0_7.out At196.out).mono ?_); rintro e w197 ⟨rfl, hb⟩; refine ⟨_, rfl, ?_⟩)
     refine Stop.go ?_
     replace BKg1 := zbb BKg1.out hb
     replace BKg125 := zbb BKg125.out hb
     replace HB := zhb HB.out hb
     clear hb
     clear j2A j2B j2C j2D j2E j2F j2G j2H j2I j2J j2K j2L j2M j2N j2O j2P j2Q j2R j2S j2T j2U j2V j2W j2X j2Y j2Z j30 j31 j32 j33 j34 j35
     obtain ⟨j3c, j3d, j3e, j3f, j3g, j3h, j3i, j3j, j3k, j3l, j3m, j3n, j3o, j3p, j3q, j3r⟩ := MB.lay8 BKg1.out
     obtain ⟨j3s, j3t, j3u, j3v, j3w, j3x, j3y, j3z, j3A, j3B, j3C, j3D, j3E, j3F, j3G, j3H⟩ := MB.lay8 BKg125.out
     by_cases c230 : t195 = true
     ·replace HH := MW.hpos HH c230
      subst c230
      replace HH := zd HH
      obtain ⟨t231, At232, HH⟩ := HH
      go_wp2_with ((with_reducible refine gc 8 rfl ?_); refine zc 8 (some 61) Try.func8 #[] (h := ?_); (with_reducible refine (toponymlaw27_awake.calls k  t231 _  At232.out).mono ?_); rintro e w233 ⟨rfl, hb⟩; refine ⟨_, rfl, ?_⟩)
      refine Stop.go ?_
      replace BKg1 := zbb BKg1.out hb
      replace BKg125 := zbb BKg125.out hb
      replace HB := zhb HB.out hb
      clear hb
      clear j3c j3d j3e j3f j3g j3h j3i j3j j3k j3l j3m j3n j3o j3p j3q j3r j3s j3t j3u j3v j3w j3x j3y j3z j3A j3B j3C j3D j3E j3F j3G j3H
      obtain ⟨j3M, j3N, j3O, j3P, j3Q, j3R, j3S, j3T, j3U, j3V, j3W, j3X, j3Y, j3Z, j40, j41⟩ := MB.lay8 BKg1.out
      obtain ⟨j42, j43, j44, j45, j46, j47, j48, j49, j4a, j4b, j4c, j4d, j4e, j4f, j4g, j4h⟩ := MB.lay8 BKg125.out
      have H := HH.out
      obtain rfl := Option.some.inj H
      clear HH
      go_wp2
      go_ret
      exact ⟨by first | rfl | (simp; done) | (simp [*]; done), HB.out⟩
     replace HH := MW.hneg HH c230
     replace c230 := Bool.eq_false_iff.mpr c230
     subst c230
     have H := HH.out
     obtain rfl := Option.some.inj H
     clear HH
     go_wp2
     go_ret
     exact ⟨by first | rfl | (simp; done) | (simp [*]; done), HB.out⟩
    have H := HH.out
    obtain rfl := Option.some.inj H
    clear HH
    go_wp2
    go_ret
    exact ⟨by first | rfl | (simp; done) | (simp [*]; done), HB.out⟩
   have H := HH.out
   obtain rfl := Option.some.inj H
   clear HH
   go_wp2
   go_ret
   exact ⟨by first | rfl | (simp; done) | (simp [*]; done), HB.out⟩
  obtain ⟨A276, cp277, he_⟩ := Kd.N_slice HN66.out
  subst he_
  by_cases c278 : (t62.length : Int) = 0
  ·replace HH := MW.hpos HH c278
   have hk279 : ((t62.length : Int) == 0) = true := beq_iff_eq.mpr c278
   have hk280 : ((t62.length : Int) != 0) = false := bne_eq_false_iff_eq.mpr c278
   clear c278
   replace HH := zd HH
   obtain ⟨t281, At282, HH⟩ := HH
   go_wp2_with ((with_reducible refine gc 10 rfl ?_); refine zc 10 (some 24) Try.func10 #[.agg #[.int .i64 a0_0, .int .i64 a0_1, .bool a0_2, .int .i64 a0_3, .string a0_4, .string a0_5, .string a0_6, .slice A0_7 l0_7.length c0_7]] (h := ?_); (with_reducible refine (reply_Check.calls k (fun k_ => ((P_ k_ ∨ w.heap.size ≤ k_) ∧ some k_ ≠ ((.slice A276 t62.length cp277) : Value).ownBlock) ∧ k_ ≠ g1) a0_0 a0_1 a0_2 a0_3 a0_4 a0_5 a0_6 _ _ l0_7 t281 _ (Kd.F_mono (ok := (fun k_ => ((P_ k_ ∨ w.heap.size ≤ k_) ∧ k_ ≠ g1) ∧ some k_ ≠ ((.slice A276 t62.length cp277) : Value).ownBlock)) HF0_7.out (fun k_ hk_ => ⟨⟨hk_.1.1, hk_.2⟩, hk_.1.2⟩)) HL0_7.out At282.out).mono ?_); rintro e w283 ⟨rfl, hb⟩; refine ⟨_, rfl, ?_⟩)
   refine Stop.go ?_
   replace HF0_7 := zfb HF0_7.out hb
   replace BKg1 := zbb BKg1.out hb
   replace HB := zhb HB.out hb
   clear hb
   clear j15 j16 j17 j18 j19 j1a j1b j1c j1d j1e j1f j1g j1h j1i j1j j1k
   obtain ⟨j4A, j4B, j4C, j4D, j4E, j4F, j4G, j4H, j4I, j4J, j4K, j4L, j4M, j4N, j4O, j4P⟩ := MB.lay8 BKg1.out
   replace HH := zqe HH
   rcases HH with ⟨HH, hk301, hk302⟩ | ⟨HH, hk375, hk376⟩
   ·replace HH := zqe HH
    rcases HH with ⟨HH, hk304, hk305⟩ | ⟨HH, hk325, hk326⟩
    ·replace HH := zd HH
     obtain ⟨t306, At307, HH⟩ := HH
     go_wp2_with ((with_reducible refine gc 8 rfl ?_); refine zc 8 (some 41) Try.func8 #[] (h := ?_); (with_reducible refine (toponymlaw27_awake.calls k  t306 _  At307.out).mono ?_); rintro e w308 ⟨rfl, hb⟩; refine ⟨_, rfl, ?_⟩)
     refine Stop.go ?_
     replace BKg1 := zbb BKg1.out hb
     replace HB := zhb HB.out hb
     clear hb
     clear j4A j4B j4C j4D j4E j4F j4G j4H j4I j4J j4K j4L j4M j4N j4O j4P
     obtain ⟨j4Z, j50, j51, j52, j53, j54, j55, j56, j57, j58, j59, j5a, j5b, j5c, j5d, j5e⟩ := MB.lay8 BKg1.out
     have H := HH.out
     obtain rfl := Option.some.inj H
     clear HH
     go_wp2
     go_ret
     exact ⟨by first | rfl | (simp; done) | (simp [*]; done), HB.out⟩
    replace HH := zd HH
    obtain ⟨t327, At328, HH⟩ := HH
    go_wp2_with ((with_reducible refine gc 10 rfl ?_); refine zc 10 (some 32) Try.func10 #[.agg #[.int .i64 a0_0, .int .i64 a0_1, .bool a0_2, .int .i64 a0_3, .string a0_4, .string a0_5, .string a0_6, .slice A0_7 l0_7.length c0_7]] (h := ?_); (with_reducible refine (reply_Check.calls k (fun k_ => ((P_ k_ ∨ w.heap.size ≤ k_) ∧ some k_ ≠ ((.slice A276 t62.length cp277) : Value).ownBlock) ∧ k_ ≠ g1) a0_0 a0_1 a0_2 a0_3 a0_4 a0_5 a0_6 _ _ l0_7 t327 _ (Kd.F_mono (ok := (fun k_ => ((P_ k_ ∨ w.heap.size ≤ k_) ∧ k_ ≠ g1) ∧ some k_ ≠ ((.slice A276 t62.length cp277) : Value).ownBlock)) HF0_7.out (fun k_ hk_ => ⟨⟨hk_.1.1, hk_.2⟩, hk_.1.2⟩)) HL0_7.out At328.out).mono ?_); rintro e w329 ⟨rfl, hb⟩; refine ⟨_, rfl, ?_⟩)
    refine Stop.go ?_
    replace BKg1 := zbb BKg1.out hb
    replace HB := zhb HB.out hb
    clear hb
    clear j4A j4B j4C j4D j4E j4F j4G j4H j4I j4J j4K j4L j4M j4N j4O j4P
    obtain ⟨j5k, j5l, j5m, j5n, j5o, j5p, j5q, j5r, j5s, j5t, j5u, j5v, j5w, j5x, j5y, j5z⟩ := MB.lay8 BKg1.out
    replace HH := zqe HH
    rcases HH with ⟨HH, hk347, hk348⟩ | ⟨HH, hk373, hk374⟩
    ·replace HH := zqe HH
     rcases HH with ⟨HH, hk350, hk351⟩ | ⟨HH, hk371, hk372⟩
     ·replace HH := zd HH
      obtain ⟨t352, At353, HH⟩ := HH
      go_wp2_with ((with_reducible refine gc 8 rfl ?_); refine zc 8 (some 41) Try.func8 #[] (h := ?_); (with_reducible refine (toponymlaw27_awake.calls k  t352 _  At353.out).mono ?_); rintro e w354 ⟨rfl, hb⟩; refine ⟨_, rfl, ?_⟩)
      refine Stop.go ?_
      replace BKg1 := zbb BKg1.out hb
      replace HB := zhb HB.out hb
      clear hb
      clear j5k j5l j5m j5n j5o j5p j5q j5r j5s j5t j5u j5v j5w j5x j5y j5z
      obtain ⟨j5J, j5K, j5L, j5M, j5N, j5O, j5P, j5Q, j5R, j5S, j5T, j5U, j5V, j5W, j5X, j5Y⟩ := MB.lay8 BKg1.out
      have H := HH.out
      obtain rfl := Option.some.inj H
      clear HH
      go_wp2
      go_ret
      exact ⟨by first | rfl | (simp; done) | (simp [*]; done), HB.out⟩
     have H := HH.out
     obtain rfl := Option.some.inj H
     clear HH
     go_wp2
     go_ret
     exact ⟨by first | rfl | (simp; done) | (simp [*]; done), HB.out⟩
    have H := HH.out
    obtain rfl := Option.some.inj H
    clear HH
    go_wp2
    go_ret
    exact ⟨by first | rfl | (simp; done) | (simp [*]; done), HB.out⟩
   replace HH := zd HH
   obtain ⟨t377, At378, HH⟩ := HH
   go_wp2_with ((with_reducible refine gc 10 rfl ?_); refine zc 10 (some 32) Try.func10 #[.agg #[.int .i64 a0_0, .int .i64 a0_1, .bool a0_2, .int .i64 a0_3, .string a0_4, .string a0_5, .string a0_6, .slice A0_7 l0_7.length c0_7]] (h := ?_); (with_reducible refine (reply_Check.calls k (fun k_ => ((P_ k_ ∨ w.heap.size ≤ k_) ∧ some k_ ≠ ((.slice A276 t62.length cp277) : Value).ownBlock) ∧ k_ ≠ g1) a0_0 a0_1 a0_2 a0_3 a0_4 a0_5 a0_6 _ _ l0_7 t377 _ (Kd.F_mono (ok := (fun k_ => ((P_ k_ ∨ w.heap.size ≤ k_) ∧ k_ ≠ g1) ∧ some k_ ≠ ((.slice A276 t62.length cp277) : Value).ownBlock)) HF0_7.out (fun k_ hk_ => ⟨⟨hk_.1.1, hk_.2⟩, hk_.1.2⟩)) HL0_7.out At378.out).mono ?_); rintro e w379 ⟨rfl, hb⟩; refine ⟨_, rfl, ?_⟩)
   refine Stop.go ?_
   replace BKg1 := zbb BKg1.out hb
   replace HB := zhb HB.out hb
   clear hb
   clear j4A j4B j4C j4D j4E j4F j4G j4H j4I j4J j4K j4L j4M j4N j4O j4P
   obtain ⟨j68, j69, j6a, j6b, j6c, j6d, j6e, j6f, j6g, j6h, j6i, j6j, j6k, j6l, j6m, j6n⟩ := MB.lay8 BKg1.out
   replace HH := zqe HH
   rcases HH with ⟨HH, hk397, hk398⟩ | ⟨HH, hk423, hk424⟩
   ·replace HH := zqe HH
    rcases HH with ⟨HH, hk400, hk401⟩ | ⟨HH, hk421, hk422⟩
    ·replace HH := zd HH
     obtain ⟨t402, At403, HH⟩ := HH
     go_wp2_with ((with_reducible refine gc 8 rfl ?_); refine zc 8 (some 41) Try.func8 #[] (h := ?_); (with_reducible refine (toponymlaw27_awake.calls k  t402 _  At403.out).mono ?_); rintro e w404 ⟨rfl, hb⟩; refine ⟨_, rfl, ?_⟩)
     refine Stop.go ?_
     replace BKg1 := zbb BKg1.out hb
     replace HB := zhb HB.out hb
     clear hb
     clear j68 j69 j6a j6b j6c j6d j6e j6f j6g j6h j6i j6j j6k j6l j6m j6n
     obtain ⟨j6x, j6y, j6z, j6A, j6B, j6C, j6D, j6E, j6F, j6G, j6H, j6I, j6J, j6K, j6L, j6M⟩ := MB.lay8 BKg1.out
     have H := HH.out
     obtain rfl := Option.some.inj H
     clear HH
     go_wp2
     go_ret
     exact ⟨by first | rfl | (simp; done) | (simp [*]; done), HB.out⟩
    have H := HH.out
    obtain rfl := Option.some.inj H
    clear HH
    go_wp2
    go_ret
    exact ⟨by first | rfl | (simp; done) | (simp [*]; done), HB.out⟩
   have H := HH.out
   obtain rfl := Option.some.inj H
   clear HH
   go_wp2
   go_ret
   exact ⟨by first | rfl | (simp; done) | (simp [*]; done), HB.out⟩
  replace HH := MW.hneg HH c278
  have hk425 : ((t62.length : Int) == 0) = false := beq_eq_false_iff_ne.mpr c278
  have hk426 : ((t62.length : Int) != 0) = true := bne_iff_ne.mpr c278
  have hk427 : ¬ (t62 = []) := fun h_ => c278 (by rw [h_]; rfl)
  clear c278
  have H := HH.out
  obtain rfl := Option.some.inj H
  clear HH
  go_wp2
  go_ret
  exact ⟨by first | rfl | (simp; done) | (simp [*]; done), HB.out⟩
 replace HH := MW.hneg HH c38
 replace c38 := Bool.eq_false_iff.mpr c38
 subst c38
 replace HH := zd HH
 obtain ⟨t428, At429, HH⟩ := HH
 go_wp2_with ((with_reducible refine gc 8 rfl ?_); refine zc 8 (some 10) Try.func8 #[] (h := ?_); (with_reducible refine (toponymlaw27_awake.calls k  t428 _  At429.out).mono ?_); rintro e w430 ⟨rfl, hb⟩; refine ⟨_, rfl, ?_⟩)
 refine Stop.go ?_
 replace BKg1 := zbb BKg1.out hb
 replace HB := zhb HB.out hb
 clear hb
 clear jm jn jo jp jq jr js jt ju jv jw jx jy jz jA jB
 obtain ⟨j6X, j6Y, j6Z, j70, j71, j72, j73, j74, j75, j76, j77, j78, j79, j7a, j7b, j7c⟩ := MB.lay8 BKg1.out
 have H := HH.out
 obtain rfl := Option.some.inj H
 clear HH
 go_wp2
 go_ret
 exact ⟨by first | rfl | (simp; done) | (simp [*]; done), HB.out⟩
end Go.Proofs.Ytdjkemhmhkpmkaa.GA
