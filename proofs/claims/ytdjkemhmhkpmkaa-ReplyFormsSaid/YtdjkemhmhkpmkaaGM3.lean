import Derived.Test.YtdjkemhmhkpmkaaGA0
import Derived.Test.YtdjkemhmhkpmkaaGAF15
import Derived.Test.YtdjkemhmhkpmkaaGAF25
import Derived.Test.YtdjkemhmhkpmkaaGM1
import Derived.Test.YtdjkemhmhkpmkaaGM2
namespace Go.Proofs.Ytdjkemhmhkpmkaa.GA
open Go.RowKit Go.Proofs.Ytdjkemhmhkpmkaa Go.Proofs.Ytdjkemhmhkpmkaa.MW Go.Proofs.YtdjkemhmhkpmkaaW.PrintWords Go.Proofs.YtdjkemhmhkpmkaaW.PrintLast Go.Proofs.YtdjkemhmhkpmkaaW.PrintMore
attribute [local go_sem] max2_int min2_int max_two min_two
set_option linter.unusedVariables false
set_option linter.unusedSimpArgs false
/-! ### reply_Encode: function 12 -/
def reply_Encode.l0 : Nat → (List ByteArray) → Int → (List (S27)) → Option (List ByteArray × Int)
 | 0, _, _, _ => none
 | k + 1, x1, x4, l0 => if x4 < (l0.length : Int) then (if 0 ≤ x4 then ((reply_Check.f k ((rd_T27 l0 x4).f0) ((rd_T27 l0 x4).f1) ((rd_T27 l0 x4).f2) ((rd_T27 l0 x4).f3) ((rd_T27 l0 x4).f4) ((rd_T27 l0 x4).f5) ((rd_T27 l0 x4).f6) ((rd_T27 l0 x4).f7)).bind fun t48 => (if t48 = 0 then ((reply_laid.f k ((rd_T27 l0 x4).f0) ((rd_T27 l0 x4).f1) ((rd_T27 l0 x4).f2) ((rd_T27 l0 x4).f3) ((rd_T27 l0 x4).f4) ((rd_T27 l0 x4).f5) ((rd_T27 l0 x4).f6) ((rd_T27 l0 x4).f7)).bind fun bt70 => (if bt70.2 = 0 then (if x1.length < 8796093022208 then ((some (x1 ++ [bt70.1] : List ByteArray)).bind fun y94 => ((reply_Encode.l0 k y94 (wrap64 (x4 + 1)) l0))) else (none)) else (some (([] : List ByteArray), bt70.2)))) else (some (([] : List ByteArray), t48)))) else (none)) else (some (x1, 0))
def reply_Encode.f (k : Nat) (l0 : List (S27)) : Option (List ByteArray × Int) := (reply_Encode.l0 k ([] : List ByteArray) 0 l0)
theorem reply_Encode.mono_l : ∀ k, (∀ y0 y1 y2, LeO (reply_Encode.l0 k y0 y1 y2) (reply_Encode.l0 (k + 1) y0 y1 y2))
 | 0 => fun _ _ _ r h => by simp [reply_Encode.l0] at h
 | k + 1 => by
  have ih0 := reply_Encode.mono_l k
  ·intro y0 y1 y2
   unfold reply_Encode.l0
   repeat' first
   | (with_reducible exact ih0 _ _ _)
   | (with_reducible exact reply_Check.mono _ _ _ _ _ _ _ _ _)
   | (with_reducible exact reply_laid.mono _ _ _ _ _ _ _ _ _)
   | (with_reducible exact LeO.refl _)
   | (with_reducible exact LeO.none _)
   | (with_reducible refine LeO.ite ?_ ?_)
   | (with_reducible refine LeO.bind ?_ (fun _ => ?_))
theorem reply_Encode.mono : ∀ a0_ k, LeO (reply_Encode.f k a0_) (reply_Encode.f (k + 1) a0_) := by
 intro a0_ k
 have ih0 := reply_Encode.mono_l k
 unfold reply_Encode.f
 repeat' first
   | (with_reducible exact ih0 _ _ _)
   | (with_reducible exact reply_Check.mono _ _ _ _ _ _ _ _ _)
   | (with_reducible exact reply_laid.mono _ _ _ _ _ _ _ _ _)
   | (with_reducible exact LeO.refl _)
   | (with_reducible exact LeO.none _)
   | (with_reducible refine LeO.ite ?_ ?_)
   | (with_reducible refine LeO.bind ?_ (fun _ => ?_))
set_option maxHeartbeats 8000000 in
set_option maxRecDepth 100000 in
theorem reply_Encode.calls (k : Nat) (P_ : Nat → Prop) (A0 : Option Addr) (c0 : Nat) (l0 : List (S27)) (r1 : List ByteArray) (r2 : Int) (w : World) (hs0 : Kd.F k27 w P_ A0 l0.length l0) (hc0 : l0.length ≤ c0) (h : reply_Encode.f k l0 = some (r1, r2)) :
  Calls Try.prog 12 #[.slice A0 l0.length c0] w (fun e w' => ∃ v0_ : Value, e = .returned (.tuple #[v0_, .int .i64 r2]) ∧ Kd.N Kd.string 9 w' w.heap.size (fun k_ => P_ k_ ∨ w.heap.size ≤ k_) v0_ r1 ∧ Below w.heap.size w w') := by
 have HH := Aside0.mk (show ((reply_Encode.l0 k ([] : List ByteArray) 0 l0)) = some (r1, r2) from h)
 clear h
 have HF0 := zfp hs0
 clear hs0 hc0
 have HB := Aside0.mk (Below.refl w.heap.size w)
 have hu27 := Try.underlying27
 go_enter Try.func12, Try.ntmps12
 go_wp2
 go_loopg [4, 12] k (fun kq u4 u12 w' => ∃ (x1 : List ByteArray) (x4 : Int), u12 = .int .i64 x4 ∧ Aside0 ((reply_Encode.l0 kq x1 x4 l0) = some (r1, r2)) ∧ Aside0 (kq ≤ k) ∧ Aside0 (Kd.F k27 w' (fun k_ => (P_ k_ ∨ w.heap.size ≤ k_) ∧ some k_ ≠ (u4 : Value).ownBlock) A0 l0.length l0) ∧ Aside0 (Kd.N Kd.string 9 w' w.heap.size (fun k_ => (P_ k_ ∨ w.heap.size ≤ k_)) u4 x1) ∧ Aside0 (Below w.heap.size w w'))
 case atStart => exact ⟨([] : List ByteArray), 0, (by first | rfl | (simp; done) | (simp [*]; done)), HH, ⟨Nat.le_refl _⟩, ⟨(Kd.F_mono (ok := (fun k_ => (P_ k_ ∨ w.heap.size ≤ k_))) HF0.out (fun k_ hk_ => ⟨hk_, (by simp [Value.ownBlock])⟩))⟩, ⟨Kd.N_nil _ _ _ _ _⟩, ⟨HB.out⟩⟩
 case round =>
  clear HH
  clear HF0 HB
  obtain ⟨x1, x4, rfl, HA, HK0, HF0, HN3, HB⟩ := hrel
  obtain ⟨v2, rfl⟩ : ∃ z_ : Value, z_ = u4 := ⟨_, rfl⟩
  obtain ⟨w6, rfl⟩ : ∃ wo_ : World, wo_ = wr := ⟨_, rfl⟩
  cases gk with
  | zero => exact absurd HA.out (by simp [reply_Encode.l0])
  | succ k5 =>
   have H := HA.out
   clear HA
   simp only [reply_Encode.l0] at H
   have HH := Aside0.mk H
   clear H
   replace HH := zqt HH
   rcases HH with ⟨HH, hk8, hk9⟩ | ⟨HH, hk119, hk120⟩
   ·replace HH := zqdo HH
    obtain ⟨HH, hk11⟩ := HH
    have p12 : 0 ≤ (x4 : Int) := of_decide_eq_true (by first | (with_reducible assumption) | assumption)
    have q12 : x4 < (l0.length : Int) := of_decide_eq_true (by first | (with_reducible assumption) | assumption)
    obtain ⟨ad12, A12_7, c12_7, e12, hx12_0, hx12_1, hx12_2, hx12_3, hx12_4, hx12_5, hx12_6, hx12_7, hl12_7, hi12_7⟩ := atF_T27 HF0.out x4 p12 q12
    cases e12
    have HF12_7 := Aside0.mk hi12_7
    have HL12_7 := Aside0.mk hl12_7
    clear hi12_7 hl12_7
    replace p12 := eq_true p12
    replace q12 := eq_true q12
    go_wp2_with ((with_reducible refine gd 6 rfl ?_); refine zb 6 27 #[.int .i64 0, .int .i64 0, .bool false, .int .i64 0, .string (⟨#[]⟩ : ByteArray), .string (⟨#[]⟩ : ByteArray), .string (⟨#[]⟩ : ByteArray), .slice none 0 0] (h := ?_); intro g13 hg w14 BKg13 hb)
    refine Stop.go ?_
    have GEg13 := zge hg (below_size HB.out)
    replace HF0 := zfe HF0.out hg hb
    replace HF12_7 := zfe HF12_7.out hg hb
    replace HN3 := zne HN3.out hg hb
    replace HB := zhb HB.out hb
    clear hg hb
    clear hx12_0 hx12_1 hx12_2 hx12_3 hx12_4 hx12_5 hx12_6 hx12_7 p12 q12
    obtain ⟨jf, jg, jh, ji, jj, jk, jl, jm, jn, jo, jp, jq, jr, js, jt, ju⟩ := MB.lay8 BKg13.out
    go_wp2_with ((with_reducible refine gs 27 6 rfl ?_); refine zs 27 6 #[.int .i64 ((rd_T27 l0 x4).f0), .int .i64 ((rd_T27 l0 x4).f1), .bool ((rd_T27 l0 x4).f2), .int .i64 ((rd_T27 l0 x4).f3), .string ((rd_T27 l0 x4).f4), .string ((rd_T27 l0 x4).f5), .string ((rd_T27 l0 x4).f6), .slice A12_7 ((rd_T27 l0 x4).f7).length c12_7] BKg13.out [.int .i64 ((rd_T27 l0 x4).f0), .int .i64 ((rd_T27 l0 x4).f1), .bool ((rd_T27 l0 x4).f2), .int .i64 ((rd_T27 l0 x4).f3), .string ((rd_T27 l0 x4).f4), .string ((rd_T27 l0 x4).f5), .string ((rd_T27 l0 x4).f6), .slice A12_7 ((rd_T27 l0 x4).f7).length c12_7] (h := ?_); intro w31 hbk hg)
    refine Stop.go ?_
    replace HF0 := zfg HF0.out hg fun k_ hk_ => hk_.2
    replace HF12_7 := zfg HF12_7.out hg fun k_ hk_ => hk_.2
    replace HN3 := zng HN3.out hg fun k_ hk_ => hk_.2
    replace HB := zhg HB.out hg (below_size HB.out) GEg13
    replace BKg13 := hbk
    clear hg hbk
    clear jf jg jh ji jj jk jl jm jn jo jp jq jr js jt ju
    obtain ⟨jw, jx, jy, jz, jA, jB, jC, jD, jE, jF, jG, jH, jI, jJ, jK, jL⟩ := MB.lay8 BKg13.out
    replace HH := zd HH
    obtain ⟨t48, At49, HH⟩ := HH
    go_wp2_with ((with_reducible refine gc 10 rfl ?_); refine zc 10 (some 17) Try.func10 #[.agg #[.int .i64 ((rd_T27 l0 x4).f0), .int .i64 ((rd_T27 l0 x4).f1), .bool ((rd_T27 l0 x4).f2), .int .i64 ((rd_T27 l0 x4).f3), .string ((rd_T27 l0 x4).f4), .string ((rd_T27 l0 x4).f5), .string ((rd_T27 l0 x4).f6), .slice A12_7 ((rd_T27 l0 x4).f7).length c12_7]] (h := ?_); (with_reducible refine (reply_Check.calls k5 (fun k_ => ((P_ k_ ∨ w.heap.size ≤ k_) ∧ some k_ ≠ (v2 : Value).ownBlock) ∧ k_ ≠ g13) ((rd_T27 l0 x4).f0) ((rd_T27 l0 x4).f1) ((rd_T27 l0 x4).f2) ((rd_T27 l0 x4).f3) ((rd_T27 l0 x4).f4) ((rd_T27 l0 x4).f5) ((rd_T27 l0 x4).f6) _ _ ((rd_T27 l0 x4).f7) t48 _ (Kd.F_mono (ok := (fun k_ => ((P_ k_ ∨ w.heap.size ≤ k_) ∧ some k_ ≠ (v2 : Value).ownBlock) ∧ k_ ≠ g13)) HF12_7.out (fun k_ hk_ => hk_)) HL12_7.out At49.out).mono ?_); rintro e w50 ⟨rfl, hb⟩; refine ⟨_, rfl, ?_⟩)
    refine Stop.go ?_
    replace HF0 := zfb HF0.out hb
    replace HF12_7 := zfb HF12_7.out hb
    replace HN3 := znb HN3.out hb
    replace BKg13 := zbb BKg13.out hb
    replace HB := zhb HB.out hb
    clear hb
    clear jw jx jy jz jA jB jC jD jE jF jG jH jI jJ jK jL
    obtain ⟨jP, jQ, jR, jS, jT, jU, jV, jW, jX, jY, jZ, j10, j11, j12, j13, j14⟩ := MB.lay8 BKg13.out
    replace HH := zqe HH
    rcases HH with ⟨HH, hk68, hk69⟩ | ⟨HH, hk116, hk117⟩
    ·replace HH := zd HH
     obtain ⟨⟨t70, t71⟩, At72, HH⟩ := HH
     dsimp only at HH
     go_wp2_with ((with_reducible refine gc 25 rfl ?_); refine zc 25 (some 23) Try.func25 #[.agg #[.int .i64 ((rd_T27 l0 x4).f0), .int .i64 ((rd_T27 l0 x4).f1), .bool ((rd_T27 l0 x4).f2), .int .i64 ((rd_T27 l0 x4).f3), .string ((rd_T27 l0 x4).f4), .string ((rd_T27 l0 x4).f5), .string ((rd_T27 l0 x4).f6), .slice A12_7 ((rd_T27 l0 x4).f7).length c12_7]] (h := ?_); (with_reducible refine (reply_laid.calls k5 (fun k_ => ((P_ k_ ∨ w.heap.size ≤ k_) ∧ some k_ ≠ (v2 : Value).ownBlock) ∧ k_ ≠ g13) ((rd_T27 l0 x4).f0) ((rd_T27 l0 x4).f1) ((rd_T27 l0 x4).f2) ((rd_T27 l0 x4).f3) ((rd_T27 l0 x4).f4) ((rd_T27 l0 x4).f5) ((rd_T27 l0 x4).f6) _ _ ((rd_T27 l0 x4).f7) t70 t71 _ (Kd.F_mono (ok := (fun k_ => ((P_ k_ ∨ w.heap.size ≤ k_) ∧ some k_ ≠ (v2 : Value).ownBlock) ∧ k_ ≠ g13)) HF12_7.out (fun k_ hk_ => hk_)) HL12_7.out At72.out).mono ?_); rintro e w73 ⟨rfl, hb⟩; refine ⟨_, rfl, ?_⟩)
     refine Stop.go ?_
     replace HF0 := zfb HF0.out hb
     replace HN3 := znb HN3.out hb
     replace BKg13 := zbb BKg13.out hb
     replace HB := zhb HB.out hb
     clear hb
     clear jP jQ jR jS jT jU jV jW jX jY jZ j10 j11 j12 j13 j14
     obtain ⟨j1c, j1d, j1e, j1f, j1g, j1h, j1i, j1j, j1k, j1l, j1m, j1n, j1o, j1p, j1q, j1r⟩ := MB.lay8 BKg13.out
     replace HH := zqe HH
     rcases HH with ⟨HH, hk91, hk92⟩ | ⟨HH, hk114, hk115⟩
     ·obtain ⟨HH, LMc93⟩ := zlm HH
      obtain ⟨y94, hy94⟩ : ∃ y_ : List ByteArray, y_ = (x1 ++ [t70]) := ⟨_, rfl⟩
      have H : ((reply_Encode.l0 k5 y94 (wrap64 (x4 + 1)) l0)) = some (r1, r2) := by rw [hy94]; exact HH.out
      replace HH := Aside0.mk H
      clear H
      have NYy94 := Aside0.mk hy94
      clear hy94
      go_wp2_with (((with_reducible refine gate_dst (N := 32) rfl ?_); (try (refine gate_guard (by rfl) ?_; dsimp only)); refine Kd.N_append Kd.string w.heap.size rfl _ _ 31 9 (.string ⟨#[]⟩) 16 rfl Try.underlying31 info9 rfl (by decide) (by decide) (v2) x1 t70 [.string t70] (fun k_ => (P_ k_ ∨ w.heap.size ≤ k_) ∧ k_ ≠ g13) (fun k_ => (fun k_ => (P_ k_ ∨ w.heap.size ≤ k_) ∧ k_ ≠ g13) k_ ∧ some k_ ≠ (v2 : Value).ownBlock) rfl rfl (fun _ _ => rfl) (fun _ hk_ => hk_) (fun k_ h_ => ⟨.inr (Nat.le_trans (below_size (by repeat (first | (with_reducible first | exact HB.out | apply below_alloc | apply pw_below_drewN | apply below_drew1) | exact HB.out))) h_), Kd.freshB (g := g13) (o := .cells #[.int .i64 ((rd_T27 l0 x4).f0), .int .i64 ((rd_T27 l0 x4).f1), .bool ((rd_T27 l0 x4).f2), .int .i64 ((rd_T27 l0 x4).f3), .string ((rd_T27 l0 x4).f4), .string ((rd_T27 l0 x4).f5), .string ((rd_T27 l0 x4).f6), .slice A12_7 ((rd_T27 l0 x4).f7).length c12_7] 27 (0, 0)) (by (with_reducible repeat (first | refine blk_drewN ?_ _ | refine blk_drew ?_ | refine blk_alloc ?_ _)); exact BKg13.out) k_ h_⟩) (by (with_reducible repeat (first | apply Kd.N_alloc | apply Kd.N_drewN | apply Kd.N_drew)); exact HN3.out) (by repeat (first | (with_reducible first | exact HB.out | apply below_alloc | apply pw_below_drewN | apply below_drew1) | exact HB.out)) (below_size (by repeat (first | (with_reducible first | exact HB.out | apply below_alloc | apply pw_below_drewN | apply below_drew1) | exact HB.out))) (by first | (have := LMc93.out; omega) | (have := LMc93.out; simp at *; omega)) ?_; intro v95 w96 hn1 hb1 hg1 hat1); replace hat1 := Aside0.mk hat1; refine stop_ ?_)
      refine Stop.go ?_
      replace hat1 := hat1.out
      replace HF0 := Aside0.mk (Kd.F_mono (Kd.F_after (v := v2) (ok := (fun k_ => (P_ k_ ∨ w.heap.size ≤ k_) ∧ k_ ≠ g13)) (Kd.F_mono (ok := (fun k_ => ((P_ k_ ∨ w.heap.size ≤ k_) ∧ some k_ ≠ (v2 : Value).ownBlock) ∧ k_ ≠ g13)) (by (with_reducible repeat (first | apply Kd.F_alloc | apply Kd.F_drewN | apply Kd.F_drew)); exact HF0.out) (fun k_ hk_ => ⟨⟨hk_.1.1, hk_.2⟩, hk_.1.2⟩)) hg1 hat1) (fun k_ hk_ => hk_) : Kd.F k27 _ (fun k_ => ((P_ k_ ∨ w.heap.size ≤ k_) ∧ k_ ≠ g13) ∧ some k_ ≠ (v95 : Value).ownBlock) _ _ _)
      replace BKg13 := Aside0.mk (blk_grown (g := g13) (o := .cells #[.int .i64 ((rd_T27 l0 x4).f0), .int .i64 ((rd_T27 l0 x4).f1), .bool ((rd_T27 l0 x4).f2), .int .i64 ((rd_T27 l0 x4).f3), .string ((rd_T27 l0 x4).f4), .string ((rd_T27 l0 x4).f5), .string ((rd_T27 l0 x4).f6), .slice A12_7 ((rd_T27 l0 x4).f7).length c12_7] 27 (0, 0)) (by (with_reducible repeat (first | refine blk_drewN ?_ _ | refine blk_drew ?_ | refine blk_alloc ?_ _)); exact BKg13.out) hg1 (Kd.N_away (ok := (fun k_ => (P_ k_ ∨ w.heap.size ≤ k_) ∧ k_ ≠ g13)) HN3.out (fun k_ hk_ => hk_.2)))
      replace HB := Aside0.mk hb1
      clear HN3
      have HN97 := Aside0.mk hn1
      clear hn1 hb1 hg1 hat1
      replace HN97 := Aside0.mk (by rw [NYy94.out]; exact HN97.out : Kd.N Kd.string 9 w96 w.heap.size (fun k_ => (P_ k_ ∨ w.heap.size ≤ k_) ∧ k_ ≠ g13) v95 y94)
      clear j1c j1d j1e j1f j1g j1h j1i j1j j1k j1l j1m j1n j1o j1p j1q j1r
      obtain ⟨j1A, j1B, j1C, j1D, j1E, j1F, j1G, j1H, j1I, j1J, j1K, j1L, j1M, j1N, j1O, j1P⟩ := MB.lay8 BKg13.out
      go_wp2
      go_roundg k5
      case measure => have := HK0.out; omega
      case rel => exact ⟨y94, wrap64 (x4 + 1), (by first | rfl | (simp; done) | (simp [*]; done)), HH, ⟨by have := HK0.out; omega⟩, ⟨(Kd.F_mono (ok := (fun k_ => ((P_ k_ ∨ w.heap.size ≤ k_) ∧ k_ ≠ g13) ∧ some k_ ≠ (v95 : Value).ownBlock)) HF0.out (fun k_ hk_ => ⟨hk_.1.1, hk_.2⟩))⟩, ⟨(Kd.N_mono (ok := (fun k_ => (P_ k_ ∨ w.heap.size ≤ k_) ∧ k_ ≠ g13)) HN97.out (fun k_ hk_ => hk_.1))⟩, ⟨HB.out⟩⟩
     have H := HH.out
     simp only [Option.some.injEq, Prod.mk.injEq] at H
     obtain ⟨rfl, rfl⟩ := H
     clear HH
     go_wp2
     go_ret2
     exact ⟨_, by first | rfl | (simp; done) | (simp [*]; done), (Kd.N_nil _ _ _ _ _), HB.out⟩
    have H := HH.out
    simp only [Option.some.injEq, Prod.mk.injEq] at H
    obtain ⟨rfl, rfl⟩ := H
    clear HH
    go_wp2
    go_ret2
    exact ⟨_, by first | rfl | (simp; done) | (simp [*]; done), (Kd.N_nil _ _ _ _ _), HB.out⟩
   have H := HH.out
   simp only [Option.some.injEq, Prod.mk.injEq] at H
   obtain ⟨rfl, rfl⟩ := H
   clear HH
   go_wp2
   go_ret2
   exact ⟨_, by first | rfl | (simp; done) | (simp [*]; done), (Kd.N_mono (ok := (fun k_ => (P_ k_ ∨ w.heap.size ≤ k_))) HN3.out (fun k_ hk_ => hk_)), HB.out⟩

/-! ### toponymlaw27_awake: function 8 -/
def toponymlaw27_awake.f (k : Nat)  : Option (Bool) := (reply_Result.f 1 3 0 (⟨#[]⟩ : ByteArray)).bind fun bt1 => ((reply_Encode.f k [(⟨bt1.1, bt1.2.1, bt1.2.2.1, bt1.2.2.2.1, bt1.2.2.2.2.1, bt1.2.2.2.2.2.1, bt1.2.2.2.2.2.2.1, bt1.2.2.2.2.2.2.2⟩ : S27)]).bind fun bt23 => ((reply_Decode.f k (⟨#[48, 12, 2, 1, 1, 101, 7, 10, 1, 0, 4, 0, 4, 0]⟩ : ByteArray)).bind fun bt28 => ((reply_Decode.f k (⟨#[48, 0]⟩ : ByteArray)).bind fun bt75 => (if (bt23.1.length : Int) = 1 then (if 0 < (bt23.1.length : Int) then (if (rdOf ByteArray.empty bt23.1 (0 : Int)).toList = ([48, 12, 2, 1, 1, 101, 7, 10, 1, 0, 4, 0, 4, 0] : List UInt8) then (if bt23.2 = 0 then (if bt28.1 = 1 then (if bt28.2.1 = 3 then (if bt28.2.2.2.2.2.2.2.2 = 0 then (if bt75.2.2.2.2.2.2.2.2 = 270 then ((reply_Check.f k 0 0 false 0 (⟨#[]⟩ : ByteArray) (⟨#[]⟩ : ByteArray) (⟨#[]⟩ : ByteArray) ([] : List (S46))).bind fun t199 => (if t199 = 270 then ((reply_Same.f k bt28.1 bt28.2.1 bt28.2.2.1 bt28.2.2.2.1 bt28.2.2.2.2.1 bt28.2.2.2.2.2.1 bt28.2.2.2.2.2.2.1 bt28.2.2.2.2.2.2.2.1 bt28.1 bt28.2.1 bt28.2.2.1 bt28.2.2.2.1 bt28.2.2.2.2.1 bt28.2.2.2.2.2.1 bt28.2.2.2.2.2.2.1 bt28.2.2.2.2.2.2.2.1).bind fun t237 => (some t237)) else (some false))) else (some false)) else (some false)) else (some false)) else (some false)) else (some false)) else (some false)) else (none)) else (some false)))))
theorem toponymlaw27_awake.mono : ∀ k, LeO (toponymlaw27_awake.f k ) (toponymlaw27_awake.f (k + 1) ) := by
 intro  k
 unfold toponymlaw27_awake.f
 repeat' first
   | (with_reducible exact reply_Check.mono _ _ _ _ _ _ _ _ _)
   | (with_reducible exact reply_Decode.mono _ _)
   | (with_reducible exact reply_Encode.mono _ _)
   | (with_reducible exact reply_Same.mono _ _ _ _ _ _ _ _ _ _ _ _ _ _ _ _ _)
   | (with_reducible exact LeO.refl _)
   | (with_reducible exact LeO.none _)
   | (with_reducible refine LeO.ite ?_ ?_)
   | (with_reducible refine LeO.bind ?_ (fun _ => ?_))
set_option maxHeartbeats 8000000 in
set_option maxRecDepth 100000 in
theorem toponymlaw27_awake.calls (k : Nat) (r : Bool) (w : World) (h : toponymlaw27_awake.f k  = some r) :
  Calls Try.prog 8 #[] w (fun e w' => e = .returned (.bool r) ∧ Below w.heap.size w w') := by
 have HH := Aside0.mk (show ((reply_Result.f 1 3 0 (⟨#[]⟩ : ByteArray)).bind fun bt1 => ((reply_Encode.f k [(⟨bt1.1, bt1.2.1, bt1.2.2.1, bt1.2.2.2.1, bt1.2.2.2.2.1, bt1.2.2.2.2.2.1, bt1.2.2.2.2.2.2.1, bt1.2.2.2.2.2.2.2⟩ : S27)]).bind fun bt23 => ((reply_Decode.f k (⟨#[48, 12, 2, 1, 1, 101, 7, 10, 1, 0, 4, 0, 4, 0]⟩ : ByteArray)).bind fun bt28 => ((reply_Decode.f k (⟨#[48, 0]⟩ : ByteArray)).bind fun bt75 => (if (bt23.1.length : Int) = 1 then (if 0 < (bt23.1.length : Int) then (if (rdOf ByteArray.empty bt23.1 (0 : Int)).toList = ([48, 12, 2, 1, 1, 101, 7, 10, 1, 0, 4, 0, 4, 0] : List UInt8) then (if bt23.2 = 0 then (if bt28.1 = 1 then (if bt28.2.1 = 3 then (if bt28.2.2.2.2.2.2.2.2 = 0 then (if bt75.2.2.2.2.2.2.2.2 = 270 then ((reply_Check.f k 0 0 false 0 (⟨#[]⟩ : ByteArray) (⟨#[]⟩ : ByteArray) (⟨#[]⟩ : ByteArray) ([] : List (S46))).bind fun t199 => (if t199 = 270 then ((reply_Same.f k bt28.1 bt28.2.1 bt28.2.2.1 bt28.2.2.2.1 bt28.2.2.2.2.1 bt28.2.2.2.2.2.1 bt28.2.2.2.2.2.2.1 bt28.2.2.2.2.2.2.2.1 bt28.1 bt28.2.1 bt28.2.2.1 bt28.2.2.2.1 bt28.2.2.2.2.1 bt28.2.2.2.2.2.1 bt28.2.2.2.2.2.2.1 bt28.2.2.2.2.2.2.2.1).bind fun t237 => (some t237)) else (some false))) else (some false)) else (some false)) else (some false)) else (some false)) else (some false)) else (some false)) else (none)) else (some false)))))) = some r from h)
 clear h
 have HB := Aside0.mk (Below.refl w.heap.size w)
 have hu27 := Try.underlying27
 go_enter Try.func8, Try.ntmps8
 replace HH := zd HH
 obtain ⟨⟨t1, t2, t3, t4, t5, t6, t7, t8⟩, At9, HH⟩ := HH
 dsimp only at HH
 go_wp2_with ((with_reducible refine gc 19 rfl ?_); refine zc 19 (some 8) Try.func19 #[.int .i64 1, .int .i64 3, .int .i64 0, .string (⟨#[]⟩ : ByteArray)] (h := ?_); (with_reducible refine (reply_Result.calls  1 3 0 (⟨#[]⟩ : ByteArray) t1 t2 t3 t4 t5 t6 t7 t8 _  At9.out).mono ?_); rintro e w10 ⟨v11, rfl, hn11, hb⟩; refine ⟨_, rfl, ?_⟩)
 refine Stop.go ?_
 have hba := Kd.N_base hn11
 have HN11 := znl (ok2 := (fun k_ => (w.heap.size ≤ k_))) hn11 (below_size HB.out) (fun k_ h_ => (Nat.le_trans (below_size HB.out) h_))
 replace HB := zhb HB.out hb
 clear hn11 hba hb
 obtain ⟨A12, cp13, he_⟩ := Kd.N_slice HN11.out
 subst he_
 have HL15 := Aside0.mk (Kd.N_reads' HN11.out).2.1
 have HF14 := Aside0.mk (Kd.N_F HN11.out)
 clear HN11
 go_wp2_with (((with_reducible refine gate_dst (N := 9) rfl ?_); (try (refine gate_guard (by rfl) ?_; dsimp only)); refine Kd.N_lit k27 w.heap.size 27 rfl (N' := 9) rfl (xs := [(⟨t1, t2, t3, t4, t5, t6, t7, t8⟩ : S27)]) (inner := [.int .i64 t1, .int .i64 t2, .bool t3, .int .i64 t4, .string t5, .string t6, .string t7, .slice A12 t8.length cp13]) (ok := (fun k_ => (w.heap.size ≤ k_))) (okp := (fun k_ => (w.heap.size ≤ k_))) ?hr ?hp (fun _ hk_ => hk_) ?hf HB.out (below_size HB.out) (by first | simp | decide) ?_; (case hr => first | (go_simp; done) | (go_simp; rfl)); (case hp => exact (Reps.c8 (k27_mkF _ _ (⟨t1, t2, t3, t4, t5, t6, t7, t8⟩ : S27) HL15.out (Kd.F_mono (ok := (fun k_ => (w.heap.size ≤ k_))) HF14.out (fun k_ hk_ => hk_))) (Reps.none _ _))); (case hf => exact (show ∀ k_, w10.heap.size ≤ k_ → (fun k_ => (w.heap.size ≤ k_)) k_ from fun k_ h_ => (Nat.le_trans (below_size HB.out) h_)) _ (Nat.le_refl _)); intro v16 w17 hn1 hb1 hg1 hat1); replace hat1 := Aside0.mk hat1; refine stop_ ?_)
 refine Stop.go ?_
 replace hat1 := hat1.out
 have hbe := MW.grown_below hg1
 have hba := MW.base_of hat1
 replace HB := Aside0.mk hb1
 have HN18 := Aside0.mk hn1
 clear hn1 hb1 hg1 hat1 hbe hba
 obtain ⟨A19, cp20, he_⟩ := Kd.N_slice HN18.out
 subst he_
 have HL22 := Aside0.mk (Kd.N_reads' HN18.out).2.1
 have HF21 := Aside0.mk (Kd.N_F HN18.out)
 clear HN18
 replace HH := zd HH
 obtain ⟨⟨t23, t24⟩, At25, HH⟩ := HH
 dsimp only at HH
 go_wp2_with ((with_reducible refine gc 12 rfl ?_); refine zc 12 (some 10) Try.func12 #[.slice A19 [(⟨t1, t2, t3, t4, t5, t6, t7, t8⟩ : S27)].length cp20] (h := ?_); (with_reducible refine (reply_Encode.calls k (fun k_ => (w.heap.size ≤ k_)) _ _ [(⟨t1, t2, t3, t4, t5, t6, t7, t8⟩ : S27)] t23 t24 _ (Kd.F_mono (ok := (fun k_ => (w.heap.size ≤ k_))) HF21.out (fun k_ hk_ => hk_)) HL22.out At25.out).mono ?_); rintro e w26 ⟨v27, rfl, hn27, hb⟩; refine ⟨_, rfl, ?_⟩)
 refine Stop.go ?_
 have hba := Kd.N_base hn27
 have HN27 := znl (ok2 := (fun k_ => (w.heap.size ≤ k_))) hn27 (below_size HB.out) (fun k_ hk_ => hk_.elim (fun h_ => h_) (fun h_ => (Nat.le_trans (below_size HB.out) h_)))
 replace HB := zhb HB.out hb
 clear hn27 hba hb
 replace HH := zd HH
 obtain ⟨⟨t28, t29, t30, t31, t32, t33, t34, t35, t36⟩, At37, HH⟩ := HH
 dsimp only at HH
 go_wp2_with ((with_reducible refine gc 15 rfl ?_); refine zc 15 (some 14) Try.func15 #[.string (⟨#[48, 12, 2, 1, 1, 101, 7, 10, 1, 0, 4, 0, 4, 0]⟩ : ByteArray)] (h := ?_); (with_reducible refine (reply_Decode.calls k  (⟨#[48, 12, 2, 1, 1, 101, 7, 10, 1, 0, 4, 0, 4, 0]⟩ : ByteArray) t28 t29 t30 t31 t32 t33 t34 t35 t36 _  At37.out).mono ?_); rintro e w38 ⟨A39, cp39, rfl, hl39, hn39, hb⟩; refine ⟨_, rfl, ?_⟩)
 refine Stop.go ?_
 have HL39 := Aside0.mk hl39
 have HF39 := Aside0.mk (Kd.F_mono hn39 (fun k_ h_ => ⟨(Nat.le_trans (below_size HB.out) h_), Kd.fresh' (Kd.N_lt HN27.out) k_ h_⟩) : Kd.F k46 _ (fun k_ => (w.heap.size ≤ k_) ∧ some k_ ≠ (v27 : Value).ownBlock) _ _ _)
 clear hn39 hl39
 replace HN27 := znb HN27.out hb
 replace HB := zhb HB.out hb
 clear hb
 go_wp2_with ((with_reducible refine gd 3 rfl ?_); refine zb 3 27 #[.int .i64 0, .int .i64 0, .bool false, .int .i64 0, .string (⟨#[]⟩ : ByteArray), .string (⟨#[]⟩ : ByteArray), .string (⟨#[]⟩ : ByteArray), .slice none 0 0] (h := ?_); intro g40 hg w41 BKg40 hb)
 refine Stop.go ?_
 have GEg40 := zge hg (below_size HB.out)
 replace HF39 := zfe HF39.out hg hb
 replace HN27 := zne HN27.out hg hb
 replace HB := zhb HB.out hb
 clear hg hb
 obtain ⟨jG, jH, jI, jJ, jK, jL, jM, jN, jO, jP, jQ, jR, jS, jT, jU, jV⟩ := MB.lay8 BKg40.out
 go_wp2_with ((with_reducible refine gs 27 3 rfl ?_); refine zs 27 3 #[.int .i64 t28, .int .i64 t29, .bool t30, .int .i64 t31, .string t32, .string t33, .string t34, .slice A39 t35.length cp39] BKg40.out [.int .i64 t28, .int .i64 t29, .bool t30, .int .i64 t31, .string t32, .string t33, .string t34, .slice A39 t35.length cp39] (h := ?_); intro w58 hbk hg)
 refine Stop.go ?_
 replace HF39 := zfg HF39.out hg fun k_ hk_ => hk_.2
 replace HN27 := zng HN27.out hg fun k_ hk_ => hk_.2
 replace HB := zhg HB.out hg (below_size HB.out) GEg40
 replace BKg40 := hbk
 clear hg hbk
 clear jG jH jI jJ jK jL jM jN jO jP jQ jR jS jT jU jV
 obtain ⟨jX, jY, jZ, j10, j11, j12, j13, j14, j15, j16, j17, j18, j19, j1a, j1b, j1c⟩ := MB.lay8 BKg40.out
 replace HH := zd HH
 obtain ⟨⟨t75, t76, t77, t78, t79, t80, t81, t82, t83⟩, At84, HH⟩ := HH
 dsimp only at HH
 go_wp2_with ((with_reducible refine gc 15 rfl ?_); refine zc 15 (some 18) Try.func15 #[.string (⟨#[48, 0]⟩ : ByteArray)] (h := ?_); (with_reducible refine (reply_Decode.calls k  (⟨#[48, 0]⟩ : ByteArray) t75 t76 t77 t78 t79 t80 t81 t82 t83 _  At84.out).mono ?_); rintro e w85 ⟨A86, cp86, rfl, hl86, hn86, hb⟩; refine ⟨_, rfl, ?_⟩)
 refine Stop.go ?_
 clear hn86 hl86
 replace HF39 := zfb HF39.out hb
 replace HN27 := znb HN27.out hb
 replace BKg40 := zbb BKg40.out hb
 replace HB := zhb HB.out hb
 clear hb
 clear jX jY jZ j10 j11 j12 j13 j14 j15 j16 j17 j18 j19 j1a j1b j1c
 obtain ⟨j1p, j1q, j1r, j1s, j1t, j1u, j1v, j1w, j1x, j1y, j1z, j1A, j1B, j1C, j1D, j1E⟩ := MB.lay8 BKg40.out
 go_wp2_with ((with_reducible refine gd 5 rfl ?_); refine zb 5 27 #[.int .i64 0, .int .i64 0, .bool false, .int .i64 0, .string (⟨#[]⟩ : ByteArray), .string (⟨#[]⟩ : ByteArray), .string (⟨#[]⟩ : ByteArray), .slice none 0 0] (h := ?_); intro g103 hg w104 BKg103 hb)
 refine Stop.go ?_
 have GEg103 := zge hg (below_size HB.out)
 have NEg40_g103 := znq hg BKg40.out
 replace HF39 := zfe HF39.out hg hb
 replace HN27 := zne HN27.out hg hb
 replace BKg40 := zbb BKg40.out hb
 replace HB := zhb HB.out hb
 clear hg hb
 clear j1p j1q j1r j1s j1t j1u j1v j1w j1x j1y j1z j1A j1B j1C j1D j1E
 obtain ⟨j1H, j1I, j1J, j1K, j1L, j1M, j1N, j1O, j1P, j1Q, j1R, j1S, j1T, j1U, j1V, j1W⟩ := MB.lay8 BKg40.out
 obtain ⟨j1X, j1Y, j1Z, j20, j21, j22, j23, j24, j25, j26, j27, j28, j29, j2a, j2b, j2c⟩ := MB.lay8 BKg103.out
 go_wp2_with ((with_reducible refine gs 27 5 rfl ?_); refine zs 27 5 #[.int .i64 t75, .int .i64 t76, .bool t77, .int .i64 t78, .string t79, .string t80, .string t81, .slice A86 t82.length cp86] BKg103.out [.int .i64 t75, .int .i64 t76, .bool t77, .int .i64 t78, .string t79, .string t80, .string t81, .slice A86 t82.length cp86] (h := ?_); intro w137 hbk hg)
 refine Stop.go ?_
 replace HF39 := zfg HF39.out hg fun k_ hk_ => hk_.2
 replace HN27 := zng HN27.out hg fun k_ hk_ => hk_.2
 replace BKg40 := zbg BKg40.out hg NEg40_g103
 replace HB := zhg HB.out hg (below_size HB.out) GEg103
 replace BKg103 := hbk
 clear hg hbk
 clear j1H j1I j1J j1K j1L j1M j1N j1O j1P j1Q j1R j1S j1T j1U j1V j1W j1X j1Y j1Z j20 j21 j22 j23 j24 j25 j26 j27 j28 j29 j2a j2b j2c
 obtain ⟨j2e, j2f, j2g, j2h, j2i, j2j, j2k, j2l, j2m, j2n, j2o, j2p, j2q, j2r, j2s, j2t⟩ := MB.lay8 BKg40.out
 obtain ⟨j2u, j2v, j2w, j2x, j2y, j2z, j2A, j2B, j2C, j2D, j2E, j2F, j2G, j2H, j2I, j2J⟩ := MB.lay8 BKg103.out
 obtain ⟨A170, cp171, he_⟩ := Kd.N_slice HN27.out
 subst he_
 replace HH := zqe HH
 rcases HH with ⟨HH, hk173, hk174⟩ | ⟨HH, hk290, hk291⟩
 ·replace HH := zqno 0 HH
  obtain ⟨HH, hk176, hk177, hk178, hk179⟩ := HH
  have p180 : 0 ≤ (0 : Int) := by decide
  have q180 : (0 : Int) < (t23.length : Int) := of_decide_eq_true (by first | (with_reducible assumption) | assumption)
  obtain ⟨ad180, e180, hx180_0⟩ := Kd.at_string (Kd.F_now (Kd.N_F HN27.out)) (0 : Int) p180 q180
  cases e180
  (try simp only [show ((0 : Int)).toNat = 0 from rfl] at hx180_0)
  (try rw [Addr.add_zero'] at hx180_0)
  replace p180 := eq_true p180
  replace q180 := eq_true q180
  replace HH := zqe HH
  rcases HH with ⟨HH, hk182, hk183⟩ | ⟨HH, hk284, hk285⟩
  ·replace HH := zqe HH
   rcases HH with ⟨HH, hk185, hk186⟩ | ⟨HH, hk282, hk283⟩
   ·replace HH := zqe HH
    rcases HH with ⟨HH, hk188, hk189⟩ | ⟨HH, hk280, hk281⟩
    ·replace HH := zqe HH
     rcases HH with ⟨HH, hk191, hk192⟩ | ⟨HH, hk278, hk279⟩
     ·replace HH := zqe HH
      rcases HH with ⟨HH, hk194, hk195⟩ | ⟨HH, hk276, hk277⟩
      ·replace HH := zqe HH
       rcases HH with ⟨HH, hk197, hk198⟩ | ⟨HH, hk274, hk275⟩
       ·replace HH := zd HH
        obtain ⟨t199, At200, HH⟩ := HH
        go_wp2_with ((with_reducible refine gc 10 rfl ?_); refine zc 10 (some 54) Try.func10 #[.agg #[.int .i64 0, .int .i64 0, .bool false, .int .i64 0, .string (⟨#[]⟩ : ByteArray), .string (⟨#[]⟩ : ByteArray), .string (⟨#[]⟩ : ByteArray), .slice none 0 0]] (h := ?_); (refine (reply_Check.calls k (fun k_ => (((w.heap.size ≤ k_) ∧ some k_ ≠ ((.slice (some ad180) t23.length cp171) : Value).ownBlock) ∧ k_ ≠ g40) ∧ k_ ≠ g103) 0 0 false 0 (⟨#[]⟩ : ByteArray) (⟨#[]⟩ : ByteArray) (⟨#[]⟩ : ByteArray) _ _ ([] : List (S46)) t199 _ (Kd.F_nil _ _ _) (Nat.le_refl _) At200.out).mono ?_); rintro e w201 ⟨rfl, hb⟩; refine ⟨_, rfl, ?_⟩)
        refine Stop.go ?_
        replace HF39 := zfb HF39.out hb
        replace BKg40 := zbb BKg40.out hb
        replace BKg103 := zbb BKg103.out hb
        replace HB := zhb HB.out hb
        clear hb
        clear j2e j2f j2g j2h j2i j2j j2k j2l j2m j2n j2o j2p j2q j2r j2s j2t j2u j2v j2w j2x j2y j2z j2A j2B j2C j2D j2E j2F j2G j2H j2I j2J hx180_0 p180 q180
        obtain ⟨j3g, j3h, j3i, j3j, j3k, j3l, j3m, j3n, j3o, j3p, j3q, j3r, j3s, j3t, j3u, j3v⟩ := MB.lay8 BKg40.out
        obtain ⟨j3w, j3x, j3y, j3z, j3A, j3B, j3C, j3D, j3E, j3F, j3G, j3H, j3I, j3J, j3K, j3L⟩ := MB.lay8 BKg103.out
        replace HH := zqe HH
        rcases HH with ⟨HH, hk235, hk236⟩ | ⟨HH, hk272, hk273⟩
        ·replace HH := zd HH
         obtain ⟨t237, At238, HH⟩ := HH
         go_wp2_with ((with_reducible refine gc 18 rfl ?_); refine zc 18 (some 60) Try.func18 #[.agg #[.int .i64 t28, .int .i64 t29, .bool t30, .int .i64 t31, .string t32, .string t33, .string t34, .slice A39 t35.length cp39], .agg #[.int .i64 t28, .int .i64 t29, .bool t30, .int .i64 t31, .string t32, .string t33, .string t34, .slice A39 t35.length cp39]] (h := ?_); (with_reducible refine (reply_Same.calls k (fun k_ => (((w.heap.size ≤ k_) ∧ some k_ ≠ ((.slice (some ad180) t23.length cp171) : Value).ownBlock) ∧ k_ ≠ g40) ∧ k_ ≠ g103) t28 t29 t30 t31 t32 t33 t34 _ _ t35 t28 t29 t30 t31 t32 t33 t34 _ _ t35 t237 _ (Kd.F_mono (ok := (fun k_ => (((w.heap.size ≤ k_) ∧ some k_ ≠ ((.slice (some ad180) t23.length cp171) : Value).ownBlock) ∧ k_ ≠ g40) ∧ k_ ≠ g103)) HF39.out (fun k_ hk_ => hk_)) HL39.out (Kd.F_mono (ok := (fun k_ => (((w.heap.size ≤ k_) ∧ some k_ ≠ ((.slice (some ad180) t23.length cp171) : Value).ownBlock) ∧ k_ ≠ g40) ∧ k_ ≠ g103)) HF39.out (fun k_ hk_ => hk_)) HL39.out At238.out).mono ?_); rintro e w239 ⟨rfl, hb⟩; refine ⟨_, rfl, ?_⟩)
         refine Stop.go ?_
         replace BKg40 := zbb BKg40.out hb
         replace BKg103 := zbb BKg103.out hb
         replace HB := zhb HB.out hb
         clear hb
         clear j3g j3h j3i j3j j3k j3l j3m j3n j3o j3p j3q j3r j3s j3t j3u j3v j3w j3x j3y j3z j3A j3B j3C j3D j3E j3F j3G j3H j3I j3J j3K j3L
         obtain ⟨j3S, j3T, j3U, j3V, j3W, j3X, j3Y, j3Z, j40, j41, j42, j43, j44, j45, j46, j47⟩ := MB.lay8 BKg40.out
         obtain ⟨j48, j49, j4a, j4b, j4c, j4d, j4e, j4f, j4g, j4h, j4i, j4j, j4k, j4l, j4m, j4n⟩ := MB.lay8 BKg103.out
         have H := HH.out
         obtain rfl := Option.some.inj H
         clear HH
         go_wp2
         go_ret
         exact ⟨by first | rfl | (simp; done) | (simp [*]; done), HB.out⟩
        have H := HH.out
        obtain rfl := Option.some.inj H
        clear HH
        go_wp2
        go_ret
        exact ⟨by first | rfl | (simp; done) | (simp [*]; done), HB.out⟩
       have H := HH.out
       obtain rfl := Option.some.inj H
       clear HH
       go_wp2
       go_ret
       exact ⟨by first | rfl | (simp; done) | (simp [*]; done), HB.out⟩
      have H := HH.out
      obtain rfl := Option.some.inj H
      clear HH
      go_wp2
      go_ret
      exact ⟨by first | rfl | (simp; done) | (simp [*]; done), HB.out⟩
     have H := HH.out
     obtain rfl := Option.some.inj H
     clear HH
     go_wp2
     go_ret
     exact ⟨by first | rfl | (simp; done) | (simp [*]; done), HB.out⟩
    have H := HH.out
    obtain rfl := Option.some.inj H
    clear HH
    go_wp2
    go_ret
    exact ⟨by first | rfl | (simp; done) | (simp [*]; done), HB.out⟩
   have H := HH.out
   obtain rfl := Option.some.inj H
   clear HH
   go_wp2
   go_ret
   exact ⟨by first | rfl | (simp; done) | (simp [*]; done), HB.out⟩
  have H := HH.out
  obtain rfl := Option.some.inj H
  clear HH
  go_wp2
  go_ret
  exact ⟨by first | rfl | (simp; done) | (simp [*]; done), HB.out⟩
 have H := HH.out
 obtain rfl := Option.some.inj H
 clear HH
 go_wp2
 go_ret
 exact ⟨by first | rfl | (simp; done) | (simp [*]; done), HB.out⟩

/-! ### toponymlaw27_ReplyForms: function 7 -/
def toponymlaw27_ReplyForms.f (k : Nat) (a0 : ByteArray) : Option (Bool) := (reply_Decode.f k a0).bind fun bt1 => (if bt1.2.2.2.2.2.2.2.2 = 0 then ((reply_Encode.f k [(⟨bt1.1, bt1.2.1, bt1.2.2.1, bt1.2.2.2.1, bt1.2.2.2.2.1, bt1.2.2.2.2.2.1, bt1.2.2.2.2.2.2.1, bt1.2.2.2.2.2.2.2.1⟩ : S27)]).bind fun bt74 => (if bt74.2 = 0 then (if (bt74.1.length : Int) = 1 then (if 0 < (bt74.1.length : Int) then (if (rdOf ByteArray.empty bt74.1 (0 : Int)).toList = a0.toList then ((reply_Check.f k bt1.1 bt1.2.1 bt1.2.2.1 bt1.2.2.2.1 bt1.2.2.2.2.1 bt1.2.2.2.2.2.1 bt1.2.2.2.2.2.2.1 bt1.2.2.2.2.2.2.2.1).bind fun t112 => (if t112 = 0 then ((toponymlaw27_awake.f k ).bind fun t134 => (some t134)) else (some false))) else (some false)) else (none)) else (some false)) else (some false))) else ((toponymref27_Same.f k bt1.1 bt1.2.1 bt1.2.2.1 bt1.2.2.2.1 bt1.2.2.2.2.1 bt1.2.2.2.2.2.1 bt1.2.2.2.2.2.2.1 bt1.2.2.2.2.2.2.2.1 0 0 false 0 (⟨#[]⟩ : ByteArray) (⟨#[]⟩ : ByteArray) (⟨#[]⟩ : ByteArray) ([] : List (S46))).bind fun t167 => (if t167 = true then ((toponymlaw27_awake.f k ).bind fun t187 => (some t187)) else (some false))))
theorem toponymlaw27_ReplyForms.mono : ∀ a0_ k, LeO (toponymlaw27_ReplyForms.f k a0_) (toponymlaw27_ReplyForms.f (k + 1) a0_) := by
 intro a0_ k
 unfold toponymlaw27_ReplyForms.f
 repeat' first
   | (with_reducible exact reply_Check.mono _ _ _ _ _ _ _ _ _)
   | (with_reducible exact reply_Decode.mono _ _)
   | (with_reducible exact reply_Encode.mono _ _)
   | (with_reducible exact toponymlaw27_awake.mono _)
   | (with_reducible exact toponymref27_Same.mono _ _ _ _ _ _ _ _ _ _ _ _ _ _ _ _ _)
   | (with_reducible exact LeO.refl _)
   | (with_reducible exact LeO.none _)
   | (with_reducible refine LeO.ite ?_ ?_)
   | (with_reducible refine LeO.bind ?_ (fun _ => ?_))
set_option maxHeartbeats 8000000 in
set_option maxRecDepth 100000 in
theorem toponymlaw27_ReplyForms.calls (k : Nat) (a0 : ByteArray) (r : Bool) (w : World) (h : toponymlaw27_ReplyForms.f k a0 = some r) :
  Calls Try.prog 7 #[.string a0] w (fun e w' => e = .returned (.bool r) ∧ Below w.heap.size w w') := by
 have HH := Aside0.mk (show ((reply_Decode.f k a0).bind fun bt1 => (if bt1.2.2.2.2.2.2.2.2 = 0 then ((reply_Encode.f k [(⟨bt1.1, bt1.2.1, bt1.2.2.1, bt1.2.2.2.1, bt1.2.2.2.2.1, bt1.2.2.2.2.2.1, bt1.2.2.2.2.2.2.1, bt1.2.2.2.2.2.2.2.1⟩ : S27)]).bind fun bt74 => (if bt74.2 = 0 then (if (bt74.1.length : Int) = 1 then (if 0 < (bt74.1.length : Int) then (if (rdOf ByteArray.empty bt74.1 (0 : Int)).toList = a0.toList then ((reply_Check.f k bt1.1 bt1.2.1 bt1.2.2.1 bt1.2.2.2.1 bt1.2.2.2.2.1 bt1.2.2.2.2.2.1 bt1.2.2.2.2.2.2.1 bt1.2.2.2.2.2.2.2.1).bind fun t112 => (if t112 = 0 then ((toponymlaw27_awake.f k ).bind fun t134 => (some t134)) else (some false))) else (some false)) else (none)) else (some false)) else (some false))) else ((toponymref27_Same.f k bt1.1 bt1.2.1 bt1.2.2.1 bt1.2.2.2.1 bt1.2.2.2.2.1 bt1.2.2.2.2.2.1 bt1.2.2.2.2.2.2.1 bt1.2.2.2.2.2.2.2.1 0 0 false 0 (⟨#[]⟩ : ByteArray) (⟨#[]⟩ : ByteArray) (⟨#[]⟩ : ByteArray) ([] : List (S46))).bind fun t167 => (if t167 = true then ((toponymlaw27_awake.f k ).bind fun t187 => (some t187)) else (some false))))) = some r from h)
 clear h
 have HB := Aside0.mk (Below.refl w.heap.size w)
 have hu27 := Try.underlying27
 go_enter Try.func7, Try.ntmps7
 replace HH := zd HH
 obtain ⟨⟨t1, t2, t3, t4, t5, t6, t7, t8, t9⟩, At10, HH⟩ := HH
 dsimp only at HH
 go_wp2_with ((with_reducible refine gc 15 rfl ?_); refine zc 15 (some 9) Try.func15 #[.string a0] (h := ?_); (with_reducible refine (reply_Decode.calls k  a0 t1 t2 t3 t4 t5 t6 t7 t8 t9 _  At10.out).mono ?_); rintro e w11 ⟨A12, cp12, rfl, hl12, hn12, hb⟩; refine ⟨_, rfl, ?_⟩)
 refine Stop.go ?_
 have HL12 := Aside0.mk hl12
 have HF12 := Aside0.mk (Kd.F_mono hn12 (fun k_ h_ => (Nat.le_trans (below_size HB.out) h_)) : Kd.F k46 _ (fun k_ => (w.heap.size ≤ k_)) _ _ _)
 clear hn12 hl12
 replace HB := zhb HB.out hb
 clear hb
 go_wp2_with ((with_reducible refine gd 3 rfl ?_); refine zb 3 27 #[.int .i64 0, .int .i64 0, .bool false, .int .i64 0, .string (⟨#[]⟩ : ByteArray), .string (⟨#[]⟩ : ByteArray), .string (⟨#[]⟩ : ByteArray), .slice none 0 0] (h := ?_); intro g13 hg w14 BKg13 hb)
 refine Stop.go ?_
 have GEg13 := zge hg (below_size HB.out)
 replace HF12 := zfe HF12.out hg hb
 replace HB := zhb HB.out hb
 clear hg hb
 obtain ⟨jf, jg, jh, ji, jj, jk, jl, jm, jn, jo, jp, jq, jr, js, jt, ju⟩ := MB.lay8 BKg13.out
 go_wp2_with ((with_reducible refine gs 27 3 rfl ?_); refine zs 27 3 #[.int .i64 t1, .int .i64 t2, .bool t3, .int .i64 t4, .string t5, .string t6, .string t7, .slice A12 t8.length cp12] BKg13.out [.int .i64 t1, .int .i64 t2, .bool t3, .int .i64 t4, .string t5, .string t6, .string t7, .slice A12 t8.length cp12] (h := ?_); intro w31 hbk hg)
 refine Stop.go ?_
 replace HF12 := zfg HF12.out hg fun k_ hk_ => hk_.2
 replace HB := zhg HB.out hg (below_size HB.out) GEg13
 replace BKg13 := hbk
 clear hg hbk
 clear jf jg jh ji jj jk jl jm jn jo jp jq jr js jt ju
 obtain ⟨jw, jx, jy, jz, jA, jB, jC, jD, jE, jF, jG, jH, jI, jJ, jK, jL⟩ := MB.lay8 BKg13.out
 replace HH := zqe HH
 rcases HH with ⟨HH, hk49, hk50⟩ | ⟨HH, hk165, hk166⟩
 ·go_wp2_with (((with_reducible refine gate_dst (N := 22) rfl ?_); (try (refine gate_guard (by rfl) ?_; dsimp only)); refine Kd.N_lit k27 w.heap.size 27 rfl (N' := 22) rfl (xs := [(⟨t1, t2, t3, t4, t5, t6, t7, t8⟩ : S27)]) (inner := [.int .i64 t1, .int .i64 t2, .bool t3, .int .i64 t4, .string t5, .string t6, .string t7, .slice A12 t8.length cp12]) (ok := (fun k_ => (w.heap.size ≤ k_) ∧ k_ ≠ g13)) (okp := (fun k_ => (w.heap.size ≤ k_) ∧ k_ ≠ g13)) ?hr ?hp (fun _ hk_ => hk_) ?hf HB.out (below_size HB.out) (by first | simp | decide) ?_; (case hr => first | (go_simp; done) | (go_simp; rfl)); (case hp => exact (Reps.c8 (k27_mkF _ _ (⟨t1, t2, t3, t4, t5, t6, t7, t8⟩ : S27) HL12.out (Kd.F_mono (ok := (fun k_ => (w.heap.size ≤ k_) ∧ k_ ≠ g13)) HF12.out (fun k_ hk_ => hk_))) (Reps.none _ _))); (case hf => exact (show ∀ k_, w31.heap.size ≤ k_ → (fun k_ => (w.heap.size ≤ k_) ∧ k_ ≠ g13) k_ from fun k_ h_ => ⟨(Nat.le_trans (below_size HB.out) h_), Kd.freshB (g := g13) BKg13.out k_ h_⟩) _ (Nat.le_refl _)); intro v51 w52 hn1 hb1 hg1 hat1); replace hat1 := Aside0.mk hat1; refine stop_ ?_)
  refine Stop.go ?_
  replace hat1 := hat1.out
  have hbe := MW.grown_below hg1
  have hba := MW.base_of hat1
  replace HF12 := Aside0.mk (Kd.F_mono (Kd.F_elder' (ok := (fun k_ => (w.heap.size ≤ k_) ∧ k_ ≠ g13)) HF12.out hba hbe) (fun k_ hk_ => hk_) : Kd.F k46 _ (fun k_ => ((w.heap.size ≤ k_) ∧ k_ ≠ g13) ∧ some k_ ≠ (v51 : Value).ownBlock) _ _ _)
  replace BKg13 := Aside0.mk (blk_below (g := g13) BKg13.out hbe)
  replace HB := Aside0.mk hb1
  have HN53 := Aside0.mk hn1
  clear hn1 hb1 hg1 hat1 hbe hba
  clear jw jx jy jz jA jB jC jD jE jF jG jH jI jJ jK jL
  obtain ⟨jS, jT, jU, jV, jW, jX, jY, jZ, j10, j11, j12, j13, j14, j15, j16, j17⟩ := MB.lay8 BKg13.out
  obtain ⟨A70, cp71, he_⟩ := Kd.N_slice HN53.out
  subst he_
  have HL73 := Aside0.mk (Kd.N_reads' HN53.out).2.1
  have HF72 := Aside0.mk (Kd.N_F HN53.out)
  clear HN53
  replace HF12 := Aside0.mk (Kd.F_mono (ok := (fun k_ => ((w.heap.size ≤ k_) ∧ k_ ≠ g13) ∧ some k_ ≠ ((.slice A70 [(⟨t1, t2, t3, t4, t5, t6, t7, t8⟩ : S27)].length cp71) : Value).ownBlock)) HF12.out (fun k_ hk_ => hk_.1) : Kd.F k46 _ (fun k_ => (w.heap.size ≤ k_) ∧ k_ ≠ g13) _ _ _)
  replace HH := zd HH
  obtain ⟨⟨t74, t75⟩, At76, HH⟩ := HH
  dsimp only at HH
  go_wp2_with ((with_reducible refine gc 12 rfl ?_); refine zc 12 (some 23) Try.func12 #[.slice A70 [(⟨t1, t2, t3, t4, t5, t6, t7, t8⟩ : S27)].length cp71] (h := ?_); (with_reducible refine (reply_Encode.calls k (fun k_ => (w.heap.size ≤ k_) ∧ k_ ≠ g13) _ _ [(⟨t1, t2, t3, t4, t5, t6, t7, t8⟩ : S27)] t74 t75 _ (Kd.F_mono (ok := (fun k_ => (w.heap.size ≤ k_) ∧ k_ ≠ g13)) HF72.out (fun k_ hk_ => hk_)) HL73.out At76.out).mono ?_); rintro e w77 ⟨v78, rfl, hn78, hb⟩; refine ⟨_, rfl, ?_⟩)
  refine Stop.go ?_
  have hba := Kd.N_base hn78
  have HN78 := znl (ok2 := (fun k_ => (w.heap.size ≤ k_) ∧ k_ ≠ g13)) hn78 (below_size HB.out) (fun k_ hk_ => hk_.elim (fun h_ => h_) (fun h_ => ⟨(Nat.le_trans (below_size HB.out) h_), Kd.freshB (g := g13) BKg13.out k_ h_⟩))
  replace HF12 := zfr (v := v78) HF12.out hba hb
  replace BKg13 := zbb BKg13.out hb
  replace HB := zhb HB.out hb
  clear hn78 hba hb
  clear jS jT jU jV jW jX jY jZ j10 j11 j12 j13 j14 j15 j16 j17
  obtain ⟨j1h, j1i, j1j, j1k, j1l, j1m, j1n, j1o, j1p, j1q, j1r, j1s, j1t, j1u, j1v, j1w⟩ := MB.lay8 BKg13.out
  replace HH := zqe HH
  rcases HH with ⟨HH, hk96, hk97⟩ | ⟨HH, hk163, hk164⟩
  ·obtain ⟨A98, cp99, he_⟩ := Kd.N_slice HN78.out
   subst he_
   replace HH := zqe HH
   rcases HH with ⟨HH, hk101, hk102⟩ | ⟨HH, hk161, hk162⟩
   ·replace HH := zqno 0 HH
    obtain ⟨HH, hk104, hk105, hk106, hk107⟩ := HH
    have p108 : 0 ≤ (0 : Int) := by decide
    have q108 : (0 : Int) < (t74.length : Int) := of_decide_eq_true (by first | (with_reducible assumption) | assumption)
    obtain ⟨ad108, e108, hx108_0⟩ := Kd.at_string (Kd.F_now (Kd.N_F HN78.out)) (0 : Int) p108 q108
    cases e108
    (try simp only [show ((0 : Int)).toNat = 0 from rfl] at hx108_0)
    (try rw [Addr.add_zero'] at hx108_0)
    replace p108 := eq_true p108
    replace q108 := eq_true q108
    replace HH := zqe HH
    rcases HH with ⟨HH, hk110, hk111⟩ | ⟨HH, hk155, hk156⟩
    ·replace HH := zd HH
     obtain ⟨t112, At113, HH⟩ := HH
     go_wp2_with ((with_reducible refine gc 10 rfl ?_); refine zc 10 (some 42) Try.func10 #[.agg #[.int .i64 t1, .int .i64 t2, .bool t3, .int .i64 t4, .string t5, .string t6, .string t7, .slice A12 t8.length cp12]] (h := ?_); (with_reducible refine (reply_Check.calls k (fun k_ => ((w.heap.size ≤ k_) ∧ some k_ ≠ ((.slice (some ad108) t74.length cp99) : Value).ownBlock) ∧ k_ ≠ g13) t1 t2 t3 t4 t5 t6 t7 _ _ t8 t112 _ (Kd.F_mono (ok := (fun k_ => ((w.heap.size ≤ k_) ∧ k_ ≠ g13) ∧ some k_ ≠ ((.slice (some ad108) t74.length cp99) : Value).ownBlock)) HF12.out (fun k_ hk_ => ⟨⟨hk_.1.1, hk_.2⟩, hk_.1.2⟩)) HL12.out At113.out).mono ?_); rintro e w114 ⟨rfl, hb⟩; refine ⟨_, rfl, ?_⟩)
     refine Stop.go ?_
     replace BKg13 := zbb BKg13.out hb
     replace HB := zhb HB.out hb
     clear hb
     clear j1h j1i j1j j1k j1l j1m j1n j1o j1p j1q j1r j1s j1t j1u j1v j1w hx108_0 p108 q108
     obtain ⟨j1R, j1S, j1T, j1U, j1V, j1W, j1X, j1Y, j1Z, j20, j21, j22, j23, j24, j25, j26⟩ := MB.lay8 BKg13.out
     replace HH := zqe HH
     rcases HH with ⟨HH, hk132, hk133⟩ | ⟨HH, hk153, hk154⟩
     ·replace HH := zd HH
      obtain ⟨t134, At135, HH⟩ := HH
      go_wp2_with ((with_reducible refine gc 8 rfl ?_); refine zc 8 (some 46) Try.func8 #[] (h := ?_); (with_reducible refine (toponymlaw27_awake.calls k  t134 _  At135.out).mono ?_); rintro e w136 ⟨rfl, hb⟩; refine ⟨_, rfl, ?_⟩)
      refine Stop.go ?_
      replace BKg13 := zbb BKg13.out hb
      replace HB := zhb HB.out hb
      clear hb
      clear j1R j1S j1T j1U j1V j1W j1X j1Y j1Z j20 j21 j22 j23 j24 j25 j26
      obtain ⟨j2d, j2e, j2f, j2g, j2h, j2i, j2j, j2k, j2l, j2m, j2n, j2o, j2p, j2q, j2r, j2s⟩ := MB.lay8 BKg13.out
      have H := HH.out
      obtain rfl := Option.some.inj H
      clear HH
      go_wp2
      go_ret
      exact ⟨by first | rfl | (simp; done) | (simp [*]; done), HB.out⟩
     have H := HH.out
     obtain rfl := Option.some.inj H
     clear HH
     go_wp2
     go_ret
     exact ⟨by first | rfl | (simp; done) | (simp [*]; done), HB.out⟩
    have H := HH.out
    obtain rfl := Option.some.inj H
    clear HH
    go_wp2
    go_ret
    exact ⟨by first | rfl | (simp; done) | (simp [*]; done), HB.out⟩
   have H := HH.out
   obtain rfl := Option.some.inj H
   clear HH
   go_wp2
   go_ret
   exact ⟨by first | rfl | (simp; done) | (simp [*]; done), HB.out⟩
  have H := HH.out
  obtain rfl := Option.some.inj H
  clear HH
  go_wp2
  go_ret
  exact ⟨by first | rfl | (simp; done) | (simp [*]; done), HB.out⟩
 replace HH := zd HH
 obtain ⟨t167, At168, HH⟩ := HH
 go_wp2_with ((with_reducible refine gc 17 rfl ?_); refine zc 17 (some 16) Try.func17 #[.agg #[.int .i64 t1, .int .i64 t2, .bool t3, .int .i64 t4, .string t5, .string t6, .string t7, .slice A12 t8.length cp12], .agg #[.int .i64 0, .int .i64 0, .bool false, .int .i64 0, .string (⟨#[]⟩ : ByteArray), .string (⟨#[]⟩ : ByteArray), .string (⟨#[]⟩ : ByteArray), .slice none 0 0]] (h := ?_); (refine (toponymref27_Same.calls k (fun k_ => (w.heap.size ≤ k_) ∧ k_ ≠ g13) t1 t2 t3 t4 t5 t6 t7 _ _ t8 0 0 false 0 (⟨#[]⟩ : ByteArray) (⟨#[]⟩ : ByteArray) (⟨#[]⟩ : ByteArray) _ _ ([] : List (S46)) t167 _ (Kd.F_mono (ok := (fun k_ => (w.heap.size ≤ k_) ∧ k_ ≠ g13)) HF12.out (fun k_ hk_ => hk_)) HL12.out (Kd.F_nil _ _ _) (Nat.le_refl _) At168.out).mono ?_); rintro e w169 ⟨rfl, hb⟩; refine ⟨_, rfl, ?_⟩)
 refine Stop.go ?_
 replace BKg13 := zbb BKg13.out hb
 replace HB := zhb HB.out hb
 clear hb
 clear jw jx jy jz jA jB jC jD jE jF jG jH jI jJ jK jL
 obtain ⟨j2K, j2L, j2M, j2N, j2O, j2P, j2Q, j2R, j2S, j2T, j2U, j2V, j2W, j2X, j2Y, j2Z⟩ := MB.lay8 BKg13.out
 by_cases c186 : t167 = true
 ·replace HH := MW.hpos HH c186
  subst c186
  replace HH := zd HH
  obtain ⟨t187, At188, HH⟩ := HH
  go_wp2_with ((with_reducible refine gc 8 rfl ?_); refine zc 8 (some 18) Try.func8 #[] (h := ?_); (with_reducible refine (toponymlaw27_awake.calls k  t187 _  At188.out).mono ?_); rintro e w189 ⟨rfl, hb⟩; refine ⟨_, rfl, ?_⟩)
  refine Stop.go ?_
  replace BKg13 := zbb BKg13.out hb
  replace HB := zhb HB.out hb
  clear hb
  clear j2K j2L j2M j2N j2O j2P j2Q j2R j2S j2T j2U j2V j2W j2X j2Y j2Z
  obtain ⟨j34, j35, j36, j37, j38, j39, j3a, j3b, j3c, j3d, j3e, j3f, j3g, j3h, j3i, j3j⟩ := MB.lay8 BKg13.out
  have H := HH.out
  obtain rfl := Option.some.inj H
  clear HH
  go_wp2
  go_ret
  exact ⟨by first | rfl | (simp; done) | (simp [*]; done), HB.out⟩
 replace HH := MW.hneg HH c186
 replace c186 := Bool.eq_false_iff.mpr c186
 subst c186
 have H := HH.out
 obtain rfl := Option.some.inj H
 clear HH
 go_wp2
 go_ret
 exact ⟨by first | rfl | (simp; done) | (simp [*]; done), HB.out⟩
end Go.Proofs.Ytdjkemhmhkpmkaa.GA
