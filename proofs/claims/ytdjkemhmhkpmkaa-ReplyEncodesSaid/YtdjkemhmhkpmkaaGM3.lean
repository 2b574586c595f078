import Derived.Test.YtdjkemhmhkpmkaaGA0
import Derived.Test.YtdjkemhmhkpmkaaGAF25
import Derived.Test.YtdjkemhmhkpmkaaGAF28
import Derived.Test.YtdjkemhmhkpmkaaGAF48
import Derived.Test.YtdjkemhmhkpmkaaGAF49
import Derived.Test.YtdjkemhmhkpmkaaGM1
import Derived.Test.YtdjkemhmhkpmkaaGM2
import Derived.Test.YtdjkemhmhkpmkaaMX
namespace Go.Proofs.Ytdjkemhmhkpmkaa.GA
open Go.RowKit Go.Proofs.Ytdjkemhmhkpmkaa Go.Proofs.Ytdjkemhmhkpmkaa.MW Go.Proofs.YtdjkemhmhkpmkaaW.PrintWords Go.Proofs.YtdjkemhmhkpmkaaW.PrintLast Go.Proofs.YtdjkemhmhkpmkaaW.PrintMore
attribute [local go_sem] max2_int min2_int max_two min_two
set_option maxHeartbeats 8000000
set_option maxRecDepth 100000
set_option linter.unusedVariables false
set_option linter.unusedSimpArgs false
def reply_Encode.l0 : Nat → (List ByteArray) → Int → (List (S27)) → Option (List ByteArray × Int)
 | 0, _, _, _ => none
 | k + 1, x1, x4, l0 => if x4 < (l0.length : Int) then (if 0 ≤ x4 then ((reply_Check.f k ((rd_T27 l0 x4).f0) ((rd_T27 l0 x4).f1) ((rd_T27 l0 x4).f2) ((rd_T27 l0 x4).f3) ((rd_T27 l0 x4).f4) ((rd_T27 l0 x4).f5) ((rd_T27 l0 x4).f6) ((rd_T27 l0 x4).f7)).bind fun t32 => (if t32 = 0 then ((reply_laid.f k ((rd_T27 l0 x4).f0) ((rd_T27 l0 x4).f1) ((rd_T27 l0 x4).f2) ((rd_T27 l0 x4).f3) ((rd_T27 l0 x4).f4) ((rd_T27 l0 x4).f5) ((rd_T27 l0 x4).f6) ((rd_T27 l0 x4).f7)).bind fun bt46 => (if bt46.2 = 0 then (if x1.length < 8796093022208 then ((some (x1 ++ [bt46.1] : List ByteArray)).bind fun y62 => ((reply_Encode.l0 k y62 (wrap64 (x4 + 1)) l0))) else (none)) else (some (([] : List ByteArray), bt46.2)))) else (some (([] : List ByteArray), t32)))) else (none)) else (some (x1, 0))
def reply_Encode.f (k : Nat) (l0 : List (S27)) : Option (List ByteArray × Int) := (reply_Encode.l0 k ([] : List ByteArray) 0 l0)
theorem reply_Encode.mono_l : ∀ k, (∀ y0 y1 y2, LeO (reply_Encode.l0 k y0 y1 y2) (reply_Encode.l0 (k + 1) y0 y1 y2))
 | 0 => fun _ _ _ r h => by simp [reply_Encode.l0] at h
 | k + 1 => by
  have ih0 := reply_Encode.mono_l k
  ·intro y0 y1 y2
   unfold reply_Encode.l0
   with_reducible repeat' first | exact ih0 _ _ _ | exact reply_Check.mono _ _ _ _ _ _ _ _ _ | exact reply_laid.mono _ _ _ _ _ _ _ _ _ | exact LeO.refl _ | exact LeO.none _ | refine LeO.ite ?_ ?_ | refine LeO.bind ?_ (fun _ => ?_)
theorem reply_Encode.mono : ∀ a0_ k, LeO (reply_Encode.f k a0_) (reply_Encode.f (k + 1) a0_) := by
 intro a0_ k
 have ih0 := reply_Encode.mono_l k
 unfold reply_Encode.f
 with_reducible repeat' first | exact ih0 _ _ _ | exact reply_Check.mono _ _ _ _ _ _ _ _ _ | exact reply_laid.mono _ _ _ _ _ _ _ _ _ | exact LeO.refl _ | exact LeO.none _ | refine LeO.ite ?_ ?_ | refine LeO.bind ?_ (fun _ => ?_)
theorem reply_Encode.calls (k : Nat) (P_ : Nat → Prop) (A0 : Option Addr) (c0 : Nat) (l0 : List (S27)) (r1 : List ByteArray) (r2 : Int) (w : World) (hs0 : Kd.F k27 w P_ A0 l0.length l0) (hc0 : l0.length ≤ c0) (h : reply_Encode.f k l0 = some (r1, r2)) :
  Calls Try.prog 12 #[.slice A0 l0.length c0] w (fun e w' => ∃ v0_ : Value, e = .returned (.tuple #[v0_, .int .i64 r2]) ∧ Kd.N Kd.string 9 w' w.heap.size (fun k_ => P_ k_ ∨ w.heap.size ≤ k_) v0_ r1 ∧ Below w.heap.size w w') := by
 unfold reply_Encode.f at h
 have HH := za h
 clear h
 have HF0 := zfp hs0
 clear hs0 hc0
 have HB := za (Below.refl w.heap.size w)
 have hu27 := Try.underlying27
 go_enter Try.func12, Try.ntmps12
 go_wp2
 go_loopg [4, 12] k (fun kq u4 u12 w' => ∃ (x1 : List ByteArray) (x4 : Int), u12 = .int .i64 x4 ∧ Aside0 ((reply_Encode.l0 kq x1 x4 l0) = some (r1, r2)) ∧ Aside0 (kq ≤ k) ∧ Aside0 (Kd.F k27 w' (fun k_ => (P_ k_ ∨ w.heap.size ≤ k_) ∧ some k_ ≠ (u4 : Value).ownBlock) A0 l0.length l0) ∧ Aside0 (Kd.N Kd.string 9 w' w.heap.size (fun k_ => (P_ k_ ∨ w.heap.size ≤ k_)) u4 x1) ∧ Aside0 (Below w.heap.size w w'))
 case atStart => exact ⟨([] : List ByteArray), 0, (by first | rfl | (simp; done) | (simp [*]; done)), HH, ⟨Nat.le_refl _⟩, ⟨(Kd.F_mono (ok := (fun k_ => (P_ k_ ∨ w.heap.size ≤ k_))) HF0.out (fun k_ hk_ => ⟨hk_, (by simp [Value.ownBlock])⟩))⟩, ⟨Kd.N_nil _ _ _ _ _⟩, ⟨HB.out⟩⟩
 case round =>
  clear HH
  clear HF0 HB
  obtain ⟨x1, x4, rfl, HA, HK0, HF0, HN3, HB⟩ := hrel
  obtain ⟨v2, rfl⟩ : ∃ z_ : Value, z_ = u4 := ⟨_, rfl⟩
  obtain ⟨w6, rfl⟩ : ∃ wo_ : World, wo_ = wr := ⟨_, rfl⟩
  cases gk with
  | zero => exact absurd HA.out (by simp [reply_Encode.l0])
  | succ k5 =>
   have H := HA.out
   clear HA
   simp only [reply_Encode.l0] at H
   have HH := za H
   clear H
   replace HH := zqt HH
   rcases HH with ⟨HH, hk8, hk9⟩ | ⟨HH, hk79, hk80⟩
   ·replace HH := zqdo HH
    obtain ⟨HH, hk11⟩ := HH
    have p12 : 0 ≤ (x4 : Int) := of_decide_eq_true (by first | (with_reducible assumption) | assumption)
    have q12 : x4 < (l0.length : Int) := of_decide_eq_true (by first | (with_reducible assumption) | assumption)
    obtain ⟨ad12, A12_7, c12_7, e12, hx12_0, hx12_1, hx12_2, hx12_3, hx12_4, hx12_5, hx12_6, hx12_7, hl12_7, hi12_7⟩ := atF_T27 HF0.out x4 p12 q12
    cases e12
    have HF12_7 := za hi12_7
    have HL12_7 := za hl12_7
    clear hi12_7 hl12_7
    replace p12 := eq_true p12
    replace q12 := eq_true q12
    go_wp2_with ((with_reducible refine gd 6 rfl ?_); refine zb 6 27 #[.int .i64 0, .int .i64 0, .bool false, .int .i64 0, .string (⟨#[]⟩ : ByteArray), .string (⟨#[]⟩ : ByteArray), .string (⟨#[]⟩ : ByteArray), .slice none 0 0] (h := ?_); intro g13 hg w14 BKg13 hb)
    refine zg ?_
    have GEg13 := zge hg (below_size HB.out)
    replace HF0 := zfe HF0.out hg hb
    replace HF12_7 := zfe HF12_7.out hg hb
    replace HN3 := zne HN3.out hg hb
    replace HB := zhb HB.out hb
    clear hg hb
    clear hx12_0 hx12_1 hx12_2 hx12_3 hx12_4 hx12_5 hx12_6 hx12_7 p12 q12
    obtain ⟨jf, jg, jh, ji, jj, jk, jl, jm⟩ := MB.lz8 BKg13.out
    go_wp2_with ((with_reducible refine gs 27 6 rfl ?_); refine zs 27 6 #[.int .i64 ((rd_T27 l0 x4).f0), .int .i64 ((rd_T27 l0 x4).f1), .bool ((rd_T27 l0 x4).f2), .int .i64 ((rd_T27 l0 x4).f3), .string ((rd_T27 l0 x4).f4), .string ((rd_T27 l0 x4).f5), .string ((rd_T27 l0 x4).f6), .slice A12_7 ((rd_T27 l0 x4).f7).length c12_7] BKg13.out [.int .i64 ((rd_T27 l0 x4).f0), .int .i64 ((rd_T27 l0 x4).f1), .bool ((rd_T27 l0 x4).f2), .int .i64 ((rd_T27 l0 x4).f3), .string ((rd_T27 l0 x4).f4), .string ((rd_T27 l0 x4).f5), .string ((rd_T27 l0 x4).f6), .slice A12_7 ((rd_T27 l0 x4).f7).length c12_7] (h := ?_); intro w23 hbk hg)
    refine zg ?_
    replace HF0 := zfg HF0.out hg fun k_ hk_ => hk_.2
    replace HF12_7 := zfg HF12_7.out hg fun k_ hk_ => hk_.2
    replace HN3 := zng HN3.out hg fun k_ hk_ => hk_.2
    replace HB := zhg HB.out hg (below_size HB.out) GEg13
    replace BKg13 := hbk
    clear hg hbk
    clear jf jg jh ji jj jk jl jm
    obtain ⟨jo, jp, jq, jr, js, jt, ju, jv⟩ := MB.lz8 BKg13.out
    replace HH := zd HH
    obtain ⟨t32, At33, HH⟩ := HH
    go_wp2_with ((with_reducible refine gc 10 rfl ?_); refine zc 10 (some 17) Try.func10 #[.agg #[.int .i64 ((rd_T27 l0 x4).f0), .int .i64 ((rd_T27 l0 x4).f1), .bool ((rd_T27 l0 x4).f2), .int .i64 ((rd_T27 l0 x4).f3), .string ((rd_T27 l0 x4).f4), .string ((rd_T27 l0 x4).f5), .string ((rd_T27 l0 x4).f6), .slice A12_7 ((rd_T27 l0 x4).f7).length c12_7]] (h := ?_); (with_reducible refine (reply_Check.calls k5 (fun k_ => ((P_ k_ ∨ w.heap.size ≤ k_) ∧ some k_ ≠ (v2 : Value).ownBlock) ∧ k_ ≠ g13) ((rd_T27 l0 x4).f0) ((rd_T27 l0 x4).f1) ((rd_T27 l0 x4).f2) ((rd_T27 l0 x4).f3) ((rd_T27 l0 x4).f4) ((rd_T27 l0 x4).f5) ((rd_T27 l0 x4).f6) _ _ ((rd_T27 l0 x4).f7) t32 _ (Kd.F_mono (ok := (fun k_ => ((P_ k_ ∨ w.heap.size ≤ k_) ∧ some k_ ≠ (v2 : Value).ownBlock) ∧ k_ ≠ g13)) HF12_7.out (fun k_ hk_ => hk_)) HL12_7.out At33.out).mono ?_); rintro e w34 ⟨rfl, hb⟩; refine ⟨_, rfl, ?_⟩)
    refine zg ?_
    replace HF0 := zfb HF0.out hb
    replace HF12_7 := zfb HF12_7.out hb
    replace HN3 := znb HN3.out hb
    replace BKg13 := zbb BKg13.out hb
    replace HB := zhb HB.out hb
    clear hb
    clear jo jp jq jr js jt ju jv
    obtain ⟨jz, jA, jB, jC, jD, jE, jF, jG⟩ := MB.lz8 BKg13.out
    replace HH := zqe HH
    rcases HH with ⟨HH, hk44, hk45⟩ | ⟨HH, hk76, hk77⟩
    ·replace HH := zd HH
     obtain ⟨⟨t46, t47⟩, At48, HH⟩ := HH
     dsimp only at HH
     go_wp2_with ((with_reducible refine gc 25 rfl ?_); refine zc 25 (some 23) Try.func25 #[.agg #[.int .i64 ((rd_T27 l0 x4).f0), .int .i64 ((rd_T27 l0 x4).f1), .bool ((rd_T27 l0 x4).f2), .int .i64 ((rd_T27 l0 x4).f3), .string ((rd_T27 l0 x4).f4), .string ((rd_T27 l0 x4).f5), .string ((rd_T27 l0 x4).f6), .slice A12_7 ((rd_T27 l0 x4).f7).length c12_7]] (h := ?_); (with_reducible refine (reply_laid.calls k5 (fun k_ => ((P_ k_ ∨ w.heap.size ≤ k_) ∧ some k_ ≠ (v2 : Value).ownBlock) ∧ k_ ≠ g13) ((rd_T27 l0 x4).f0) ((rd_T27 l0 x4).f1) ((rd_T27 l0 x4).f2) ((rd_T27 l0 x4).f3) ((rd_T27 l0 x4).f4) ((rd_T27 l0 x4).f5) ((rd_T27 l0 x4).f6) _ _ ((rd_T27 l0 x4).f7) t46 t47 _ (Kd.F_mono (ok := (fun k_ => ((P_ k_ ∨ w.heap.size ≤ k_) ∧ some k_ ≠ (v2 : Value).ownBlock) ∧ k_ ≠ g13)) HF12_7.out (fun k_ hk_ => hk_)) HL12_7.out At48.out).mono ?_); rintro e w49 ⟨rfl, hb⟩; refine ⟨_, rfl, ?_⟩)
     refine zg ?_
     replace HF0 := zfb HF0.out hb
     replace HN3 := znb HN3.out hb
     replace BKg13 := zbb BKg13.out hb
     replace HB := zhb HB.out hb
     clear hb
     clear jz jA jB jC jD jE jF jG
     obtain ⟨jO, jP, jQ, jR, jS, jT, jU, jV⟩ := MB.lz8 BKg13.out
     replace HH := zqe HH
     rcases HH with ⟨HH, hk59, hk60⟩ | ⟨HH, hk74, hk75⟩
     ·obtain ⟨HH, LMc61⟩ := zlm HH
      obtain ⟨y62, hy62⟩ : ∃ y_ : List ByteArray, y_ = (x1 ++ [t46]) := ⟨_, rfl⟩
      have H : ((reply_Encode.l0 k5 y62 (wrap64 (x4 + 1)) l0)) = some (r1, r2) := by rw [hy62]; exact HH.out
      replace HH := za H
      clear H
      have NYy62 := za hy62
      clear hy62
      go_wp2_with (((with_reducible refine gate_dst (N := 32) rfl ?_); (try (refine gate_guard (by rfl) ?_; dsimp only)); refine Kd.N_append Kd.string w.heap.size rfl _ _ 31 9 (.string ⟨#[]⟩) 16 rfl Try.underlying31 info9 rfl (by decide) (by decide) (v2) x1 t46 [.string t46] (fun k_ => (P_ k_ ∨ w.heap.size ≤ k_) ∧ k_ ≠ g13) (fun k_ => (fun k_ => (P_ k_ ∨ w.heap.size ≤ k_) ∧ k_ ≠ g13) k_ ∧ some k_ ≠ (v2 : Value).ownBlock) rfl rfl (fun _ _ => rfl) (fun _ hk_ => hk_) (fun k_ h_ => ⟨.inr (Nat.le_trans (below_size (by repeat (first | (with_reducible first | exact HB.out | apply below_alloc | apply pw_below_drewN | apply below_drew1) | exact HB.out))) h_), Kd.freshB (g := g13) (o := .cells #[.int .i64 ((rd_T27 l0 x4).f0), .int .i64 ((rd_T27 l0 x4).f1), .bool ((rd_T27 l0 x4).f2), .int .i64 ((rd_T27 l0 x4).f3), .string ((rd_T27 l0 x4).f4), .string ((rd_T27 l0 x4).f5), .string ((rd_T27 l0 x4).f6), .slice A12_7 ((rd_T27 l0 x4).f7).length c12_7] 27 (0, 0)) (by (with_reducible repeat (first | refine blk_drewN ?_ _ | refine blk_drew ?_ | refine blk_alloc ?_ _)); exact BKg13.out) k_ h_⟩) (by (with_reducible repeat (first | apply Kd.N_alloc | apply Kd.N_drewN | apply Kd.N_drew)); exact HN3.out) (by repeat (first | (with_reducible first | exact HB.out | apply below_alloc | apply pw_below_drewN | apply below_drew1) | exact HB.out)) (below_size (by repeat (first | (with_reducible first | exact HB.out | apply below_alloc | apply pw_below_drewN | apply below_drew1) | exact HB.out))) (by first | (have := LMc61.out; omega) | (have := LMc61.out; simp at *; omega)) ?_; intro v63 w64 hn1 hb1 hg1 hat1); replace hat1 := za hat1; refine stop_ ?_)
      refine zg ?_
      replace hat1 := hat1.out
      replace HF0 := za (Kd.F_mono (Kd.F_after (v := v2) (ok := (fun k_ => (P_ k_ ∨ w.heap.size ≤ k_) ∧ k_ ≠ g13)) (Kd.F_mono (ok := (fun k_ => ((P_ k_ ∨ w.heap.size ≤ k_) ∧ some k_ ≠ (v2 : Value).ownBlock) ∧ k_ ≠ g13)) (by (with_reducible repeat (first | apply Kd.F_alloc | apply Kd.F_drewN | apply Kd.F_drew)); exact HF0.out) (fun k_ hk_ => ⟨⟨hk_.1.1, hk_.2⟩, hk_.1.2⟩)) hg1 hat1) (fun k_ hk_ => hk_) : Kd.F k27 _ (fun k_ => ((P_ k_ ∨ w.heap.size ≤ k_) ∧ k_ ≠ g13) ∧ some k_ ≠ (v63 : Value).ownBlock) _ _ _)
      replace BKg13 := za (blk_grown (g := g13) (o := .cells #[.int .i64 ((rd_T27 l0 x4).f0), .int .i64 ((rd_T27 l0 x4).f1), .bool ((rd_T27 l0 x4).f2), .int .i64 ((rd_T27 l0 x4).f3), .string ((rd_T27 l0 x4).f4), .string ((rd_T27 l0 x4).f5), .string ((rd_T27 l0 x4).f6), .slice A12_7 ((rd_T27 l0 x4).f7).length c12_7] 27 (0, 0)) (by (with_reducible repeat (first | refine blk_drewN ?_ _ | refine blk_drew ?_ | refine blk_alloc ?_ _)); exact BKg13.out) hg1 (Kd.N_away (ok := (fun k_ => (P_ k_ ∨ w.heap.size ≤ k_) ∧ k_ ≠ g13)) HN3.out (fun k_ hk_ => hk_.2)))
      replace HB := za hb1
      clear HN3
      have HN65 := za hn1
      clear hn1 hb1 hg1 hat1
      replace HN65 := za (by rw [NYy62.out]; exact HN65.out : Kd.N Kd.string 9 w64 w.heap.size (fun k_ => (P_ k_ ∨ w.heap.size ≤ k_) ∧ k_ ≠ g13) v63 y62)
      clear jO jP jQ jR jS jT jU jV
      obtain ⟨j14, j15, j16, j17, j18, j19, j1a, j1b⟩ := MB.lz8 BKg13.out
      go_wp2
      go_roundg k5
      case measure => have := HK0.out; omega
      case rel => exact ⟨y62, wrap64 (x4 + 1), (by first | rfl | (simp; done) | (simp [*]; done)), HH, ⟨by have := HK0.out; omega⟩, ⟨(Kd.F_mono (ok := (fun k_ => ((P_ k_ ∨ w.heap.size ≤ k_) ∧ k_ ≠ g13) ∧ some k_ ≠ (v63 : Value).ownBlock)) HF0.out (fun k_ hk_ => ⟨hk_.1.1, hk_.2⟩))⟩, ⟨(Kd.N_mono (ok := (fun k_ => (P_ k_ ∨ w.heap.size ≤ k_) ∧ k_ ≠ g13)) HN65.out (fun k_ hk_ => hk_.1))⟩, ⟨HB.out⟩⟩
     have H := HH.out
     simp only [Option.some.injEq, Prod.mk.injEq] at H
     obtain ⟨rfl, rfl⟩ := H
     clear HH
     go_wp2
     go_ret2
     exact ⟨_, by first | rfl | (simp; done) | (simp [*]; done), (Kd.N_nil _ _ _ _ _), HB.out⟩
    have H := HH.out
    simp only [Option.some.injEq, Prod.mk.injEq] at H
    obtain ⟨rfl, rfl⟩ := H
    clear HH
    go_wp2
    go_ret2
    exact ⟨_, by first | rfl | (simp; done) | (simp [*]; done), (Kd.N_nil _ _ _ _ _), HB.out⟩
   have H := HH.out
   simp only [Option.some.injEq, Prod.mk.injEq] at H
   obtain ⟨rfl, rfl⟩ := H
   clear HH
   go_wp2
   go_ret2
   exact ⟨_, by first | rfl | (simp; done) | (simp [*]; done), (Kd.N_mono (ok := (fun k_ => (P_ k_ ∨ w.heap.size ≤ k_))) HN3.out (fun k_ hk_ => hk_)), HB.out⟩

def toponymref27_One.f (k : Nat) (a0_0 : Int) (a0_1 : Int) (a0_2 : Bool) (a0_3 : Int) (a0_4 : ByteArray) (a0_5 : ByteArray) (a0_6 : ByteArray) (l0_7 : List (S46)) : Option (ByteArray × Int) := (toponymref27_Check.f k a0_0 a0_1 a0_2 a0_3 a0_4 a0_5 a0_6 l0_7).bind fun t11 => (if t11 = 0 then ((toponymref27_element.f k a0_0 a0_1 a0_2 a0_3 a0_4 a0_5 a0_6 l0_7).bind fun bt25 => ((toponymref15_Encode.f k [(⟨bt25.1, bt25.2.1, bt25.2.2.1, bt25.2.2.2.1, bt25.2.2.2.2⟩ : S57)]).bind fun bt56 => (some (bt56.1, bt56.2)))) else (some ((⟨#[]⟩ : ByteArray), 270)))
theorem toponymref27_One.mono : ∀ a0_ a1_ a2_ a3_ a4_ a5_ a6_ a7_ k, LeO (toponymref27_One.f k a0_ a1_ a2_ a3_ a4_ a5_ a6_ a7_) (toponymref27_One.f (k + 1) a0_ a1_ a2_ a3_ a4_ a5_ a6_ a7_) := by
 intro a0_ a1_ a2_ a3_ a4_ a5_ a6_ a7_ k
 unfold toponymref27_One.f
 with_reducible repeat' first | exact toponymref15_Encode.mono _ _ | exact toponymref27_Check.mono _ _ _ _ _ _ _ _ _ | exact toponymref27_element.mono _ _ _ _ _ _ _ _ _ | exact LeO.refl _ | exact LeO.none _ | refine LeO.ite ?_ ?_ | refine LeO.bind ?_ (fun _ => ?_)
theorem toponymref27_One.calls (k : Nat) (P_ : Nat → Prop) (a0_0 : Int) (a0_1 : Int) (a0_2 : Bool) (a0_3 : Int) (a0_4 : ByteArray) (a0_5 : ByteArray) (a0_6 : ByteArray) (A0_7 : Option Addr) (c0_7 : Nat) (l0_7 : List (S46)) (r1 : ByteArray) (r2 : Int) (w : World) (hs0_7 : Kd.F k46 w P_ A0_7 l0_7.length l0_7) (hc0_7 : l0_7.length ≤ c0_7) (h : toponymref27_One.f k a0_0 a0_1 a0_2 a0_3 a0_4 a0_5 a0_6 l0_7 = some (r1, r2)) :
  Calls Try.prog 26 #[.agg #[.int .i64 a0_0, .int .i64 a0_1, .bool a0_2, .int .i64 a0_3, .string a0_4, .string a0_5, .string a0_6, .slice A0_7 l0_7.length c0_7]] w (fun e w' => e = .returned (.tuple #[.string r1, .int .i64 r2]) ∧ Below w.heap.size w w') := by
 unfold toponymref27_One.f at h
 have HH := za h
 clear h
 have HF0_7 := zfp hs0_7
 have HL0_7 := za hc0_7
 clear hs0_7 hc0_7
 have HB := za (Below.refl w.heap.size w)
 have hu27 := Try.underlying27
 go_enter Try.func26, Try.ntmps26
 go_wp2_with ((with_reducible refine gd 1 rfl ?_); refine zb 1 27 #[.int .i64 a0_0, .int .i64 a0_1, .bool a0_2, .int .i64 a0_3, .string a0_4, .string a0_5, .string a0_6, .slice A0_7 l0_7.length c0_7] (h := ?_); intro g1 hg w2 BKg1 hb)
 refine zg ?_
 replace HF0_7 := zfe HF0_7.out hg hb
 replace HB := zhb HB.out hb
 clear hg hb
 obtain ⟨j3, j4, j5, j6, j7, j8, j9, ja⟩ := MB.lz8 BKg1.out
 replace HH := zd HH
 obtain ⟨t11, At12, HH⟩ := HH
 go_wp2_with ((with_reducible refine gc 11 rfl ?_); refine zc 11 (some 5) Try.func11 #[.agg #[.int .i64 a0_0, .int .i64 a0_1, .bool a0_2, .int .i64 a0_3, .string a0_4, .string a0_5, .string a0_6, .slice A0_7 l0_7.length c0_7]] (h := ?_); (with_reducible refine (toponymref27_Check.calls k (fun k_ => (P_ k_ ∨ w.heap.size ≤ k_) ∧ k_ ≠ g1) a0_0 a0_1 a0_2 a0_3 a0_4 a0_5 a0_6 _ _ l0_7 t11 _ (Kd.F_mono (ok := (fun k_ => (P_ k_ ∨ w.heap.size ≤ k_) ∧ k_ ≠ g1)) HF0_7.out (fun k_ hk_ => hk_)) HL0_7.out At12.out).mono ?_); rintro e w13 ⟨rfl, hb⟩; refine ⟨_, rfl, ?_⟩)
 refine zg ?_
 replace HF0_7 := zfb HF0_7.out hb
 replace BKg1 := zbb BKg1.out hb
 replace HB := zhb HB.out hb
 clear hb
 clear j3 j4 j5 j6 j7 j8 j9 ja
 obtain ⟨je, jf, jg, jh, ji, jj, jk, jl⟩ := MB.lz8 BKg1.out
 replace HH := zqe HH
 rcases HH with ⟨HH, hk23, hk24⟩ | ⟨HH, hk68, hk69⟩
 ·replace HH := zd HH
  obtain ⟨⟨t25, t26, t27, t28, t29⟩, At30, HH⟩ := HH
  dsimp only at HH
  go_wp2_with ((with_reducible refine gc 48 rfl ?_); refine zc 48 (some 8) Try.func48 #[.agg #[.int .i64 a0_0, .int .i64 a0_1, .bool a0_2, .int .i64 a0_3, .string a0_4, .string a0_5, .string a0_6, .slice A0_7 l0_7.length c0_7]] (h := ?_); (with_reducible refine (toponymref27_element.calls k (fun k_ => (P_ k_ ∨ w.heap.size ≤ k_) ∧ k_ ≠ g1) a0_0 a0_1 a0_2 a0_3 a0_4 a0_5 a0_6 _ _ l0_7 t25 t26 t27 t28 t29 _ (Kd.F_mono (ok := (fun k_ => (P_ k_ ∨ w.heap.size ≤ k_) ∧ k_ ≠ g1)) HF0_7.out (fun k_ hk_ => hk_)) HL0_7.out At30.out).mono ?_); rintro e w31 ⟨A32, cp32, rfl, hl32, hn32, hb⟩; refine ⟨_, rfl, ?_⟩)
  refine zg ?_
  have HL32 := za hl32
  have HF32 := za (Kd.F_mono hn32 (fun k_ hk_ => hk_.elim (fun h_ => h_) (fun h_ => ⟨.inr (Nat.le_trans (below_size HB.out) h_), Kd.freshB (g := g1) BKg1.out k_ h_⟩)) : Kd.F k57 _ (fun k_ => (P_ k_ ∨ w.heap.size ≤ k_) ∧ k_ ≠ g1) _ _ _)
  clear hn32 hl32
  replace BKg1 := zbb BKg1.out hb
  replace HB := zhb HB.out hb
  clear hb
  clear je jf jg jh ji jj jk jl
  obtain ⟨jx, jy, jz, jA, jB, jC, jD, jE⟩ := MB.lz8 BKg1.out
  go_wp2_with (((with_reducible refine gate_dst (N := 9) rfl ?_); (try (refine gate_guard (by rfl) ?_; dsimp only)); refine Kd.N_lit k57 w.heap.size 57 rfl (N' := 9) rfl (xs := [(⟨t25, t26, t27, t28, t29⟩ : S57)]) (inner := [.int .i64 t25, .bool t26, .int .i64 t27, .string t28, .slice A32 t29.length cp32]) (ok := (fun k_ => (P_ k_ ∨ w.heap.size ≤ k_) ∧ k_ ≠ g1)) (okp := (fun k_ => (P_ k_ ∨ w.heap.size ≤ k_) ∧ k_ ≠ g1)) ?hr ?hp (fun _ hk_ => hk_) ?hf HB.out (below_size HB.out) (by first | simp | decide) ?_; (case hr => first | (go_simp; done) | (go_simp; rfl)); (case hp => exact (Reps.c5 (k57_mkF _ _ (⟨t25, t26, t27, t28, t29⟩ : S57) HL32.out (Kd.F_mono (ok := (fun k_ => (P_ k_ ∨ w.heap.size ≤ k_) ∧ k_ ≠ g1)) HF32.out (fun k_ hk_ => hk_))) (Reps.none _ _))); (case hf => exact (show ∀ k_, w31.heap.size ≤ k_ → (fun k_ => (P_ k_ ∨ w.heap.size ≤ k_) ∧ k_ ≠ g1) k_ from fun k_ h_ => ⟨.inr (Nat.le_trans (below_size HB.out) h_), Kd.freshB (g := g1) BKg1.out k_ h_⟩) _ (Nat.le_refl _)); intro v41 w42 hn1 hb1 hg1 hat1); replace hat1 := za hat1; refine stop_ ?_)
  refine zg ?_
  replace hat1 := hat1.out
  have hbe := MW.grown_below hg1
  have hba := MW.base_of hat1
  replace BKg1 := za (blk_below (g := g1) BKg1.out hbe)
  replace HB := za hb1
  have HN43 := za hn1
  clear hn1 hb1 hg1 hat1 hbe hba
  clear jx jy jz jA jB jC jD jE
  obtain ⟨jI, jJ, jK, jL, jM, jN, jO, jP⟩ := MB.lz8 BKg1.out
  obtain ⟨A52, cp53, he_⟩ := Kd.N_slice HN43.out
  subst he_
  have HL55 := za (Kd.N_reads' HN43.out).2.1
  have HF54 := za (Kd.N_F HN43.out)
  clear HN43
  replace HH := zd HH
  obtain ⟨⟨t56, t57⟩, At58, HH⟩ := HH
  dsimp only at HH
  go_wp2_with ((with_reducible refine gc 47 rfl ?_); refine zc 47 (some 10) Try.func47 #[.slice A52 [(⟨t25, t26, t27, t28, t29⟩ : S57)].length cp53] (h := ?_); (with_reducible refine (toponymref15_Encode.calls k (fun k_ => (P_ k_ ∨ w.heap.size ≤ k_) ∧ k_ ≠ g1) _ _ [(⟨t25, t26, t27, t28, t29⟩ : S57)] t56 t57 _ (Kd.F_mono (ok := (fun k_ => (P_ k_ ∨ w.heap.size ≤ k_) ∧ k_ ≠ g1)) HF54.out (fun k_ hk_ => hk_)) HL55.out At58.out).mono ?_); rintro e w59 ⟨rfl, hb⟩; refine ⟨_, rfl, ?_⟩)
  refine zg ?_
  replace BKg1 := zbb BKg1.out hb
  replace HB := zhb HB.out hb
  clear hb
  clear jI jJ jK jL jM jN jO jP
  obtain ⟨jY, jZ, j10, j11, j12, j13, j14, j15⟩ := MB.lz8 BKg1.out
  have H := HH.out
  simp only [Option.some.injEq, Prod.mk.injEq] at H
  obtain ⟨rfl, rfl⟩ := H
  clear HH
  go_wp2
  go_ret2
  exact zfi HB.out
 have H := HH.out
 simp only [Option.some.injEq, Prod.mk.injEq] at H
 obtain ⟨rfl, rfl⟩ := H
 clear HH
 go_wp2
 go_ret2
 exact zfi HB.out

def toponymref27_Encode.l0 : Nat → (List ByteArray) → Int → (List (S27)) → Option (List ByteArray × Int)
 | 0, _, _, _ => none
 | k + 1, x1, x4, l0 => if x4 < (l0.length : Int) then (if 0 ≤ x4 then ((toponymref27_One.f k ((rd_T27 l0 x4).f0) ((rd_T27 l0 x4).f1) ((rd_T27 l0 x4).f2) ((rd_T27 l0 x4).f3) ((rd_T27 l0 x4).f4) ((rd_T27 l0 x4).f5) ((rd_T27 l0 x4).f6) ((rd_T27 l0 x4).f7)).bind fun bt13 => (if bt13.2 = 0 then (if x1.length < 8796093022208 then ((some (x1 ++ [bt13.1] : List ByteArray)).bind fun y21 => ((toponymref27_Encode.l0 k y21 (wrap64 (x4 + 1)) l0))) else (none)) else (some (([] : List ByteArray), bt13.2)))) else (none)) else (some (x1, 0))
def toponymref27_Encode.f (k : Nat) (l0 : List (S27)) : Option (List ByteArray × Int) := (toponymref27_Encode.l0 k ([] : List ByteArray) 0 l0)
theorem toponymref27_Encode.mono_l : ∀ k, (∀ y0 y1 y2, LeO (toponymref27_Encode.l0 k y0 y1 y2) (toponymref27_Encode.l0 (k + 1) y0 y1 y2))
 | 0 => fun _ _ _ r h => by simp [toponymref27_Encode.l0] at h
 | k + 1 => by
  have ih0 := toponymref27_Encode.mono_l k
  ·intro y0 y1 y2
   unfold toponymref27_Encode.l0
   with_reducible repeat' first | exact ih0 _ _ _ | exact toponymref27_One.mono _ _ _ _ _ _ _ _ _ | exact LeO.refl _ | exact LeO.none _ | refine LeO.ite ?_ ?_ | refine LeO.bind ?_ (fun _ => ?_)
theorem toponymref27_Encode.mono : ∀ a0_ k, LeO (toponymref27_Encode.f k a0_) (toponymref27_Encode.f (k + 1) a0_) := by
 intro a0_ k
 have ih0 := toponymref27_Encode.mono_l k
 unfold toponymref27_Encode.f
 with_reducible repeat' first | exact ih0 _ _ _ | exact toponymref27_One.mono _ _ _ _ _ _ _ _ _ | exact LeO.refl _ | exact LeO.none _ | refine LeO.ite ?_ ?_ | refine LeO.bind ?_ (fun _ => ?_)
theorem toponymref27_Encode.calls (k : Nat) (P_ : Nat → Prop) (A0 : Option Addr) (c0 : Nat) (l0 : List (S27)) (r1 : List ByteArray) (r2 : Int) (w : World) (hs0 : Kd.F k27 w P_ A0 l0.length l0) (hc0 : l0.length ≤ c0) (h : toponymref27_Encode.f k l0 = some (r1, r2)) :
  Calls Try.prog 13 #[.slice A0 l0.length c0] w (fun e w' => ∃ v0_ : Value, e = .returned (.tuple #[v0_, .int .i64 r2]) ∧ Kd.N Kd.string 9 w' w.heap.size (fun k_ => P_ k_ ∨ w.heap.size ≤ k_) v0_ r1 ∧ Below w.heap.size w w') := by
 unfold toponymref27_Encode.f at h
 have HH := za h
 clear h
 have HF0 := zfp hs0
 clear hs0 hc0
 have HB := za (Below.refl w.heap.size w)
 have hu27 := Try.underlying27
 go_enter Try.func13, Try.ntmps13
 go_wp2
 go_loopg [4, 5] k (fun kq u4 u5 w' => ∃ (x1 : List ByteArray) (x4 : Int), u5 = .int .i64 x4 ∧ Aside0 ((toponymref27_Encode.l0 kq x1 x4 l0) = some (r1, r2)) ∧ Aside0 (kq ≤ k) ∧ Aside0 (Kd.F k27 w' (fun k_ => (P_ k_ ∨ w.heap.size ≤ k_) ∧ some k_ ≠ (u4 : Value).ownBlock) A0 l0.length l0) ∧ Aside0 (Kd.N Kd.string 9 w' w.heap.size (fun k_ => (P_ k_ ∨ w.heap.size ≤ k_)) u4 x1) ∧ Aside0 (Below w.heap.size w w'))
 case atStart => exact ⟨([] : List ByteArray), 0, (by first | rfl | (simp; done) | (simp [*]; done)), HH, ⟨Nat.le_refl _⟩, ⟨(Kd.F_mono (ok := (fun k_ => (P_ k_ ∨ w.heap.size ≤ k_))) HF0.out (fun k_ hk_ => ⟨hk_, (by simp [Value.ownBlock])⟩))⟩, ⟨Kd.N_nil _ _ _ _ _⟩, ⟨HB.out⟩⟩
 case round =>
  clear HH
  clear HF0 HB
  obtain ⟨x1, x4, rfl, HA, HK0, HF0, HN3, HB⟩ := hrel
  obtain ⟨v2, rfl⟩ : ∃ z_ : Value, z_ = u4 := ⟨_, rfl⟩
  obtain ⟨w6, rfl⟩ : ∃ wo_ : World, wo_ = wr := ⟨_, rfl⟩
  cases gk with
  | zero => exact absurd HA.out (by simp [toponymref27_Encode.l0])
  | succ k5 =>
   have H := HA.out
   clear HA
   simp only [toponymref27_Encode.l0] at H
   have HH := za H
   clear H
   replace HH := zqt HH
   rcases HH with ⟨HH, hk8, hk9⟩ | ⟨HH, hk28, hk29⟩
   ·replace HH := zqdo HH
    obtain ⟨HH, hk11⟩ := HH
    have p12 : 0 ≤ (x4 : Int) := of_decide_eq_true (by first | (with_reducible assumption) | assumption)
    have q12 : x4 < (l0.length : Int) := of_decide_eq_true (by first | (with_reducible assumption) | assumption)
    obtain ⟨ad12, A12_7, c12_7, e12, hx12_0, hx12_1, hx12_2, hx12_3, hx12_4, hx12_5, hx12_6, hx12_7, hl12_7, hi12_7⟩ := atF_T27 HF0.out x4 p12 q12
    cases e12
    have HF12_7 := za hi12_7
    have HL12_7 := za hl12_7
    clear hi12_7 hl12_7
    replace p12 := eq_true p12
    replace q12 := eq_true q12
    replace HH := zd HH
    obtain ⟨⟨t13, t14⟩, At15, HH⟩ := HH
    dsimp only at HH
    go_wp2_with ((with_reducible refine gc 26 rfl ?_); refine zc 26 (some 19) Try.func26 #[.agg #[.int .i64 ((rd_T27 l0 x4).f0), .int .i64 ((rd_T27 l0 x4).f1), .bool ((rd_T27 l0 x4).f2), .int .i64 ((rd_T27 l0 x4).f3), .string ((rd_T27 l0 x4).f4), .string ((rd_T27 l0 x4).f5), .string ((rd_T27 l0 x4).f6), .slice A12_7 ((rd_T27 l0 x4).f7).length c12_7]] (h := ?_); (with_reducible refine (toponymref27_One.calls k5 (fun k_ => (P_ k_ ∨ w.heap.size ≤ k_) ∧ some k_ ≠ (v2 : Value).ownBlock) ((rd_T27 l0 x4).f0) ((rd_T27 l0 x4).f1) ((rd_T27 l0 x4).f2) ((rd_T27 l0 x4).f3) ((rd_T27 l0 x4).f4) ((rd_T27 l0 x4).f5) ((rd_T27 l0 x4).f6) _ _ ((rd_T27 l0 x4).f7) t13 t14 _ (Kd.F_mono (ok := (fun k_ => (P_ k_ ∨ w.heap.size ≤ k_) ∧ some k_ ≠ (v2 : Value).ownBlock)) HF12_7.out (fun k_ hk_ => hk_)) HL12_7.out At15.out).mono ?_); rintro e w16 ⟨rfl, hb⟩; refine ⟨_, rfl, ?_⟩)
    refine zg ?_
    replace HF0 := zfb HF0.out hb
    replace HN3 := znb HN3.out hb
    replace HB := zhb HB.out hb
    clear hb
    clear hx12_0 hx12_1 hx12_2 hx12_3 hx12_4 hx12_5 hx12_6 hx12_7 p12 q12
    replace HH := zqe HH
    rcases HH with ⟨HH, hk18, hk19⟩ | ⟨HH, hk25, hk26⟩
    ·obtain ⟨HH, LMc20⟩ := zlm HH
     obtain ⟨y21, hy21⟩ : ∃ y_ : List ByteArray, y_ = (x1 ++ [t13]) := ⟨_, rfl⟩
     have H : ((toponymref27_Encode.l0 k5 y21 (wrap64 (x4 + 1)) l0)) = some (r1, r2) := by rw [hy21]; exact HH.out
     replace HH := za H
     clear H
     have NYy21 := za hy21
     clear hy21
     go_wp2_with (((with_reducible refine gate_dst (N := 28) rfl ?_); (try (refine gate_guard (by rfl) ?_; dsimp only)); refine Kd.N_append Kd.string w.heap.size rfl _ _ 31 9 (.string ⟨#[]⟩) 16 rfl Try.underlying31 info9 rfl (by decide) (by decide) (v2) x1 t13 [.string t13] (fun k_ => (P_ k_ ∨ w.heap.size ≤ k_)) (fun k_ => (fun k_ => (P_ k_ ∨ w.heap.size ≤ k_)) k_ ∧ some k_ ≠ (v2 : Value).ownBlock) rfl rfl (fun _ _ => rfl) (fun _ hk_ => hk_) (fun k_ h_ => .inr (Nat.le_trans (below_size (by repeat (first | (with_reducible first | exact HB.out | apply below_alloc | apply pw_below_drewN | apply below_drew1) | exact HB.out))) h_)) (by (with_reducible repeat (first | apply Kd.N_alloc | apply Kd.N_drewN | apply Kd.N_drew)); exact HN3.out) (by repeat (first | (with_reducible first | exact HB.out | apply below_alloc | apply pw_below_drewN | apply below_drew1) | exact HB.out)) (below_size (by repeat (first | (with_reducible first | exact HB.out | apply below_alloc | apply pw_below_drewN | apply below_drew1) | exact HB.out))) (by first | (have := LMc20.out; omega) | (have := LMc20.out; simp at *; omega)) ?_; intro v22 w23 hn1 hb1 hg1 hat1); replace hat1 := za hat1; refine stop_ ?_)
     refine zg ?_
     replace hat1 := hat1.out
     replace HF0 := za (Kd.F_mono (Kd.F_after (v := v2) (ok := (fun k_ => (P_ k_ ∨ w.heap.size ≤ k_))) (Kd.F_mono (ok := (fun k_ => (P_ k_ ∨ w.heap.size ≤ k_) ∧ some k_ ≠ (v2 : Value).ownBlock)) (by (with_reducible repeat (first | apply Kd.F_alloc | apply Kd.F_drewN | apply Kd.F_drew)); exact HF0.out) (fun k_ hk_ => ⟨hk_.1, hk_.2⟩)) hg1 hat1) (fun k_ hk_ => hk_) : Kd.F k27 _ (fun k_ => (P_ k_ ∨ w.heap.size ≤ k_) ∧ some k_ ≠ (v22 : Value).ownBlock) _ _ _)
     replace HB := za hb1
     clear HN3
     have HN24 := za hn1
     clear hn1 hb1 hg1 hat1
     replace HN24 := za (by rw [NYy21.out]; exact HN24.out : Kd.N Kd.string 9 w23 w.heap.size (fun k_ => (P_ k_ ∨ w.heap.size ≤ k_)) v22 y21)
     go_wp2
     go_roundg k5
     case measure => have := HK0.out; omega
     case rel => exact ⟨y21, wrap64 (x4 + 1), (by first | rfl | (simp; done) | (simp [*]; done)), HH, ⟨by have := HK0.out; omega⟩, ⟨(Kd.F_mono (ok := (fun k_ => (P_ k_ ∨ w.heap.size ≤ k_) ∧ some k_ ≠ (v22 : Value).ownBlock)) HF0.out (fun k_ hk_ => hk_))⟩, ⟨(Kd.N_mono (ok := (fun k_ => (P_ k_ ∨ w.heap.size ≤ k_))) HN24.out (fun k_ hk_ => hk_))⟩, ⟨HB.out⟩⟩
    have H := HH.out
    simp only [Option.some.injEq, Prod.mk.injEq] at H
    obtain ⟨rfl, rfl⟩ := H
    clear HH
    go_wp2
    go_ret2
    exact ⟨_, by first | rfl | (simp; done) | (simp [*]; done), (Kd.N_nil _ _ _ _ _), HB.out⟩
   have H := HH.out
   simp only [Option.some.injEq, Prod.mk.injEq] at H
   obtain ⟨rfl, rfl⟩ := H
   clear HH
   go_wp2
   go_ret2
   exact ⟨_, by first | rfl | (simp; done) | (simp [*]; done), (Kd.N_mono (ok := (fun k_ => (P_ k_ ∨ w.heap.size ≤ k_))) HN3.out (fun k_ hk_ => hk_)), HB.out⟩

def ber_Decode.f (k : Nat) (a0 : ByteArray) (a1 : Int) : Option (Int × Bool × Int × ByteArray × (List (S57)) × Int × Int) := if a1 < 0 then (some (0, false, 0, (⟨#[]⟩ : ByteArray), ([] : List (S57)), 0, 2)) else (if a1 > (a0.size : Int) then (some (0, false, 0, (⟨#[]⟩ : ByteArray), ([] : List (S57)), 0, 2)) else ((ber_take.f k a0 a1 12).bind fun bt28 => (some (bt28.1, bt28.2.1, bt28.2.2.1, bt28.2.2.2.1, bt28.2.2.2.2.1, bt28.2.2.2.2.2.1, bt28.2.2.2.2.2.2))))
theorem ber_Decode.mono : ∀ a0_ a1_ k, LeO (ber_Decode.f k a0_ a1_) (ber_Decode.f (k + 1) a0_ a1_) := by
 intro a0_ a1_ k
 unfold ber_Decode.f
 with_reducible repeat' first | exact ber_take.mono _ _ _ _ | exact LeO.refl _ | exact LeO.none _ | refine LeO.ite ?_ ?_ | refine LeO.bind ?_ (fun _ => ?_)
theorem ber_Decode.calls (k : Nat) (a0 : ByteArray) (a1 : Int) (r1 : Int) (r2 : Bool) (r3 : Int) (r4 : ByteArray) (r5 : List (S57)) (r6 : Int) (r7 : Int) (w : World) (h : ber_Decode.f k a0 a1 = some (r1, r2, r3, r4, r5, r6, r7)) :
  Calls Try.prog 27 #[.string a0, .int .i64 a1] w (fun e w' => ∃ v4_ : Value, e = .returned (.tuple #[.agg #[.int .i64 r1, .bool r2, .int .i64 r3, .string r4, v4_], .int .i64 r6, .int .i64 r7]) ∧ Kd.N k57 57 w' w.heap.size (fun k_ => w.heap.size ≤ k_) v4_ r5 ∧ Below w.heap.size w w') := by
 unfold ber_Decode.f at h
 have HH := za h
 clear h
 have HB := za (Below.refl w.heap.size w)
 have hu57 := Try.underlying57
 go_enter Try.func27, Try.ntmps27
 go_wp2_with ((with_reducible refine gd 4 rfl ?_); refine zb 4 57 #[.int .i64 0, .bool false, .int .i64 0, .string (⟨#[]⟩ : ByteArray), .slice none 0 0] (h := ?_); intro g1 hg w2 BKg1 hb)
 refine zg ?_
 have GEg1 := zge hg (below_size HB.out)
 replace HB := zhb HB.out hb
 clear hg hb
 obtain ⟨j3, j4, j5, j6, j7⟩ := MB.lz5 BKg1.out
 replace HH := zqt HH
 rcases HH with ⟨HH, hk9, hk10⟩ | ⟨HH, hk17, hk18⟩
 ·go_wp2_with ((with_reducible refine gs 57 4 rfl ?_); refine zs 57 4 #[.int .i64 0, .bool false, .int .i64 0, .string (⟨#[]⟩ : ByteArray), .slice none 0 0] BKg1.out [.int .i64 0, .bool false, .int .i64 0, .string (⟨#[]⟩ : ByteArray), .slice none 0 0] (h := ?_); intro w11 hbk hg)
  refine zg ?_
  replace HB := zhg HB.out hg (below_size HB.out) GEg1
  replace BKg1 := hbk
  clear hg hbk
  clear j3 j4 j5 j6 j7
  obtain ⟨jc, jd, je, jf, jg⟩ := MB.lz5 BKg1.out
  have H := HH.out
  simp only [Option.some.injEq, Prod.mk.injEq] at H
  obtain ⟨rfl, rfl, rfl, rfl, rfl, rfl, rfl⟩ := H
  clear HH
  go_wp2
  refine bodyPost_ret (results_ctt rfl _ _ g1 57 #[.int .i64 0, .bool false, .int .i64 0, .string (⟨#[]⟩ : ByteArray), .slice none 0 0] (0, 0) _ rfl BKg1.out Try.underlying57 rfl (by kernel_rfl)) rfl ?_
  exact ⟨_, by first | rfl | (simp; done) | (simp [*]; done), (Kd.N_nil _ _ _ _ _), HB.out⟩
 replace HH := zqg HH
 rcases HH with ⟨HH, hk20⟩ | ⟨HH, hk27⟩
 ·go_wp2_with ((with_reducible refine gs 57 4 rfl ?_); refine zs 57 4 #[.int .i64 0, .bool false, .int .i64 0, .string (⟨#[]⟩ : ByteArray), .slice none 0 0] BKg1.out [.int .i64 0, .bool false, .int .i64 0, .string (⟨#[]⟩ : ByteArray), .slice none 0 0] (h := ?_); intro w21 hbk hg)
  refine zg ?_
  replace HB := zhg HB.out hg (below_size HB.out) GEg1
  replace BKg1 := hbk
  clear hg hbk
  clear j3 j4 j5 j6 j7
  obtain ⟨jm, jn, jo, jp, jq⟩ := MB.lz5 BKg1.out
  have H := HH.out
  simp only [Option.some.injEq, Prod.mk.injEq] at H
  obtain ⟨rfl, rfl, rfl, rfl, rfl, rfl, rfl⟩ := H
  clear HH
  go_wp2
  refine bodyPost_ret (results_ctt rfl _ _ g1 57 #[.int .i64 0, .bool false, .int .i64 0, .string (⟨#[]⟩ : ByteArray), .slice none 0 0] (0, 0) _ rfl BKg1.out Try.underlying57 rfl (by kernel_rfl)) rfl ?_
  exact ⟨_, by first | rfl | (simp; done) | (simp [*]; done), (Kd.N_nil _ _ _ _ _), HB.out⟩
 replace HH := zd HH
 obtain ⟨⟨t28, t29, t30, t31, t32, t33, t34⟩, At35, HH⟩ := HH
 dsimp only at HH
 go_wp2_with ((with_reducible refine gc 49 rfl ?_); refine zc 49 (some 18) Try.func49 #[.string a0, .int .i64 a1, .int .i64 12] (h := ?_); (with_reducible refine (ber_take.calls k  a0 a1 12 t28 t29 t30 t31 t32 t33 t34 _  At35.out).mono ?_); rintro e w36 ⟨v37, rfl, hn37, hb⟩; refine ⟨_, rfl, ?_⟩)
 refine zg ?_
 have hba := Kd.N_base hn37
 have HN37 := znl (ok2 := (fun k_ => (w.heap.size ≤ k_) ∧ k_ ≠ g1)) hn37 (below_size HB.out) (fun k_ h_ => ⟨(Nat.le_trans (below_size HB.out) h_), Kd.freshB (g := g1) BKg1.out k_ h_⟩)
 replace BKg1 := zbb BKg1.out hb
 replace HB := zhb HB.out hb
 clear hn37 hba hb
 clear j3 j4 j5 j6 j7
 obtain ⟨jC, jD, jE, jF, jG⟩ := MB.lz5 BKg1.out
 obtain ⟨A44, cp45, he_⟩ := Kd.N_slice HN37.out
 subst he_
 go_wp2_with ((with_reducible refine gs 57 4 rfl ?_); refine zs 57 4 #[.int .i64 t28, .bool t29, .int .i64 t30, .string t31, (.slice A44 t32.length cp45)] BKg1.out [.int .i64 t28, .bool t29, .int .i64 t30, .string t31, (.slice A44 t32.length cp45)] (h := ?_); intro w43 hbk hg)
 refine zg ?_
 replace HN37 := zng HN37.out hg fun k_ hk_ => hk_.2
 replace HB := zhg HB.out hg (below_size HB.out) GEg1
 replace BKg1 := hbk
 clear hg hbk
 clear jC jD jE jF jG
 obtain ⟨jK, jL, jM, jN, jO⟩ := MB.lz5 BKg1.out
 have H := HH.out
 simp only [Option.some.injEq, Prod.mk.injEq] at H
 obtain ⟨rfl, rfl, rfl, rfl, rfl, rfl, rfl⟩ := H
 clear HH
 go_wp2
 refine bodyPost_ret (results_ctt rfl _ _ g1 57 #[.int .i64 t28, .bool t29, .int .i64 t30, .string t31, (.slice A44 t32.length cp45)] (0, 0) _ rfl BKg1.out Try.underlying57 rfl (by kernel_rfl)) rfl ?_
 exact ⟨_, by first | rfl | (simp; done) | (simp [*]; done), (Kd.N_mono (ok := (fun k_ => (w.heap.size ≤ k_) ∧ k_ ≠ g1)) HN37.out (fun k_ hk_ => hk_.1)), HB.out⟩

def reply_Decode.f (k : Nat) (a0 : ByteArray) : Option (Int × Int × Bool × Int × ByteArray × ByteArray × ByteArray × (List (S46)) × Int) := if (a0.size : Int) > 4000 then (some (0, 0, false, 0, (⟨#[]⟩ : ByteArray), (⟨#[]⟩ : ByteArray), (⟨#[]⟩ : ByteArray), ([] : List (S46)), 3)) else ((ber_Decode.f k a0 0).bind fun bt25 => (if bt25.2.2.2.2.2.2 = 0 then (if bt25.2.2.2.2.2.1 = (a0.size : Int) then ((reply_read.f k bt25.1 bt25.2.1 bt25.2.2.1 bt25.2.2.2.1 bt25.2.2.2.2.1).bind fun bt84 => (if bt84.2.2.2.2.2.2.2.2 = true then ((reply_Check.f k bt84.1 bt84.2.1 bt84.2.2.1 bt84.2.2.2.1 bt84.2.2.2.2.1 bt84.2.2.2.2.2.1 bt84.2.2.2.2.2.2.1 bt84.2.2.2.2.2.2.2.1).bind fun t161 => (if t161 = 0 then ((reply_laid.f k bt84.1 bt84.2.1 bt84.2.2.1 bt84.2.2.2.1 bt84.2.2.2.2.1 bt84.2.2.2.2.2.1 bt84.2.2.2.2.2.2.1 bt84.2.2.2.2.2.2.2.1).bind fun bt188 => (if bt188.2 = 0 then (if bt188.1.toList = a0.toList then (some (bt84.1, bt84.2.1, bt84.2.2.1, bt84.2.2.2.1, bt84.2.2.2.2.1, bt84.2.2.2.2.2.1, bt84.2.2.2.2.2.2.1, bt84.2.2.2.2.2.2.2.1, 0)) else (some (0, 0, false, 0, (⟨#[]⟩ : ByteArray), (⟨#[]⟩ : ByteArray), (⟨#[]⟩ : ByteArray), ([] : List (S46)), 270))) else (some (0, 0, false, 0, (⟨#[]⟩ : ByteArray), (⟨#[]⟩ : ByteArray), (⟨#[]⟩ : ByteArray), ([] : List (S46)), 270)))) else (some (0, 0, false, 0, (⟨#[]⟩ : ByteArray), (⟨#[]⟩ : ByteArray), (⟨#[]⟩ : ByteArray), ([] : List (S46)), 270)))) else (some (0, 0, false, 0, (⟨#[]⟩ : ByteArray), (⟨#[]⟩ : ByteArray), (⟨#[]⟩ : ByteArray), ([] : List (S46)), 270)))) else (some (0, 0, false, 0, (⟨#[]⟩ : ByteArray), (⟨#[]⟩ : ByteArray), (⟨#[]⟩ : ByteArray), ([] : List (S46)), 270))) else (some (0, 0, false, 0, (⟨#[]⟩ : ByteArray), (⟨#[]⟩ : ByteArray), (⟨#[]⟩ : ByteArray), ([] : List (S46)), 270))))
theorem reply_Decode.mono : ∀ a0_ k, LeO (reply_Decode.f k a0_) (reply_Decode.f (k + 1) a0_) := by
 intro a0_ k
 unfold reply_Decode.f
 with_reducible repeat' first | exact ber_Decode.mono _ _ _ | exact reply_Check.mono _ _ _ _ _ _ _ _ _ | exact reply_laid.mono _ _ _ _ _ _ _ _ _ | exact reply_read.mono _ _ _ _ _ _ | exact LeO.refl _ | exact LeO.none _ | refine LeO.ite ?_ ?_ | refine LeO.bind ?_ (fun _ => ?_)
theorem reply_Decode.calls (k : Nat) (a0 : ByteArray) (r1 : Int) (r2 : Int) (r3 : Bool) (r4 : Int) (r5 : ByteArray) (r6 : ByteArray) (r7 : ByteArray) (r8 : List (S46)) (r9 : Int) (w : World) (h : reply_Decode.f k a0 = some (r1, r2, r3, r4, r5, r6, r7, r8, r9)) :
  Calls Try.prog 15 #[.string a0] w (fun e w' => ∃ (A7_ : Option Addr) (c7_ : Nat), e = .returned (.tuple #[.agg #[.int .i64 r1, .int .i64 r2, .bool r3, .int .i64 r4, .string r5, .string r6, .string r7, .slice A7_ r8.length c7_], .int .i64 r9]) ∧ r8.length ≤ c7_ ∧ Kd.F k46 w' (fun k_ => w.heap.size ≤ k_) A7_ r8.length r8 ∧ Below w.heap.size w w') := by
 unfold reply_Decode.f at h
 have HH := za h
 clear h
 have HB := za (Below.refl w.heap.size w)
 have hu27 := Try.underlying27
 have hu57 := Try.underlying57
 go_enter Try.func15, Try.ntmps15
 go_wp2_with ((with_reducible refine gd 2 rfl ?_); refine zb 2 27 #[.int .i64 0, .int .i64 0, .bool false, .int .i64 0, .string (⟨#[]⟩ : ByteArray), .string (⟨#[]⟩ : ByteArray), .string (⟨#[]⟩ : ByteArray), .slice none 0 0] (h := ?_); intro g1 hg w2 BKg1 hb)
 refine zg ?_
 have GEg1 := zge hg (below_size HB.out)
 replace HB := zhb HB.out hb
 clear hg hb
 obtain ⟨j3, j4, j5, j6, j7, j8, j9, ja⟩ := MB.lz8 BKg1.out
 replace HH := zqK 4000 HH
 rcases HH with ⟨HH, hk12, hk13⟩ | ⟨HH, hk23, hk24⟩
 ·go_wp2_with ((with_reducible refine gs 27 2 rfl ?_); refine zs 27 2 #[.int .i64 0, .int .i64 0, .bool false, .int .i64 0, .string (⟨#[]⟩ : ByteArray), .string (⟨#[]⟩ : ByteArray), .string (⟨#[]⟩ : ByteArray), .slice none 0 0] BKg1.out [.int .i64 0, .int .i64 0, .bool false, .int .i64 0, .string (⟨#[]⟩ : ByteArray), .string (⟨#[]⟩ : ByteArray), .string (⟨#[]⟩ : ByteArray), .slice none 0 0] (h := ?_); intro w14 hbk hg)
  refine zg ?_
  replace HB := zhg HB.out hg (below_size HB.out) GEg1
  replace BKg1 := hbk
  clear hg hbk
  clear j3 j4 j5 j6 j7 j8 j9 ja
  obtain ⟨jf, jg, jh, ji, jj, jk, jl, jm⟩ := MB.lz8 BKg1.out
  have H := HH.out
  simp only [Option.some.injEq, Prod.mk.injEq] at H
  obtain ⟨rfl, rfl, rfl, rfl, rfl, rfl, rfl, rfl, rfl⟩ := H
  clear HH
  go_wp2
  refine bodyPost_ret (results_ct rfl _ _ g1 27 #[.int .i64 0, .int .i64 0, .bool false, .int .i64 0, .string (⟨#[]⟩ : ByteArray), .string (⟨#[]⟩ : ByteArray), .string (⟨#[]⟩ : ByteArray), .slice none 0 0] (0, 0) _ rfl BKg1.out Try.underlying27 rfl (by kernel_rfl)) rfl ?_
  exact ⟨none, 0, by first | rfl | (simp; done) | (simp [*]; done), (Nat.le_refl _), (Kd.F_nil _ _ _), HB.out⟩
 replace HH := zd HH
 obtain ⟨⟨t25, t26, t27, t28, t29, t30, t31⟩, At32, HH⟩ := HH
 dsimp only at HH
 go_wp2_with ((with_reducible refine gc 27 rfl ?_); refine zc 27 (some 17) Try.func27 #[.string a0, .int .i64 0] (h := ?_); (with_reducible refine (ber_Decode.calls k  a0 0 t25 t26 t27 t28 t29 t30 t31 _  At32.out).mono ?_); rintro e w33 ⟨v34, rfl, hn34, hb⟩; refine ⟨_, rfl, ?_⟩)
 refine zg ?_
 have hba := Kd.N_base hn34
 have HN34 := znl (ok2 := (fun k_ => (w.heap.size ≤ k_) ∧ k_ ≠ g1)) hn34 (below_size HB.out) (fun k_ h_ => ⟨(Nat.le_trans (below_size HB.out) h_), Kd.freshB (g := g1) BKg1.out k_ h_⟩)
 replace BKg1 := zbb BKg1.out hb
 replace HB := zhb HB.out hb
 clear hn34 hba hb
 clear j3 j4 j5 j6 j7 j8 j9 ja
 obtain ⟨jz, jA, jB, jC, jD, jE, jF, jG⟩ := MB.lz8 BKg1.out
 go_wp2_with ((with_reducible refine gd 4 rfl ?_); refine zb 4 57 #[.int .i64 0, .bool false, .int .i64 0, .string (⟨#[]⟩ : ByteArray), .slice none 0 0] (h := ?_); intro g43 hg w44 BKg43 hb)
 refine zg ?_
 have GEg43 := zge hg (below_size HB.out)
 have NEg1_g43 := znq hg BKg1.out
 have NEg43_g1 := zsy NEg1_g43
 replace HN34 := zne HN34.out hg hb
 replace BKg1 := zbb BKg1.out hb
 replace HB := zhb HB.out hb
 clear hg hb
 clear jz jA jB jC jD jE jF jG
 obtain ⟨jJ, jK, jL, jM, jN, jO, jP, jQ⟩ := MB.lz8 BKg1.out
 obtain ⟨jR, jS, jT, jU, jV⟩ := MB.lz5 BKg43.out
 obtain ⟨A59, cp60, he_⟩ := Kd.N_slice HN34.out
 subst he_
 go_wp2_with ((with_reducible refine gs 57 4 rfl ?_); refine zs 57 4 #[.int .i64 t25, .bool t26, .int .i64 t27, .string t28, (.slice A59 t29.length cp60)] BKg43.out [.int .i64 t25, .bool t26, .int .i64 t27, .string t28, (.slice A59 t29.length cp60)] (h := ?_); intro w58 hbk hg)
 refine zg ?_
 replace HN34 := zng HN34.out hg fun k_ hk_ => hk_.2
 replace BKg1 := zbg BKg1.out hg NEg1_g43
 replace HB := zhg HB.out hg (below_size HB.out) GEg43
 replace BKg43 := hbk
 clear hg hbk
 clear jJ jK jL jM jN jO jP jQ jR jS jT jU jV
 obtain ⟨jZ, j10, j11, j12, j13, j14, j15, j16⟩ := MB.lz8 BKg1.out
 obtain ⟨j17, j18, j19, j1a, j1b⟩ := MB.lz5 BKg43.out
 replace HH := zqe HH
 rcases HH with ⟨HH, hk75, hk76⟩ | ⟨HH, hk351, hk352⟩
 ·replace HH := zqe HH
  rcases HH with ⟨HH, hk78, hk79⟩ | ⟨HH, hk335, hk336⟩
  ·have HL83 := za (Kd.N_reads' HN34.out).2.1
   have HF82 := za (Kd.N_F HN34.out)
   clear HN34
   replace HH := zd HH
   obtain ⟨⟨t84, t85, t86, t87, t88, t89, t90, t91, t92⟩, At93, HH⟩ := HH
   dsimp only at HH
   go_wp2_with ((with_reducible refine gc 28 rfl ?_); refine zc 28 (some 32) Try.func28 #[.agg #[.int .i64 t25, .bool t26, .int .i64 t27, .string t28, .slice A59 t29.length cp60]] (h := ?_); (with_reducible refine (reply_read.calls k (fun k_ => ((w.heap.size ≤ k_) ∧ k_ ≠ g1) ∧ k_ ≠ g43) t25 t26 t27 t28 _ _ t29 t84 t85 t86 t87 t88 t89 t90 t91 t92 _ (Kd.F_mono (ok := (fun k_ => ((w.heap.size ≤ k_) ∧ k_ ≠ g1) ∧ k_ ≠ g43)) HF82.out (fun k_ hk_ => hk_)) HL83.out At93.out).mono ?_); rintro e w94 ⟨v95, rfl, hn95, hb⟩; refine ⟨_, rfl, ?_⟩)
   refine zg ?_
   have hba := Kd.N_base hn95
   have HN95 := znl (ok2 := (fun k_ => ((w.heap.size ≤ k_) ∧ k_ ≠ g1) ∧ k_ ≠ g43)) hn95 (below_size HB.out) (fun k_ hk_ => hk_.elim (fun h_ => h_) (fun h_ => ⟨⟨(Nat.le_trans (below_size HB.out) h_), Kd.freshB (g := g1) BKg1.out k_ h_⟩, Kd.freshB (g := g43) BKg43.out k_ h_⟩))
   replace BKg1 := zbb BKg1.out hb
   replace BKg43 := zbb BKg43.out hb
   replace HB := zhb HB.out hb
   clear hn95 hba hb
   clear jZ j10 j11 j12 j13 j14 j15 j16 j17 j18 j19 j1a j1b
   obtain ⟨j1y, j1z, j1A, j1B, j1C, j1D, j1E, j1F⟩ := MB.lz8 BKg1.out
   obtain ⟨j1G, j1H, j1I, j1J, j1K⟩ := MB.lz5 BKg43.out
   go_wp2_with ((with_reducible refine gd 7 rfl ?_); refine zb 7 27 #[.int .i64 0, .int .i64 0, .bool false, .int .i64 0, .string (⟨#[]⟩ : ByteArray), .string (⟨#[]⟩ : ByteArray), .string (⟨#[]⟩ : ByteArray), .slice none 0 0] (h := ?_); intro g109 hg w110 BKg109 hb)
   refine zg ?_
   have GEg109 := zge hg (below_size HB.out)
   have NEg1_g109 := znq hg BKg1.out
   have NEg109_g1 := zsy NEg1_g109
   have NEg43_g109 := znq hg BKg43.out
   replace HN95 := zne HN95.out hg hb
   replace BKg1 := zbb BKg1.out hb
   replace BKg43 := zbb BKg43.out hb
   replace HB := zhb HB.out hb
   clear hg hb
   clear j1y j1z j1A j1B j1C j1D j1E j1F j1G j1H j1I j1J j1K
   obtain ⟨j1N, j1O, j1P, j1Q, j1R, j1S, j1T, j1U⟩ := MB.lz8 BKg1.out
   obtain ⟨j1V, j1W, j1X, j1Y, j1Z⟩ := MB.lz5 BKg43.out
   obtain ⟨j20, j21, j22, j23, j24, j25, j26, j27⟩ := MB.lz8 BKg109.out
   obtain ⟨A133, cp134, he_⟩ := Kd.N_slice HN95.out
   subst he_
   go_wp2_with ((with_reducible refine gs 27 7 rfl ?_); refine zs 27 7 #[.int .i64 t84, .int .i64 t85, .bool t86, .int .i64 t87, .string t88, .string t89, .string t90, (.slice A133 t91.length cp134)] BKg109.out [.int .i64 t84, .int .i64 t85, .bool t86, .int .i64 t87, .string t88, .string t89, .string t90, (.slice A133 t91.length cp134)] (h := ?_); intro w132 hbk hg)
   refine zg ?_
   replace HN95 := zng HN95.out hg fun k_ hk_ => hk_.2
   replace BKg1 := zbg BKg1.out hg NEg1_g109
   replace BKg43 := zbg BKg43.out hg NEg43_g109
   replace HB := zhg HB.out hg (below_size HB.out) GEg109
   replace BKg109 := hbk
   clear hg hbk
   clear j1N j1O j1P j1Q j1R j1S j1T j1U j1V j1W j1X j1Y j1Z j20 j21 j22 j23 j24 j25 j26 j27
   obtain ⟨j2b, j2c, j2d, j2e, j2f, j2g, j2h, j2i⟩ := MB.lz8 BKg1.out
   obtain ⟨j2j, j2k, j2l, j2m, j2n⟩ := MB.lz5 BKg43.out
   obtain ⟨j2o, j2p, j2q, j2r, j2s, j2t, j2u, j2v⟩ := MB.lz8 BKg109.out
   by_cases c156 : t92 = true
   ·replace HH := MW.hpos HH c156
    subst c156
    have HL160 := za (Kd.N_reads' HN95.out).2.1
    have HF159 := za (Kd.N_F HN95.out)
    clear HN95
    replace HH := zd HH
    obtain ⟨t161, At162, HH⟩ := HH
    go_wp2_with ((with_reducible refine gc 10 rfl ?_); refine zc 10 (some 39) Try.func10 #[.agg #[.int .i64 t84, .int .i64 t85, .bool t86, .int .i64 t87, .string t88, .string t89, .string t90, .slice A133 t91.length cp134]] (h := ?_); (with_reducible refine (reply_Check.calls k (fun k_ => (((w.heap.size ≤ k_) ∧ k_ ≠ g1) ∧ k_ ≠ g43) ∧ k_ ≠ g109) t84 t85 t86 t87 t88 t89 t90 _ _ t91 t161 _ (Kd.F_mono (ok := (fun k_ => (((w.heap.size ≤ k_) ∧ k_ ≠ g1) ∧ k_ ≠ g43) ∧ k_ ≠ g109)) HF159.out (fun k_ hk_ => hk_)) HL160.out At162.out).mono ?_); rintro e w163 ⟨rfl, hb⟩; refine ⟨_, rfl, ?_⟩)
    refine zg ?_
    replace HF159 := zfb HF159.out hb
    replace BKg1 := zbb BKg1.out hb
    replace BKg43 := zbb BKg43.out hb
    replace BKg109 := zbb BKg109.out hb
    replace HB := zhb HB.out hb
    clear hb
    clear j2b j2c j2d j2e j2f j2g j2h j2i j2j j2k j2l j2m j2n j2o j2p j2q j2r j2s j2t j2u j2v
    obtain ⟨j2E, j2F, j2G, j2H, j2I, j2J, j2K, j2L⟩ := MB.lz8 BKg1.out
    obtain ⟨j2M, j2N, j2O, j2P, j2Q⟩ := MB.lz5 BKg43.out
    obtain ⟨j2R, j2S, j2T, j2U, j2V, j2W, j2X, j2Y⟩ := MB.lz8 BKg109.out
    replace HH := zqe HH
    rcases HH with ⟨HH, hk186, hk187⟩ | ⟨HH, hk289, hk290⟩
    ·replace HH := zd HH
     obtain ⟨⟨t188, t189⟩, At190, HH⟩ := HH
     dsimp only at HH
     go_wp2_with ((with_reducible refine gc 25 rfl ?_); refine zc 25 (some 45) Try.func25 #[.agg #[.int .i64 t84, .int .i64 t85, .bool t86, .int .i64 t87, .string t88, .string t89, .string t90, .slice A133 t91.length cp134]] (h := ?_); (with_reducible refine (reply_laid.calls k (fun k_ => (((w.heap.size ≤ k_) ∧ k_ ≠ g1) ∧ k_ ≠ g43) ∧ k_ ≠ g109) t84 t85 t86 t87 t88 t89 t90 _ _ t91 t188 t189 _ (Kd.F_mono (ok := (fun k_ => (((w.heap.size ≤ k_) ∧ k_ ≠ g1) ∧ k_ ≠ g43) ∧ k_ ≠ g109)) HF159.out (fun k_ hk_ => hk_)) HL160.out At190.out).mono ?_); rintro e w191 ⟨rfl, hb⟩; refine ⟨_, rfl, ?_⟩)
     refine zg ?_
     replace HF159 := zfb HF159.out hb
     replace BKg1 := zbb BKg1.out hb
     replace BKg43 := zbb BKg43.out hb
     replace BKg109 := zbb BKg109.out hb
     replace HB := zhb HB.out hb
     clear hb
     clear j2E j2F j2G j2H j2I j2J j2K j2L j2M j2N j2O j2P j2Q j2R j2S j2T j2U j2V j2W j2X j2Y
     obtain ⟨j36, j37, j38, j39, j3a, j3b, j3c, j3d⟩ := MB.lz8 BKg1.out
     obtain ⟨j3e, j3f, j3g, j3h, j3i⟩ := MB.lz5 BKg43.out
     obtain ⟨j3j, j3k, j3l, j3m, j3n, j3o, j3p, j3q⟩ := MB.lz8 BKg109.out
     replace HH := zqe HH
     rcases HH with ⟨HH, hk214, hk215⟩ | ⟨HH, hk265, hk266⟩
     ·replace HH := zqe HH
      rcases HH with ⟨HH, hk217, hk218⟩ | ⟨HH, hk241, hk242⟩
      ·go_wp2_with ((with_reducible refine gs 27 2 rfl ?_); refine zs 27 2 #[.int .i64 t84, .int .i64 t85, .bool t86, .int .i64 t87, .string t88, .string t89, .string t90, .slice A133 t91.length cp134] BKg1.out [.int .i64 t84, .int .i64 t85, .bool t86, .int .i64 t87, .string t88, .string t89, .string t90, .slice A133 t91.length cp134] (h := ?_); intro w219 hbk hg)
       refine zg ?_
       replace HF159 := zfg HF159.out hg fun k_ hk_ => hk_.1.1.2
       replace BKg43 := zbg BKg43.out hg NEg43_g1
       replace BKg109 := zbg BKg109.out hg NEg109_g1
       replace HB := zhg HB.out hg (below_size HB.out) GEg1
       replace BKg1 := hbk
       clear hg hbk
       clear j36 j37 j38 j39 j3a j3b j3c j3d j3e j3f j3g j3h j3i j3j j3k j3l j3m j3n j3o j3p j3q
       obtain ⟨j3y, j3z, j3A, j3B, j3C, j3D, j3E, j3F⟩ := MB.lz8 BKg1.out
       obtain ⟨j3G, j3H, j3I, j3J, j3K⟩ := MB.lz5 BKg43.out
       obtain ⟨j3L, j3M, j3N, j3O, j3P, j3Q, j3R, j3S⟩ := MB.lz8 BKg109.out
       have H := HH.out
       simp only [Option.some.injEq, Prod.mk.injEq] at H
       obtain ⟨rfl, rfl, rfl, rfl, rfl, rfl, rfl, rfl, rfl⟩ := H
       clear HH
       go_wp2
       refine bodyPost_ret (results_ct rfl _ _ g1 27 #[.int .i64 t84, .int .i64 t85, .bool t86, .int .i64 t87, .string t88, .string t89, .string t90, .slice A133 t91.length cp134] (0, 0) _ rfl BKg1.out Try.underlying27 rfl (by kernel_rfl)) rfl ?_
       exact ⟨_, _, by first | rfl | (simp; done) | (simp [*]; done), HL160.out, (Kd.F_mono (ok := (fun k_ => (((w.heap.size ≤ k_) ∧ k_ ≠ g1) ∧ k_ ≠ g43) ∧ k_ ≠ g109)) HF159.out (fun k_ hk_ => hk_.1.1.1)), HB.out⟩
      go_wp2_with ((with_reducible refine gs 27 2 rfl ?_); refine zs 27 2 #[.int .i64 0, .int .i64 0, .bool false, .int .i64 0, .string (⟨#[]⟩ : ByteArray), .string (⟨#[]⟩ : ByteArray), .string (⟨#[]⟩ : ByteArray), .slice none 0 0] BKg1.out [.int .i64 0, .int .i64 0, .bool false, .int .i64 0, .string (⟨#[]⟩ : ByteArray), .string (⟨#[]⟩ : ByteArray), .string (⟨#[]⟩ : ByteArray), .slice none 0 0] (h := ?_); intro w243 hbk hg)
      refine zg ?_
      replace BKg43 := zbg BKg43.out hg NEg43_g1
      replace BKg109 := zbg BKg109.out hg NEg109_g1
      replace HB := zhg HB.out hg (below_size HB.out) GEg1
      replace BKg1 := hbk
      clear hg hbk
      clear j36 j37 j38 j39 j3a j3b j3c j3d j3e j3f j3g j3h j3i j3j j3k j3l j3m j3n j3o j3p j3q
      obtain ⟨j3W, j3X, j3Y, j3Z, j40, j41, j42, j43⟩ := MB.lz8 BKg1.out
      obtain ⟨j44, j45, j46, j47, j48⟩ := MB.lz5 BKg43.out
      obtain ⟨j49, j4a, j4b, j4c, j4d, j4e, j4f, j4g⟩ := MB.lz8 BKg109.out
      have H := HH.out
      simp only [Option.some.injEq, Prod.mk.injEq] at H
      obtain ⟨rfl, rfl, rfl, rfl, rfl, rfl, rfl, rfl, rfl⟩ := H
      clear HH
      go_wp2
      refine bodyPost_ret (results_ct rfl _ _ g1 27 #[.int .i64 0, .int .i64 0, .bool false, .int .i64 0, .string (⟨#[]⟩ : ByteArray), .string (⟨#[]⟩ : ByteArray), .string (⟨#[]⟩ : ByteArray), .slice none 0 0] (0, 0) _ rfl BKg1.out Try.underlying27 rfl (by kernel_rfl)) rfl ?_
      exact ⟨none, 0, by first | rfl | (simp; done) | (simp [*]; done), (Nat.le_refl _), (Kd.F_nil _ _ _), HB.out⟩
     go_wp2_with ((with_reducible refine gs 27 2 rfl ?_); refine zs 27 2 #[.int .i64 0, .int .i64 0, .bool false, .int .i64 0, .string (⟨#[]⟩ : ByteArray), .string (⟨#[]⟩ : ByteArray), .string (⟨#[]⟩ : ByteArray), .slice none 0 0] BKg1.out [.int .i64 0, .int .i64 0, .bool false, .int .i64 0, .string (⟨#[]⟩ : ByteArray), .string (⟨#[]⟩ : ByteArray), .string (⟨#[]⟩ : ByteArray), .slice none 0 0] (h := ?_); intro w267 hbk hg)
     refine zg ?_
     replace BKg43 := zbg BKg43.out hg NEg43_g1
     replace BKg109 := zbg BKg109.out hg NEg109_g1
     replace HB := zhg HB.out hg (below_size HB.out) GEg1
     replace BKg1 := hbk
     clear hg hbk
     clear j36 j37 j38 j39 j3a j3b j3c j3d j3e j3f j3g j3h j3i j3j j3k j3l j3m j3n j3o j3p j3q
     obtain ⟨j4k, j4l, j4m, j4n, j4o, j4p, j4q, j4r⟩ := MB.lz8 BKg1.out
     obtain ⟨j4s, j4t, j4u, j4v, j4w⟩ := MB.lz5 BKg43.out
     obtain ⟨j4x, j4y, j4z, j4A, j4B, j4C, j4D, j4E⟩ := MB.lz8 BKg109.out
     have H := HH.out
     simp only [Option.some.injEq, Prod.mk.injEq] at H
     obtain ⟨rfl, rfl, rfl, rfl, rfl, rfl, rfl, rfl, rfl⟩ := H
     clear HH
     go_wp2
     refine bodyPost_ret (results_ct rfl _ _ g1 27 #[.int .i64 0, .int .i64 0, .bool false, .int .i64 0, .string (⟨#[]⟩ : ByteArray), .string (⟨#[]⟩ : ByteArray), .string (⟨#[]⟩ : ByteArray), .slice none 0 0] (0, 0) _ rfl BKg1.out Try.underlying27 rfl (by kernel_rfl)) rfl ?_
     exact ⟨none, 0, by first | rfl | (simp; done) | (simp [*]; done), (Nat.le_refl _), (Kd.F_nil _ _ _), HB.out⟩
    go_wp2_with ((with_reducible refine gs 27 2 rfl ?_); refine zs 27 2 #[.int .i64 0, .int .i64 0, .bool false, .int .i64 0, .string (⟨#[]⟩ : ByteArray), .string (⟨#[]⟩ : ByteArray), .string (⟨#[]⟩ : ByteArray), .slice none 0 0] BKg1.out [.int .i64 0, .int .i64 0, .bool false, .int .i64 0, .string (⟨#[]⟩ : ByteArray), .string (⟨#[]⟩ : ByteArray), .string (⟨#[]⟩ : ByteArray), .slice none 0 0] (h := ?_); intro w291 hbk hg)
    refine zg ?_
    replace BKg43 := zbg BKg43.out hg NEg43_g1
    replace BKg109 := zbg BKg109.out hg NEg109_g1
    replace HB := zhg HB.out hg (below_size HB.out) GEg1
    replace BKg1 := hbk
    clear hg hbk
    clear j2E j2F j2G j2H j2I j2J j2K j2L j2M j2N j2O j2P j2Q j2R j2S j2T j2U j2V j2W j2X j2Y
    obtain ⟨j4I, j4J, j4K, j4L, j4M, j4N, j4O, j4P⟩ := MB.lz8 BKg1.out
    obtain ⟨j4Q, j4R, j4S, j4T, j4U⟩ := MB.lz5 BKg43.out
    obtain ⟨j4V, j4W, j4X, j4Y, j4Z, j50, j51, j52⟩ := MB.lz8 BKg109.out
    have H := HH.out
    simp only [Option.some.injEq, Prod.mk.injEq] at H
    obtain ⟨rfl, rfl, rfl, rfl, rfl, rfl, rfl, rfl, rfl⟩ := H
    clear HH
    go_wp2
    refine bodyPost_ret (results_ct rfl _ _ g1 27 #[.int .i64 0, .int .i64 0, .bool false, .int .i64 0, .string (⟨#[]⟩ : ByteArray), .string (⟨#[]⟩ : ByteArray), .string (⟨#[]⟩ : ByteArray), .slice none 0 0] (0, 0) _ rfl BKg1.out Try.underlying27 rfl (by kernel_rfl)) rfl ?_
    exact ⟨none, 0, by first | rfl | (simp; done) | (simp [*]; done), (Nat.le_refl _), (Kd.F_nil _ _ _), HB.out⟩
   replace HH := MW.hneg HH c156
   replace c156 := Bool.eq_false_iff.mpr c156
   subst c156
   go_wp2_with ((with_reducible refine gs 27 2 rfl ?_); refine zs 27 2 #[.int .i64 0, .int .i64 0, .bool false, .int .i64 0, .string (⟨#[]⟩ : ByteArray), .string (⟨#[]⟩ : ByteArray), .string (⟨#[]⟩ : ByteArray), .slice none 0 0] BKg1.out [.int .i64 0, .int .i64 0, .bool false, .int .i64 0, .string (⟨#[]⟩ : ByteArray), .string (⟨#[]⟩ : ByteArray), .string (⟨#[]⟩ : ByteArray), .slice none 0 0] (h := ?_); intro w313 hbk hg)
   refine zg ?_
   replace BKg43 := zbg BKg43.out hg NEg43_g1
   replace BKg109 := zbg BKg109.out hg NEg109_g1
   replace HB := zhg HB.out hg (below_size HB.out) GEg1
   replace BKg1 := hbk
   clear hg hbk
   clear j2b j2c j2d j2e j2f j2g j2h j2i j2j j2k j2l j2m j2n j2o j2p j2q j2r j2s j2t j2u j2v
   obtain ⟨j54, j55, j56, j57, j58, j59, j5a, j5b⟩ := MB.lz8 BKg1.out
   obtain ⟨j5c, j5d, j5e, j5f, j5g⟩ := MB.lz5 BKg43.out
   obtain ⟨j5h, j5i, j5j, j5k, j5l, j5m, j5n, j5o⟩ := MB.lz8 BKg109.out
   have H := HH.out
   simp only [Option.some.injEq, Prod.mk.injEq] at H
   obtain ⟨rfl, rfl, rfl, rfl, rfl, rfl, rfl, rfl, rfl⟩ := H
   clear HH
   go_wp2
   refine bodyPost_ret (results_ct rfl _ _ g1 27 #[.int .i64 0, .int .i64 0, .bool false, .int .i64 0, .string (⟨#[]⟩ : ByteArray), .string (⟨#[]⟩ : ByteArray), .string (⟨#[]⟩ : ByteArray), .slice none 0 0] (0, 0) _ rfl BKg1.out Try.underlying27 rfl (by kernel_rfl)) rfl ?_
   exact ⟨none, 0, by first | rfl | (simp; done) | (simp [*]; done), (Nat.le_refl _), (Kd.F_nil _ _ _), HB.out⟩
  go_wp2_with ((with_reducible refine gs 27 2 rfl ?_); refine zs 27 2 #[.int .i64 0, .int .i64 0, .bool false, .int .i64 0, .string (⟨#[]⟩ : ByteArray), .string (⟨#[]⟩ : ByteArray), .string (⟨#[]⟩ : ByteArray), .slice none 0 0] BKg1.out [.int .i64 0, .int .i64 0, .bool false, .int .i64 0, .string (⟨#[]⟩ : ByteArray), .string (⟨#[]⟩ : ByteArray), .string (⟨#[]⟩ : ByteArray), .slice none 0 0] (h := ?_); intro w337 hbk hg)
  refine zg ?_
  replace BKg43 := zbg BKg43.out hg NEg43_g1
  replace HB := zhg HB.out hg (below_size HB.out) GEg1
  replace BKg1 := hbk
  clear hg hbk
  clear jZ j10 j11 j12 j13 j14 j15 j16 j17 j18 j19 j1a j1b
  obtain ⟨j5s, j5t, j5u, j5v, j5w, j5x, j5y, j5z⟩ := MB.lz8 BKg1.out
  obtain ⟨j5A, j5B, j5C, j5D, j5E⟩ := MB.lz5 BKg43.out
  have H := HH.out
  simp only [Option.some.injEq, Prod.mk.injEq] at H
  obtain ⟨rfl, rfl, rfl, rfl, rfl, rfl, rfl, rfl, rfl⟩ := H
  clear HH
  go_wp2
  refine bodyPost_ret (results_ct rfl _ _ g1 27 #[.int .i64 0, .int .i64 0, .bool false, .int .i64 0, .string (⟨#[]⟩ : ByteArray), .string (⟨#[]⟩ : ByteArray), .string (⟨#[]⟩ : ByteArray), .slice none 0 0] (0, 0) _ rfl BKg1.out Try.underlying27 rfl (by kernel_rfl)) rfl ?_
  exact ⟨none, 0, by first | rfl | (simp; done) | (simp [*]; done), (Nat.le_refl _), (Kd.F_nil _ _ _), HB.out⟩
 go_wp2_with ((with_reducible refine gs 27 2 rfl ?_); refine zs 27 2 #[.int .i64 0, .int .i64 0, .bool false, .int .i64 0, .string (⟨#[]⟩ : ByteArray), .string (⟨#[]⟩ : ByteArray), .string (⟨#[]⟩ : ByteArray), .slice none 0 0] BKg1.out [.int .i64 0, .int .i64 0, .bool false, .int .i64 0, .string (⟨#[]⟩ : ByteArray), .string (⟨#[]⟩ : ByteArray), .string (⟨#[]⟩ : ByteArray), .slice none 0 0] (h := ?_); intro w353 hbk hg)
 refine zg ?_
 replace BKg43 := zbg BKg43.out hg NEg43_g1
 replace HB := zhg HB.out hg (below_size HB.out) GEg1
 replace BKg1 := hbk
 clear hg hbk
 clear jZ j10 j11 j12 j13 j14 j15 j16 j17 j18 j19 j1a j1b
 obtain ⟨j5I, j5J, j5K, j5L, j5M, j5N, j5O, j5P⟩ := MB.lz8 BKg1.out
 obtain ⟨j5Q, j5R, j5S, j5T, j5U⟩ := MB.lz5 BKg43.out
 have H := HH.out
 simp only [Option.some.injEq, Prod.mk.injEq] at H
 obtain ⟨rfl, rfl, rfl, rfl, rfl, rfl, rfl, rfl, rfl⟩ := H
 clear HH
 go_wp2
 refine bodyPost_ret (results_ct rfl _ _ g1 27 #[.int .i64 0, .int .i64 0, .bool false, .int .i64 0, .string (⟨#[]⟩ : ByteArray), .string (⟨#[]⟩ : ByteArray), .string (⟨#[]⟩ : ByteArray), .slice none 0 0] (0, 0) _ rfl BKg1.out Try.underlying27 rfl (by kernel_rfl)) rfl ?_
 exact ⟨none, 0, by first | rfl | (simp; done) | (simp [*]; done), (Nat.le_refl _), (Kd.F_nil _ _ _), HB.out⟩

def toponymlaw27_awake.f (k : Nat)  : Option (Bool) := (reply_Result.f 1 3 0 (⟨#[]⟩ : ByteArray)).bind fun bt1 => ((reply_Encode.f k [(⟨bt1.1, bt1.2.1, bt1.2.2.1, bt1.2.2.2.1, bt1.2.2.2.2.1, bt1.2.2.2.2.2.1, bt1.2.2.2.2.2.2.1, bt1.2.2.2.2.2.2.2⟩ : S27)]).bind fun bt23 => ((reply_Decode.f k (⟨#[48, 12, 2, 1, 1, 101, 7, 10, 1, 0, 4, 0, 4, 0]⟩ : ByteArray)).bind fun bt28 => ((reply_Decode.f k (⟨#[48, 0]⟩ : ByteArray)).bind fun bt59 => (if (bt23.1.length : Int) = 1 then (if 0 < (bt23.1.length : Int) then (if (rdOf ByteArray.empty bt23.1 (0 : Int)).toList = ([48, 12, 2, 1, 1, 101, 7, 10, 1, 0, 4, 0, 4, 0] : List UInt8) then (if bt23.2 = 0 then (if bt28.1 = 1 then (if bt28.2.1 = 3 then (if bt28.2.2.2.2.2.2.2.2 = 0 then (if bt59.2.2.2.2.2.2.2.2 = 270 then ((reply_Check.f k 0 0 false 0 (⟨#[]⟩ : ByteArray) (⟨#[]⟩ : ByteArray) (⟨#[]⟩ : ByteArray) ([] : List (S46))).bind fun t143 => (if t143 = 270 then ((reply_Same.f k bt28.1 bt28.2.1 bt28.2.2.1 bt28.2.2.2.1 bt28.2.2.2.2.1 bt28.2.2.2.2.2.1 bt28.2.2.2.2.2.2.1 bt28.2.2.2.2.2.2.2.1 bt28.1 bt28.2.1 bt28.2.2.1 bt28.2.2.2.1 bt28.2.2.2.2.1 bt28.2.2.2.2.2.1 bt28.2.2.2.2.2.2.1 bt28.2.2.2.2.2.2.2.1).bind fun t165 => (some t165)) else (some false))) else (some false)) else (some false)) else (some false)) else (some false)) else (some false)) else (some false)) else (none)) else (some false)))))
theorem toponymlaw27_awake.mono : ∀ k, LeO (toponymlaw27_awake.f k ) (toponymlaw27_awake.f (k + 1) ) := by
 intro  k
 unfold toponymlaw27_awake.f
 with_reducible repeat' first | exact reply_Check.mono _ _ _ _ _ _ _ _ _ | exact reply_Decode.mono _ _ | exact reply_Encode.mono _ _ | exact reply_Same.mono _ _ _ _ _ _ _ _ _ _ _ _ _ _ _ _ _ | exact LeO.refl _ | exact LeO.none _ | refine LeO.ite ?_ ?_ | refine LeO.bind ?_ (fun _ => ?_)
theorem toponymlaw27_awake.calls (k : Nat) (r : Bool) (w : World) (h : toponymlaw27_awake.f k  = some r) :
  Calls Try.prog 8 #[] w (fun e w' => e = .returned (.bool r) ∧ Below w.heap.size w w') := by
 unfold toponymlaw27_awake.f at h
 have HH := za h
 clear h
 have HB := za (Below.refl w.heap.size w)
 have hu27 := Try.underlying27
 go_enter Try.func8, Try.ntmps8
 replace HH := zd HH
 obtain ⟨⟨t1, t2, t3, t4, t5, t6, t7, t8⟩, At9, HH⟩ := HH
 dsimp only at HH
 go_wp2_with ((with_reducible refine gc 19 rfl ?_); refine zc 19 (some 8) Try.func19 #[.int .i64 1, .int .i64 3, .int .i64 0, .string (⟨#[]⟩ : ByteArray)] (h := ?_); (with_reducible refine (reply_Result.calls  1 3 0 (⟨#[]⟩ : ByteArray) t1 t2 t3 t4 t5 t6 t7 t8 _  At9.out).mono ?_); rintro e w10 ⟨v11, rfl, hn11, hb⟩; refine ⟨_, rfl, ?_⟩)
 refine zg ?_
 have hba := Kd.N_base hn11
 have HN11 := znl (ok2 := (fun k_ => (w.heap.size ≤ k_))) hn11 (below_size HB.out) (fun k_ h_ => (Nat.le_trans (below_size HB.out) h_))
 replace HB := zhb HB.out hb
 clear hn11 hba hb
 obtain ⟨A12, cp13, he_⟩ := Kd.N_slice HN11.out
 subst he_
 have HL15 := za (Kd.N_reads' HN11.out).2.1
 have HF14 := za (Kd.N_F HN11.out)
 clear HN11
 go_wp2_with (((with_reducible refine gate_dst (N := 9) rfl ?_); (try (refine gate_guard (by rfl) ?_; dsimp only)); refine Kd.N_lit k27 w.heap.size 27 rfl (N' := 9) rfl (xs := [(⟨t1, t2, t3, t4, t5, t6, t7, t8⟩ : S27)]) (inner := [.int .i64 t1, .int .i64 t2, .bool t3, .int .i64 t4, .string t5, .string t6, .string t7, .slice A12 t8.length cp13]) (ok := (fun k_ => (w.heap.size ≤ k_))) (okp := (fun k_ => (w.heap.size ≤ k_))) ?hr ?hp (fun _ hk_ => hk_) ?hf HB.out (below_size HB.out) (by first | simp | decide) ?_; (case hr => first | (go_simp; done) | (go_simp; rfl)); (case hp => exact (Reps.c8 (k27_mkF _ _ (⟨t1, t2, t3, t4, t5, t6, t7, t8⟩ : S27) HL15.out (Kd.F_mono (ok := (fun k_ => (w.heap.size ≤ k_))) HF14.out (fun k_ hk_ => hk_))) (Reps.none _ _))); (case hf => exact (show ∀ k_, w10.heap.size ≤ k_ → (fun k_ => (w.heap.size ≤ k_)) k_ from fun k_ h_ => (Nat.le_trans (below_size HB.out) h_)) _ (Nat.le_refl _)); intro v16 w17 hn1 hb1 hg1 hat1); replace hat1 := za hat1; refine stop_ ?_)
 refine zg ?_
 replace hat1 := hat1.out
 have hbe := MW.grown_below hg1
 have hba := MW.base_of hat1
 replace HB := za hb1
 have HN18 := za hn1
 clear hn1 hb1 hg1 hat1 hbe hba
 obtain ⟨A19, cp20, he_⟩ := Kd.N_slice HN18.out
 subst he_
 have HL22 := za (Kd.N_reads' HN18.out).2.1
 have HF21 := za (Kd.N_F HN18.out)
 clear HN18
 replace HH := zd HH
 obtain ⟨⟨t23, t24⟩, At25, HH⟩ := HH
 dsimp only at HH
 go_wp2_with ((with_reducible refine gc 12 rfl ?_); refine zc 12 (some 10) Try.func12 #[.slice A19 [(⟨t1, t2, t3, t4, t5, t6, t7, t8⟩ : S27)].length cp20] (h := ?_); (with_reducible refine (reply_Encode.calls k (fun k_ => (w.heap.size ≤ k_)) _ _ [(⟨t1, t2, t3, t4, t5, t6, t7, t8⟩ : S27)] t23 t24 _ (Kd.F_mono (ok := (fun k_ => (w.heap.size ≤ k_))) HF21.out (fun k_ hk_ => hk_)) HL22.out At25.out).mono ?_); rintro e w26 ⟨v27, rfl, hn27, hb⟩; refine ⟨_, rfl, ?_⟩)
 refine zg ?_
 have hba := Kd.N_base hn27
 have HN27 := znl (ok2 := (fun k_ => (w.heap.size ≤ k_))) hn27 (below_size HB.out) (fun k_ hk_ => hk_.elim (fun h_ => h_) (fun h_ => (Nat.le_trans (below_size HB.out) h_)))
 replace HB := zhb HB.out hb
 clear hn27 hba hb
 replace HH := zd HH
 obtain ⟨⟨t28, t29, t30, t31, t32, t33, t34, t35, t36⟩, At37, HH⟩ := HH
 dsimp only at HH
 go_wp2_with ((with_reducible refine gc 15 rfl ?_); refine zc 15 (some 14) Try.func15 #[.string (⟨#[48, 12, 2, 1, 1, 101, 7, 10, 1, 0, 4, 0, 4, 0]⟩ : ByteArray)] (h := ?_); (with_reducible refine (reply_Decode.calls k  (⟨#[48, 12, 2, 1, 1, 101, 7, 10, 1, 0, 4, 0, 4, 0]⟩ : ByteArray) t28 t29 t30 t31 t32 t33 t34 t35 t36 _  At37.out).mono ?_); rintro e w38 ⟨A39, cp39, rfl, hl39, hn39, hb⟩; refine ⟨_, rfl, ?_⟩)
 refine zg ?_
 have HL39 := za hl39
 have HF39 := za (Kd.F_mono hn39 (fun k_ h_ => ⟨(Nat.le_trans (below_size HB.out) h_), Kd.fresh' (Kd.N_lt HN27.out) k_ h_⟩) : Kd.F k46 _ (fun k_ => (w.heap.size ≤ k_) ∧ some k_ ≠ (v27 : Value).ownBlock) _ _ _)
 clear hn39 hl39
 replace HN27 := znb HN27.out hb
 replace HB := zhb HB.out hb
 clear hb
 go_wp2_with ((with_reducible refine gd 3 rfl ?_); refine zb 3 27 #[.int .i64 0, .int .i64 0, .bool false, .int .i64 0, .string (⟨#[]⟩ : ByteArray), .string (⟨#[]⟩ : ByteArray), .string (⟨#[]⟩ : ByteArray), .slice none 0 0] (h := ?_); intro g40 hg w41 BKg40 hb)
 refine zg ?_
 have GEg40 := zge hg (below_size HB.out)
 replace HF39 := zfe HF39.out hg hb
 replace HN27 := zne HN27.out hg hb
 replace HB := zhb HB.out hb
 clear hg hb
 obtain ⟨jG, jH, jI, jJ, jK, jL, jM, jN⟩ := MB.lz8 BKg40.out
 go_wp2_with ((with_reducible refine gs 27 3 rfl ?_); refine zs 27 3 #[.int .i64 t28, .int .i64 t29, .bool t30, .int .i64 t31, .string t32, .string t33, .string t34, .slice A39 t35.length cp39] BKg40.out [.int .i64 t28, .int .i64 t29, .bool t30, .int .i64 t31, .string t32, .string t33, .string t34, .slice A39 t35.length cp39] (h := ?_); intro w50 hbk hg)
 refine zg ?_
 replace HF39 := zfg HF39.out hg fun k_ hk_ => hk_.2
 replace HN27 := zng HN27.out hg fun k_ hk_ => hk_.2
 replace HB := zhg HB.out hg (below_size HB.out) GEg40
 replace BKg40 := hbk
 clear hg hbk
 clear jG jH jI jJ jK jL jM jN
 obtain ⟨jP, jQ, jR, jS, jT, jU, jV, jW⟩ := MB.lz8 BKg40.out
 replace HH := zd HH
 obtain ⟨⟨t59, t60, t61, t62, t63, t64, t65, t66, t67⟩, At68, HH⟩ := HH
 dsimp only at HH
 go_wp2_with ((with_reducible refine gc 15 rfl ?_); refine zc 15 (some 18) Try.func15 #[.string (⟨#[48, 0]⟩ : ByteArray)] (h := ?_); (with_reducible refine (reply_Decode.calls k  (⟨#[48, 0]⟩ : ByteArray) t59 t60 t61 t62 t63 t64 t65 t66 t67 _  At68.out).mono ?_); rintro e w69 ⟨A70, cp70, rfl, hl70, hn70, hb⟩; refine ⟨_, rfl, ?_⟩)
 refine zg ?_
 clear hn70 hl70
 replace HF39 := zfb HF39.out hb
 replace HN27 := znb HN27.out hb
 replace BKg40 := zbb BKg40.out hb
 replace HB := zhb HB.out hb
 clear hb
 clear jP jQ jR jS jT jU jV jW
 obtain ⟨j19, j1a, j1b, j1c, j1d, j1e, j1f, j1g⟩ := MB.lz8 BKg40.out
 go_wp2_with ((with_reducible refine gd 5 rfl ?_); refine zb 5 27 #[.int .i64 0, .int .i64 0, .bool false, .int .i64 0, .string (⟨#[]⟩ : ByteArray), .string (⟨#[]⟩ : ByteArray), .string (⟨#[]⟩ : ByteArray), .slice none 0 0] (h := ?_); intro g79 hg w80 BKg79 hb)
 refine zg ?_
 have GEg79 := zge hg (below_size HB.out)
 have NEg40_g79 := znq hg BKg40.out
 replace HF39 := zfe HF39.out hg hb
 replace HN27 := zne HN27.out hg hb
 replace BKg40 := zbb BKg40.out hb
 replace HB := zhb HB.out hb
 clear hg hb
 clear j19 j1a j1b j1c j1d j1e j1f j1g
 obtain ⟨j1j, j1k, j1l, j1m, j1n, j1o, j1p, j1q⟩ := MB.lz8 BKg40.out
 obtain ⟨j1r, j1s, j1t, j1u, j1v, j1w, j1x, j1y⟩ := MB.lz8 BKg79.out
 go_wp2_with ((with_reducible refine gs 27 5 rfl ?_); refine zs 27 5 #[.int .i64 t59, .int .i64 t60, .bool t61, .int .i64 t62, .string t63, .string t64, .string t65, .slice A70 t66.length cp70] BKg79.out [.int .i64 t59, .int .i64 t60, .bool t61, .int .i64 t62, .string t63, .string t64, .string t65, .slice A70 t66.length cp70] (h := ?_); intro w97 hbk hg)
 refine zg ?_
 replace HF39 := zfg HF39.out hg fun k_ hk_ => hk_.2
 replace HN27 := zng HN27.out hg fun k_ hk_ => hk_.2
 replace BKg40 := zbg BKg40.out hg NEg40_g79
 replace HB := zhg HB.out hg (below_size HB.out) GEg79
 replace BKg79 := hbk
 clear hg hbk
 clear j1j j1k j1l j1m j1n j1o j1p j1q j1r j1s j1t j1u j1v j1w j1x j1y
 obtain ⟨j1A, j1B, j1C, j1D, j1E, j1F, j1G, j1H⟩ := MB.lz8 BKg40.out
 obtain ⟨j1I, j1J, j1K, j1L, j1M, j1N, j1O, j1P⟩ := MB.lz8 BKg79.out
 obtain ⟨A114, cp115, he_⟩ := Kd.N_slice HN27.out
 subst he_
 replace HH := zqe HH
 rcases HH with ⟨HH, hk117, hk118⟩ | ⟨HH, hk202, hk203⟩
 ·replace HH := zqno 0 HH
  obtain ⟨HH, hk120, hk121, hk122, hk123⟩ := HH
  have p124 : 0 ≤ (0 : Int) := by decide
  have q124 : (0 : Int) < (t23.length : Int) := of_decide_eq_true (by first | (with_reducible assumption) | assumption)
  obtain ⟨ad124, e124, hx124_0⟩ := Kd.at_string (Kd.F_now (Kd.N_F HN27.out)) (0 : Int) p124 q124
  cases e124
  (try simp only [show ((0 : Int)).toNat = 0 from rfl] at hx124_0)
  (try rw [Addr.add_zero'] at hx124_0)
  replace p124 := eq_true p124
  replace q124 := eq_true q124
  replace HH := zqe HH
  rcases HH with ⟨HH, hk126, hk127⟩ | ⟨HH, hk196, hk197⟩
  ·replace HH := zqe HH
   rcases HH with ⟨HH, hk129, hk130⟩ | ⟨HH, hk194, hk195⟩
   ·replace HH := zqe HH
    rcases HH with ⟨HH, hk132, hk133⟩ | ⟨HH, hk192, hk193⟩
    ·replace HH := zqe HH
     rcases HH with ⟨HH, hk135, hk136⟩ | ⟨HH, hk190, hk191⟩
     ·replace HH := zqe HH
      rcases HH with ⟨HH, hk138, hk139⟩ | ⟨HH, hk188, hk189⟩
      ·replace HH := zqe HH
       rcases HH with ⟨HH, hk141, hk142⟩ | ⟨HH, hk186, hk187⟩
       ·replace HH := zd HH
        obtain ⟨t143, At144, HH⟩ := HH
        go_wp2_with ((with_reducible refine gc 10 rfl ?_); refine zc 10 (some 54) Try.func10 #[.agg #[.int .i64 0, .int .i64 0, .bool false, .int .i64 0, .string (⟨#[]⟩ : ByteArray), .string (⟨#[]⟩ : ByteArray), .string (⟨#[]⟩ : ByteArray), .slice none 0 0]] (h := ?_); (refine (reply_Check.calls k (fun k_ => (((w.heap.size ≤ k_) ∧ some k_ ≠ ((.slice (some ad124) t23.length cp115) : Value).ownBlock) ∧ k_ ≠ g40) ∧ k_ ≠ g79) 0 0 false 0 (⟨#[]⟩ : ByteArray) (⟨#[]⟩ : ByteArray) (⟨#[]⟩ : ByteArray) _ _ ([] : List (S46)) t143 _ (Kd.F_nil _ _ _) (Nat.le_refl _) At144.out).mono ?_); rintro e w145 ⟨rfl, hb⟩; refine ⟨_, rfl, ?_⟩)
        refine zg ?_
        replace HF39 := zfb HF39.out hb
        replace BKg40 := zbb BKg40.out hb
        replace BKg79 := zbb BKg79.out hb
        replace HB := zhb HB.out hb
        clear hb
        clear j1A j1B j1C j1D j1E j1F j1G j1H j1I j1J j1K j1L j1M j1N j1O j1P hx124_0 p124 q124
        obtain ⟨j2m, j2n, j2o, j2p, j2q, j2r, j2s, j2t⟩ := MB.lz8 BKg40.out
        obtain ⟨j2u, j2v, j2w, j2x, j2y, j2z, j2A, j2B⟩ := MB.lz8 BKg79.out
        replace HH := zqe HH
        rcases HH with ⟨HH, hk163, hk164⟩ | ⟨HH, hk184, hk185⟩
        ·replace HH := zd HH
         obtain ⟨t165, At166, HH⟩ := HH
         go_wp2_with ((with_reducible refine gc 18 rfl ?_); refine zc 18 (some 60) Try.func18 #[.agg #[.int .i64 t28, .int .i64 t29, .bool t30, .int .i64 t31, .string t32, .string t33, .string t34, .slice A39 t35.length cp39], .agg #[.int .i64 t28, .int .i64 t29, .bool t30, .int .i64 t31, .string t32, .string t33, .string t34, .slice A39 t35.length cp39]] (h := ?_); (with_reducible refine (reply_Same.calls k (fun k_ => (((w.heap.size ≤ k_) ∧ some k_ ≠ ((.slice (some ad124) t23.length cp115) : Value).ownBlock) ∧ k_ ≠ g40) ∧ k_ ≠ g79) t28 t29 t30 t31 t32 t33 t34 _ _ t35 t28 t29 t30 t31 t32 t33 t34 _ _ t35 t165 _ (Kd.F_mono (ok := (fun k_ => (((w.heap.size ≤ k_) ∧ some k_ ≠ ((.slice (some ad124) t23.length cp115) : Value).ownBlock) ∧ k_ ≠ g40) ∧ k_ ≠ g79)) HF39.out (fun k_ hk_ => hk_)) HL39.out (Kd.F_mono (ok := (fun k_ => (((w.heap.size ≤ k_) ∧ some k_ ≠ ((.slice (some ad124) t23.length cp115) : Value).ownBlock) ∧ k_ ≠ g40) ∧ k_ ≠ g79)) HF39.out (fun k_ hk_ => hk_)) HL39.out At166.out).mono ?_); rintro e w167 ⟨rfl, hb⟩; refine ⟨_, rfl, ?_⟩)
         refine zg ?_
         replace BKg40 := zbb BKg40.out hb
         replace BKg79 := zbb BKg79.out hb
         replace HB := zhb HB.out hb
         clear hb
         clear j2m j2n j2o j2p j2q j2r j2s j2t j2u j2v j2w j2x j2y j2z j2A j2B
         obtain ⟨j2I, j2J, j2K, j2L, j2M, j2N, j2O, j2P⟩ := MB.lz8 BKg40.out
         obtain ⟨j2Q, j2R, j2S, j2T, j2U, j2V, j2W, j2X⟩ := MB.lz8 BKg79.out
         obtain rfl := Option.some.inj HH.out
         clear HH
         go_wp2
         go_ret
         exact zfi HB.out
        obtain rfl := Option.some.inj HH.out
        clear HH
        go_wp2
        go_ret
        exact zfi HB.out
       obtain rfl := Option.some.inj HH.out
       clear HH
       go_wp2
       go_ret
       exact zfi HB.out
      obtain rfl := Option.some.inj HH.out
      clear HH
      go_wp2
      go_ret
      exact zfi HB.out
     obtain rfl := Option.some.inj HH.out
     clear HH
     go_wp2
     go_ret
     exact zfi HB.out
    obtain rfl := Option.some.inj HH.out
    clear HH
    go_wp2
    go_ret
    exact zfi HB.out
   obtain rfl := Option.some.inj HH.out
   clear HH
   go_wp2
   go_ret
   exact zfi HB.out
  obtain rfl := Option.some.inj HH.out
  clear HH
  go_wp2
  go_ret
  exact zfi HB.out
 obtain rfl := Option.some.inj HH.out
 clear HH
 go_wp2
 go_ret
 exact zfi HB.out

def toponymlaw27_ReplyEncodes.l0 : Nat → Int → (List (S27)) → Option (Bool)
 | 0, _, _ => none
 | k + 1, x9, l0 => if x9 < (l0.length : Int) then (if 0 ≤ x9 then ((toponymlaw27_few.f k ((rd_T27 l0 x9).f0) ((rd_T27 l0 x9).f1) ((rd_T27 l0 x9).f2) ((rd_T27 l0 x9).f3) ((rd_T27 l0 x9).f4) ((rd_T27 l0 x9).f5) ((rd_T27 l0 x9).f6) ((rd_T27 l0 x9).f7)).bind fun t18 => (if t18 = true then ((reply_Check.f k ((rd_T27 l0 x9).f0) ((rd_T27 l0 x9).f1) ((rd_T27 l0 x9).f2) ((rd_T27 l0 x9).f3) ((rd_T27 l0 x9).f4) ((rd_T27 l0 x9).f5) ((rd_T27 l0 x9).f6) ((rd_T27 l0 x9).f7)).bind fun t24 => ((toponymref27_Check.f k ((rd_T27 l0 x9).f0) ((rd_T27 l0 x9).f1) ((rd_T27 l0 x9).f2) ((rd_T27 l0 x9).f3) ((rd_T27 l0 x9).f4) ((rd_T27 l0 x9).f5) ((rd_T27 l0 x9).f6) ((rd_T27 l0 x9).f7)).bind fun t27 => (if t24 = t27 then ((toponymlaw27_ReplyEncodes.l0 k (wrap64 (x9 + 1)) l0)) else (some false)))) else ((toponymlaw27_awake.f k ).bind fun t35 => (some t35)))) else (none)) else ((reply_Encode.f k l0).bind fun bt41 => ((toponymref27_Encode.f k l0).bind fun bt46 => ((toponymref16_SameTexts.f k bt41.1 bt46.1).bind fun t59 => (if t59 = true then (if bt41.2 = bt46.2 then ((toponymlaw27_awake.f k ).bind fun t66 => (some t66)) else (some false)) else (some false)))))
def toponymlaw27_ReplyEncodes.f (k : Nat) (l0 : List (S27)) : Option (Bool) := if (l0.length : Int) > 6 then ((toponymlaw27_awake.f k ).bind fun t4 => (some t4)) else ((toponymlaw27_ReplyEncodes.l0 k 0 l0))
theorem toponymlaw27_ReplyEncodes.mono_l : ∀ k, (∀ y0 y1, LeO (toponymlaw27_ReplyEncodes.l0 k y0 y1) (toponymlaw27_ReplyEncodes.l0 (k + 1) y0 y1))
 | 0 => fun _ _ r h => by simp [toponymlaw27_ReplyEncodes.l0] at h
 | k + 1 => by
  have ih0 := toponymlaw27_ReplyEncodes.mono_l k
  ·intro y0 y1
   unfold toponymlaw27_ReplyEncodes.l0
   with_reducible repeat' first | exact ih0 _ _ | exact reply_Check.mono _ _ _ _ _ _ _ _ _ | exact reply_Encode.mono _ _ | exact toponymlaw27_awake.mono _ | exact toponymlaw27_few.mono _ _ _ _ _ _ _ _ _ | exact toponymref16_SameTexts.mono _ _ _ | exact toponymref27_Check.mono _ _ _ _ _ _ _ _ _ | exact toponymref27_Encode.mono _ _ | exact LeO.refl _ | exact LeO.none _ | refine LeO.ite ?_ ?_ | refine LeO.bind ?_ (fun _ => ?_)
theorem toponymlaw27_ReplyEncodes.mono : ∀ a0_ k, LeO (toponymlaw27_ReplyEncodes.f k a0_) (toponymlaw27_ReplyEncodes.f (k + 1) a0_) := by
 intro a0_ k
 have ih0 := toponymlaw27_ReplyEncodes.mono_l k
 unfold toponymlaw27_ReplyEncodes.f
 with_reducible repeat' first | exact ih0 _ _ | exact reply_Check.mono _ _ _ _ _ _ _ _ _ | exact reply_Encode.mono _ _ | exact toponymlaw27_awake.mono _ | exact toponymlaw27_few.mono _ _ _ _ _ _ _ _ _ | exact toponymref16_SameTexts.mono _ _ _ | exact toponymref27_Check.mono _ _ _ _ _ _ _ _ _ | exact toponymref27_Encode.mono _ _ | exact LeO.refl _ | exact LeO.none _ | refine LeO.ite ?_ ?_ | refine LeO.bind ?_ (fun _ => ?_)
theorem toponymlaw27_ReplyEncodes.calls (k : Nat) (P_ : Nat → Prop) (A0 : Option Addr) (c0 : Nat) (l0 : List (S27)) (r : Bool) (w : World) (hs0 : Kd.F k27 w P_ A0 l0.length l0) (hc0 : l0.length ≤ c0) (h : toponymlaw27_ReplyEncodes.f k l0 = some r) :
  Calls Try.prog 3 #[.slice A0 l0.length c0] w (fun e w' => e = .returned (.bool r) ∧ Below w.heap.size w w') := by
 unfold toponymlaw27_ReplyEncodes.f at h
 have HH := za h
 clear h
 have HF0 := zfp hs0
 have HL0 := za hc0
 clear hs0 hc0
 have HB := za (Below.refl w.heap.size w)
 have hu27 := Try.underlying27
 go_enter Try.func3, Try.ntmps3
 replace HH := zqK 6 HH
 rcases HH with ⟨HH, hk2, hk3⟩ | ⟨HH, hk7, hk8⟩
 ·replace HH := zd HH
  obtain ⟨t4, At5, HH⟩ := HH
  go_wp2_with ((with_reducible refine gc 8 rfl ?_); refine zc 8 (some 11) Try.func8 #[] (h := ?_); (with_reducible refine (toponymlaw27_awake.calls k  t4 _  At5.out).mono ?_); rintro e w6 ⟨rfl, hb⟩; refine ⟨_, rfl, ?_⟩)
  refine zg ?_
  replace HB := zhb HB.out hb
  clear hb
  obtain rfl := Option.some.inj HH.out
  clear HH
  go_wp2
  go_ret
  exact zfi HB.out
 go_wp2
 go_loopg [3] k (fun kq u3 w' => ∃ (x9 : Int), u3 = .int .i64 x9 ∧ Aside0 ((toponymlaw27_ReplyEncodes.l0 kq x9 l0) = some r) ∧ Aside0 (kq ≤ k) ∧ Aside0 (Kd.F k27 w' (fun k_ => (P_ k_ ∨ w.heap.size ≤ k_)) A0 l0.length l0) ∧ Aside0 (Below w.heap.size w w'))
 case atStart => exact ⟨0, (by first | rfl | (simp; done) | (simp [*]; done)), HH, ⟨Nat.le_refl _⟩, ⟨(Kd.F_mono (ok := (fun k_ => (P_ k_ ∨ w.heap.size ≤ k_))) HF0.out (fun k_ hk_ => hk_))⟩, ⟨HB.out⟩⟩
 case round =>
  clear hk7
  clear hk8
  clear HH
  clear HF0 HB
  obtain ⟨x9, rfl, HA, HK0, HF0, HB⟩ := hrel
  obtain ⟨w11, rfl⟩ : ∃ wo_ : World, wo_ = wr := ⟨_, rfl⟩
  cases gk with
  | zero => exact absurd HA.out (by simp [toponymlaw27_ReplyEncodes.l0])
  | succ k10 =>
   have H := HA.out
   clear HA
   simp only [toponymlaw27_ReplyEncodes.l0] at H
   have HH := za H
   clear H
   replace HH := zqt HH
   rcases HH with ⟨HH, hk13, hk14⟩ | ⟨HH, hk39, hk40⟩
   ·replace HH := zqdo HH
    obtain ⟨HH, hk16⟩ := HH
    have p17 : 0 ≤ (x9 : Int) := of_decide_eq_true (by first | (with_reducible assumption) | assumption)
    have q17 : x9 < (l0.length : Int) := of_decide_eq_true (by first | (with_reducible assumption) | assumption)
    obtain ⟨ad17, A17_7, c17_7, e17, hx17_0, hx17_1, hx17_2, hx17_3, hx17_4, hx17_5, hx17_6, hx17_7, hl17_7, hi17_7⟩ := atF_T27 HF0.out x9 p17 q17
    cases e17
    have HF17_7 := za hi17_7
    have HL17_7 := za hl17_7
    clear hi17_7 hl17_7
    replace p17 := eq_true p17
    replace q17 := eq_true q17
    replace HH := zd HH
    obtain ⟨t18, At19, HH⟩ := HH
    go_wp2_with ((with_reducible refine gc 9 rfl ?_); refine zc 9 (some 22) Try.func9 #[.agg #[.int .i64 ((rd_T27 l0 x9).f0), .int .i64 ((rd_T27 l0 x9).f1), .bool ((rd_T27 l0 x9).f2), .int .i64 ((rd_T27 l0 x9).f3), .string ((rd_T27 l0 x9).f4), .string ((rd_T27 l0 x9).f5), .string ((rd_T27 l0 x9).f6), .slice A17_7 ((rd_T27 l0 x9).f7).length c17_7]] (h := ?_); (with_reducible refine (toponymlaw27_few.calls k10 (fun k_ => (P_ k_ ∨ w.heap.size ≤ k_)) ((rd_T27 l0 x9).f0) ((rd_T27 l0 x9).f1) ((rd_T27 l0 x9).f2) ((rd_T27 l0 x9).f3) ((rd_T27 l0 x9).f4) ((rd_T27 l0 x9).f5) ((rd_T27 l0 x9).f6) _ _ ((rd_T27 l0 x9).f7) t18 _ (Kd.F_mono (ok := (fun k_ => (P_ k_ ∨ w.heap.size ≤ k_))) HF17_7.out (fun k_ hk_ => hk_)) HL17_7.out At19.out).mono ?_); rintro e w20 ⟨rfl, hb⟩; refine ⟨_, rfl, ?_⟩)
    refine zg ?_
    replace HF0 := zfb HF0.out hb
    replace HB := zhb HB.out hb
    clear hb
    clear hx17_0 hx17_1 hx17_2 hx17_3 hx17_4 hx17_5 hx17_6 hx17_7 p17 q17
    by_cases c21 : t18 = true
    ·replace HH := MW.hpos HH c21
     subst c21
     go_wp2
     have hwr_ : ∀ n_ : Int, IntKind.i64.wrap n_ = wrap64 n_ := fun n_ => IntWalk.i64_left n_
     refine wp_region_any (by kernel_rfl) ?_
     change wpAny _ _ _ _ 11 #[false, false, false, false, false, false, false, false, false, false, false] _ w20.drew
     obtain ⟨w22, hw_⟩ : ∃ w_ : World, w_ = w20.drew := ⟨_, rfl⟩
     rw [← hw_]
     have hb : Below w20.heap.size w20 w22 := by rw [hw_]; exact below_drew1 (Below.refl _ _)
     clear hw_
     replace HF0 := zfb HF0.out hb
     replace HB := zhb HB.out hb
     clear hb
     have p23 : 0 ≤ (x9 : Int) := of_decide_eq_true (by first | (with_reducible assumption) | assumption)
     have q23 : x9 < (l0.length : Int) := of_decide_eq_true (by first | (with_reducible assumption) | assumption)
     obtain ⟨ad23, A23_7, c23_7, e23, hx23_0, hx23_1, hx23_2, hx23_3, hx23_4, hx23_5, hx23_6, hx23_7, hl23_7, hi23_7⟩ := atF_T27 HF0.out x9 p23 q23
     cases e23
     have HF23_7 := za hi23_7
     have HL23_7 := za hl23_7
     clear hi23_7 hl23_7
     replace p23 := eq_true p23
     replace q23 := eq_true q23
     refine MW.last_in (ds := [9]) (zk hx23_0 (zk hx23_1 (zk (by first | exact hx23_2 | (rw [hx23_2]; simp [*]; done)) (zk hx23_3 (zk hx23_4 (zk hx23_5 (zk hx23_6 (zk hx23_7 z0)))))))) ?_
     refine zlp 0 (.slice (some ad17) l0.length c0) #[_, _, _, _, _, _, _, _, _, _, _] ⟨[_, _, _, _, _, _, _, _, _, _, _, _, _, _, _, _, _, _, _, _, _, _, _, _, _, _, _, _, _, _, _, _, _, _, _, _, _, _, _, _, _, _, _, _, _, _, _, _, _, _, _, _, _, _, _, _, _].toArray, []⟩ (h := ?_)
     refine zlp 1 (.int .i64 x9) #[_, _, _, _, _, _, _, _, _, _, _] ⟨[_, _, _, _, _, _, _, _, _, _, _, _, _, _, _, _, _, _, _, _, _, _, _, _, _, _, _, _, _, _, _, _, _, _, _, _, _, _, _, _, _, _, _, _, _, _, _, _, _, _, _, _, _, _, _, _, _].toArray, []⟩ (h := ?_)
     refine zlp 2 (.pointer (some (ad17.add (x9.toNat * 8)))) #[_, _, _, _, _, _, _, _, _, _, _] ⟨[_, _, _, _, _, _, _, _, _, _, _, _, _, _, _, _, _, _, _, _, _, _, _, _, _, _, _, _, _, _, _, _, _, _, _, _, _, _, _, _, _, _, _, _, _, _, _, _, _, _, _, _, _, _, _, _, _].toArray, []⟩ (h := ?_)
     refine zlp 5 (.slice (some ad17) l0.length c0) #[_, _, _, _, _, _, _, _, _, _, _] ⟨[_, _, _, _, _, _, _, _, _, _, _, _, _, _, _, _, _, _, _, _, _, _, _, _, _, _, _, _, _, _, _, _, _, _, _, _, _, _, _, _, _, _, _, _, _, _, _, _, _, _, _, _, _, _, _, _, _].toArray, []⟩ (h := ?_)
     refine zlp 6 (.int .i64 x9) #[_, _, _, _, _, _, _, _, _, _, _] ⟨[_, _, _, _, _, _, _, _, _, _, _, _, _, _, _, _, _, _, _, _, _, _, _, _, _, _, _, _, _, _, _, _, _, _, _, _, _, _, _, _, _, _, _, _, _, _, _, _, _, _, _, _, _, _, _, _, _].toArray, []⟩ (h := ?_)
     refine zlp 7 (.pointer (some (ad17.add (x9.toNat * 8)))) #[_, _, _, _, _, _, _, _, _, _, _] ⟨[_, _, _, _, _, _, _, _, _, _, _, _, _, _, _, _, _, _, _, _, _, _, _, _, _, _, _, _, _, _, _, _, _, _, _, _, _, _, _, _, _, _, _, _, _, _, _, _, _, _, _, _, _, _, _, _, _].toArray, []⟩ (h := ?_)
     refine MW.last_take (i := 3) (v := .agg #[.int .i64 ((rd_T27 l0 x9).f0), .int .i64 ((rd_T27 l0 x9).f1), .bool ((rd_T27 l0 x9).f2), .int .i64 ((rd_T27 l0 x9).f3), .string ((rd_T27 l0 x9).f4), .string ((rd_T27 l0 x9).f5), .string ((rd_T27 l0 x9).f6), .slice A23_7 ((rd_T27 l0 x9).f7).length c23_7]) (listed' := #[_, _, _, _, _, _, _, _, _, _, _]) (a' := ⟨[_, _, _, _, _, _, _, _, _, _, _, _, _, _, _, _, _, _, _, _, _, _, _, _, _, _, _, _, _, _, _, _, _, _, _, _, _, _, _, _, _, _, _, _, _, _, _, _, _, _, _, _, _, _, _, _, _].toArray, []⟩) rfl (by kernel_rfl) (by kernel_rfl) (by kernel_rfl) (by kernel_rfl) (by kernel_rfl) (fun _ _ _ h_ => h_) (by kernel_rfl) (fun w_ hS_ => ?go) (zk hx23_0 (zk hx23_1 (zk (by first | exact hx23_2 | (rw [hx23_2]; simp [*]; done)) (zk hx23_3 (zk hx23_4 (zk hx23_5 (zk hx23_6 (zk hx23_7 z0)))))))) rfl rfl ?_
     case go => obtain ⟨hs0_, hs1_, hs2_, hs3_, hs4_, hs5_, hs6_, hs7_, _⟩ := hS_; first | (go_simp; done) | (go_simp; rfl)
     refine MW.last_take (i := 8) (v := .agg #[.int .i64 ((rd_T27 l0 x9).f0), .int .i64 ((rd_T27 l0 x9).f1), .bool ((rd_T27 l0 x9).f2), .int .i64 ((rd_T27 l0 x9).f3), .string ((rd_T27 l0 x9).f4), .string ((rd_T27 l0 x9).f5), .string ((rd_T27 l0 x9).f6), .slice A23_7 ((rd_T27 l0 x9).f7).length c23_7]) (listed' := #[_, _, _, _, _, _, _, _, _, _, _]) (a' := ⟨[_, _, _, _, _, _, _, _, _, _, _, _, _, _, _, _, _, _, _, _, _, _, _, _, _, _, _, _, _, _, _, _, _, _, _, _, _, _, _, _, _, _, _, _, _, _, _, _, _, _, _, _, _, _, _, _, _].toArray, []⟩) rfl (by kernel_rfl) (by kernel_rfl) (by kernel_rfl) (by kernel_rfl) (by kernel_rfl) (fun _ _ _ h_ => h_) (by kernel_rfl) (fun w_ hS_ => ?go) (zk hx23_0 (zk hx23_1 (zk (by first | exact hx23_2 | (rw [hx23_2]; simp [*]; done)) (zk hx23_3 (zk hx23_4 (zk hx23_5 (zk hx23_6 (zk hx23_7 z0)))))))) rfl rfl ?_
     case go => obtain ⟨hs0_, hs1_, hs2_, hs3_, hs4_, hs5_, hs6_, hs7_, _⟩ := hS_; first | (go_simp; done) | (go_simp; rfl)
     refine MW.last_act (i := 4) (listed' := #[true, true, true, true, true, true, true, true, true, false, false]) rfl (by kernel_rfl) (by kernel_rfl) (by decide) ?_
     replace HH := zd HH
     obtain ⟨t24, At25, HH⟩ := HH
     go_wp2_with ((with_reducible refine gc 10 rfl ?_); refine zc 10 (some 29) Try.func10 #[.agg #[.int .i64 ((rd_T27 l0 x9).f0), .int .i64 ((rd_T27 l0 x9).f1), .bool ((rd_T27 l0 x9).f2), .int .i64 ((rd_T27 l0 x9).f3), .string ((rd_T27 l0 x9).f4), .string ((rd_T27 l0 x9).f5), .string ((rd_T27 l0 x9).f6), .slice A23_7 ((rd_T27 l0 x9).f7).length c23_7]] (h := ?_); (with_reducible refine (reply_Check.calls k10 (fun k_ => (P_ k_ ∨ w.heap.size ≤ k_)) ((rd_T27 l0 x9).f0) ((rd_T27 l0 x9).f1) ((rd_T27 l0 x9).f2) ((rd_T27 l0 x9).f3) ((rd_T27 l0 x9).f4) ((rd_T27 l0 x9).f5) ((rd_T27 l0 x9).f6) _ _ ((rd_T27 l0 x9).f7) t24 _ (Kd.F_mono (ok := (fun k_ => (P_ k_ ∨ w.heap.size ≤ k_))) HF23_7.out (fun k_ hk_ => hk_)) HL23_7.out At25.out).mono ?_); rintro e w26 ⟨rfl, hb⟩; refine ⟨_, rfl, ?_⟩)
     refine zg ?_
     replace HF0 := zfb HF0.out hb
     replace HF23_7 := zfb HF23_7.out hb
     replace hx23_0 := zcl hx23_0 hb
     replace hx23_1 := zcl hx23_1 hb
     replace hx23_2 := zcl hx23_2 hb
     replace hx23_3 := zcl hx23_3 hb
     replace hx23_4 := zcl hx23_4 hb
     replace hx23_5 := zcl hx23_5 hb
     replace hx23_6 := zcl hx23_6 hb
     replace hx23_7 := zcl hx23_7 hb
     replace HB := zhb HB.out hb
     clear hb
     clear p23 q23
     refine wpList_nil ?_
     change MW.Cells _ _ ∧ wpAnyLast _ _ _ _ _ _ 2 #[true, true, true, true, true, true, true, true, true, false, false] ⟨[_, _, _, _, _, _, _, _, _, _, _, _, _, _, _, _, _, _, _, _, _, _, _, _, _, _, _, _, _, _, _, _, _, _, _, _, _, _, _, _, _, _, _, _, _, _, _, _, _, _, _, _, _, _, _, _, _].toArray, []⟩ _
     refine ⟨(zk hx23_0 (zk hx23_1 (zk (by first | exact hx23_2 | (rw [hx23_2]; simp [*]; done)) (zk hx23_3 (zk hx23_4 (zk hx23_5 (zk hx23_6 (zk hx23_7 z0)))))))), ?_⟩
     refine MW.last_fin (i := 9) (listed' := #[true, true, true, true, true, true, true, true, true, true, false]) rfl (by kernel_rfl) (by kernel_rfl) (by kernel_rfl) ?_
     replace HH := zd HH
     obtain ⟨t27, At28, HH⟩ := HH
     go_wp2_with ((with_reducible refine gc 11 rfl ?_); refine zc 11 (some 34) Try.func11 #[.agg #[.int .i64 ((rd_T27 l0 x9).f0), .int .i64 ((rd_T27 l0 x9).f1), .bool ((rd_T27 l0 x9).f2), .int .i64 ((rd_T27 l0 x9).f3), .string ((rd_T27 l0 x9).f4), .string ((rd_T27 l0 x9).f5), .string ((rd_T27 l0 x9).f6), .slice A23_7 ((rd_T27 l0 x9).f7).length c23_7]] (h := ?_); (with_reducible refine (toponymref27_Check.calls k10 (fun k_ => (P_ k_ ∨ w.heap.size ≤ k_)) ((rd_T27 l0 x9).f0) ((rd_T27 l0 x9).f1) ((rd_T27 l0 x9).f2) ((rd_T27 l0 x9).f3) ((rd_T27 l0 x9).f4) ((rd_T27 l0 x9).f5) ((rd_T27 l0 x9).f6) _ _ ((rd_T27 l0 x9).f7) t27 _ (Kd.F_mono (ok := (fun k_ => (P_ k_ ∨ w.heap.size ≤ k_))) HF23_7.out (fun k_ hk_ => hk_)) HL23_7.out At28.out).mono ?_); rintro e w29 ⟨rfl, hb⟩; refine ⟨_, rfl, ?_⟩)
     refine zg ?_
     replace HF0 := zfb HF0.out hb
     replace HB := zhb HB.out hb
     clear hb
     clear hx23_0 hx23_1 hx23_2 hx23_3 hx23_4 hx23_5 hx23_6 hx23_7
     refine wpList_nil ?_
     change wpAnyLast _ _ _ _ _ _ 1 #[true, true, true, true, true, true, true, true, true, true, false] ⟨[_, _, _, _, _, _, _, _, _, _, _, _, _, _, _, _, _, _, _, _, _, _, _, _, _, _, _, _, _, _, _, _, _, _, _, _, _, _, _, _, _, _, _, _, _, _, _, _, _, _, _, _, _, _, _, _, _].toArray, []⟩ _
     refine zlp 10 (.bool (t24 != t27)) #[_, _, _, _, _, _, _, _, _, _, _] ⟨[_, _, _, _, _, _, _, _, _, _, _, _, _, _, _, _, _, _, _, _, _, _, _, _, _, _, _, _, _, _, _, _, _, _, _, _, _, _, _, _, _, _, _, _, _, _, _, _, _, _, _, _, _, _, _, _, _].toArray, []⟩ (h := ?_)
     refine MW.last_done (by kernel_rfl) ?_ _
     clear hwr_
     replace HH := zqe HH
     rcases HH with ⟨HH, hk31, hk32⟩ | ⟨HH, hk33, hk34⟩
     ·(try simp only [hk31, Bool.not_true, Bool.not_false])
      (try simp only [hk32, Bool.not_true, Bool.not_false])
      go_wp2
      go_roundg k10
      case measure => have := HK0.out; omega
      case rel => exact ⟨wrap64 (x9 + 1), (by first | rfl | (simp; done) | (simp [*]; done)), HH, ⟨by have := HK0.out; omega⟩, ⟨(Kd.F_mono (ok := (fun k_ => (P_ k_ ∨ w.heap.size ≤ k_))) HF0.out (fun k_ hk_ => hk_))⟩, ⟨HB.out⟩⟩
     (try simp only [hk33, Bool.not_true, Bool.not_false])
     (try simp only [hk34, Bool.not_true, Bool.not_false])
     obtain rfl := Option.some.inj HH.out
     clear HH
     go_wp2
     go_ret
     exact zfi HB.out
    replace HH := MW.hneg HH c21
    replace c21 := Bool.eq_false_iff.mpr c21
    subst c21
    replace HH := zd HH
    obtain ⟨t35, At36, HH⟩ := HH
    go_wp2_with ((with_reducible refine gc 8 rfl ?_); refine zc 8 (some 24) Try.func8 #[] (h := ?_); (with_reducible refine (toponymlaw27_awake.calls k10  t35 _  At36.out).mono ?_); rintro e w37 ⟨rfl, hb⟩; refine ⟨_, rfl, ?_⟩)
    refine zg ?_
    replace HB := zhb HB.out hb
    clear hb
    obtain rfl := Option.some.inj HH.out
    clear HH
    go_wp2
    go_ret
    exact zfi HB.out
   replace HH := zd HH
   obtain ⟨⟨t41, t42⟩, At43, HH⟩ := HH
   dsimp only at HH
   go_wp2_with ((with_reducible refine gc 12 rfl ?_); refine zc 12 (some 38) Try.func12 #[.slice A0 l0.length c0] (h := ?_); (with_reducible refine (reply_Encode.calls k10 (fun k_ => (P_ k_ ∨ w.heap.size ≤ k_)) _ _ l0 t41 t42 _ (Kd.F_mono (ok := (fun k_ => (P_ k_ ∨ w.heap.size ≤ k_))) HF0.out (fun k_ hk_ => hk_)) HL0.out At43.out).mono ?_); rintro e w44 ⟨v45, rfl, hn45, hb⟩; refine ⟨_, rfl, ?_⟩)
   refine zg ?_
   have hba := Kd.N_base hn45
   have HN45 := znl (ok2 := (fun k_ => (P_ k_ ∨ w.heap.size ≤ k_))) hn45 (below_size HB.out) (fun k_ hk_ => hk_.elim (fun h_ => h_) (fun h_ => .inr (Nat.le_trans (below_size HB.out) h_)))
   replace HF0 := zfr (v := v45) HF0.out hba hb
   replace HB := zhb HB.out hb
   clear hn45 hba hb
   replace HH := zd HH
   obtain ⟨⟨t46, t47⟩, At48, HH⟩ := HH
   dsimp only at HH
   go_wp2_with ((with_reducible refine gc 13 rfl ?_); refine zc 13 (some 43) Try.func13 #[.slice A0 l0.length c0] (h := ?_); (with_reducible refine (toponymref27_Encode.calls k10 (fun k_ => (P_ k_ ∨ w.heap.size ≤ k_) ∧ some k_ ≠ (v45 : Value).ownBlock) _ _ l0 t46 t47 _ (Kd.F_mono (ok := (fun k_ => (P_ k_ ∨ w.heap.size ≤ k_) ∧ some k_ ≠ (v45 : Value).ownBlock)) HF0.out (fun k_ hk_ => hk_)) HL0.out At48.out).mono ?_); rintro e w49 ⟨v50, rfl, hn50, hb⟩; refine ⟨_, rfl, ?_⟩)
   refine zg ?_
   have hba := Kd.N_base hn50
   have HN50 := znl (ok2 := (fun k_ => (P_ k_ ∨ w.heap.size ≤ k_) ∧ some k_ ≠ (v45 : Value).ownBlock)) hn50 (below_size HB.out) (fun k_ hk_ => hk_.elim (fun h_ => h_) (fun h_ => ⟨.inr (Nat.le_trans (below_size HB.out) h_), Kd.fresh' (Kd.N_lt HN45.out) k_ h_⟩))
   replace HN45 := znr (u := v50) HN45.out hba hb
   replace HB := zhb HB.out hb
   clear hn50 hba hb
   obtain ⟨A51, cp52, he_⟩ := Kd.N_slice HN45.out
   subst he_
   have HL54 := za (Kd.N_reads' HN45.out).2.1
   have HF53 := za (Kd.N_F HN45.out)
   clear HN45
   replace HN50 := za (Kd.N_mono (ok := (fun k_ => (P_ k_ ∨ w.heap.size ≤ k_) ∧ some k_ ≠ ((.slice A51 t41.length cp52) : Value).ownBlock)) HN50.out (fun k_ hk_ => hk_.1) : Kd.N Kd.string _ _ _ (fun k_ => (P_ k_ ∨ w.heap.size ≤ k_)) _ _)
   obtain ⟨A55, cp56, he_⟩ := Kd.N_slice HN50.out
   subst he_
   have HL58 := za (Kd.N_reads' HN50.out).2.1
   have HF57 := za (Kd.N_F HN50.out)
   clear HN50
   replace HF53 := za (Kd.F_mono (ok := (fun k_ => (P_ k_ ∨ w.heap.size ≤ k_) ∧ some k_ ≠ ((.slice A55 t46.length cp56) : Value).ownBlock)) HF53.out (fun k_ hk_ => hk_.1) : Kd.F Kd.string _ (fun k_ => (P_ k_ ∨ w.heap.size ≤ k_)) _ _ _)
   replace HH := zd HH
   obtain ⟨t59, At60, HH⟩ := HH
   go_wp2_with ((with_reducible refine gc 14 rfl ?_); refine zc 14 (some 48) Try.func14 #[.slice A51 t41.length cp52, .slice A55 t46.length cp56] (h := ?_); (with_reducible refine (toponymref16_SameTexts.calls k10 (fun k_ => (P_ k_ ∨ w.heap.size ≤ k_)) _ _ t41 _ _ t46 t59 _ (Kd.F_mono (ok := (fun k_ => (P_ k_ ∨ w.heap.size ≤ k_))) HF53.out (fun k_ hk_ => hk_)) HL54.out (Kd.F_mono (ok := (fun k_ => (P_ k_ ∨ w.heap.size ≤ k_))) HF57.out (fun k_ hk_ => hk_)) HL58.out At60.out).mono ?_); rintro e w' ⟨rfl, ⟨nd, rfl⟩⟩; refine ⟨_, rfl, ?_⟩)
   refine zg ?_
   by_cases c62 : t59 = true
   ·replace HH := MW.hpos HH c62
    subst c62
    replace HH := zqe HH
    rcases HH with ⟨HH, hk64, hk65⟩ | ⟨HH, hk69, hk70⟩
    ·replace HH := zd HH
     obtain ⟨t66, At67, HH⟩ := HH
     go_wp2_with ((with_reducible refine gc 8 rfl ?_); refine zc 8 (some 55) Try.func8 #[] (h := ?_); (with_reducible refine (toponymlaw27_awake.calls k10  t66 _  At67.out).mono ?_); rintro e w68 ⟨rfl, hb⟩; refine ⟨_, rfl, ?_⟩)
     refine zg ?_
     replace HB := zhb (by repeat (first | (with_reducible first | exact HB.out | apply below_alloc | apply pw_below_drewN | apply below_drew1) | exact HB.out)) hb
     clear hb
     obtain rfl := Option.some.inj HH.out
     clear HH
     go_wp2
     go_ret
     exact zfi HB.out
    obtain rfl := Option.some.inj HH.out
    clear HH
    go_wp2
    go_ret
    exact zfi (by repeat (first | (with_reducible first | exact HB.out | apply below_alloc | apply pw_below_drewN | apply below_drew1) | exact HB.out))
   replace HH := MW.hneg HH c62
   replace c62 := Bool.eq_false_iff.mpr c62
   subst c62
   obtain rfl := Option.some.inj HH.out
   clear HH
   go_wp2
   go_ret
   exact zfi (by repeat (first | (with_reducible first | exact HB.out | apply below_alloc | apply pw_below_drewN | apply below_drew1) | exact HB.out))
end Go.Proofs.Ytdjkemhmhkpmkaa.GA
