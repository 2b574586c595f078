import Derived.Test.YtdjkemhmhkpmkaaGA0
import Derived.Test.YtdjkemhmhkpmkaaGAB
namespace Go.Proofs.Ytdjkemhmhkpmkaa.GA
open Go.RowKit Go.Proofs.Ytdjkemhmhkpmkaa Go.Proofs.Ytdjkemhmhkpmkaa.MW Go.Proofs.YtdjkemhmhkpmkaaW.PrintWords Go.Proofs.YtdjkemhmhkpmkaaW.PrintLast Go.Proofs.YtdjkemhmhkpmkaaW.PrintMore
attribute [local go_sem] max2_int min2_int max_two min_two
set_option linter.unusedVariables false
set_option linter.unusedSimpArgs false
/-! ### reply_wrong_1: function 38 -/
def reply_wrong_1.f (a0 : ByteArray) : Option (Bool) := some (decide ((a0.size : Int) > 400))
set_option maxHeartbeats 8000000 in
set_option maxRecDepth 100000 in
theorem reply_wrong_1.calls (a0 : ByteArray) (r : Bool) (w : World) (h : reply_wrong_1.f a0 = some r) :
  Calls Try.prog 38 #[.string a0] w (fun e w' => e = .returned (.bool r) ∧ Drawn0 w w') := by
 have HH := Aside0.mk (show (some (decide ((a0.size : Int) > 400))) = some r from h)
 clear h
 go_enter Try.func38, Try.ntmps38
 have H := HH.out
 obtain rfl := Option.some.inj H
 clear HH
 go_wp2
 go_ret
 exact ⟨by first | rfl | (simp; done) | (simp [*]; done), by repeat (first | exact Drawn0.refl _ | apply Drawn0.step)⟩

/-! ### dn_small: function 58 -/
def dn_small.f (a0 : Int) : Option (Bool) := if a0 ≥ 97 then (some (decide (a0 ≤ 122))) else (some false)
set_option maxHeartbeats 8000000 in
set_option maxRecDepth 100000 in
theorem dn_small.calls (a0 : Int) (r : Bool) (w : World) (h : dn_small.f a0 = some r) :
  Calls Try.prog 58 #[.int .u8 a0] w (fun e w' => e = .returned (.bool r) ∧ Drawn0 w w') := by
 have HH := Aside0.mk (show (if a0 ≥ 97 then (some (decide (a0 ≤ 122))) else (some false)) = some r from h)
 clear h
 go_enter Try.func58, Try.ntmps58
 replace HH := zqG HH
 rcases HH with ⟨HH, hk2⟩ | ⟨HH, hk3⟩
 ·have H := HH.out
  obtain rfl := Option.some.inj H
  clear HH
  go_wp2
  go_ret
  exact ⟨by first | rfl | (simp; done) | (simp [*]; done), by repeat (first | exact Drawn0.refl _ | apply Drawn0.step)⟩
 have H := HH.out
 obtain rfl := Option.some.inj H
 clear HH
 go_wp2
 go_ret
 exact ⟨by first | rfl | (simp; done) | (simp [*]; done), by repeat (first | exact Drawn0.refl _ | apply Drawn0.step)⟩

/-! ### dn_Word: function 39 -/
def dn_Word.l0 : Nat → Int → ByteArray → Option (Bool)
 | 0, _, _ => none
 | k + 1, x21, a0 => if x21 < (a0.size : Int) then (if 0 ≤ x21 then ((dn_small.f (bt a0 x21)).bind fun t30 => (if t30 = true then ((dn_Word.l0 k (wrap64 (x21 + 1)) a0)) else (if (bt a0 x21) < 48 then (if (bt a0 x21) = 45 then ((dn_Word.l0 k (wrap64 (x21 + 1)) a0)) else (some false)) else (if (bt a0 x21) > 57 then (if (bt a0 x21) = 45 then ((dn_Word.l0 k (wrap64 (x21 + 1)) a0)) else (some false)) else ((dn_Word.l0 k (wrap64 (x21 + 1)) a0)))))) else (none)) else (some true)
def dn_Word.f (k : Nat) (a0 : ByteArray) : Option (Bool) := if a0.toList = ([] : List UInt8) then (some false) else (if (a0.size : Int) > 16 then (some false) else (if 0 < (a0.size : Int) then ((dn_small.f (bt a0 0)).bind fun t17 => (if t17 = true then ((dn_Word.l0 k 1 a0)) else (some false))) else (none)))
theorem dn_Word.mono_l : ∀ k, (∀ y0 y1, LeO (dn_Word.l0 k y0 y1) (dn_Word.l0 (k + 1) y0 y1))
 | 0 => fun _ _ r h => by simp [dn_Word.l0] at h
 | k + 1 => by
  have ih0 := dn_Word.mono_l k
  ·intro y0 y1
   unfold dn_Word.l0
   repeat' first
   | (with_reducible exact ih0 _ _)
   | (with_reducible exact LeO.refl _)
   | (with_reducible exact LeO.none _)
   | (with_reducible refine LeO.ite ?_ ?_)
   | (with_reducible refine LeO.bind ?_ (fun _ => ?_))
theorem dn_Word.mono : ∀ a0_ k, LeO (dn_Word.f k a0_) (dn_Word.f (k + 1) a0_) := by
 intro a0_ k
 have ih0 := dn_Word.mono_l k
 unfold dn_Word.f
 repeat' first
   | (with_reducible exact ih0 _ _)
   | (with_reducible exact LeO.refl _)
   | (with_reducible exact LeO.none _)
   | (with_reducible refine LeO.ite ?_ ?_)
   | (with_reducible refine LeO.bind ?_ (fun _ => ?_))
set_option maxHeartbeats 8000000 in
set_option maxRecDepth 100000 in
theorem dn_Word.calls (k : Nat) (a0 : ByteArray) (r : Bool) (w : World) (h : dn_Word.f k a0 = some r) :
  Calls Try.prog 39 #[.string a0] w (fun e w' => e = .returned (.bool r) ∧ Drawn0 w w') := by
 have HH := Aside0.mk (show (if a0.toList = ([] : List UInt8) then (some false) else (if (a0.size : Int) > 16 then (some false) else (if 0 < (a0.size : Int) then ((dn_small.f (bt a0 0)).bind fun t17 => (if t17 = true then ((dn_Word.l0 k 1 a0)) else (some false))) else (none)))) = some r from h)
 clear h
 go_enter Try.func39, Try.ntmps39
 replace HH := zqe HH
 rcases HH with ⟨HH, hk2, hk3⟩ | ⟨HH, hk4, hk5⟩
 ·have H := HH.out
  obtain rfl := Option.some.inj H
  clear HH
  go_wp2
  go_ret
  exact ⟨by first | rfl | (simp; done) | (simp [*]; done), by repeat (first | exact Drawn0.refl _ | apply Drawn0.step)⟩
 replace HH := zqK 16 HH
 rcases HH with ⟨HH, hk7, hk8⟩ | ⟨HH, hk9, hk10⟩
 ·have H := HH.out
  obtain rfl := Option.some.inj H
  clear HH
  go_wp2
  go_ret
  exact ⟨by first | rfl | (simp; done) | (simp [*]; done), by repeat (first | exact Drawn0.refl _ | apply Drawn0.step)⟩
 replace HH := zqno 0 HH
 obtain ⟨HH, hk12, hk13, hk14, hk15⟩ := HH
 have p16 : 0 ≤ (0 : Int) := (by omega)
 have q16 : 0 < a0.size := (by have : (0 : Int) < (a0.size : Int) := of_decide_eq_true (by first | (with_reducible assumption) | assumption); omega)
 have hx16 : ∀ h : 0 < a0.size, ((a0[0]'h).toNat : Int) = bt a0 0 := MW.bt_at' a0 0
 clear p16
 have qi16 : (0 < (a0.size : Int)) = True := eq_true (of_decide_eq_true (by first | (with_reducible assumption) | assumption))
 replace q16 := eq_true q16
 replace HH := zd HH
 obtain ⟨t17, At18, HH⟩ := HH
 go_wp2_with ((with_reducible refine gc 58 rfl ?_); refine zc 58 (some 15) Try.func58 #[.int .u8 (bt a0 0)] (h := ?_); (with_reducible refine (dn_small.calls  (bt a0 0) t17 _  At18.out).mono ?_); rintro e w' ⟨rfl, ⟨nd, rfl⟩⟩; refine ⟨_, rfl, ?_⟩)
 refine Stop.go ?_
 by_cases c20 : t17 = true
 ·replace HH := MW.hpos HH c20
  subst c20
  go_wp2
  go_loopg [3] k (fun kq u3 w' => ∃ (x21 : Int), u3 = .int .i64 x21 ∧ Aside0 ((dn_Word.l0 kq x21 a0) = some r) ∧ Aside0 (kq ≤ k) ∧ Drawn0 w w')
  case atStart => exact ⟨1, (by first | rfl | (simp; done) | (simp [*]; done)), HH, ⟨Nat.le_refl _⟩, by repeat (first | exact Drawn0.refl _ | apply Drawn0.step)⟩
  case round =>
   clear hk4
   clear hk5
   clear hk9
   clear hk10
   clear hk12
   clear hk13
   clear hk14
   clear hk15
   clear qi16
   clear q16
   clear hx16
   clear HH
   obtain ⟨x21, rfl, HA, HK0, ⟨m0_, rfl⟩⟩ := hrel
   cases gk with
   | zero => exact absurd HA.out (by simp [dn_Word.l0])
   | succ k22 =>
    have H := HA.out
    clear HA
    simp only [dn_Word.l0] at H
    have HH := Aside0.mk H
    clear H
    replace HH := zqt HH
    rcases HH with ⟨HH, hk25, hk26⟩ | ⟨HH, hk53, hk54⟩
    ·replace HH := zqdo HH
     obtain ⟨HH, hk28⟩ := HH
     have p29 : 0 ≤ (x21 : Int) := of_decide_eq_true (by first | (with_reducible assumption) | assumption)
     have q29 : x21 < (a0.size : Int) := of_decide_eq_true (by first | (with_reducible assumption) | assumption)
     have hx29 := MW.bt_at' a0 x21
     replace p29 := eq_true p29
     replace q29 := eq_true q29
     replace HH := zd HH
     obtain ⟨t30, At31, HH⟩ := HH
     go_wp2_with ((with_reducible refine gc 58 rfl ?_); refine zc 58 (some 28) Try.func58 #[.int .u8 (bt a0 x21)] (h := ?_); (with_reducible refine (dn_small.calls  (bt a0 x21) t30 _  At31.out).mono ?_); rintro e w' ⟨rfl, ⟨nd, rfl⟩⟩; refine ⟨_, rfl, ?_⟩)
     refine Stop.go ?_
     by_cases c33 : t30 = true
     ·replace HH := MW.hpos HH c33
      subst c33
      go_wp2
      go_roundg k22
      case measure => have := HK0.out; omega
      case rel => exact ⟨wrap64 (x21 + 1), (by first | rfl | (simp; done) | (simp [*]; done)), HH, ⟨by have := HK0.out; omega⟩, by repeat (first | exact Drawn0.refl _ | apply Drawn0.step)⟩
     replace HH := MW.hneg HH c33
     replace c33 := Bool.eq_false_iff.mpr c33
     subst c33
     replace HH := zqt HH
     rcases HH with ⟨HH, hk35, hk36⟩ | ⟨HH, hk42, hk43⟩
     ·replace HH := zqe HH
      rcases HH with ⟨HH, hk38, hk39⟩ | ⟨HH, hk40, hk41⟩
      ·go_wp2
       go_roundg k22
       case measure => have := HK0.out; omega
       case rel => exact ⟨wrap64 (x21 + 1), (by first | rfl | (simp; done) | (simp [*]; done)), HH, ⟨by have := HK0.out; omega⟩, by repeat (first | exact Drawn0.refl _ | apply Drawn0.step)⟩
      have H := HH.out
      obtain rfl := Option.some.inj H
      clear HH
      go_wp2
      go_ret
      exact ⟨by first | rfl | (simp; done) | (simp [*]; done), by repeat (first | exact Drawn0.refl _ | apply Drawn0.step)⟩
     replace HH := zqg HH
     rcases HH with ⟨HH, hk45⟩ | ⟨HH, hk51⟩
     ·replace HH := zqe HH
      rcases HH with ⟨HH, hk47, hk48⟩ | ⟨HH, hk49, hk50⟩
      ·go_wp2
       go_roundg k22
       case measure => have := HK0.out; omega
       case rel => exact ⟨wrap64 (x21 + 1), (by first | rfl | (simp; done) | (simp [*]; done)), HH, ⟨by have := HK0.out; omega⟩, by repeat (first | exact Drawn0.refl _ | apply Drawn0.step)⟩
      have H := HH.out
      obtain rfl := Option.some.inj H
      clear HH
      go_wp2
      go_ret
      exact ⟨by first | rfl | (simp; done) | (simp [*]; done), by repeat (first | exact Drawn0.refl _ | apply Drawn0.step)⟩
     go_wp2
     go_roundg k22
     case measure => have := HK0.out; omega
     case rel => exact ⟨wrap64 (x21 + 1), (by first | rfl | (simp; done) | (simp [*]; done)), HH, ⟨by have := HK0.out; omega⟩, by repeat (first | exact Drawn0.refl _ | apply Drawn0.step)⟩
    have H := HH.out
    obtain rfl := Option.some.inj H
    clear HH
    go_wp2
    go_ret
    exact ⟨by first | rfl | (simp; done) | (simp [*]; done), by repeat (first | exact Drawn0.refl _ | apply Drawn0.step)⟩
 replace HH := MW.hneg HH c20
 replace c20 := Bool.eq_false_iff.mpr c20
 subst c20
 have H := HH.out
 obtain rfl := Option.some.inj H
 clear HH
 go_wp2
 go_ret
 exact ⟨by first | rfl | (simp; done) | (simp [*]; done), by repeat (first | exact Drawn0.refl _ | apply Drawn0.step)⟩

/-! ### reply_wrong: function 21 -/
def reply_wrong.l0 : Nat → Int → (List ByteArray) → Option (Bool)
 | 0, _, _ => none
 | k + 1, x16, l0_1 => if x16 < (l0_1.length : Int) then (if 0 ≤ x16 then ((reply_wrong_1.f (rdOf ByteArray.empty l0_1 x16)).bind fun t29 => (if t29 = true then (some (decide (x16 ≥ 0))) else ((reply_wrong.l0 k (wrap64 (x16 + 1)) l0_1)))) else (none)) else (some false)
def reply_wrong.f (k : Nat) (a0_0 : ByteArray) (l0_1 : List ByteArray) : Option (Bool) := (dn_Word.f k a0_0).bind fun t7 => (if t7 = true then (if (l0_1.length : Int) > 8 then (some true) else ((reply_wrong.l0 k 0 l0_1))) else (some true))
theorem reply_wrong.mono_l : ∀ k, (∀ y0 y1, LeO (reply_wrong.l0 k y0 y1) (reply_wrong.l0 (k + 1) y0 y1))
 | 0 => fun _ _ r h => by simp [reply_wrong.l0] at h
 | k + 1 => by
  have ih0 := reply_wrong.mono_l k
  ·intro y0 y1
   unfold reply_wrong.l0
   repeat' first
   | (with_reducible exact ih0 _ _)
   | (with_reducible exact dn_Word.mono _ _)
   | (with_reducible exact LeO.refl _)
   | (with_reducible exact LeO.none _)
   | (with_reducible refine LeO.ite ?_ ?_)
   | (with_reducible refine LeO.bind ?_ (fun _ => ?_))
theorem reply_wrong.mono : ∀ a0_ a1_ k, LeO (reply_wrong.f k a0_ a1_) (reply_wrong.f (k + 1) a0_ a1_) := by
 intro a0_ a1_ k
 have ih0 := reply_wrong.mono_l k
 unfold reply_wrong.f
 repeat' first
   | (with_reducible exact ih0 _ _)
   | (with_reducible exact dn_Word.mono _ _)
   | (with_reducible exact LeO.refl _)
   | (with_reducible exact LeO.none _)
   | (with_reducible refine LeO.ite ?_ ?_)
   | (with_reducible refine LeO.bind ?_ (fun _ => ?_))
set_option maxHeartbeats 8000000 in
set_option maxRecDepth 100000 in
theorem reply_wrong.calls (k : Nat) (P_ : Nat → Prop) (a0_0 : ByteArray) (A0_1 : Option Addr) (c0_1 : Nat) (l0_1 : List ByteArray) (r : Bool) (w : World) (hs0_1 : Kd.F Kd.string w P_ A0_1 l0_1.length l0_1) (hc0_1 : l0_1.length ≤ c0_1) (h : reply_wrong.f k a0_0 l0_1 = some r) :
  Calls Try.prog 21 #[.agg #[.string a0_0, .slice A0_1 l0_1.length c0_1]] w (fun e w' => e = .returned (.bool r) ∧ Below w.heap.size w w') := by
 have HH := Aside0.mk (show ((dn_Word.f k a0_0).bind fun t7 => (if t7 = true then (if (l0_1.length : Int) > 8 then (some true) else ((reply_wrong.l0 k 0 l0_1))) else (some true))) = some r from h)
 clear h
 have HF0_1 := zfp hs0_1
 clear hs0_1 hc0_1
 have HB := Aside0.mk (Below.refl w.heap.size w)
 have hu46 := Try.underlying46
 go_enter Try.func21, Try.ntmps21
 go_wp2_with ((with_reducible refine gd 1 rfl ?_); refine zb 1 46 #[.string a0_0, .slice A0_1 l0_1.length c0_1] (h := ?_); intro g1 hg w2 BKg1 hb)
 refine Stop.go ?_
 replace HF0_1 := zfe HF0_1.out hg hb
 replace HB := zhb HB.out hb
 clear hg hb
 obtain ⟨j3, j4, j5, j6⟩ := MB.lay2 BKg1.out
 replace HH := zd HH
 obtain ⟨t7, At8, HH⟩ := HH
 go_wp2_with ((with_reducible refine gc 39 rfl ?_); refine zc 39 (some 6) Try.func39 #[.string a0_0] (h := ?_); (with_reducible refine (dn_Word.calls k  a0_0 t7 _  At8.out).mono ?_); rintro e w' ⟨rfl, ⟨nd, rfl⟩⟩; refine ⟨_, rfl, ?_⟩)
 refine Stop.go ?_
 by_cases c10 : t7 = true
 ·replace HH := MW.hpos HH c10
  subst c10
  replace HH := zqK 8 HH
  rcases HH with ⟨HH, hk12, hk13⟩ | ⟨HH, hk14, hk15⟩
  ·have H := HH.out
   obtain rfl := Option.some.inj H
   clear HH
   go_wp2
   go_ret
   exact ⟨by first | rfl | (simp; done) | (simp [*]; done), (by repeat (first | (with_reducible first | exact HB.out | apply below_alloc | apply pw_below_drewN | apply below_drew1) | exact HB.out))⟩
  go_wp2_with (((with_reducible refine gate_callee (f := 40) rfl ?_); (try (refine gate_guard (by rfl) ?_; dsimp only)); refine goesL_ (some 18) rfl rfl Try.func40 (by kernel_rfl) rfl #[.slice A0_1 l0_1.length c0_1, .func (.func 38) #[] #[]] rfl (by (try simp only [List.map_toArray, List.map_cons, List.map_nil]); first | done | rfl) ?_); refine stop_ ?_)
  refine Stop.go ?_
  go_enter Try.func40, Try.ntmps40
  go_wp2_with (((with_reducible refine gate_callee (f := 59) rfl ?_); (try (refine gate_guard (by rfl) ?_; dsimp only)); refine goesL_ (some 7) rfl rfl Try.func59 (by kernel_rfl) rfl #[.slice A0_1 l0_1.length c0_1, .func (.func 38) #[] #[]] rfl (by (try simp only [List.map_toArray, List.map_cons, List.map_nil]); first | done | rfl) ?_); refine stop_ ?_)
  refine Stop.go ?_
  go_enter Try.func59, Try.ntmps59
  go_wp2
  go_loopg [8] k (fun kq u8 w' => ∃ (x16 : Int), u8 = .int .i64 x16 ∧ Aside0 ((reply_wrong.l0 kq x16 l0_1) = some r) ∧ Aside0 (kq ≤ k) ∧ Aside0 (Kd.F Kd.string w' (fun k_ => (P_ k_ ∨ w.heap.size ≤ k_) ∧ k_ ≠ g1) A0_1 l0_1.length l0_1) ∧ Aside0 (w'.heap[g1]? = some (.cells #[.string a0_0, .slice A0_1 l0_1.length c0_1] 46 (0, 0))) ∧ Aside0 (Below w.heap.size w w'))
  case atStart => exact ⟨0, (by first | rfl | (simp; done) | (simp [*]; done)), HH, ⟨Nat.le_refl _⟩, ⟨(Kd.F_mono (ok := (fun k_ => (P_ k_ ∨ w.heap.size ≤ k_) ∧ k_ ≠ g1)) (by (with_reducible repeat (first | apply Kd.F_alloc | apply Kd.F_drewN | apply Kd.F_drew)); exact HF0_1.out) (fun k_ hk_ => hk_))⟩, ⟨(by (with_reducible repeat (first | refine blk_drewN ?_ _ | refine blk_drew ?_ | refine blk_alloc ?_ _)); exact BKg1.out)⟩, ⟨(by repeat (first | (with_reducible first | exact HB.out | apply below_alloc | apply pw_below_drewN | apply below_drew1) | exact HB.out))⟩⟩
  case round =>
   clear j3 j4 j5 j6
   clear hk14
   clear hk15
   clear HH
   clear HF0_1 BKg1 HB
   obtain ⟨x16, rfl, HA, HK0, HF0_1, BKg1, HB⟩ := hrel
   obtain ⟨w18, rfl⟩ : ∃ wo_ : World, wo_ = wr := ⟨_, rfl⟩
   cases gk with
   | zero => exact absurd HA.out (by simp [reply_wrong.l0])
   | succ k17 =>
    have H := HA.out
    clear HA
    simp only [reply_wrong.l0] at H
    have HH := Aside0.mk H
    clear H
    obtain ⟨jj, jk, jl, jm⟩ := MB.lay2 BKg1.out
    replace HH := zqt HH
    rcases HH with ⟨HH, hk24, hk25⟩ | ⟨HH, hk34, hk35⟩
    ·replace HH := zqdo HH
     obtain ⟨HH, hk27⟩ := HH
     have p28 : 0 ≤ (x16 : Int) := of_decide_eq_true (by first | (with_reducible assumption) | assumption)
     have q28 : x16 < (l0_1.length : Int) := of_decide_eq_true (by first | (with_reducible assumption) | assumption)
     obtain ⟨ad28, e28, hx28_0⟩ := Kd.at_string (Kd.F_now HF0_1.out) x16 p28 q28
     cases e28
     replace p28 := eq_true p28
     replace q28 := eq_true q28
     replace HH := zd HH
     obtain ⟨t29, At30, HH⟩ := HH
     go_wp2_with ((with_reducible refine gd 16 rfl ?_); refine zv 16 Try.func38 #[.string (rdOf ByteArray.empty l0_1 x16)] #[] (h := ?_); (with_reducible refine (reply_wrong_1.calls  (rdOf ByteArray.empty l0_1 x16) t29 _  At30.out).mono ?_); rintro e w' ⟨rfl, ⟨nd, rfl⟩⟩; refine ⟨_, rfl, ?_⟩)
     refine Stop.go ?_
     by_cases c32 : t29 = true
     ·replace HH := MW.hpos HH c32
      subst c32
      go_wp2
      go_ret
      refine ⟨_, rfl, ?_⟩
      go_wp2
      go_ret
      refine ⟨_, rfl, ?_⟩
      have H := HH.out
      obtain rfl := Option.some.inj H
      clear HH
      go_wp2
      go_ret
      exact ⟨by first | rfl | (simp; done) | (simp [*]; done), (by repeat (first | (with_reducible first | exact HB.out | apply below_alloc | apply pw_below_drewN | apply below_drew1) | exact HB.out))⟩
     replace HH := MW.hneg HH c32
     replace c32 := Bool.eq_false_iff.mpr c32
     subst c32
     go_wp2
     go_roundg k17
     case measure => have := HK0.out; omega
     case rel => exact ⟨wrap64 (x16 + 1), (by first | rfl | (simp; done) | (simp [*]; done)), HH, ⟨by have := HK0.out; omega⟩, ⟨(Kd.F_mono (ok := (fun k_ => (P_ k_ ∨ w.heap.size ≤ k_) ∧ k_ ≠ g1)) (by (with_reducible repeat (first | apply Kd.F_alloc | apply Kd.F_drewN | apply Kd.F_drew)); exact HF0_1.out) (fun k_ hk_ => hk_))⟩, ⟨(by (with_reducible repeat (first | refine blk_drewN ?_ _ | refine blk_drew ?_ | refine blk_alloc ?_ _)); exact BKg1.out)⟩, ⟨(by repeat (first | (with_reducible first | exact HB.out | apply below_alloc | apply pw_below_drewN | apply below_drew1) | exact HB.out))⟩⟩
    go_wp2
    go_ret
    refine ⟨_, rfl, ?_⟩
    go_wp2
    go_ret
    refine ⟨_, rfl, ?_⟩
    have H := HH.out
    obtain rfl := Option.some.inj H
    clear HH
    go_wp2
    go_ret
    exact ⟨by first | rfl | (simp; done) | (simp [*]; done), HB.out⟩
 replace HH := MW.hneg HH c10
 replace c10 := Bool.eq_false_iff.mpr c10
 subst c10
 have H := HH.out
 obtain rfl := Option.some.inj H
 clear HH
 go_wp2
 go_ret
 exact ⟨by first | rfl | (simp; done) | (simp [*]; done), (by repeat (first | (with_reducible first | exact HB.out | apply below_alloc | apply pw_below_drewN | apply below_drew1) | exact HB.out))⟩

/-! ### reply_tag: function 22 -/
def reply_tag.f (a0 : Int) : Option (Int) := if a0 = 1 then (some 1) else (if a0 = 3 then (some 5) else (if a0 = 4 then (some 7) else (if a0 = 5 then (some 9) else (if a0 = 6 then (some 11) else (if a0 = 7 then (some 13) else (if a0 = 8 then (some 15) else (if a0 = 10 then (some 24) else (some (-1)))))))))
set_option maxHeartbeats 8000000 in
set_option maxRecDepth 100000 in
theorem reply_tag.calls (a0 : Int) (r : Int) (w : World) (h : reply_tag.f a0 = some r) :
  Calls Try.prog 22 #[.int .i64 a0] w (fun e w' => e = .returned (.int .i64 r) ∧ Drawn0 w w') := by
 have HH := Aside0.mk (show (if a0 = 1 then (some 1) else (if a0 = 3 then (some 5) else (if a0 = 4 then (some 7) else (if a0 = 5 then (some 9) else (if a0 = 6 then (some 11) else (if a0 = 7 then (some 13) else (if a0 = 8 then (some 15) else (if a0 = 10 then (some 24) else (some (-1)))))))))) = some r from h)
 clear h
 go_enter Try.func22, Try.ntmps22
 replace HH := zqe HH
 rcases HH with ⟨HH, hk2, hk3⟩ | ⟨HH, hk4, hk5⟩
 ·have H := HH.out
  obtain rfl := Option.some.inj H
  clear HH
  go_wp2
  go_ret
  exact ⟨by first | rfl | (simp; done) | (simp [*]; done), by repeat (first | exact Drawn0.refl _ | apply Drawn0.step)⟩
 replace HH := zqe HH
 rcases HH with ⟨HH, hk7, hk8⟩ | ⟨HH, hk9, hk10⟩
 ·have H := HH.out
  obtain rfl := Option.some.inj H
  clear HH
  go_wp2
  go_ret
  exact ⟨by first | rfl | (simp; done) | (simp [*]; done), by repeat (first | exact Drawn0.refl _ | apply Drawn0.step)⟩
 replace HH := zqe HH
 rcases HH with ⟨HH, hk12, hk13⟩ | ⟨HH, hk14, hk15⟩
 ·have H := HH.out
  obtain rfl := Option.some.inj H
  clear HH
  go_wp2
  go_ret
  exact ⟨by first | rfl | (simp; done) | (simp [*]; done), by repeat (first | exact Drawn0.refl _ | apply Drawn0.step)⟩
 replace HH := zqe HH
 rcases HH with ⟨HH, hk17, hk18⟩ | ⟨HH, hk19, hk20⟩
 ·have H := HH.out
  obtain rfl := Option.some.inj H
  clear HH
  go_wp2
  go_ret
  exact ⟨by first | rfl | (simp; done) | (simp [*]; done), by repeat (first | exact Drawn0.refl _ | apply Drawn0.step)⟩
 replace HH := zqe HH
 rcases HH with ⟨HH, hk22, hk23⟩ | ⟨HH, hk24, hk25⟩
 ·have H := HH.out
  obtain rfl := Option.some.inj H
  clear HH
  go_wp2
  go_ret
  exact ⟨by first | rfl | (simp; done) | (simp [*]; done), by repeat (first | exact Drawn0.refl _ | apply Drawn0.step)⟩
 replace HH := zqe HH
 rcases HH with ⟨HH, hk27, hk28⟩ | ⟨HH, hk29, hk30⟩
 ·have H := HH.out
  obtain rfl := Option.some.inj H
  clear HH
  go_wp2
  go_ret
  exact ⟨by first | rfl | (simp; done) | (simp [*]; done), by repeat (first | exact Drawn0.refl _ | apply Drawn0.step)⟩
 replace HH := zqe HH
 rcases HH with ⟨HH, hk32, hk33⟩ | ⟨HH, hk34, hk35⟩
 ·have H := HH.out
  obtain rfl := Option.some.inj H
  clear HH
  go_wp2
  go_ret
  exact ⟨by first | rfl | (simp; done) | (simp [*]; done), by repeat (first | exact Drawn0.refl _ | apply Drawn0.step)⟩
 replace HH := zqe HH
 rcases HH with ⟨HH, hk37, hk38⟩ | ⟨HH, hk39, hk40⟩
 ·have H := HH.out
  obtain rfl := Option.some.inj H
  clear HH
  go_wp2
  go_ret
  exact ⟨by first | rfl | (simp; done) | (simp [*]; done), by repeat (first | exact Drawn0.refl _ | apply Drawn0.step)⟩
 have H := HH.out
 obtain rfl := Option.some.inj H
 clear HH
 go_wp2
 go_ret
 exact ⟨by first | rfl | (simp; done) | (simp [*]; done), by repeat (first | exact Drawn0.refl _ | apply Drawn0.step)⟩

/-! ### reply_Check: function 10 -/
def reply_Check.l0 : Nat → Int → (List (S46)) → Option (Int)
 | 0, _, _ => none
 | k + 1, x43, l0_7 => if x43 < (l0_7.length : Int) then (if 0 ≤ x43 then ((reply_wrong.f k ((rd_T46 l0_7 x43).f0) ((rd_T46 l0_7 x43).f1)).bind fun t68 => (if t68 = true then (some 270) else ((reply_Check.l0 k (wrap64 (x43 + 1)) l0_7)))) else (none)) else (some 0)
def reply_Check.f (k : Nat) (a0_0 : Int) (a0_1 : Int) (a0_2 : Bool) (a0_3 : Int) (a0_4 : ByteArray) (a0_5 : ByteArray) (a0_6 : ByteArray) (l0_7 : List (S46)) : Option (Int) := if a0_0 ≥ 0 then (if a0_2 = true then (if a0_0 ≤ 2147483647 then (if a0_1 = 3 then (if a0_3 = 0 then (if a0_4.size + a0_5.size ≤ 9223372036854775807 then (if (a0_4 ++ a0_5).toList = ([] : List UInt8) then (if (a0_6.size : Int) ≤ 3000 then (if (l0_7.length : Int) ≤ 24 then ((reply_Check.l0 k 0 l0_7)) else (some 270)) else (some 270)) else (some 270)) else (none)) else (some 270)) else (some 270)) else (some 270)) else (if a0_0 ≤ 2147483647 then ((reply_tag.f a0_1).bind fun t105 => (if t105 > 0 then (if a0_3 ≥ 0 then (if a0_3 ≤ 127 then (if (a0_4.size : Int) ≤ 3000 then (if (a0_5.size : Int) ≤ 200 then (if (l0_7.length : Int) = 0 then (if a0_6.toList = ([] : List UInt8) then (some 0) else (if a0_1 = 10 then (if (a0_6.size : Int) ≤ 100 then (some 0) else (some 270)) else (some 270))) else (some 270)) else (some 270)) else (some 270)) else (some 270)) else (some 270)) else (some 270))) else (some 270))) else (if a0_2 = true then (some 270) else (some 270))
theorem reply_Check.mono_l : ∀ k, (∀ y0 y1, LeO (reply_Check.l0 k y0 y1) (reply_Check.l0 (k + 1) y0 y1))
 | 0 => fun _ _ r h => by simp [reply_Check.l0] at h
 | k + 1 => by
  have ih0 := reply_Check.mono_l k
  ·intro y0 y1
   unfold reply_Check.l0
   repeat' first
   | (with_reducible exact ih0 _ _)
   | (with_reducible exact reply_wrong.mono _ _ _)
   | (with_reducible exact LeO.refl _)
   | (with_reducible exact LeO.none _)
   | (with_reducible refine LeO.ite ?_ ?_)
   | (with_reducible refine LeO.bind ?_ (fun _ => ?_))
theorem reply_Check.mono : ∀ a0_ a1_ a2_ a3_ a4_ a5_ a6_ a7_ k, LeO (reply_Check.f k a0_ a1_ a2_ a3_ a4_ a5_ a6_ a7_) (reply_Check.f (k + 1) a0_ a1_ a2_ a3_ a4_ a5_ a6_ a7_) := by
 intro a0_ a1_ a2_ a3_ a4_ a5_ a6_ a7_ k
 have ih0 := reply_Check.mono_l k
 unfold reply_Check.f
 repeat' first
   | (with_reducible exact ih0 _ _)
   | (with_reducible exact reply_wrong.mono _ _ _)
   | (with_reducible exact LeO.refl _)
   | (with_reducible exact LeO.none _)
   | (with_reducible refine LeO.ite ?_ ?_)
   | (with_reducible refine LeO.bind ?_ (fun _ => ?_))
set_option maxHeartbeats 8000000 in
set_option maxRecDepth 100000 in
theorem reply_Check.calls (k : Nat) (P_ : Nat → Prop) (a0_0 : Int) (a0_1 : Int) (a0_2 : Bool) (a0_3 : Int) (a0_4 : ByteArray) (a0_5 : ByteArray) (a0_6 : ByteArray) (A0_7 : Option Addr) (c0_7 : Nat) (l0_7 : List (S46)) (r : Int) (w : World) (hs0_7 : Kd.F k46 w P_ A0_7 l0_7.length l0_7) (hc0_7 : l0_7.length ≤ c0_7) (h : reply_Check.f k a0_0 a0_1 a0_2 a0_3 a0_4 a0_5 a0_6 l0_7 = some r) :
  Calls Try.prog 10 #[.agg #[.int .i64 a0_0, .int .i64 a0_1, .bool a0_2, .int .i64 a0_3, .string a0_4, .string a0_5, .string a0_6, .slice A0_7 l0_7.length c0_7]] w (fun e w' => e = .returned (.int .i64 r) ∧ Below w.heap.size w w') := by
 have HH := Aside0.mk (show (if a0_0 ≥ 0 then (if a0_2 = true then (if a0_0 ≤ 2147483647 then (if a0_1 = 3 then (if a0_3 = 0 then (if a0_4.size + a0_5.size ≤ 9223372036854775807 then (if (a0_4 ++ a0_5).toList = ([] : List UInt8) then (if (a0_6.size : Int) ≤ 3000 then (if (l0_7.length : Int) ≤ 24 then ((reply_Check.l0 k 0 l0_7)) else (some 270)) else (some 270)) else (some 270)) else (none)) else (some 270)) else (some 270)) else (some 270)) else (if a0_0 ≤ 2147483647 then ((reply_tag.f a0_1).bind fun t105 => (if t105 > 0 then (if a0_3 ≥ 0 then (if a0_3 ≤ 127 then (if (a0_4.size : Int) ≤ 3000 then (if (a0_5.size : Int) ≤ 200 then (if (l0_7.length : Int) = 0 then (if a0_6.toList = ([] : List UInt8) then (some 0) else (if a0_1 = 10 then (if (a0_6.size : Int) ≤ 100 then (some 0) else (some 270)) else (some 270))) else (some 270)) else (some 270)) else (some 270)) else (some 270)) else (some 270)) else (some 270))) else (some 270))) else (if a0_2 = true then (some 270) else (some 270))) = some r from h)
 clear h
 have HF0_7 := zfp hs0_7
 clear hs0_7 hc0_7
 have HB := Aside0.mk (Below.refl w.heap.size w)
 have hu27 := Try.underlying27
 go_enter Try.func10, Try.ntmps10
 go_wp2_with ((with_reducible refine gd 1 rfl ?_); refine zb 1 27 #[.int .i64 a0_0, .int .i64 a0_1, .bool a0_2, .int .i64 a0_3, .string a0_4, .string a0_5, .string a0_6, .slice A0_7 l0_7.length c0_7] (h := ?_); intro g1 hg w2 BKg1 hb)
 refine Stop.go ?_
 replace HF0_7 := zfe HF0_7.out hg hb
 replace HB := zhb HB.out hb
 clear hg hb
 obtain ⟨j3, j4, j5, j6, j7, j8, j9, ja, jb, jc, jd, je, jf, jg, jh, ji⟩ := MB.lay8 BKg1.out
 replace HH := zqG HH
 rcases HH with ⟨HH, hk20⟩ | ⟨HH, hk149⟩
 ·by_cases c21 : a0_2 = true
  ·replace HH := MW.hpos HH c21
   subst c21
   replace HH := zqd HH
   rcases HH with ⟨HH, hk23⟩ | ⟨HH, hk102⟩
   ·replace HH := zqe HH
    rcases HH with ⟨HH, hk25, hk26⟩ | ⟨HH, hk100, hk101⟩
    ·replace HH := zqe HH
     rcases HH with ⟨HH, hk28, hk29⟩ | ⟨HH, hk98, hk99⟩
     ·by_cases c30 : a0_4.size + a0_5.size ≤ 9223372036854775807
      ·replace HH := MW.hpos HH c30
       have hk31 : (9223372036854775807 < a0_4.size + a0_5.size) = False := eq_false (Nat.not_lt.2 c30)
       have hk32 : (a0_4.size + a0_5.size ≤ 9223372036854775807) = True := eq_true c30
       have hk33 : decide (a0_4.size + a0_5.size ≤ 9223372036854775807) = true := decide_eq_true c30
       clear c30
       replace HH := zqe HH
       rcases HH with ⟨HH, hk35, hk36⟩ | ⟨HH, hk95, hk96⟩
       ·replace HH := zqL 3000 HH
        rcases HH with ⟨HH, hk38, hk39⟩ | ⟨HH, hk93, hk94⟩
        ·replace HH := zqL 24 HH
         rcases HH with ⟨HH, hk41, hk42⟩ | ⟨HH, hk91, hk92⟩
         ·go_wp2_with (((with_reducible refine gate_callee (f := 20) rfl ?_); (try (refine gate_guard (by rfl) ?_; dsimp only)); refine goesL_ (some 48) rfl rfl Try.func20 (by kernel_rfl) rfl #[.slice A0_7 l0_7.length c0_7, .func (.func 21) #[] #[]] rfl (by (try simp only [List.map_toArray, List.map_cons, List.map_nil]); first | done | rfl) ?_); refine stop_ ?_)
          refine Stop.go ?_
          go_enter Try.func20, Try.ntmps20
          go_wp2_with (((with_reducible refine gate_callee (f := 37) rfl ?_); (try (refine gate_guard (by rfl) ?_; dsimp only)); refine goesL_ (some 7) rfl rfl Try.func37 (by kernel_rfl) rfl #[.slice A0_7 l0_7.length c0_7, .func (.func 21) #[] #[]] rfl (by (try simp only [List.map_toArray, List.map_cons, List.map_nil]); first | done | rfl) ?_); refine stop_ ?_)
          refine Stop.go ?_
          go_enter Try.func37, Try.ntmps37
          go_wp2
          go_loopg [8] k (fun kq u8 w' => ∃ (x43 : Int), u8 = .int .i64 x43 ∧ Aside0 ((reply_Check.l0 kq x43 l0_7) = some r) ∧ Aside0 (kq ≤ k) ∧ Aside0 (Kd.F k46 w' (fun k_ => (P_ k_ ∨ w.heap.size ≤ k_) ∧ k_ ≠ g1) A0_7 l0_7.length l0_7) ∧ Aside0 (w'.heap[g1]? = some (.cells #[.int .i64 a0_0, .int .i64 a0_1, .bool true, .int .i64 a0_3, .string a0_4, .string a0_5, .string a0_6, .slice A0_7 l0_7.length c0_7] 27 (0, 0))) ∧ Aside0 (Below w.heap.size w w'))
          case atStart => exact ⟨0, (by first | rfl | (simp; done) | (simp [*]; done)), HH, ⟨Nat.le_refl _⟩, ⟨(Kd.F_mono (ok := (fun k_ => (P_ k_ ∨ w.heap.size ≤ k_) ∧ k_ ≠ g1)) HF0_7.out (fun k_ hk_ => hk_))⟩, ⟨BKg1.out⟩, ⟨HB.out⟩⟩
          case round =>
           clear j3 j4 j5 j6 j7 j8 j9 ja jb jc jd je jf jg jh ji
           clear hk20
           clear hk23
           clear hk25
           clear hk26
           clear hk28
           clear hk29
           clear hk31
           clear hk32
           clear hk33
           clear hk35
           clear hk36
           clear hk38
           clear hk39
           clear hk41
           clear hk42
           clear HH
           clear HF0_7 BKg1 HB
           obtain ⟨x43, rfl, HA, HK0, HF0_7, BKg1, HB⟩ := hrel
           obtain ⟨w45, rfl⟩ : ∃ wo_ : World, wo_ = wr := ⟨_, rfl⟩
           cases gk with
           | zero => exact absurd HA.out (by simp [reply_Check.l0])
           | succ k44 =>
            have H := HA.out
            clear HA
            simp only [reply_Check.l0] at H
            have HH := Aside0.mk H
            clear H
            obtain ⟨jK, jL, jM, jN, jO, jP, jQ, jR, jS, jT, jU, jV, jW, jX, jY, jZ⟩ := MB.lay8 BKg1.out
            replace HH := zqt HH
            rcases HH with ⟨HH, hk63, hk64⟩ | ⟨HH, hk89, hk90⟩
            ·replace HH := zqdo HH
             obtain ⟨HH, hk66⟩ := HH
             have p67 : 0 ≤ (x43 : Int) := of_decide_eq_true (by first | (with_reducible assumption) | assumption)
             have q67 : x43 < (l0_7.length : Int) := of_decide_eq_true (by first | (with_reducible assumption) | assumption)
             obtain ⟨ad67, A67_1, c67_1, e67, hx67_0, hx67_1, hl67_1, hi67_1⟩ := atF_T46 HF0_7.out x43 p67 q67
             cases e67
             have HF67_1 := Aside0.mk hi67_1
             have HL67_1 := Aside0.mk hl67_1
             clear hi67_1 hl67_1
             replace p67 := eq_true p67
             replace q67 := eq_true q67
             replace HH := zd HH
             obtain ⟨t68, At69, HH⟩ := HH
             go_wp2_with ((with_reducible refine gd 16 rfl ?_); refine zv 16 Try.func21 #[.agg #[.string ((rd_T46 l0_7 x43).f0), .slice A67_1 ((rd_T46 l0_7 x43).f1).length c67_1]] #[] (h := ?_); (with_reducible refine (reply_wrong.calls k44 (fun k_ => (P_ k_ ∨ w.heap.size ≤ k_) ∧ k_ ≠ g1) ((rd_T46 l0_7 x43).f0) _ _ ((rd_T46 l0_7 x43).f1) t68 _ (Kd.F_mono (ok := (fun k_ => (P_ k_ ∨ w.heap.size ≤ k_) ∧ k_ ≠ g1)) HF67_1.out (fun k_ hk_ => hk_)) HL67_1.out At69.out).mono ?_); rintro e w70 ⟨rfl, hb⟩; refine ⟨_, rfl, ?_⟩)
             refine Stop.go ?_
             replace HF0_7 := zfb HF0_7.out hb
             replace BKg1 := zbb BKg1.out hb
             replace HB := zhb HB.out hb
             clear hb
             clear jK jL jM jN jO jP jQ jR jS jT jU jV jW jX jY jZ hx67_0 hx67_1 p67 q67
             obtain ⟨j19, j1a, j1b, j1c, j1d, j1e, j1f, j1g, j1h, j1i, j1j, j1k, j1l, j1m, j1n, j1o⟩ := MB.lay8 BKg1.out
             by_cases c87 : t68 = true
             ·replace HH := MW.hpos HH c87
              subst c87
              go_wp2
              go_ret
              refine ⟨_, rfl, ?_⟩
              go_wp2
              go_ret
              refine ⟨_, rfl, ?_⟩
              have H := HH.out
              obtain rfl := Option.some.inj H
              clear HH
              go_wp2
              go_ret
              exact ⟨by first | rfl | (simp; done) | (simp [*]; done), HB.out⟩
             replace HH := MW.hneg HH c87
             replace c87 := Bool.eq_false_iff.mpr c87
             subst c87
             go_wp2
             go_roundg k44
             case measure => have := HK0.out; omega
             case rel => exact ⟨wrap64 (x43 + 1), (by first | rfl | (simp; done) | (simp [*]; done)), HH, ⟨by have := HK0.out; omega⟩, ⟨(Kd.F_mono (ok := (fun k_ => (P_ k_ ∨ w.heap.size ≤ k_) ∧ k_ ≠ g1)) HF0_7.out (fun k_ hk_ => hk_))⟩, ⟨BKg1.out⟩, ⟨HB.out⟩⟩
            go_wp2
            go_ret
            refine ⟨_, rfl, ?_⟩
            go_wp2
            go_ret
            refine ⟨_, rfl, ?_⟩
            have H := HH.out
            obtain rfl := Option.some.inj H
            clear HH
            go_wp2
            go_ret
            exact ⟨by first | rfl | (simp; done) | (simp [*]; done), HB.out⟩
         have H := HH.out
         obtain rfl := Option.some.inj H
         clear HH
         go_wp2
         go_ret
         exact ⟨by first | rfl | (simp; done) | (simp [*]; done), HB.out⟩
        have H := HH.out
        obtain rfl := Option.some.inj H
        clear HH
        go_wp2
        go_ret
        exact ⟨by first | rfl | (simp; done) | (simp [*]; done), HB.out⟩
       have H := HH.out
       obtain rfl := Option.some.inj H
       clear HH
       go_wp2
       go_ret
       exact ⟨by first | rfl | (simp; done) | (simp [*]; done), HB.out⟩
      exact absurd HH.out (by rw [if_neg c30]; simp)
     have H := HH.out
     obtain rfl := Option.some.inj H
     clear HH
     go_wp2
     go_ret
     exact ⟨by first | rfl | (simp; done) | (simp [*]; done), HB.out⟩
    have H := HH.out
    obtain rfl := Option.some.inj H
    clear HH
    go_wp2
    go_ret
    exact ⟨by first | rfl | (simp; done) | (simp [*]; done), HB.out⟩
   have H := HH.out
   obtain rfl := Option.some.inj H
   clear HH
   go_wp2
   go_ret
   exact ⟨by first | rfl | (simp; done) | (simp [*]; done), HB.out⟩
  replace HH := MW.hneg HH c21
  replace c21 := Bool.eq_false_iff.mpr c21
  subst c21
  replace HH := zqd HH
  rcases HH with ⟨HH, hk104⟩ | ⟨HH, hk148⟩
  ·replace HH := zd HH
   obtain ⟨t105, At106, HH⟩ := HH
   go_wp2_with ((with_reducible refine gc 22 rfl ?_); refine zc 22 (some 55) Try.func22 #[.int .i64 a0_1] (h := ?_); (with_reducible refine (reply_tag.calls  a0_1 t105 _  At106.out).mono ?_); rintro e w' ⟨rfl, ⟨nd, rfl⟩⟩; refine ⟨_, rfl, ?_⟩)
   refine Stop.go ?_
   replace HH := zqg HH
   rcases HH with ⟨HH, hk109⟩ | ⟨HH, hk147⟩
   ·replace HH := zqG HH
    rcases HH with ⟨HH, hk111⟩ | ⟨HH, hk146⟩
    ·replace HH := zqd HH
     rcases HH with ⟨HH, hk113⟩ | ⟨HH, hk145⟩
     ·replace HH := zqL 3000 HH
      rcases HH with ⟨HH, hk115, hk116⟩ | ⟨HH, hk143, hk144⟩
      ·replace HH := zqL 200 HH
       rcases HH with ⟨HH, hk118, hk119⟩ | ⟨HH, hk141, hk142⟩
       ·by_cases c120 : (l0_7.length : Int) = 0
        ·replace HH := MW.hpos HH c120
         have hk121 : ((l0_7.length : Int) == 0) = true := beq_iff_eq.mpr c120
         have hk122 : ((l0_7.length : Int) != 0) = false := bne_eq_false_iff_eq.mpr c120
         clear c120
         replace HH := zqe HH
         rcases HH with ⟨HH, hk124, hk125⟩ | ⟨HH, hk126, hk127⟩
         ·have H := HH.out
          obtain rfl := Option.some.inj H
          clear HH
          go_wp2
          go_ret
          exact ⟨by first | rfl | (simp; done) | (simp [*]; done), (by repeat (first | (with_reducible first | exact HB.out | apply below_alloc | apply pw_below_drewN | apply below_drew1) | exact HB.out))⟩
         replace HH := zqe HH
         rcases HH with ⟨HH, hk129, hk130⟩ | ⟨HH, hk136, hk137⟩
         ·replace HH := zqL 100 HH
          rcases HH with ⟨HH, hk132, hk133⟩ | ⟨HH, hk134, hk135⟩
          ·have H := HH.out
           obtain rfl := Option.some.inj H
           clear HH
           go_wp2
           go_ret
           exact ⟨by first | rfl | (simp; done) | (simp [*]; done), (by repeat (first | (with_reducible first | exact HB.out | apply below_alloc | apply pw_below_drewN | apply below_drew1) | exact HB.out))⟩
          have H := HH.out
          obtain rfl := Option.some.inj H
          clear HH
          go_wp2
          go_ret
          exact ⟨by first | rfl | (simp; done) | (simp [*]; done), (by repeat (first | (with_reducible first | exact HB.out | apply below_alloc | apply pw_below_drewN | apply below_drew1) | exact HB.out))⟩
         have H := HH.out
         obtain rfl := Option.some.inj H
         clear HH
         go_wp2
         go_ret
         exact ⟨by first | rfl | (simp; done) | (simp [*]; done), (by repeat (first | (with_reducible first | exact HB.out | apply below_alloc | apply pw_below_drewN | apply below_drew1) | exact HB.out))⟩
        replace HH := MW.hneg HH c120
        have hk138 : ((l0_7.length : Int) == 0) = false := beq_eq_false_iff_ne.mpr c120
        have hk139 : ((l0_7.length : Int) != 0) = true := bne_iff_ne.mpr c120
        have hk140 : ¬ (l0_7 = []) := fun h_ => c120 (by rw [h_]; rfl)
        clear c120
        have H := HH.out
        obtain rfl := Option.some.inj H
        clear HH
        go_wp2
        go_ret
        exact ⟨by first | rfl | (simp; done) | (simp [*]; done), (by repeat (first | (with_reducible first | exact HB.out | apply below_alloc | apply pw_below_drewN | apply below_drew1) | exact HB.out))⟩
       have H := HH.out
       obtain rfl := Option.some.inj H
       clear HH
       go_wp2
       go_ret
       exact ⟨by first | rfl | (simp; done) | (simp [*]; done), (by repeat (first | (with_reducible first | exact HB.out | apply below_alloc | apply pw_below_drewN | apply below_drew1) | exact HB.out))⟩
      have H := HH.out
      obtain rfl := Option.some.inj H
      clear HH
      go_wp2
      go_ret
      exact ⟨by first | rfl | (simp; done) | (simp [*]; done), (by repeat (first | (with_reducible first | exact HB.out | apply below_alloc | apply pw_below_drewN | apply below_drew1) | exact HB.out))⟩
     have H := HH.out
     obtain rfl := Option.some.inj H
     clear HH
     go_wp2
     go_ret
     exact ⟨by first | rfl | (simp; done) | (simp [*]; done), (by repeat (first | (with_reducible first | exact HB.out | apply below_alloc | apply pw_below_drewN | apply below_drew1) | exact HB.out))⟩
    have H := HH.out
    obtain rfl := Option.some.inj H
    clear HH
    go_wp2
    go_ret
    exact ⟨by first | rfl | (simp; done) | (simp [*]; done), (by repeat (first | (with_reducible first | exact HB.out | apply below_alloc | apply pw_below_drewN | apply below_drew1) | exact HB.out))⟩
   have H := HH.out
   obtain rfl := Option.some.inj H
   clear HH
   go_wp2
   go_ret
   exact ⟨by first | rfl | (simp; done) | (simp [*]; done), (by repeat (first | (with_reducible first | exact HB.out | apply below_alloc | apply pw_below_drewN | apply below_drew1) | exact HB.out))⟩
  have H := HH.out
  obtain rfl := Option.some.inj H
  clear HH
  go_wp2
  go_ret
  exact ⟨by first | rfl | (simp; done) | (simp [*]; done), HB.out⟩
 by_cases c150 : a0_2 = true
 ·replace HH := MW.hpos HH c150
  subst c150
  have H := HH.out
  obtain rfl := Option.some.inj H
  clear HH
  go_wp2
  go_ret
  exact ⟨by first | rfl | (simp; done) | (simp [*]; done), HB.out⟩
 replace HH := MW.hneg HH c150
 replace c150 := Bool.eq_false_iff.mpr c150
 subst c150
 have H := HH.out
 obtain rfl := Option.some.inj H
 clear HH
 go_wp2
 go_ret
 exact ⟨by first | rfl | (simp; done) | (simp [*]; done), HB.out⟩

/-! ### Clone_92: function 92 (slices.Clone) -/
def Clone_92.f (l0 : List (S57)) : Option (List (S57)) := if l0.length < 2199023255552 then some l0 else none
set_option maxHeartbeats 8000000 in
set_option maxRecDepth 100000 in
theorem Clone_92.calls (P_ : Nat → Prop) (A0 : Option Addr) (c0 : Nat) (l0 : List (S57)) (r : List (S57)) (w : World) (hs0 : Kd.F k57 w P_ A0 l0.length l0) (hc0 : l0.length ≤ c0) (h : Clone_92.f l0 = some r) :
  Calls Try.prog 92 #[.slice A0 l0.length c0] w fun e w' => ∃ v0_ : Value, e = .returned (v0_) ∧ Kd.N k57 57 w' w.heap.size (fun k_ => P_ k_ ∨ w.heap.size ≤ k_) v0_ r ∧ Below w.heap.size w w' := by
 have hu := Try.underlying55
 unfold Clone_92.f at h
 by_cases hl : l0.length < 2199023255552
 ·rw [if_pos hl] at h
  obtain rfl := Option.some.inj h
  clear h
  have heq := fun W => Lib.run_eql_slice_nil (P := Try.prog) W 55 57 A0 l0.length c0 0 0 hu
  have HF := Aside0.mk (Kd.F_mono hs0 (fun k_ hk_ => (.inl hk_ : P_ k_ ∨ w.heap.size ≤ k_)))
  cases A0 with
  | none =>
   have hz : l0 = [] := by
    have h2 := (Kd.F_now hs0).2.2
    cases l0 with
    | nil => rfl
    | cons a l => obtain ⟨ad, e, _⟩ := h2 (by simp); cases e
   subst hz
   clear hs0
   simp only [List.length_nil] at heq
   go_enter Try.func92, Try.ntmps92
   go_wp2
   go_ret
   exact ⟨_, rfl, Kd.N_nil _ _ _ _ _, Below.refl _ _⟩
  | some ad =>
   clear hs0
   go_enter Try.func92, Try.ntmps92
   go_wp2_with ((with_reducible refine gate_dst (N := 5) rfl ?_); refine Kd.N_lit k57 w.heap.size 57 rfl rfl (xs := []) (inner := []) (ok := fun k_ => P_ k_ ∨ w.heap.size ≤ k_) (okp := fun _ => False) ?hr ?hp (fun _ h => h.elim) (.inr (Nat.le_refl _)) (Below.refl _ _) (Nat.le_refl _) (by simp) ?_; (case hr => first | (go_simp; done) | (go_simp; rfl)); (case hp => exact Reps.none _ _); intro v1 w1 hN hB hg hat; replace hat := Aside0.mk hat; refine stop_ ?_)
   refine Stop.go ?_
   replace hat := hat.out
   have HN := Aside0.mk hN
   have HB := Aside0.mk hB
   have HF1 := Aside0.mk (Kd.F_elder' HF.out (MW.base_of hat) (MW.grown_below hg))
   clear hN hB hg hat
   go_wp2_with ((with_reducible refine gate_dst (N := 7) rfl ?_); refine Kd.N_append_rows k57 w.heap.size rfl _ _ 55 57 (.agg #[(.int .i64 0), (.bool false), (.int .i64 0), (.string ⟨#[]⟩), (.slice none 0 0)]) 64 rfl hu info57 rfl (by decide) (by decide) _ _ l0 _ _ _ (fun k_ => P_ k_ ∨ w.heap.size ≤ k_) _ rfl rfl HN.out HF1.out (fun _ hk => hk) (fun k_ h_ => .inr (Nat.le_trans HB.out.size h_)) HB.out HB.out.size (by simp; omega) ?_; intro v2 w2 hN2 hB2 hg2 hat2; replace hat2 := Aside0.mk hat2; refine stop_ ?_)
   refine Stop.go ?_
   have HN2 := Aside0.mk hN2
   have HB2 := Aside0.mk hB2
   clear hN2 hB2 hg2 hat2 HN HB HF1 HF
   go_wp2
   go_ret
   exact ⟨_, rfl, HN2.out, HB2.out⟩
 rw [if_neg hl] at h
 exact absurd h (by simp)

/-! ### prims_Group: function 65 -/
def prims_Group.f (a0 : Int) (a1 : Int) (l2 : List (S57)) : Option (Int × Bool × Int × ByteArray × (List (S57)) × Int) := if a0 < 0 then (some (0, false, 0, (⟨#[]⟩ : ByteArray), ([] : List (S57)), 2)) else (if a0 > 3 then (some (0, false, 0, (⟨#[]⟩ : ByteArray), ([] : List (S57)), 2)) else (if a1 < 0 then (some (0, false, 0, (⟨#[]⟩ : ByteArray), ([] : List (S57)), 2)) else (if a1 > 30 then (some (0, false, 0, (⟨#[]⟩ : ByteArray), ([] : List (S57)), 2)) else ((Clone_92.f l2).bind fun t310 => (some (a0, true, a1, (⟨#[]⟩ : ByteArray), t310, 0))))))
set_option maxHeartbeats 8000000 in
set_option maxRecDepth 100000 in
theorem prims_Group.calls (P_ : Nat → Prop) (a0 : Int) (a1 : Int) (A2 : Option Addr) (c2 : Nat) (l2 : List (S57)) (r1 : Int) (r2 : Bool) (r3 : Int) (r4 : ByteArray) (r5 : List (S57)) (r6 : Int) (w : World) (hs2 : Kd.F k57 w P_ A2 l2.length l2) (hc2 : l2.length ≤ c2) (h : prims_Group.f a0 a1 l2 = some (r1, r2, r3, r4, r5, r6)) :
  Calls Try.prog 65 #[.int .i64 a0, .int .i64 a1, .slice A2 l2.length c2] w (fun e w' => ∃ v4_ : Value, e = .returned (.tuple #[.agg #[.int .i64 r1, .bool r2, .int .i64 r3, .string r4, v4_], .int .i64 r6]) ∧ Kd.N k57 57 w' w.heap.size (fun k_ => P_ k_ ∨ w.heap.size ≤ k_) v4_ r5 ∧ Below w.heap.size w w') := by
 have HH := Aside0.mk (show (if a0 < 0 then (some (0, false, 0, (⟨#[]⟩ : ByteArray), ([] : List (S57)), 2)) else (if a0 > 3 then (some (0, false, 0, (⟨#[]⟩ : ByteArray), ([] : List (S57)), 2)) else (if a1 < 0 then (some (0, false, 0, (⟨#[]⟩ : ByteArray), ([] : List (S57)), 2)) else (if a1 > 30 then (some (0, false, 0, (⟨#[]⟩ : ByteArray), ([] : List (S57)), 2)) else ((Clone_92.f l2).bind fun t310 => (some (a0, true, a1, (⟨#[]⟩ : ByteArray), t310, 0))))))) = some (r1, r2, r3, r4, r5, r6) from h)
 clear h
 have HF2 := zfp hs2
 have HL2 := Aside0.mk hc2
 clear hs2 hc2
 have HB := Aside0.mk (Below.refl w.heap.size w)
 have hu57 := Try.underlying57
 go_enter Try.func65, Try.ntmps65
 go_wp2_with ((with_reducible refine gd 5 rfl ?_); refine zb 5 55 #[.slice A2 l2.length c2] (h := ?_); intro g1 hg w2 BKg1 hb)
 refine Stop.go ?_
 replace HF2 := zfe HF2.out hg hb
 replace HB := zhb HB.out hb
 clear hg hb
 obtain ⟨j3, j4⟩ := MB.lay1 BKg1.out
 go_wp2_with ((with_reducible refine gd 6 rfl ?_); refine zb 6 57 #[.int .i64 0, .bool false, .int .i64 0, .string (⟨#[]⟩ : ByteArray), .slice none 0 0] (h := ?_); intro g5 hg w6 BKg5 hb)
 refine Stop.go ?_
 have GEg5 := zge hg (below_size HB.out)
 have NEg1_g5 := znq hg BKg1.out
 replace HF2 := zfe HF2.out hg hb
 replace BKg1 := zbb BKg1.out hb
 replace HB := zhb HB.out hb
 clear hg hb
 clear j3 j4
 obtain ⟨j7, j8⟩ := MB.lay1 BKg1.out
 obtain ⟨j9, ja, jb, jc, jd, je, jf, jg, jh, ji⟩ := MB.lay5 BKg5.out
 go_wp2_with (((with_reducible refine gate_callee (f := 84) rfl ?_); (try (refine gate_guard (by rfl) ?_; dsimp only)); refine goesL_ (some 11) rfl rfl Try.func84 (by kernel_rfl) rfl #[.int .i64 a0, .int .i64 a1, .func (.func 91) #[] #[.pointer (some ⟨g1, 0, none⟩)]] rfl (by (try simp only [List.map_toArray, List.map_cons, List.map_nil]); first | done | rfl) ?_); refine stop_ ?_)
 refine Stop.go ?_
 go_enter Try.func84, Try.ntmps84
 go_wp2_with ((with_reducible refine gd 6 rfl ?_); refine zb 6 57 #[.int .i64 0, .bool false, .int .i64 0, .string (⟨#[]⟩ : ByteArray), .slice none 0 0] (h := ?_); intro g19 hg w20 BKg19 hb)
 refine Stop.go ?_
 have GEg19 := zge hg (below_size HB.out)
 have NEg1_g19 := znq hg BKg1.out
 have NEg5_g19 := znq hg BKg5.out
 have NEg19_g5 := zsy NEg5_g19
 replace HF2 := zfe HF2.out hg hb
 replace BKg1 := zbb BKg1.out hb
 replace BKg5 := zbb BKg5.out hb
 replace HB := zhb HB.out hb
 clear hg hb
 clear j7 j8 j9 ja jb jc jd je jf jg jh ji
 obtain ⟨jl, jm⟩ := MB.lay1 BKg1.out
 obtain ⟨jn, jo, jp, jq, jr, js, jt, ju, jv, jw⟩ := MB.lay5 BKg5.out
 obtain ⟨jx, jy, jz, jA, jB, jC, jD, jE, jF, jG⟩ := MB.lay5 BKg19.out
 replace HH := zqt HH
 rcases HH with ⟨HH, hk44, hk45⟩ | ⟨HH, hk92, hk93⟩
 ·go_wp2_with ((with_reducible refine gs 57 6 rfl ?_); refine zs 57 6 #[.int .i64 0, .bool false, .int .i64 0, .string (⟨#[]⟩ : ByteArray), .slice none 0 0] BKg19.out [.int .i64 0, .bool false, .int .i64 0, .string (⟨#[]⟩ : ByteArray), .slice none 0 0] (h := ?_); intro w46 hbk hg)
  refine Stop.go ?_
  replace BKg1 := zbg BKg1.out hg NEg1_g19
  replace BKg5 := zbg BKg5.out hg NEg5_g19
  replace HB := zhg HB.out hg (below_size HB.out) GEg19
  replace BKg19 := hbk
  clear hg hbk
  clear jl jm jn jo jp jq jr js jt ju jv jw jx jy jz jA jB jC jD jE jF jG
  obtain ⟨jL, jM⟩ := MB.lay1 BKg1.out
  obtain ⟨jN, jO, jP, jQ, jR, jS, jT, jU, jV, jW⟩ := MB.lay5 BKg5.out
  obtain ⟨jX, jY, jZ, j10, j11, j12, j13, j14, j15, j16⟩ := MB.lay5 BKg19.out
  go_wp2
  refine bodyPost_ret (results_ct rfl _ _ g19 57 #[.int .i64 0, .bool false, .int .i64 0, .string (⟨#[]⟩ : ByteArray), .slice none 0 0] (0, 0) _ rfl BKg19.out Try.underlying57 rfl (by kernel_rfl)) rfl ?_
  refine ⟨_, rfl, ?_⟩
  go_wp2_with ((with_reducible refine gs 57 6 rfl ?_); refine zs 57 6 #[.int .i64 0, .bool false, .int .i64 0, .string (⟨#[]⟩ : ByteArray), .slice none 0 0] BKg5.out [.int .i64 0, .bool false, .int .i64 0, .string (⟨#[]⟩ : ByteArray), .slice none 0 0] (h := ?_); intro w69 hbk hg)
  refine Stop.go ?_
  replace BKg1 := zbg BKg1.out hg NEg1_g5
  replace BKg19 := zbg BKg19.out hg NEg19_g5
  replace HB := zhg HB.out hg (below_size HB.out) GEg5
  replace BKg5 := hbk
  clear hg hbk
  clear jL jM jN jO jP jQ jR jS jT jU jV jW jX jY jZ j10 j11 j12 j13 j14 j15 j16
  obtain ⟨j18, j19⟩ := MB.lay1 BKg1.out
  obtain ⟨j1a, j1b, j1c, j1d, j1e, j1f, j1g, j1h, j1i, j1j⟩ := MB.lay5 BKg5.out
  obtain ⟨j1k, j1l, j1m, j1n, j1o, j1p, j1q, j1r, j1s, j1t⟩ := MB.lay5 BKg19.out
  have H := HH.out
  simp only [Option.some.injEq, Prod.mk.injEq] at H
  obtain ⟨rfl, rfl, rfl, rfl, rfl, rfl⟩ := H
  clear HH
  go_wp2
  refine bodyPost_ret (results_ct rfl _ _ g5 57 #[.int .i64 0, .bool false, .int .i64 0, .string (⟨#[]⟩ : ByteArray), .slice none 0 0] (0, 0) _ rfl BKg5.out Try.underlying57 rfl (by kernel_rfl)) rfl ?_
  exact ⟨_, by first | rfl | (simp; done) | (simp [*]; done), (Kd.N_nil _ _ _ _ _), HB.out⟩
 replace HH := zqg HH
 rcases HH with ⟨HH, hk95⟩ | ⟨HH, hk142⟩
 ·go_wp2_with ((with_reducible refine gs 57 6 rfl ?_); refine zs 57 6 #[.int .i64 0, .bool false, .int .i64 0, .string (⟨#[]⟩ : ByteArray), .slice none 0 0] BKg19.out [.int .i64 0, .bool false, .int .i64 0, .string (⟨#[]⟩ : ByteArray), .slice none 0 0] (h := ?_); intro w96 hbk hg)
  refine Stop.go ?_
  replace BKg1 := zbg BKg1.out hg NEg1_g19
  replace BKg5 := zbg BKg5.out hg NEg5_g19
  replace HB := zhg HB.out hg (below_size HB.out) GEg19
  replace BKg19 := hbk
  clear hg hbk
  clear jl jm jn jo jp jq jr js jt ju jv jw jx jy jz jA jB jC jD jE jF jG
  obtain ⟨j1z, j1A⟩ := MB.lay1 BKg1.out
  obtain ⟨j1B, j1C, j1D, j1E, j1F, j1G, j1H, j1I, j1J, j1K⟩ := MB.lay5 BKg5.out
  obtain ⟨j1L, j1M, j1N, j1O, j1P, j1Q, j1R, j1S, j1T, j1U⟩ := MB.lay5 BKg19.out
  go_wp2
  refine bodyPost_ret (results_ct rfl _ _ g19 57 #[.int .i64 0, .bool false, .int .i64 0, .string (⟨#[]⟩ : ByteArray), .slice none 0 0] (0, 0) _ rfl BKg19.out Try.underlying57 rfl (by kernel_rfl)) rfl ?_
  refine ⟨_, rfl, ?_⟩
  go_wp2_with ((with_reducible refine gs 57 6 rfl ?_); refine zs 57 6 #[.int .i64 0, .bool false, .int .i64 0, .string (⟨#[]⟩ : ByteArray), .slice none 0 0] BKg5.out [.int .i64 0, .bool false, .int .i64 0, .string (⟨#[]⟩ : ByteArray), .slice none 0 0] (h := ?_); intro w119 hbk hg)
  refine Stop.go ?_
  replace BKg1 := zbg BKg1.out hg NEg1_g5
  replace BKg19 := zbg BKg19.out hg NEg19_g5
  replace HB := zhg HB.out hg (below_size HB.out) GEg5
  replace BKg5 := hbk
  clear hg hbk
  clear j1z j1A j1B j1C j1D j1E j1F j1G j1H j1I j1J j1K j1L j1M j1N j1O j1P j1Q j1R j1S j1T j1U
  obtain ⟨j1W, j1X⟩ := MB.lay1 BKg1.out
  obtain ⟨j1Y, j1Z, j20, j21, j22, j23, j24, j25, j26, j27⟩ := MB.lay5 BKg5.out
  obtain ⟨j28, j29, j2a, j2b, j2c, j2d, j2e, j2f, j2g, j2h⟩ := MB.lay5 BKg19.out
  have H := HH.out
  simp only [Option.some.injEq, Prod.mk.injEq] at H
  obtain ⟨rfl, rfl, rfl, rfl, rfl, rfl⟩ := H
  clear HH
  go_wp2
  refine bodyPost_ret (results_ct rfl _ _ g5 57 #[.int .i64 0, .bool false, .int .i64 0, .string (⟨#[]⟩ : ByteArray), .slice none 0 0] (0, 0) _ rfl BKg5.out Try.underlying57 rfl (by kernel_rfl)) rfl ?_
  exact ⟨_, by first | rfl | (simp; done) | (simp [*]; done), (Kd.N_nil _ _ _ _ _), HB.out⟩
 replace HH := zqt HH
 rcases HH with ⟨HH, hk144, hk145⟩ | ⟨HH, hk192, hk193⟩
 ·go_wp2_with ((with_reducible refine gs 57 6 rfl ?_); refine zs 57 6 #[.int .i64 0, .bool false, .int .i64 0, .string (⟨#[]⟩ : ByteArray), .slice none 0 0] BKg19.out [.int .i64 0, .bool false, .int .i64 0, .string (⟨#[]⟩ : ByteArray), .slice none 0 0] (h := ?_); intro w146 hbk hg)
  refine Stop.go ?_
  replace BKg1 := zbg BKg1.out hg NEg1_g19
  replace BKg5 := zbg BKg5.out hg NEg5_g19
  replace HB := zhg HB.out hg (below_size HB.out) GEg19
  replace BKg19 := hbk
  clear hg hbk
  clear jl jm jn jo jp jq jr js jt ju jv jw jx jy jz jA jB jC jD jE jF jG
  obtain ⟨j2n, j2o⟩ := MB.lay1 BKg1.out
  obtain ⟨j2p, j2q, j2r, j2s, j2t, j2u, j2v, j2w, j2x, j2y⟩ := MB.lay5 BKg5.out
  obtain ⟨j2z, j2A, j2B, j2C, j2D, j2E, j2F, j2G, j2H, j2I⟩ := MB.lay5 BKg19.out
  go_wp2
  refine bodyPost_ret (results_ct rfl _ _ g19 57 #[.int .i64 0, .bool false, .int .i64 0, .string (⟨#[]⟩ : ByteArray), .slice none 0 0] (0, 0) _ rfl BKg19.out Try.underlying57 rfl (by kernel_rfl)) rfl ?_
  refine ⟨_, rfl, ?_⟩
  go_wp2_with ((with_reducible refine gs 57 6 rfl ?_); refine zs 57 6 #[.int .i64 0, .bool false, .int .i64 0, .string (⟨#[]⟩ : ByteArray), .slice none 0 0] BKg5.out [.int .i64 0, .bool false, .int .i64 0, .string (⟨#[]⟩ : ByteArray), .slice none 0 0] (h := ?_); intro w169 hbk hg)
  refine Stop.go ?_
  replace BKg1 := zbg BKg1.out hg NEg1_g5
  replace BKg19 := zbg BKg19.out hg NEg19_g5
  replace HB := zhg HB.out hg (below_size HB.out) GEg5
  replace BKg5 := hbk
  clear hg hbk
  clear j2n j2o j2p j2q j2r j2s j2t j2u j2v j2w j2x j2y j2z j2A j2B j2C j2D j2E j2F j2G j2H j2I
  obtain ⟨j2K, j2L⟩ := MB.lay1 BKg1.out
  obtain ⟨j2M, j2N, j2O, j2P, j2Q, j2R, j2S, j2T, j2U, j2V⟩ := MB.lay5 BKg5.out
  obtain ⟨j2W, j2X, j2Y, j2Z, j30, j31, j32, j33, j34, j35⟩ := MB.lay5 BKg19.out
  have H := HH.out
  simp only [Option.some.injEq, Prod.mk.injEq] at H
  obtain ⟨rfl, rfl, rfl, rfl, rfl, rfl⟩ := H
  clear HH
  go_wp2
  refine bodyPost_ret (results_ct rfl _ _ g5 57 #[.int .i64 0, .bool false, .int .i64 0, .string (⟨#[]⟩ : ByteArray), .slice none 0 0] (0, 0) _ rfl BKg5.out Try.underlying57 rfl (by kernel_rfl)) rfl ?_
  exact ⟨_, by first | rfl | (simp; done) | (simp [*]; done), (Kd.N_nil _ _ _ _ _), HB.out⟩
 replace HH := zqg HH
 rcases HH with ⟨HH, hk195⟩ | ⟨HH, hk242⟩
 ·go_wp2_with ((with_reducible refine gs 57 6 rfl ?_); refine zs 57 6 #[.int .i64 0, .bool false, .int .i64 0, .string (⟨#[]⟩ : ByteArray), .slice none 0 0] BKg19.out [.int .i64 0, .bool false, .int .i64 0, .string (⟨#[]⟩ : ByteArray), .slice none 0 0] (h := ?_); intro w196 hbk hg)
  refine Stop.go ?_
  replace BKg1 := zbg BKg1.out hg NEg1_g19
  replace BKg5 := zbg BKg5.out hg NEg5_g19
  replace HB := zhg HB.out hg (below_size HB.out) GEg19
  replace BKg19 := hbk
  clear hg hbk
  clear jl jm jn jo jp jq jr js jt ju jv jw jx jy jz jA jB jC jD jE jF jG
  obtain ⟨j3b, j3c⟩ := MB.lay1 BKg1.out
  obtain ⟨j3d, j3e, j3f, j3g, j3h, j3i, j3j, j3k, j3l, j3m⟩ := MB.lay5 BKg5.out
  obtain ⟨j3n, j3o, j3p, j3q, j3r, j3s, j3t, j3u, j3v, j3w⟩ := MB.lay5 BKg19.out
  go_wp2
  refine bodyPost_ret (results_ct rfl _ _ g19 57 #[.int .i64 0, .bool false, .int .i64 0, .string (⟨#[]⟩ : ByteArray), .slice none 0 0] (0, 0) _ rfl BKg19.out Try.underlying57 rfl (by kernel_rfl)) rfl ?_
  refine ⟨_, rfl, ?_⟩
  go_wp2_with ((with_reducible refine gs 57 6 rfl ?_); refine zs 57 6 #[.int .i64 0, .bool false, .int .i64 0, .string (⟨#[]⟩ : ByteArray), .slice none 0 0] BKg5.out [.int .i64 0, .bool false, .int .i64 0, .string (⟨#[]⟩ : ByteArray), .slice none 0 0] (h := ?_); intro w219 hbk hg)
  refine Stop.go ?_
  replace BKg1 := zbg BKg1.out hg NEg1_g5
  replace BKg19 := zbg BKg19.out hg NEg19_g5
  replace HB := zhg HB.out hg (below_size HB.out) GEg5
  replace BKg5 := hbk
  clear hg hbk
  clear j3b j3c j3d j3e j3f j3g j3h j3i j3j j3k j3l j3m j3n j3o j3p j3q j3r j3s j3t j3u j3v j3w
  obtain ⟨j3y, j3z⟩ := MB.lay1 BKg1.out
  obtain ⟨j3A, j3B, j3C, j3D, j3E, j3F, j3G, j3H, j3I, j3J⟩ := MB.lay5 BKg5.out
  obtain ⟨j3K, j3L, j3M, j3N, j3O, j3P, j3Q, j3R, j3S, j3T⟩ := MB.lay5 BKg19.out
  have H := HH.out
  simp only [Option.some.injEq, Prod.mk.injEq] at H
  obtain ⟨rfl, rfl, rfl, rfl, rfl, rfl⟩ := H
  clear HH
  go_wp2
  refine bodyPost_ret (results_ct rfl _ _ g5 57 #[.int .i64 0, .bool false, .int .i64 0, .string (⟨#[]⟩ : ByteArray), .slice none 0 0] (0, 0) _ rfl BKg5.out Try.underlying57 rfl (by kernel_rfl)) rfl ?_
  exact ⟨_, by first | rfl | (simp; done) | (simp [*]; done), (Kd.N_nil _ _ _ _ _), HB.out⟩
 go_wp2_with ((with_reducible refine gd 8 rfl ?_); refine zb 8 57 #[.int .i64 0, .bool false, .int .i64 0, .string (⟨#[]⟩ : ByteArray), .slice none 0 0] (h := ?_); intro g243 hg w244 BKg243 hb)
 refine Stop.go ?_
 have GEg243 := zge hg (below_size HB.out)
 have NEg1_g243 := znq hg BKg1.out
 have NEg5_g243 := znq hg BKg5.out
 have NEg243_g5 := zsy NEg5_g243
 have NEg19_g243 := znq hg BKg19.out
 have NEg243_g19 := zsy NEg19_g243
 replace HF2 := zfe HF2.out hg hb
 replace BKg1 := zbb BKg1.out hb
 replace BKg5 := zbb BKg5.out hb
 replace BKg19 := zbb BKg19.out hb
 replace HB := zhb HB.out hb
 clear hg hb
 clear jl jm jn jo jp jq jr js jt ju jv jw jx jy jz jA jB jC jD jE jF jG
 obtain ⟨j3X, j3Y⟩ := MB.lay1 BKg1.out
 obtain ⟨j3Z, j40, j41, j42, j43, j44, j45, j46, j47, j48⟩ := MB.lay5 BKg5.out
 obtain ⟨j49, j4a, j4b, j4c, j4d, j4e, j4f, j4g, j4h, j4i⟩ := MB.lay5 BKg19.out
 obtain ⟨j4j, j4k, j4l, j4m, j4n, j4o, j4p, j4q, j4r, j4s⟩ := MB.lay5 BKg243.out
 go_wp2_with ((with_reducible refine gs 57 8 rfl ?_); refine zs 57 8 #[.int .i64 a0, .bool false, .int .i64 a1, .string (⟨#[]⟩ : ByteArray), .slice none 0 0] BKg243.out [.int .i64 a0, .bool false, .int .i64 a1, .string (⟨#[]⟩ : ByteArray), .slice none 0 0] (h := ?_); intro w277 hbk hg)
 refine Stop.go ?_
 replace HF2 := zfg HF2.out hg fun k_ hk_ => hk_.2
 replace BKg1 := zbg BKg1.out hg NEg1_g243
 replace BKg5 := zbg BKg5.out hg NEg5_g243
 replace BKg19 := zbg BKg19.out hg NEg19_g243
 replace HB := zhg HB.out hg (below_size HB.out) GEg243
 replace BKg243 := hbk
 clear hg hbk
 clear j3X j3Y j3Z j40 j41 j42 j43 j44 j45 j46 j47 j48 j49 j4a j4b j4c j4d j4e j4f j4g j4h j4i j4j j4k j4l j4m j4n j4o j4p j4q j4r j4s
 obtain ⟨j4u, j4v⟩ := MB.lay1 BKg1.out
 obtain ⟨j4w, j4x, j4y, j4z, j4A, j4B, j4C, j4D, j4E, j4F⟩ := MB.lay5 BKg5.out
 obtain ⟨j4G, j4H, j4I, j4J, j4K, j4L, j4M, j4N, j4O, j4P⟩ := MB.lay5 BKg19.out
 obtain ⟨j4Q, j4R, j4S, j4T, j4U, j4V, j4W, j4X, j4Y, j4Z⟩ := MB.lay5 BKg243.out
 go_wp2_with (((with_reducible refine gate_dst (N := 28) rfl ?_); (try (refine gate_guard (by rfl) ?_; dsimp only)); refine MW.goesV_ (some 28) rfl rfl Try.func91 (by kernel_rfl) rfl #[.pointer (some ⟨g243, 0, none⟩), .pointer (some ⟨g1, 0, none⟩)] rfl #[.pointer (some ⟨g1, 0, none⟩)] rfl (by simp only [List.map_toArray, List.map_cons, List.map_nil, List.append_toArray, List.cons_append, List.nil_append]; first | done | rfl) ?_); refine stop_ ?_)
 refine Stop.go ?_
 go_enter Try.func91, Try.ntmps91
 replace HH := zd HH
 obtain ⟨t310, At311, HH⟩ := HH
 go_wp2_with ((with_reducible refine gc 92 rfl ?_); refine zc 92 (some 6) Try.func92 #[.slice A2 l2.length c2] (h := ?_); (with_reducible refine (Clone_92.calls (fun k_ => ((((P_ k_ ∨ w.heap.size ≤ k_) ∧ k_ ≠ g1) ∧ k_ ≠ g5) ∧ k_ ≠ g19) ∧ k_ ≠ g243) _ _ l2 t310 _ (Kd.F_mono (ok := (fun k_ => ((((P_ k_ ∨ w.heap.size ≤ k_) ∧ k_ ≠ g1) ∧ k_ ≠ g5) ∧ k_ ≠ g19) ∧ k_ ≠ g243)) HF2.out (fun k_ hk_ => hk_)) HL2.out At311.out).mono ?_); rintro e w312 ⟨v313, rfl, hn313, hb⟩; refine ⟨_, rfl, ?_⟩)
 refine Stop.go ?_
 have hba := Kd.N_base hn313
 have HN313 := znl (ok2 := (fun k_ => ((((P_ k_ ∨ w.heap.size ≤ k_) ∧ k_ ≠ g1) ∧ k_ ≠ g5) ∧ k_ ≠ g19) ∧ k_ ≠ g243)) hn313 (below_size HB.out) (fun k_ hk_ => hk_.elim (fun h_ => h_) (fun h_ => ⟨⟨⟨⟨.inr (Nat.le_trans (below_size HB.out) h_), Kd.freshB (g := g1) BKg1.out k_ h_⟩, Kd.freshB (g := g5) BKg5.out k_ h_⟩, Kd.freshB (g := g19) BKg19.out k_ h_⟩, Kd.freshB (g := g243) BKg243.out k_ h_⟩))
 replace BKg1 := zbb BKg1.out hb
 replace BKg5 := zbb BKg5.out hb
 replace BKg19 := zbb BKg19.out hb
 replace BKg243 := zbb BKg243.out hb
 replace HB := zhb HB.out hb
 clear hn313 hba hb
 clear j4u j4v j4w j4x j4y j4z j4A j4B j4C j4D j4E j4F j4G j4H j4I j4J j4K j4L j4M j4N j4O j4P j4Q j4R j4S j4T j4U j4V j4W j4X j4Y j4Z
 obtain ⟨j54, j55⟩ := MB.lay1 BKg1.out
 obtain ⟨j56, j57, j58, j59, j5a, j5b, j5c, j5d, j5e, j5f⟩ := MB.lay5 BKg5.out
 obtain ⟨j5g, j5h, j5i, j5j, j5k, j5l, j5m, j5n, j5o, j5p⟩ := MB.lay5 BKg19.out
 obtain ⟨j5q, j5r, j5s, j5t, j5u, j5v, j5w, j5x, j5y, j5z⟩ := MB.lay5 BKg243.out
 go_wp2_with ((with_reducible refine gs 4 8 rfl ?_); refine zs 4 8 #[.int .i64 a0, .bool true, .int .i64 a1, .string (⟨#[]⟩ : ByteArray), .slice none 0 0] BKg243.out [.bool true] (h := ?_); intro w346 hbk hg)
 refine Stop.go ?_
 replace HN313 := zng HN313.out hg fun k_ hk_ => hk_.2
 replace BKg1 := zbg BKg1.out hg NEg1_g243
 replace BKg5 := zbg BKg5.out hg NEg5_g243
 replace BKg19 := zbg BKg19.out hg NEg19_g243
 replace HB := zhg HB.out hg (below_size HB.out) GEg243
 replace BKg243 := hbk
 clear hg hbk
 clear j54 j55 j56 j57 j58 j59 j5a j5b j5c j5d j5e j5f j5g j5h j5i j5j j5k j5l j5m j5n j5o j5p j5q j5r j5s j5t j5u j5v j5w j5x j5y j5z
 obtain ⟨j5B, j5C⟩ := MB.lay1 BKg1.out
 obtain ⟨j5D, j5E, j5F, j5G, j5H, j5I, j5J, j5K, j5L, j5M⟩ := MB.lay5 BKg5.out
 obtain ⟨j5N, j5O, j5P, j5Q, j5R, j5S, j5T, j5U, j5V, j5W⟩ := MB.lay5 BKg19.out
 obtain ⟨j5X, j5Y, j5Z, j60, j61, j62, j63, j64, j65, j66⟩ := MB.lay5 BKg243.out
 obtain ⟨A380, cp381, he_⟩ := Kd.N_slice HN313.out
 subst he_
 go_wp2_with ((with_reducible refine gs 55 10 rfl ?_); refine zs 55 10 #[.int .i64 a0, .bool true, .int .i64 a1, .string (⟨#[]⟩ : ByteArray), (.slice A380 t310.length cp381)] BKg243.out [(.slice A380 t310.length cp381)] (h := ?_); intro w379 hbk hg)
 refine Stop.go ?_
 replace HN313 := zng HN313.out hg fun k_ hk_ => hk_.2
 replace BKg1 := zbg BKg1.out hg NEg1_g243
 replace BKg5 := zbg BKg5.out hg NEg5_g243
 replace BKg19 := zbg BKg19.out hg NEg19_g243
 replace HB := zhg HB.out hg (below_size HB.out) GEg243
 replace BKg243 := hbk
 clear hg hbk
 clear j5B j5C j5D j5E j5F j5G j5H j5I j5J j5K j5L j5M j5N j5O j5P j5Q j5R j5S j5T j5U j5V j5W j5X j5Y j5Z j60 j61 j62 j63 j64 j65 j66
 obtain ⟨j6a, j6b⟩ := MB.lay1 BKg1.out
 obtain ⟨j6c, j6d, j6e, j6f, j6g, j6h, j6i, j6j, j6k, j6l⟩ := MB.lay5 BKg5.out
 obtain ⟨j6m, j6n, j6o, j6p, j6q, j6r, j6s, j6t, j6u, j6v⟩ := MB.lay5 BKg19.out
 obtain ⟨j6w, j6x, j6y, j6z, j6A, j6B, j6C, j6D, j6E, j6F⟩ := MB.lay5 BKg243.out
 go_wp2
 go_end0
 refine ⟨_, rfl, ?_⟩
 go_wp2_with ((with_reducible refine gs 57 6 rfl ?_); refine zs 57 6 #[.int .i64 a0, .bool true, .int .i64 a1, .string (⟨#[]⟩ : ByteArray), (.slice A380 t310.length cp381)] BKg19.out [.int .i64 a0, .bool true, .int .i64 a1, .string (⟨#[]⟩ : ByteArray), (.slice A380 t310.length cp381)] (h := ?_); intro w414 hbk hg)
 refine Stop.go ?_
 replace HN313 := zng HN313.out hg fun k_ hk_ => hk_.1.2
 replace BKg1 := zbg BKg1.out hg NEg1_g19
 replace BKg5 := zbg BKg5.out hg NEg5_g19
 replace BKg243 := zbg BKg243.out hg NEg243_g19
 replace HB := zhg HB.out hg (below_size HB.out) GEg19
 replace BKg19 := hbk
 clear hg hbk
 clear j6a j6b j6c j6d j6e j6f j6g j6h j6i j6j j6k j6l j6m j6n j6o j6p j6q j6r j6s j6t j6u j6v j6w j6x j6y j6z j6A j6B j6C j6D j6E j6F
 obtain ⟨j6H, j6I⟩ := MB.lay1 BKg1.out
 obtain ⟨j6J, j6K, j6L, j6M, j6N, j6O, j6P, j6Q, j6R, j6S⟩ := MB.lay5 BKg5.out
 obtain ⟨j6T, j6U, j6V, j6W, j6X, j6Y, j6Z, j70, j71, j72⟩ := MB.lay5 BKg19.out
 obtain ⟨j73, j74, j75, j76, j77, j78, j79, j7a, j7b, j7c⟩ := MB.lay5 BKg243.out
 go_wp2
 refine bodyPost_ret (results_ct rfl _ _ g19 57 #[.int .i64 a0, .bool true, .int .i64 a1, .string (⟨#[]⟩ : ByteArray), (.slice A380 t310.length cp381)] (0, 0) _ rfl BKg19.out Try.underlying57 rfl (by kernel_rfl)) rfl ?_
 refine ⟨_, rfl, ?_⟩
 go_wp2_with ((with_reducible refine gs 57 6 rfl ?_); refine zs 57 6 #[.int .i64 a0, .bool true, .int .i64 a1, .string (⟨#[]⟩ : ByteArray), (.slice A380 t310.length cp381)] BKg5.out [.int .i64 a0, .bool true, .int .i64 a1, .string (⟨#[]⟩ : ByteArray), (.slice A380 t310.length cp381)] (h := ?_); intro w447 hbk hg)
 refine Stop.go ?_
 replace HN313 := zng HN313.out hg fun k_ hk_ => hk_.1.1.2
 replace BKg1 := zbg BKg1.out hg NEg1_g5
 replace BKg19 := zbg BKg19.out hg NEg19_g5
 replace BKg243 := zbg BKg243.out hg NEg243_g5
 replace HB := zhg HB.out hg (below_size HB.out) GEg5
 replace BKg5 := hbk
 clear hg hbk
 clear j6H j6I j6J j6K j6L j6M j6N j6O j6P j6Q j6R j6S j6T j6U j6V j6W j6X j6Y j6Z j70 j71 j72 j73 j74 j75 j76 j77 j78 j79 j7a j7b j7c
 obtain ⟨j7e, j7f⟩ := MB.lay1 BKg1.out
 obtain ⟨j7g, j7h, j7i, j7j, j7k, j7l, j7m, j7n, j7o, j7p⟩ := MB.lay5 BKg5.out
 obtain ⟨j7q, j7r, j7s, j7t, j7u, j7v, j7w, j7x, j7y, j7z⟩ := MB.lay5 BKg19.out
 obtain ⟨j7A, j7B, j7C, j7D, j7E, j7F, j7G, j7H, j7I, j7J⟩ := MB.lay5 BKg243.out
 have H := HH.out
 simp only [Option.some.injEq, Prod.mk.injEq] at H
 obtain ⟨rfl, rfl, rfl, rfl, rfl, rfl⟩ := H
 clear HH
 go_wp2
 refine bodyPost_ret (results_ct rfl _ _ g5 57 #[.int .i64 a0, .bool true, .int .i64 a1, .string (⟨#[]⟩ : ByteArray), (.slice A380 t310.length cp381)] (0, 0) _ rfl BKg5.out Try.underlying57 rfl (by kernel_rfl)) rfl ?_
 exact ⟨_, by first | rfl | (simp; done) | (simp [*]; done), (Kd.N_mono (ok := (fun k_ => ((((P_ k_ ∨ w.heap.size ≤ k_) ∧ k_ ≠ g1) ∧ k_ ≠ g5) ∧ k_ ≠ g19) ∧ k_ ≠ g243)) HN313.out (fun k_ hk_ => hk_.1.1.1.1)), HB.out⟩

/-! ### reply_group: function 45 -/
def reply_group.f (a0 : Int) (a1 : Int) (l2 : List (S57)) : Option (Int × Bool × Int × ByteArray × (List (S57))) := (prims_Group.f a0 a1 l2).bind fun bt13 => (some (bt13.1, bt13.2.1, bt13.2.2.1, bt13.2.2.2.1, bt13.2.2.2.2.1))
set_option maxHeartbeats 8000000 in
set_option maxRecDepth 100000 in
theorem reply_group.calls (P_ : Nat → Prop) (a0 : Int) (a1 : Int) (A2 : Option Addr) (c2 : Nat) (l2 : List (S57)) (r1 : Int) (r2 : Bool) (r3 : Int) (r4 : ByteArray) (r5 : List (S57)) (w : World) (hs2 : Kd.F k57 w P_ A2 l2.length l2) (hc2 : l2.length ≤ c2) (h : reply_group.f a0 a1 l2 = some (r1, r2, r3, r4, r5)) :
  Calls Try.prog 45 #[.int .i64 a0, .int .i64 a1, .slice A2 l2.length c2] w (fun e w' => ∃ v4_ : Value, e = .returned (.agg #[.int .i64 r1, .bool r2, .int .i64 r3, .string r4, v4_]) ∧ Kd.N k57 57 w' w.heap.size (fun k_ => P_ k_ ∨ w.heap.size ≤ k_) v4_ r5 ∧ Below w.heap.size w w') := by
 have HH := Aside0.mk (show ((prims_Group.f a0 a1 l2).bind fun bt13 => (some (bt13.1, bt13.2.1, bt13.2.2.1, bt13.2.2.2.1, bt13.2.2.2.2.1))) = some (r1, r2, r3, r4, r5) from h)
 clear h
 have HF2 := zfp hs2
 have HL2 := Aside0.mk hc2
 clear hs2 hc2
 have HB := Aside0.mk (Below.refl w.heap.size w)
 have hu57 := Try.underlying57
 go_enter Try.func45, Try.ntmps45
 go_wp2_with ((with_reducible refine gd 6 rfl ?_); refine zb 6 57 #[.int .i64 0, .bool false, .int .i64 0, .string (⟨#[]⟩ : ByteArray), .slice none 0 0] (h := ?_); intro g1 hg w2 BKg1 hb)
 refine Stop.go ?_
 have GEg1 := zge hg (below_size HB.out)
 replace HF2 := zfe HF2.out hg hb
 replace HB := zhb HB.out hb
 clear hg hb
 obtain ⟨j3, j4, j5, j6, j7, j8, j9, ja, jb, jc⟩ := MB.lay5 BKg1.out
 replace HH := zd HH
 obtain ⟨⟨t13, t14, t15, t16, t17, t18⟩, At19, HH⟩ := HH
 dsimp only at HH
 go_wp2_with ((with_reducible refine gc 65 rfl ?_); refine zc 65 (some 13) Try.func65 #[.int .i64 a0, .int .i64 a1, .slice A2 l2.length c2] (h := ?_); (with_reducible refine (prims_Group.calls (fun k_ => (P_ k_ ∨ w.heap.size ≤ k_) ∧ k_ ≠ g1) a0 a1 _ _ l2 t13 t14 t15 t16 t17 t18 _ (Kd.F_mono (ok := (fun k_ => (P_ k_ ∨ w.heap.size ≤ k_) ∧ k_ ≠ g1)) HF2.out (fun k_ hk_ => hk_)) HL2.out At19.out).mono ?_); rintro e w20 ⟨v21, rfl, hn21, hb⟩; refine ⟨_, rfl, ?_⟩)
 refine Stop.go ?_
 have hba := Kd.N_base hn21
 have HN21 := znl (ok2 := (fun k_ => (P_ k_ ∨ w.heap.size ≤ k_) ∧ k_ ≠ g1)) hn21 (below_size HB.out) (fun k_ hk_ => hk_.elim (fun h_ => h_) (fun h_ => ⟨.inr (Nat.le_trans (below_size HB.out) h_), Kd.freshB (g := g1) BKg1.out k_ h_⟩))
 replace BKg1 := zbb BKg1.out hb
 replace HB := zhb HB.out hb
 clear hn21 hba hb
 clear j3 j4 j5 j6 j7 j8 j9 ja jb jc
 obtain ⟨jm, jn, jo, jp, jq, jr, js, jt, ju, jv⟩ := MB.lay5 BKg1.out
 go_wp2_with ((with_reducible refine gd 7 rfl ?_); refine zb 7 57 #[.int .i64 0, .bool false, .int .i64 0, .string (⟨#[]⟩ : ByteArray), .slice none 0 0] (h := ?_); intro g32 hg w33 BKg32 hb)
 refine Stop.go ?_
 have GEg32 := zge hg (below_size HB.out)
 have NEg1_g32 := znq hg BKg1.out
 have NEg32_g1 := zsy NEg1_g32
 replace HN21 := zne HN21.out hg hb
 replace BKg1 := zbb BKg1.out hb
 replace HB := zhb HB.out hb
 clear hg hb
 clear jm jn jo jp jq jr js jt ju jv
 obtain ⟨jy, jz, jA, jB, jC, jD, jE, jF, jG, jH⟩ := MB.lay5 BKg1.out
 obtain ⟨jI, jJ, jK, jL, jM, jN, jO, jP, jQ, jR⟩ := MB.lay5 BKg32.out
 obtain ⟨A55, cp56, he_⟩ := Kd.N_slice HN21.out
 subst he_
 go_wp2_with ((with_reducible refine gs 57 7 rfl ?_); refine zs 57 7 #[.int .i64 t13, .bool t14, .int .i64 t15, .string t16, (.slice A55 t17.length cp56)] BKg32.out [.int .i64 t13, .bool t14, .int .i64 t15, .string t16, (.slice A55 t17.length cp56)] (h := ?_); intro w54 hbk hg)
 refine Stop.go ?_
 replace HN21 := zng HN21.out hg fun k_ hk_ => hk_.2
 replace BKg1 := zbg BKg1.out hg NEg1_g32
 replace HB := zhg HB.out hg (below_size HB.out) GEg32
 replace BKg32 := hbk
 clear hg hbk
 clear jy jz jA jB jC jD jE jF jG jH jI jJ jK jL jM jN jO jP jQ jR
 obtain ⟨jV, jW, jX, jY, jZ, j10, j11, j12, j13, j14⟩ := MB.lay5 BKg1.out
 obtain ⟨j15, j16, j17, j18, j19, j1a, j1b, j1c, j1d, j1e⟩ := MB.lay5 BKg32.out
 go_wp2_with ((with_reducible refine gs 57 6 rfl ?_); refine zs 57 6 #[.int .i64 t13, .bool t14, .int .i64 t15, .string t16, (.slice A55 t17.length cp56)] BKg1.out [.int .i64 t13, .bool t14, .int .i64 t15, .string t16, (.slice A55 t17.length cp56)] (h := ?_); intro w77 hbk hg)
 refine Stop.go ?_
 replace HN21 := zng HN21.out hg fun k_ hk_ => hk_.1.2
 replace BKg32 := zbg BKg32.out hg NEg32_g1
 replace HB := zhg HB.out hg (below_size HB.out) GEg1
 replace BKg1 := hbk
 clear hg hbk
 clear jV jW jX jY jZ j10 j11 j12 j13 j14 j15 j16 j17 j18 j19 j1a j1b j1c j1d j1e
 obtain ⟨j1g, j1h, j1i, j1j, j1k, j1l, j1m, j1n, j1o, j1p⟩ := MB.lay5 BKg1.out
 obtain ⟨j1q, j1r, j1s, j1t, j1u, j1v, j1w, j1x, j1y, j1z⟩ := MB.lay5 BKg32.out
 have H := HH.out
 simp only [Option.some.injEq, Prod.mk.injEq] at H
 obtain ⟨rfl, rfl, rfl, rfl, rfl⟩ := H
 clear HH
 go_wp2
 refine bodyPost_ret (MW.results_c rfl _ _ g1 57 #[.int .i64 t13, .bool t14, .int .i64 t15, .string t16, (.slice A55 t17.length cp56)] (0, 0) _ rfl BKg1.out Try.underlying57 rfl (by kernel_rfl)) rfl ?_
 exact ⟨_, by first | rfl | (simp; done) | (simp [*]; done), (Kd.N_mono (ok := (fun k_ => ((P_ k_ ∨ w.heap.size ≤ k_) ∧ k_ ≠ g1) ∧ k_ ≠ g32)) HN21.out (fun k_ hk_ => hk_.1.1)), HB.out⟩

/-! ### prims_signed: function 76 -/
def prims_signed.l0 : Nat → (List Int) → Option (ByteArray)
 | 0, _ => none
 | k + 1, x8 => if (x8.length : Int) > 1 then (if 0 < (x8.length : Int) then (if (rd x8 (0 : Int)) = 0 then (if 1 < (x8.length : Int) then (if (rd x8 (1 : Int)) < 128 then (if 1 ≤ (x8.length : Int) then ((some (List.drop 1 x8 : List Int)).bind fun y37 => ((prims_signed.l0 k y37))) else (none)) else (if (rd x8 (0 : Int)) = 255 then (if (rd x8 (1 : Int)) ≥ 128 then (if 1 ≤ (x8.length : Int) then ((some (List.drop 1 x8 : List Int)).bind fun y51 => ((prims_signed.l0 k y51))) else (none)) else (some (strOfNums x8))) else (some (strOfNums x8)))) else (none)) else (if (rd x8 (0 : Int)) = 255 then (if 1 < (x8.length : Int) then (if (rd x8 (1 : Int)) ≥ 128 then (if 1 ≤ (x8.length : Int) then ((some (List.drop 1 x8 : List Int)).bind fun y80 => ((prims_signed.l0 k y80))) else (none)) else (some (strOfNums x8))) else (none)) else (some (strOfNums x8)))) else (none)) else (some (strOfNums x8))
def prims_signed.f (k : Nat) (a0 : Int) : Option (ByteArray) := (prims_signed.l0 k ([(a0 / 16777216) % 256, (a0 / 65536) % 256, (a0 / 256) % 256, (a0) % 256] : List Int))
theorem prims_signed.mono_l : ∀ k, (∀ y0, LeO (prims_signed.l0 k y0) (prims_signed.l0 (k + 1) y0))
 | 0 => fun _ r h => by simp [prims_signed.l0] at h
 | k + 1 => by
  have ih0 := prims_signed.mono_l k
  ·intro y0
   unfold prims_signed.l0
   repeat' first
   | (with_reducible exact ih0 _)
   | (with_reducible exact LeO.refl _)
   | (with_reducible exact LeO.none _)
   | (with_reducible refine LeO.ite ?_ ?_)
   | (with_reducible refine LeO.bind ?_ (fun _ => ?_))
theorem prims_signed.mono : ∀ a0_ k, LeO (prims_signed.f k a0_) (prims_signed.f (k + 1) a0_) := by
 intro a0_ k
 have ih0 := prims_signed.mono_l k
 unfold prims_signed.f
 repeat' first
   | (with_reducible exact ih0 _)
   | (with_reducible exact LeO.refl _)
   | (with_reducible exact LeO.none _)
   | (with_reducible refine LeO.ite ?_ ?_)
   | (with_reducible refine LeO.bind ?_ (fun _ => ?_))
set_option maxHeartbeats 8000000 in
set_option maxRecDepth 100000 in
theorem prims_signed.calls (k : Nat) (a0 : Int) (r : ByteArray) (w : World) (h : prims_signed.f k a0 = some r) :
  Calls Try.prog 76 #[.int .i32 a0] w (fun e w' => e = .returned (.string r) ∧ Below w.heap.size w w') := by
 have HH := Aside0.mk (show ((prims_signed.l0 k ([(a0 / 16777216) % 256, (a0 / 65536) % 256, (a0 / 256) % 256, (a0) % 256] : List Int))) = some r from h)
 clear h
 have HB := Aside0.mk (Below.refl w.heap.size w)
 go_enter Try.func76, Try.ntmps76
 go_wp2_with (((with_reducible refine gate_dst (N := 15) rfl ?_); (try (refine gate_guard (by rfl) ?_; dsimp only)); refine Kd.N_lit (Kd.int .u8) w.heap.size 5 rfl (N' := 15) rfl (xs := ([(a0 / 16777216) % 256, (a0 / 65536) % 256, (a0 / 256) % 256, (a0) % 256] : List Int)) (inner := [.int .u8 ((a0 / 16777216) % 256), .int .u8 ((a0 / 65536) % 256), .int .u8 ((a0 / 256) % 256), .int .u8 ((a0) % 256)]) (ok := (fun k_ => (w.heap.size ≤ k_))) (okp := (fun k_ => (w.heap.size ≤ k_))) ?hr ?hp (fun _ hk_ => hk_) ?hf HB.out (below_size HB.out) (by first | simp | decide) ?_; (case hr => first | (go_simp; done) | (go_simp; rfl)); (case hp => exact (Reps.one (fun _ _ => rfl) (Reps.one (fun _ _ => rfl) (Reps.one (fun _ _ => rfl) (Reps.one (fun _ _ => rfl) (Reps.none _ _)))))); (case hf => exact (show ∀ k_, w.heap.size ≤ k_ → (fun k_ => (w.heap.size ≤ k_)) k_ from fun k_ h_ => (Nat.le_trans (below_size HB.out) h_)) _ (Nat.le_refl _)); intro v1 w2 hn1 hb1 hg1 hat1); replace hat1 := Aside0.mk hat1; refine stop_ ?_)
 refine Stop.go ?_
 replace hat1 := hat1.out
 have hbe := MW.grown_below hg1
 have hba := MW.base_of hat1
 replace HB := Aside0.mk hb1
 have HN3 := Aside0.mk hn1
 clear hn1 hb1 hg1 hat1 hbe hba
 obtain ⟨A4, cp5, he_⟩ := Kd.N_slice HN3.out
 subst he_
 have HL7 := Aside0.mk (Kd.N_reads' HN3.out).2.1
 have HF6 := Aside0.mk (Kd.N_F HN3.out)
 clear HN3
 go_wp2
 go_loopg [3] k (fun kq u3 w' => ∃ (x8 : List Int) (A9 : Option Addr) (cp9 : Nat), u3 = .slice A9 x8.length cp9 ∧ Aside0 ((prims_signed.l0 kq x8) = some r) ∧ Aside0 (kq ≤ k) ∧ Aside0 (Kd.F (Kd.int .u8) w' (fun k_ => (w.heap.size ≤ k_)) A4 ([(a0 / 16777216) % 256, (a0 / 65536) % 256, (a0 / 256) % 256, (a0) % 256] : List Int).length ([(a0 / 16777216) % 256, (a0 / 65536) % 256, (a0 / 256) % 256, (a0) % 256] : List Int)) ∧ Aside0 (x8.length ≤ cp9) ∧ Aside0 (Kd.F (Kd.int .u8) w' (fun k_ => (w.heap.size ≤ k_)) A9 x8.length x8) ∧ Aside0 (Below w.heap.size w w'))
 case atStart => exact ⟨([(a0 / 16777216) % 256, (a0 / 65536) % 256, (a0 / 256) % 256, (a0) % 256] : List Int), A4, cp5, (by first | rfl | (simp; done) | (simp [*]; done)), HH, ⟨Nat.le_refl _⟩, ⟨(Kd.F_mono (ok := (fun k_ => (w.heap.size ≤ k_))) HF6.out (fun k_ hk_ => hk_))⟩, ⟨HL7.out⟩, ⟨(Kd.F_mono (ok := (fun k_ => (w.heap.size ≤ k_))) HF6.out (fun k_ hk_ => hk_))⟩, ⟨HB.out⟩⟩
 case round =>
  clear HH
  clear HF6 HB
  obtain ⟨x8, A9, cp9, rfl, HA, HK0, HF6, HL9, HF9, HB⟩ := hrel
  obtain ⟨w11, rfl⟩ : ∃ wo_ : World, wo_ = wr := ⟨_, rfl⟩
  cases gk with
  | zero => exact absurd HA.out (by simp [prims_signed.l0])
  | succ k10 =>
   have H := HA.out
   clear HA
   simp only [prims_signed.l0] at H
   have HH := Aside0.mk H
   clear H
   replace HH := zqK 1 HH
   rcases HH with ⟨HH, hk13, hk14⟩ | ⟨HH, hk96, hk97⟩
   ·replace HH := zqno 0 HH
    obtain ⟨HH, hk16, hk17, hk18, hk19⟩ := HH
    have p20 : 0 ≤ (0 : Int) := by decide
    have q20 : (0 : Int) < (x8.length : Int) := of_decide_eq_true (by first | (with_reducible assumption) | assumption)
    obtain ⟨ad20, e20, hx20_0⟩ := Kd.at_int (Kd.F_now HF9.out) (0 : Int) p20 q20
    cases e20
    (try simp only [show ((0 : Int)).toNat = 0 from rfl] at hx20_0)
    (try rw [Addr.add_zero'] at hx20_0)
    replace p20 := eq_true p20
    replace q20 := eq_true q20
    replace HH := zqe HH
    rcases HH with ⟨HH, hk22, hk23⟩ | ⟨HH, hk63, hk64⟩
    ·replace HH := zqno 1 HH
     obtain ⟨HH, hk25, hk26, hk27, hk28⟩ := HH
     have p29 : 0 ≤ (1 : Int) := by decide
     have q29 : (1 : Int) < (x8.length : Int) := of_decide_eq_true (by first | (with_reducible assumption) | assumption)
     obtain ⟨ad29, e29, hx29_0⟩ := Kd.at_int (Kd.F_now HF9.out) (1 : Int) p29 q29
     cases e29
     (try simp only [show ((1 : Int)).toNat = 1 from rfl] at hx29_0)
     (try simp only [Nat.reduceMul, Nat.reduceEqDiff, Go.Addr.add, ↓reduceIte] at hx29_0)
     replace p29 := eq_true p29
     replace q29 := eq_true q29
     replace HH := zqt HH
     rcases HH with ⟨HH, hk31, hk32⟩ | ⟨HH, hk40, hk41⟩
     ·replace HH := zqlo 1 HH
      obtain ⟨HH, hk35, hk36⟩ := HH
      obtain ⟨i033, hi033, _, hsz33, _⟩ := info_parts info5
      have q033 : 0 ≤ (1 : Int) := (by decide)
      have ql33 : (1 : Int) ≤ ((x8.length : Int) : Int) := (by first | exact Int.le_refl _ | exact of_decide_eq_true (by first | (with_reducible assumption) | assumption) | (simp; done))
      have hcut33 := cut_from (P := Try.prog) 95 5 .i64 Try.underlying95 hi033 1 hsz33 (some ad20) x8.length cp9 1 q033 ql33
      have hr33 : Kd.F (Kd.int .u8) w11 (fun k_ => (w.heap.size ≤ k_)) (if cp9 = 1 then (some ad20) else ((some ad20) : Option Addr).map (·.add (1 * 1))) (List.drop 1 x8).length (List.drop 1 x8) := Kd.F_cut (m := 1) (c := cp9) HF9.out (by omega) HL9.out
      have hy33 : (List.drop 1 x8).length = x8.length - 1 := List.length_drop
      have hl33 : (List.drop 1 x8).length ≤ cp9 - 1 := (by have := HL9.out; rw [List.length_drop]; omega)
      try simp only [show ((1 : Int)).toNat = 1 from rfl] at hcut33
      rw [← hy33] at hcut33
      generalize (if cp9 = 1 then (some ad20) else ((some ad20) : Option Addr).map (·.add (1 * 1))) = A33 at hcut33 hr33
      generalize cp9 - 1 = cp33 at hcut33 hl33
      clear hy33 q033 ql33
      have HF33 := Aside0.mk hr33
      have HL33 := Aside0.mk hl33
      clear hr33 hl33 hi033 hsz33
      obtain ⟨y37, hy37⟩ : ∃ y_ : List Int, y_ = List.drop 1 x8 := ⟨_, rfl⟩
      rw [← hy37] at hcut33 HL33 HF33
      have H : ((prims_signed.l0 k10 y37)) = some r := by rw [hy37]; exact HH.out
      replace HH := Aside0.mk H
      clear H
      clear hy37
      go_wp2
      go_roundg k10
      case measure => have := HK0.out; omega
      case rel => exact ⟨y37, A33, cp33, (by first | rfl | (simp; done) | (simp [*]; done)), HH, ⟨by have := HK0.out; omega⟩, ⟨(Kd.F_mono (ok := (fun k_ => (w.heap.size ≤ k_))) HF6.out (fun k_ hk_ => hk_))⟩, ⟨HL33.out⟩, ⟨(Kd.F_mono (ok := (fun k_ => (w.heap.size ≤ k_))) HF33.out (fun k_ hk_ => hk_))⟩, ⟨HB.out⟩⟩
     replace HH := zqe HH
     rcases HH with ⟨HH, hk43, hk44⟩ | ⟨HH, hk56, hk57⟩
     ·replace HH := zqG HH
      rcases HH with ⟨HH, hk46⟩ | ⟨HH, hk54⟩
      ·replace HH := zqlo 1 HH
       obtain ⟨HH, hk49, hk50⟩ := HH
       obtain ⟨i047, hi047, _, hsz47, _⟩ := info_parts info5
       have q047 : 0 ≤ (1 : Int) := (by decide)
       have ql47 : (1 : Int) ≤ ((x8.length : Int) : Int) := (by first | exact Int.le_refl _ | exact of_decide_eq_true (by first | (with_reducible assumption) | assumption) | (simp; done))
       have hcut47 := cut_from (P := Try.prog) 95 5 .i64 Try.underlying95 hi047 1 hsz47 (some ad20) x8.length cp9 1 q047 ql47
       have hr47 : Kd.F (Kd.int .u8) w11 (fun k_ => (w.heap.size ≤ k_)) (if cp9 = 1 then (some ad20) else ((some ad20) : Option Addr).map (·.add (1 * 1))) (List.drop 1 x8).length (List.drop 1 x8) := Kd.F_cut (m := 1) (c := cp9) HF9.out (by omega) HL9.out
       have hy47 : (List.drop 1 x8).length = x8.length - 1 := List.length_drop
       have hl47 : (List.drop 1 x8).length ≤ cp9 - 1 := (by have := HL9.out; rw [List.length_drop]; omega)
       try simp only [show ((1 : Int)).toNat = 1 from rfl] at hcut47
       rw [← hy47] at hcut47
       generalize (if cp9 = 1 then (some ad20) else ((some ad20) : Option Addr).map (·.add (1 * 1))) = A47 at hcut47 hr47
       generalize cp9 - 1 = cp47 at hcut47 hl47
       clear hy47 q047 ql47
       have HF47 := Aside0.mk hr47
       have HL47 := Aside0.mk hl47
       clear hr47 hl47 hi047 hsz47
       obtain ⟨y51, hy51⟩ : ∃ y_ : List Int, y_ = List.drop 1 x8 := ⟨_, rfl⟩
       rw [← hy51] at hcut47 HL47 HF47
       have H : ((prims_signed.l0 k10 y51)) = some r := by rw [hy51]; exact HH.out
       replace HH := Aside0.mk H
       clear H
       clear hy51
       go_wp2
       go_roundg k10
       case measure => have := HK0.out; omega
       case rel => exact ⟨y51, A47, cp47, (by first | rfl | (simp; done) | (simp [*]; done)), HH, ⟨by have := HK0.out; omega⟩, ⟨(Kd.F_mono (ok := (fun k_ => (w.heap.size ≤ k_))) HF6.out (fun k_ hk_ => hk_))⟩, ⟨HL47.out⟩, ⟨(Kd.F_mono (ok := (fun k_ => (w.heap.size ≤ k_))) HF47.out (fun k_ hk_ => hk_))⟩, ⟨HB.out⟩⟩
      have hcv55 := Kd.C_string (P := Try.prog) (A := (some ad20)) (c := cp9) Try.underlying95 Try.underlying5 Try.underlying9 (Kd.F_now HF9.out)
      have H := HH.out
      obtain rfl := Option.some.inj H
      clear HH
      go_wp2
      go_ret
      exact ⟨by first | rfl | (simp; done) | (simp [*]; done), HB.out⟩
     have hcv58 := Kd.C_string (P := Try.prog) (A := (some ad20)) (c := cp9) Try.underlying95 Try.underlying5 Try.underlying9 (Kd.F_now HF9.out)
     have H := HH.out
     obtain rfl := Option.some.inj H
     clear HH
     go_wp2
     go_ret
     exact ⟨by first | rfl | (simp; done) | (simp [*]; done), HB.out⟩
    replace HH := zqe HH
    rcases HH with ⟨HH, hk66, hk67⟩ | ⟨HH, hk89, hk90⟩
    ·replace HH := zqno 1 HH
     obtain ⟨HH, hk69, hk70, hk71, hk72⟩ := HH
     have p73 : 0 ≤ (1 : Int) := by decide
     have q73 : (1 : Int) < (x8.length : Int) := of_decide_eq_true (by first | (with_reducible assumption) | assumption)
     obtain ⟨ad73, e73, hx73_0⟩ := Kd.at_int (Kd.F_now HF9.out) (1 : Int) p73 q73
     cases e73
     (try simp only [show ((1 : Int)).toNat = 1 from rfl] at hx73_0)
     (try simp only [Nat.reduceMul, Nat.reduceEqDiff, Go.Addr.add, ↓reduceIte] at hx73_0)
     replace p73 := eq_true p73
     replace q73 := eq_true q73
     replace HH := zqG HH
     rcases HH with ⟨HH, hk75⟩ | ⟨HH, hk83⟩
     ·replace HH := zqlo 1 HH
      obtain ⟨HH, hk78, hk79⟩ := HH
      obtain ⟨i076, hi076, _, hsz76, _⟩ := info_parts info5
      have q076 : 0 ≤ (1 : Int) := (by decide)
      have ql76 : (1 : Int) ≤ ((x8.length : Int) : Int) := (by first | exact Int.le_refl _ | exact of_decide_eq_true (by first | (with_reducible assumption) | assumption) | (simp; done))
      have hcut76 := cut_from (P := Try.prog) 95 5 .i64 Try.underlying95 hi076 1 hsz76 (some ad20) x8.length cp9 1 q076 ql76
      have hr76 : Kd.F (Kd.int .u8) w11 (fun k_ => (w.heap.size ≤ k_)) (if cp9 = 1 then (some ad20) else ((some ad20) : Option Addr).map (·.add (1 * 1))) (List.drop 1 x8).length (List.drop 1 x8) := Kd.F_cut (m := 1) (c := cp9) HF9.out (by omega) HL9.out
      have hy76 : (List.drop 1 x8).length = x8.length - 1 := List.length_drop
      have hl76 : (List.drop 1 x8).length ≤ cp9 - 1 := (by have := HL9.out; rw [List.length_drop]; omega)
      try simp only [show ((1 : Int)).toNat = 1 from rfl] at hcut76
      rw [← hy76] at hcut76
      generalize (if cp9 = 1 then (some ad20) else ((some ad20) : Option Addr).map (·.add (1 * 1))) = A76 at hcut76 hr76
      generalize cp9 - 1 = cp76 at hcut76 hl76
      clear hy76 q076 ql76
      have HF76 := Aside0.mk hr76
      have HL76 := Aside0.mk hl76
      clear hr76 hl76 hi076 hsz76
      obtain ⟨y80, hy80⟩ : ∃ y_ : List Int, y_ = List.drop 1 x8 := ⟨_, rfl⟩
      rw [← hy80] at hcut76 HL76 HF76
      have H : ((prims_signed.l0 k10 y80)) = some r := by rw [hy80]; exact HH.out
      replace HH := Aside0.mk H
      clear H
      clear hy80
      go_wp2
      go_roundg k10
      case measure => have := HK0.out; omega
      case rel => exact ⟨y80, A76, cp76, (by first | rfl | (simp; done) | (simp [*]; done)), HH, ⟨by have := HK0.out; omega⟩, ⟨(Kd.F_mono (ok := (fun k_ => (w.heap.size ≤ k_))) HF6.out (fun k_ hk_ => hk_))⟩, ⟨HL76.out⟩, ⟨(Kd.F_mono (ok := (fun k_ => (w.heap.size ≤ k_))) HF76.out (fun k_ hk_ => hk_))⟩, ⟨HB.out⟩⟩
     have hcv84 := Kd.C_string (P := Try.prog) (A := (some ad20)) (c := cp9) Try.underlying95 Try.underlying5 Try.underlying9 (Kd.F_now HF9.out)
     have H := HH.out
     obtain rfl := Option.some.inj H
     clear HH
     go_wp2
     go_ret
     exact ⟨by first | rfl | (simp; done) | (simp [*]; done), HB.out⟩
    have hcv91 := Kd.C_string (P := Try.prog) (A := (some ad20)) (c := cp9) Try.underlying95 Try.underlying5 Try.underlying9 (Kd.F_now HF9.out)
    have H := HH.out
    obtain rfl := Option.some.inj H
    clear HH
    go_wp2
    go_ret
    exact ⟨by first | rfl | (simp; done) | (simp [*]; done), HB.out⟩
   have hcv98 := Kd.C_string (P := Try.prog) (A := A9) (c := cp9) Try.underlying95 Try.underlying5 Try.underlying9 (Kd.F_now HF9.out)
   have H := HH.out
   obtain rfl := Option.some.inj H
   clear HH
   go_wp2
   go_ret
   exact ⟨by first | rfl | (simp; done) | (simp [*]; done), HB.out⟩

/-! ### prims_Int: function 66 -/
def prims_Int.f (k : Nat) (a0 : Int) (a1 : Int) (a2 : Int) : Option (Int × Bool × Int × ByteArray × (List (S57)) × Int) := if a2 < (-2147483648) then (some (0, false, 0, (⟨#[]⟩ : ByteArray), ([] : List (S57)), 2)) else (if a2 > 2147483647 then (some (0, false, 0, (⟨#[]⟩ : ByteArray), ([] : List (S57)), 2)) else (if a0 < 0 then (some (0, false, 0, (⟨#[]⟩ : ByteArray), ([] : List (S57)), 2)) else (if a0 > 3 then (some (0, false, 0, (⟨#[]⟩ : ByteArray), ([] : List (S57)), 2)) else (if a1 < 0 then (some (0, false, 0, (⟨#[]⟩ : ByteArray), ([] : List (S57)), 2)) else (if a1 > 30 then (some (0, false, 0, (⟨#[]⟩ : ByteArray), ([] : List (S57)), 2)) else ((prims_signed.f k (wrap32 (a2))).bind fun t344 => (some (a0, false, a1, t344, ([] : List (S57)), 0))))))))
theorem prims_Int.mono : ∀ a0_ a1_ a2_ k, LeO (prims_Int.f k a0_ a1_ a2_) (prims_Int.f (k + 1) a0_ a1_ a2_) := by
 intro a0_ a1_ a2_ k
 unfold prims_Int.f
 repeat' first
   | (with_reducible exact prims_signed.mono _ _)
   | (with_reducible exact LeO.refl _)
   | (with_reducible exact LeO.none _)
   | (with_reducible refine LeO.ite ?_ ?_)
   | (with_reducible refine LeO.bind ?_ (fun _ => ?_))
set_option maxHeartbeats 8000000 in
set_option maxRecDepth 100000 in
theorem prims_Int.calls (k : Nat) (a0 : Int) (a1 : Int) (a2 : Int) (r1 : Int) (r2 : Bool) (r3 : Int) (r4 : ByteArray) (r5 : List (S57)) (r6 : Int) (w : World) (h : prims_Int.f k a0 a1 a2 = some (r1, r2, r3, r4, r5, r6)) :
  Calls Try.prog 66 #[.int .i64 a0, .int .i64 a1, .int .i64 a2] w (fun e w' => ∃ v4_ : Value, e = .returned (.tuple #[.agg #[.int .i64 r1, .bool r2, .int .i64 r3, .string r4, v4_], .int .i64 r6]) ∧ Kd.N k57 57 w' w.heap.size (fun k_ => w.heap.size ≤ k_) v4_ r5 ∧ Below w.heap.size w w') := by
 have HH := Aside0.mk (show (if a2 < (-2147483648) then (some (0, false, 0, (⟨#[]⟩ : ByteArray), ([] : List (S57)), 2)) else (if a2 > 2147483647 then (some (0, false, 0, (⟨#[]⟩ : ByteArray), ([] : List (S57)), 2)) else (if a0 < 0 then (some (0, false, 0, (⟨#[]⟩ : ByteArray), ([] : List (S57)), 2)) else (if a0 > 3 then (some (0, false, 0, (⟨#[]⟩ : ByteArray), ([] : List (S57)), 2)) else (if a1 < 0 then (some (0, false, 0, (⟨#[]⟩ : ByteArray), ([] : List (S57)), 2)) else (if a1 > 30 then (some (0, false, 0, (⟨#[]⟩ : ByteArray), ([] : List (S57)), 2)) else ((prims_signed.f k (wrap32 (a2))).bind fun t344 => (some (a0, false, a1, t344, ([] : List (S57)), 0))))))))) = some (r1, r2, r3, r4, r5, r6) from h)
 clear h
 have HB := Aside0.mk (Below.refl w.heap.size w)
 have hu57 := Try.underlying57
 go_enter Try.func66, Try.ntmps66
 go_wp2_with ((with_reducible refine gd 5 rfl ?_); refine zb 5 3 #[.int .i64 a2] (h := ?_); intro g1 hg w2 BKg1 hb)
 refine Stop.go ?_
 replace HB := zhb HB.out hb
 clear hg hb
 obtain ⟨j3, j4⟩ := MB.lay1 BKg1.out
 go_wp2_with ((with_reducible refine gd 6 rfl ?_); refine zb 6 57 #[.int .i64 0, .bool false, .int .i64 0, .string (⟨#[]⟩ : ByteArray), .slice none 0 0] (h := ?_); intro g5 hg w6 BKg5 hb)
 refine Stop.go ?_
 have GEg5 := zge hg (below_size HB.out)
 have NEg1_g5 := znq hg BKg1.out
 replace BKg1 := zbb BKg1.out hb
 replace HB := zhb HB.out hb
 clear hg hb
 clear j3 j4
 obtain ⟨j7, j8⟩ := MB.lay1 BKg1.out
 obtain ⟨j9, ja, jb, jc, jd, je, jf, jg, jh, ji⟩ := MB.lay5 BKg5.out
 replace HH := zqt HH
 rcases HH with ⟨HH, hk20, hk21⟩ | ⟨HH, hk35, hk36⟩
 ·go_wp2_with ((with_reducible refine gs 57 6 rfl ?_); refine zs 57 6 #[.int .i64 0, .bool false, .int .i64 0, .string (⟨#[]⟩ : ByteArray), .slice none 0 0] BKg5.out [.int .i64 0, .bool false, .int .i64 0, .string (⟨#[]⟩ : ByteArray), .slice none 0 0] (h := ?_); intro w22 hbk hg)
  refine Stop.go ?_
  replace BKg1 := zbg BKg1.out hg NEg1_g5
  replace HB := zhg HB.out hg (below_size HB.out) GEg5
  replace BKg5 := hbk
  clear hg hbk
  clear j7 j8 j9 ja jb jc jd je jf jg jh ji
  obtain ⟨jn, jo⟩ := MB.lay1 BKg1.out
  obtain ⟨jp, jq, jr, js, jt, ju, jv, jw, jx, jy⟩ := MB.lay5 BKg5.out
  have H := HH.out
  simp only [Option.some.injEq, Prod.mk.injEq] at H
  obtain ⟨rfl, rfl, rfl, rfl, rfl, rfl⟩ := H
  clear HH
  go_wp2
  refine bodyPost_ret (results_ct rfl _ _ g5 57 #[.int .i64 0, .bool false, .int .i64 0, .string (⟨#[]⟩ : ByteArray), .slice none 0 0] (0, 0) _ rfl BKg5.out Try.underlying57 rfl (by kernel_rfl)) rfl ?_
  exact ⟨_, by first | rfl | (simp; done) | (simp [*]; done), (Kd.N_nil _ _ _ _ _), HB.out⟩
 replace HH := zqg HH
 rcases HH with ⟨HH, hk38⟩ | ⟨HH, hk52⟩
 ·go_wp2_with ((with_reducible refine gs 57 6 rfl ?_); refine zs 57 6 #[.int .i64 0, .bool false, .int .i64 0, .string (⟨#[]⟩ : ByteArray), .slice none 0 0] BKg5.out [.int .i64 0, .bool false, .int .i64 0, .string (⟨#[]⟩ : ByteArray), .slice none 0 0] (h := ?_); intro w39 hbk hg)
  refine Stop.go ?_
  replace BKg1 := zbg BKg1.out hg NEg1_g5
  replace HB := zhg HB.out hg (below_size HB.out) GEg5
  replace BKg5 := hbk
  clear hg hbk
  clear j7 j8 j9 ja jb jc jd je jf jg jh ji
  obtain ⟨jE, jF⟩ := MB.lay1 BKg1.out
  obtain ⟨jG, jH, jI, jJ, jK, jL, jM, jN, jO, jP⟩ := MB.lay5 BKg5.out
  have H := HH.out
  simp only [Option.some.injEq, Prod.mk.injEq] at H
  obtain ⟨rfl, rfl, rfl, rfl, rfl, rfl⟩ := H
  clear HH
  go_wp2
  refine bodyPost_ret (results_ct rfl _ _ g5 57 #[.int .i64 0, .bool false, .int .i64 0, .string (⟨#[]⟩ : ByteArray), .slice none 0 0] (0, 0) _ rfl BKg5.out Try.underlying57 rfl (by kernel_rfl)) rfl ?_
  exact ⟨_, by first | rfl | (simp; done) | (simp [*]; done), (Kd.N_nil _ _ _ _ _), HB.out⟩
 go_wp2_with (((with_reducible refine gate_callee (f := 84) rfl ?_); (try (refine gate_guard (by rfl) ?_; dsimp only)); refine goesL_ (some 18) rfl rfl Try.func84 (by kernel_rfl) rfl #[.int .i64 a0, .int .i64 a1, .func (.func 93) #[] #[.pointer (some ⟨g1, 0, none⟩)]] rfl (by (try simp only [List.map_toArray, List.map_cons, List.map_nil]); first | done | rfl) ?_); refine stop_ ?_)
 refine Stop.go ?_
 go_enter Try.func84, Try.ntmps84
 go_wp2_with ((with_reducible refine gd 6 rfl ?_); refine zb 6 57 #[.int .i64 0, .bool false, .int .i64 0, .string (⟨#[]⟩ : ByteArray), .slice none 0 0] (h := ?_); intro g53 hg w54 BKg53 hb)
 refine Stop.go ?_
 have GEg53 := zge hg (below_size HB.out)
 have NEg1_g53 := znq hg BKg1.out
 have NEg5_g53 := znq hg BKg5.out
 have NEg53_g5 := zsy NEg5_g53
 replace BKg1 := zbb BKg1.out hb
 replace BKg5 := zbb BKg5.out hb
 replace HB := zhb HB.out hb
 clear hg hb
 clear j7 j8 j9 ja jb jc jd je jf jg jh ji
 obtain ⟨jT, jU⟩ := MB.lay1 BKg1.out
 obtain ⟨jV, jW, jX, jY, jZ, j10, j11, j12, j13, j14⟩ := MB.lay5 BKg5.out
 obtain ⟨j15, j16, j17, j18, j19, j1a, j1b, j1c, j1d, j1e⟩ := MB.lay5 BKg53.out
 replace HH := zqt HH
 rcases HH with ⟨HH, hk78, hk79⟩ | ⟨HH, hk126, hk127⟩
 ·go_wp2_with ((with_reducible refine gs 57 6 rfl ?_); refine zs 57 6 #[.int .i64 0, .bool false, .int .i64 0, .string (⟨#[]⟩ : ByteArray), .slice none 0 0] BKg53.out [.int .i64 0, .bool false, .int .i64 0, .string (⟨#[]⟩ : ByteArray), .slice none 0 0] (h := ?_); intro w80 hbk hg)
  refine Stop.go ?_
  replace BKg1 := zbg BKg1.out hg NEg1_g53
  replace BKg5 := zbg BKg5.out hg NEg5_g53
  replace HB := zhg HB.out hg (below_size HB.out) GEg53
  replace BKg53 := hbk
  clear hg hbk
  clear jT jU jV jW jX jY jZ j10 j11 j12 j13 j14 j15 j16 j17 j18 j19 j1a j1b j1c j1d j1e
  obtain ⟨j1j, j1k⟩ := MB.lay1 BKg1.out
  obtain ⟨j1l, j1m, j1n, j1o, j1p, j1q, j1r, j1s, j1t, j1u⟩ := MB.lay5 BKg5.out
  obtain ⟨j1v, j1w, j1x, j1y, j1z, j1A, j1B, j1C, j1D, j1E⟩ := MB.lay5 BKg53.out
  go_wp2
  refine bodyPost_ret (results_ct rfl _ _ g53 57 #[.int .i64 0, .bool false, .int .i64 0, .string (⟨#[]⟩ : ByteArray), .slice none 0 0] (0, 0) _ rfl BKg53.out Try.underlying57 rfl (by kernel_rfl)) rfl ?_
  refine ⟨_, rfl, ?_⟩
  go_wp2_with ((with_reducible refine gs 57 6 rfl ?_); refine zs 57 6 #[.int .i64 0, .bool false, .int .i64 0, .string (⟨#[]⟩ : ByteArray), .slice none 0 0] BKg5.out [.int .i64 0, .bool false, .int .i64 0, .string (⟨#[]⟩ : ByteArray), .slice none 0 0] (h := ?_); intro w103 hbk hg)
  refine Stop.go ?_
  replace BKg1 := zbg BKg1.out hg NEg1_g5
  replace BKg53 := zbg BKg53.out hg NEg53_g5
  replace HB := zhg HB.out hg (below_size HB.out) GEg5
  replace BKg5 := hbk
  clear hg hbk
  clear j1j j1k j1l j1m j1n j1o j1p j1q j1r j1s j1t j1u j1v j1w j1x j1y j1z j1A j1B j1C j1D j1E
  obtain ⟨j1G, j1H⟩ := MB.lay1 BKg1.out
  obtain ⟨j1I, j1J, j1K, j1L, j1M, j1N, j1O, j1P, j1Q, j1R⟩ := MB.lay5 BKg5.out
  obtain ⟨j1S, j1T, j1U, j1V, j1W, j1X, j1Y, j1Z, j20, j21⟩ := MB.lay5 BKg53.out
  have H := HH.out
  simp only [Option.some.injEq, Prod.mk.injEq] at H
  obtain ⟨rfl, rfl, rfl, rfl, rfl, rfl⟩ := H
  clear HH
  go_wp2
  refine bodyPost_ret (results_ct rfl _ _ g5 57 #[.int .i64 0, .bool false, .int .i64 0, .string (⟨#[]⟩ : ByteArray), .slice none 0 0] (0, 0) _ rfl BKg5.out Try.underlying57 rfl (by kernel_rfl)) rfl ?_
  exact ⟨_, by first | rfl | (simp; done) | (simp [*]; done), (Kd.N_nil _ _ _ _ _), HB.out⟩
 replace HH := zqg HH
 rcases HH with ⟨HH, hk129⟩ | ⟨HH, hk176⟩
 ·go_wp2_with ((with_reducible refine gs 57 6 rfl ?_); refine zs 57 6 #[.int .i64 0, .bool false, .int .i64 0, .string (⟨#[]⟩ : ByteArray), .slice none 0 0] BKg53.out [.int .i64 0, .bool false, .int .i64 0, .string (⟨#[]⟩ : ByteArray), .slice none 0 0] (h := ?_); intro w130 hbk hg)
  refine Stop.go ?_
  replace BKg1 := zbg BKg1.out hg NEg1_g53
  replace BKg5 := zbg BKg5.out hg NEg5_g53
  replace HB := zhg HB.out hg (below_size HB.out) GEg53
  replace BKg53 := hbk
  clear hg hbk
  clear jT jU jV jW jX jY jZ j10 j11 j12 j13 j14 j15 j16 j17 j18 j19 j1a j1b j1c j1d j1e
  obtain ⟨j27, j28⟩ := MB.lay1 BKg1.out
  obtain ⟨j29, j2a, j2b, j2c, j2d, j2e, j2f, j2g, j2h, j2i⟩ := MB.lay5 BKg5.out
  obtain ⟨j2j, j2k, j2l, j2m, j2n, j2o, j2p, j2q, j2r, j2s⟩ := MB.lay5 BKg53.out
  go_wp2
  refine bodyPost_ret (results_ct rfl _ _ g53 57 #[.int .i64 0, .bool false, .int .i64 0, .string (⟨#[]⟩ : ByteArray), .slice none 0 0] (0, 0) _ rfl BKg53.out Try.underlying57 rfl (by kernel_rfl)) rfl ?_
  refine ⟨_, rfl, ?_⟩
  go_wp2_with ((with_reducible refine gs 57 6 rfl ?_); refine zs 57 6 #[.int .i64 0, .bool false, .int .i64 0, .string (⟨#[]⟩ : ByteArray), .slice none 0 0] BKg5.out [.int .i64 0, .bool false, .int .i64 0, .string (⟨#[]⟩ : ByteArray), .slice none 0 0] (h := ?_); intro w153 hbk hg)
  refine Stop.go ?_
  replace BKg1 := zbg BKg1.out hg NEg1_g5
  replace BKg53 := zbg BKg53.out hg NEg53_g5
  replace HB := zhg HB.out hg (below_size HB.out) GEg5
  replace BKg5 := hbk
  clear hg hbk
  clear j27 j28 j29 j2a j2b j2c j2d j2e j2f j2g j2h j2i j2j j2k j2l j2m j2n j2o j2p j2q j2r j2s
  obtain ⟨j2u, j2v⟩ := MB.lay1 BKg1.out
  obtain ⟨j2w, j2x, j2y, j2z, j2A, j2B, j2C, j2D, j2E, j2F⟩ := MB.lay5 BKg5.out
  obtain ⟨j2G, j2H, j2I, j2J, j2K, j2L, j2M, j2N, j2O, j2P⟩ := MB.lay5 BKg53.out
  have H := HH.out
  simp only [Option.some.injEq, Prod.mk.injEq] at H
  obtain ⟨rfl, rfl, rfl, rfl, rfl, rfl⟩ := H
  clear HH
  go_wp2
  refine bodyPost_ret (results_ct rfl _ _ g5 57 #[.int .i64 0, .bool false, .int .i64 0, .string (⟨#[]⟩ : ByteArray), .slice none 0 0] (0, 0) _ rfl BKg5.out Try.underlying57 rfl (by kernel_rfl)) rfl ?_
  exact ⟨_, by first | rfl | (simp; done) | (simp [*]; done), (Kd.N_nil _ _ _ _ _), HB.out⟩
 replace HH := zqt HH
 rcases HH with ⟨HH, hk178, hk179⟩ | ⟨HH, hk226, hk227⟩
 ·go_wp2_with ((with_reducible refine gs 57 6 rfl ?_); refine zs 57 6 #[.int .i64 0, .bool false, .int .i64 0, .string (⟨#[]⟩ : ByteArray), .slice none 0 0] BKg53.out [.int .i64 0, .bool false, .int .i64 0, .string (⟨#[]⟩ : ByteArray), .slice none 0 0] (h := ?_); intro w180 hbk hg)
  refine Stop.go ?_
  replace BKg1 := zbg BKg1.out hg NEg1_g53
  replace BKg5 := zbg BKg5.out hg NEg5_g53
  replace HB := zhg HB.out hg (below_size HB.out) GEg53
  replace BKg53 := hbk
  clear hg hbk
  clear jT jU jV jW jX jY jZ j10 j11 j12 j13 j14 j15 j16 j17 j18 j19 j1a j1b j1c j1d j1e
  obtain ⟨j2V, j2W⟩ := MB.lay1 BKg1.out
  obtain ⟨j2X, j2Y, j2Z, j30, j31, j32, j33, j34, j35, j36⟩ := MB.lay5 BKg5.out
  obtain ⟨j37, j38, j39, j3a, j3b, j3c, j3d, j3e, j3f, j3g⟩ := MB.lay5 BKg53.out
  go_wp2
  refine bodyPost_ret (results_ct rfl _ _ g53 57 #[.int .i64 0, .bool false, .int .i64 0, .string (⟨#[]⟩ : ByteArray), .slice none 0 0] (0, 0) _ rfl BKg53.out Try.underlying57 rfl (by kernel_rfl)) rfl ?_
  refine ⟨_, rfl, ?_⟩
  go_wp2_with ((with_reducible refine gs 57 6 rfl ?_); refine zs 57 6 #[.int .i64 0, .bool false, .int .i64 0, .string (⟨#[]⟩ : ByteArray), .slice none 0 0] BKg5.out [.int .i64 0, .bool false, .int .i64 0, .string (⟨#[]⟩ : ByteArray), .slice none 0 0] (h := ?_); intro w203 hbk hg)
  refine Stop.go ?_
  replace BKg1 := zbg BKg1.out hg NEg1_g5
  replace BKg53 := zbg BKg53.out hg NEg53_g5
  replace HB := zhg HB.out hg (below_size HB.out) GEg5
  replace BKg5 := hbk
  clear hg hbk
  clear j2V j2W j2X j2Y j2Z j30 j31 j32 j33 j34 j35 j36 j37 j38 j39 j3a j3b j3c j3d j3e j3f j3g
  obtain ⟨j3i, j3j⟩ := MB.lay1 BKg1.out
  obtain ⟨j3k, j3l, j3m, j3n, j3o, j3p, j3q, j3r, j3s, j3t⟩ := MB.lay5 BKg5.out
  obtain ⟨j3u, j3v, j3w, j3x, j3y, j3z, j3A, j3B, j3C, j3D⟩ := MB.lay5 BKg53.out
  have H := HH.out
  simp only [Option.some.injEq, Prod.mk.injEq] at H
  obtain ⟨rfl, rfl, rfl, rfl, rfl, rfl⟩ := H
  clear HH
  go_wp2
  refine bodyPost_ret (results_ct rfl _ _ g5 57 #[.int .i64 0, .bool false, .int .i64 0, .string (⟨#[]⟩ : ByteArray), .slice none 0 0] (0, 0) _ rfl BKg5.out Try.underlying57 rfl (by kernel_rfl)) rfl ?_
  exact ⟨_, by first | rfl | (simp; done) | (simp [*]; done), (Kd.N_nil _ _ _ _ _), HB.out⟩
 replace HH := zqg HH
 rcases HH with ⟨HH, hk229⟩ | ⟨HH, hk276⟩
 ·go_wp2_with ((with_reducible refine gs 57 6 rfl ?_); refine zs 57 6 #[.int .i64 0, .bool false, .int .i64 0, .string (⟨#[]⟩ : ByteArray), .slice none 0 0] BKg53.out [.int .i64 0, .bool false, .int .i64 0, .string (⟨#[]⟩ : ByteArray), .slice none 0 0] (h := ?_); intro w230 hbk hg)
  refine Stop.go ?_
  replace BKg1 := zbg BKg1.out hg NEg1_g53
  replace BKg5 := zbg BKg5.out hg NEg5_g53
  replace HB := zhg HB.out hg (below_size HB.out) GEg53
  replace BKg53 := hbk
  clear hg hbk
  clear jT jU jV jW jX jY jZ j10 j11 j12 j13 j14 j15 j16 j17 j18 j19 j1a j1b j1c j1d j1e
  obtain ⟨j3J, j3K⟩ := MB.lay1 BKg1.out
  obtain ⟨j3L, j3M, j3N, j3O, j3P, j3Q, j3R, j3S, j3T, j3U⟩ := MB.lay5 BKg5.out
  obtain ⟨j3V, j3W, j3X, j3Y, j3Z, j40, j41, j42, j43, j44⟩ := MB.lay5 BKg53.out
  go_wp2
  refine bodyPost_ret (results_ct rfl _ _ g53 57 #[.int .i64 0, .bool false, .int .i64 0, .string (⟨#[]⟩ : ByteArray), .slice none 0 0] (0, 0) _ rfl BKg53.out Try.underlying57 rfl (by kernel_rfl)) rfl ?_
  refine ⟨_, rfl, ?_⟩
  go_wp2_with ((with_reducible refine gs 57 6 rfl ?_); refine zs 57 6 #[.int .i64 0, .bool false, .int .i64 0, .string (⟨#[]⟩ : ByteArray), .slice none 0 0] BKg5.out [.int .i64 0, .bool false, .int .i64 0, .string (⟨#[]⟩ : ByteArray), .slice none 0 0] (h := ?_); intro w253 hbk hg)
  refine Stop.go ?_
  replace BKg1 := zbg BKg1.out hg NEg1_g5
  replace BKg53 := zbg BKg53.out hg NEg53_g5
  replace HB := zhg HB.out hg (below_size HB.out) GEg5
  replace BKg5 := hbk
  clear hg hbk
  clear j3J j3K j3L j3M j3N j3O j3P j3Q j3R j3S j3T j3U j3V j3W j3X j3Y j3Z j40 j41 j42 j43 j44
  obtain ⟨j46, j47⟩ := MB.lay1 BKg1.out
  obtain ⟨j48, j49, j4a, j4b, j4c, j4d, j4e, j4f, j4g, j4h⟩ := MB.lay5 BKg5.out
  obtain ⟨j4i, j4j, j4k, j4l, j4m, j4n, j4o, j4p, j4q, j4r⟩ := MB.lay5 BKg53.out
  have H := HH.out
  simp only [Option.some.injEq, Prod.mk.injEq] at H
  obtain ⟨rfl, rfl, rfl, rfl, rfl, rfl⟩ := H
  clear HH
  go_wp2
  refine bodyPost_ret (results_ct rfl _ _ g5 57 #[.int .i64 0, .bool false, .int .i64 0, .string (⟨#[]⟩ : ByteArray), .slice none 0 0] (0, 0) _ rfl BKg5.out Try.underlying57 rfl (by kernel_rfl)) rfl ?_
  exact ⟨_, by first | rfl | (simp; done) | (simp [*]; done), (Kd.N_nil _ _ _ _ _), HB.out⟩
 go_wp2_with ((with_reducible refine gd 8 rfl ?_); refine zb 8 57 #[.int .i64 0, .bool false, .int .i64 0, .string (⟨#[]⟩ : ByteArray), .slice none 0 0] (h := ?_); intro g277 hg w278 BKg277 hb)
 refine Stop.go ?_
 have GEg277 := zge hg (below_size HB.out)
 have NEg1_g277 := znq hg BKg1.out
 have NEg5_g277 := znq hg BKg5.out
 have NEg277_g5 := zsy NEg5_g277
 have NEg53_g277 := znq hg BKg53.out
 have NEg277_g53 := zsy NEg53_g277
 replace BKg1 := zbb BKg1.out hb
 replace BKg5 := zbb BKg5.out hb
 replace BKg53 := zbb BKg53.out hb
 replace HB := zhb HB.out hb
 clear hg hb
 clear jT jU jV jW jX jY jZ j10 j11 j12 j13 j14 j15 j16 j17 j18 j19 j1a j1b j1c j1d j1e
 obtain ⟨j4v, j4w⟩ := MB.lay1 BKg1.out
 obtain ⟨j4x, j4y, j4z, j4A, j4B, j4C, j4D, j4E, j4F, j4G⟩ := MB.lay5 BKg5.out
 obtain ⟨j4H, j4I, j4J, j4K, j4L, j4M, j4N, j4O, j4P, j4Q⟩ := MB.lay5 BKg53.out
 obtain ⟨j4R, j4S, j4T, j4U, j4V, j4W, j4X, j4Y, j4Z, j50⟩ := MB.lay5 BKg277.out
 go_wp2_with ((with_reducible refine gs 57 8 rfl ?_); refine zs 57 8 #[.int .i64 a0, .bool false, .int .i64 a1, .string (⟨#[]⟩ : ByteArray), .slice none 0 0] BKg277.out [.int .i64 a0, .bool false, .int .i64 a1, .string (⟨#[]⟩ : ByteArray), .slice none 0 0] (h := ?_); intro w311 hbk hg)
 refine Stop.go ?_
 replace BKg1 := zbg BKg1.out hg NEg1_g277
 replace BKg5 := zbg BKg5.out hg NEg5_g277
 replace BKg53 := zbg BKg53.out hg NEg53_g277
 replace HB := zhg HB.out hg (below_size HB.out) GEg277
 replace BKg277 := hbk
 clear hg hbk
 clear j4v j4w j4x j4y j4z j4A j4B j4C j4D j4E j4F j4G j4H j4I j4J j4K j4L j4M j4N j4O j4P j4Q j4R j4S j4T j4U j4V j4W j4X j4Y j4Z j50
 obtain ⟨j52, j53⟩ := MB.lay1 BKg1.out
 obtain ⟨j54, j55, j56, j57, j58, j59, j5a, j5b, j5c, j5d⟩ := MB.lay5 BKg5.out
 obtain ⟨j5e, j5f, j5g, j5h, j5i, j5j, j5k, j5l, j5m, j5n⟩ := MB.lay5 BKg53.out
 obtain ⟨j5o, j5p, j5q, j5r, j5s, j5t, j5u, j5v, j5w, j5x⟩ := MB.lay5 BKg277.out
 go_wp2_with (((with_reducible refine gate_dst (N := 28) rfl ?_); (try (refine gate_guard (by rfl) ?_; dsimp only)); refine MW.goesV_ (some 28) rfl rfl Try.func93 (by kernel_rfl) rfl #[.pointer (some ⟨g277, 0, none⟩), .pointer (some ⟨g1, 0, none⟩)] rfl #[.pointer (some ⟨g1, 0, none⟩)] rfl (by simp only [List.map_toArray, List.map_cons, List.map_nil, List.append_toArray, List.cons_append, List.nil_append]; first | done | rfl) ?_); refine stop_ ?_)
 refine Stop.go ?_
 go_enter Try.func93, Try.ntmps93
 replace HH := zd HH
 obtain ⟨t344, At345, HH⟩ := HH
 go_wp2_with ((with_reducible refine gc 76 rfl ?_); refine zc 76 (some 6) Try.func76 #[.int .i32 (wrap32 (a2))] (h := ?_); (with_reducible refine (prims_signed.calls k  (wrap32 (a2)) t344 _  At345.out).mono ?_); rintro e w346 ⟨rfl, hb⟩; refine ⟨_, rfl, ?_⟩)
 refine Stop.go ?_
 replace BKg1 := zbb BKg1.out hb
 replace BKg5 := zbb BKg5.out hb
 replace BKg53 := zbb BKg53.out hb
 replace BKg277 := zbb BKg277.out hb
 replace HB := zhb HB.out hb
 clear hb
 clear j52 j53 j54 j55 j56 j57 j58 j59 j5a j5b j5c j5d j5e j5f j5g j5h j5i j5j j5k j5l j5m j5n j5o j5p j5q j5r j5s j5t j5u j5v j5w j5x
 obtain ⟨j5B, j5C⟩ := MB.lay1 BKg1.out
 obtain ⟨j5D, j5E, j5F, j5G, j5H, j5I, j5J, j5K, j5L, j5M⟩ := MB.lay5 BKg5.out
 obtain ⟨j5N, j5O, j5P, j5Q, j5R, j5S, j5T, j5U, j5V, j5W⟩ := MB.lay5 BKg53.out
 obtain ⟨j5X, j5Y, j5Z, j60, j61, j62, j63, j64, j65, j66⟩ := MB.lay5 BKg277.out
 go_wp2_with ((with_reducible refine gs 9 8 rfl ?_); refine zs 9 8 #[.int .i64 a0, .bool false, .int .i64 a1, .string t344, .slice none 0 0] BKg277.out [.string t344] (h := ?_); intro w379 hbk hg)
 refine Stop.go ?_
 replace BKg1 := zbg BKg1.out hg NEg1_g277
 replace BKg5 := zbg BKg5.out hg NEg5_g277
 replace BKg53 := zbg BKg53.out hg NEg53_g277
 replace HB := zhg HB.out hg (below_size HB.out) GEg277
 replace BKg277 := hbk
 clear hg hbk
 clear j5B j5C j5D j5E j5F j5G j5H j5I j5J j5K j5L j5M j5N j5O j5P j5Q j5R j5S j5T j5U j5V j5W j5X j5Y j5Z j60 j61 j62 j63 j64 j65 j66
 obtain ⟨j68, j69⟩ := MB.lay1 BKg1.out
 obtain ⟨j6a, j6b, j6c, j6d, j6e, j6f, j6g, j6h, j6i, j6j⟩ := MB.lay5 BKg5.out
 obtain ⟨j6k, j6l, j6m, j6n, j6o, j6p, j6q, j6r, j6s, j6t⟩ := MB.lay5 BKg53.out
 obtain ⟨j6u, j6v, j6w, j6x, j6y, j6z, j6A, j6B, j6C, j6D⟩ := MB.lay5 BKg277.out
 go_wp2
 go_end0
 refine ⟨_, rfl, ?_⟩
 go_wp2_with ((with_reducible refine gs 57 6 rfl ?_); refine zs 57 6 #[.int .i64 a0, .bool false, .int .i64 a1, .string t344, .slice none 0 0] BKg53.out [.int .i64 a0, .bool false, .int .i64 a1, .string t344, .slice none 0 0] (h := ?_); intro w412 hbk hg)
 refine Stop.go ?_
 replace BKg1 := zbg BKg1.out hg NEg1_g53
 replace BKg5 := zbg BKg5.out hg NEg5_g53
 replace BKg277 := zbg BKg277.out hg NEg277_g53
 replace HB := zhg HB.out hg (below_size HB.out) GEg53
 replace BKg53 := hbk
 clear hg hbk
 clear j68 j69 j6a j6b j6c j6d j6e j6f j6g j6h j6i j6j j6k j6l j6m j6n j6o j6p j6q j6r j6s j6t j6u j6v j6w j6x j6y j6z j6A j6B j6C j6D
 obtain ⟨j6F, j6G⟩ := MB.lay1 BKg1.out
 obtain ⟨j6H, j6I, j6J, j6K, j6L, j6M, j6N, j6O, j6P, j6Q⟩ := MB.lay5 BKg5.out
 obtain ⟨j6R, j6S, j6T, j6U, j6V, j6W, j6X, j6Y, j6Z, j70⟩ := MB.lay5 BKg53.out
 obtain ⟨j71, j72, j73, j74, j75, j76, j77, j78, j79, j7a⟩ := MB.lay5 BKg277.out
 go_wp2
 refine bodyPost_ret (results_ct rfl _ _ g53 57 #[.int .i64 a0, .bool false, .int .i64 a1, .string t344, .slice none 0 0] (0, 0) _ rfl BKg53.out Try.underlying57 rfl (by kernel_rfl)) rfl ?_
 refine ⟨_, rfl, ?_⟩
 go_wp2_with ((with_reducible refine gs 57 6 rfl ?_); refine zs 57 6 #[.int .i64 a0, .bool false, .int .i64 a1, .string t344, .slice none 0 0] BKg5.out [.int .i64 a0, .bool false, .int .i64 a1, .string t344, .slice none 0 0] (h := ?_); intro w445 hbk hg)
 refine Stop.go ?_
 replace BKg1 := zbg BKg1.out hg NEg1_g5
 replace BKg53 := zbg BKg53.out hg NEg53_g5
 replace BKg277 := zbg BKg277.out hg NEg277_g5
 replace HB := zhg HB.out hg (below_size HB.out) GEg5
 replace BKg5 := hbk
 clear hg hbk
 clear j6F j6G j6H j6I j6J j6K j6L j6M j6N j6O j6P j6Q j6R j6S j6T j6U j6V j6W j6X j6Y j6Z j70 j71 j72 j73 j74 j75 j76 j77 j78 j79 j7a
 obtain ⟨j7c, j7d⟩ := MB.lay1 BKg1.out
 obtain ⟨j7e, j7f, j7g, j7h, j7i, j7j, j7k, j7l, j7m, j7n⟩ := MB.lay5 BKg5.out
 obtain ⟨j7o, j7p, j7q, j7r, j7s, j7t, j7u, j7v, j7w, j7x⟩ := MB.lay5 BKg53.out
 obtain ⟨j7y, j7z, j7A, j7B, j7C, j7D, j7E, j7F, j7G, j7H⟩ := MB.lay5 BKg277.out
 have H := HH.out
 simp only [Option.some.injEq, Prod.mk.injEq] at H
 obtain ⟨rfl, rfl, rfl, rfl, rfl, rfl⟩ := H
 clear HH
 go_wp2
 refine bodyPost_ret (results_ct rfl _ _ g5 57 #[.int .i64 a0, .bool false, .int .i64 a1, .string t344, .slice none 0 0] (0, 0) _ rfl BKg5.out Try.underlying57 rfl (by kernel_rfl)) rfl ?_
 exact ⟨_, by first | rfl | (simp; done) | (simp [*]; done), (Kd.N_nil _ _ _ _ _), HB.out⟩

/-! ### reply_number: function 46 -/
def reply_number.f (k : Nat) (a0 : Int) (a1 : Int) : Option (Int × Bool × Int × ByteArray × (List (S57))) := (prims_Int.f k 0 a0 a1).bind fun bt13 => (some (bt13.1, bt13.2.1, bt13.2.2.1, bt13.2.2.2.1, bt13.2.2.2.2.1))
theorem reply_number.mono : ∀ a0_ a1_ k, LeO (reply_number.f k a0_ a1_) (reply_number.f (k + 1) a0_ a1_) := by
 intro a0_ a1_ k
 unfold reply_number.f
 repeat' first
   | (with_reducible exact prims_Int.mono _ _ _ _)
   | (with_reducible exact LeO.refl _)
   | (with_reducible exact LeO.none _)
   | (with_reducible refine LeO.ite ?_ ?_)
   | (with_reducible refine LeO.bind ?_ (fun _ => ?_))
set_option maxHeartbeats 8000000 in
set_option maxRecDepth 100000 in
theorem reply_number.calls (k : Nat) (a0 : Int) (a1 : Int) (r1 : Int) (r2 : Bool) (r3 : Int) (r4 : ByteArray) (r5 : List (S57)) (w : World) (h : reply_number.f k a0 a1 = some (r1, r2, r3, r4, r5)) :
  Calls Try.prog 46 #[.int .i64 a0, .int .i64 a1] w (fun e w' => ∃ v4_ : Value, e = .returned (.agg #[.int .i64 r1, .bool r2, .int .i64 r3, .string r4, v4_]) ∧ Kd.N k57 57 w' w.heap.size (fun k_ => w.heap.size ≤ k_) v4_ r5 ∧ Below w.heap.size w w') := by
 have HH := Aside0.mk (show ((prims_Int.f k 0 a0 a1).bind fun bt13 => (some (bt13.1, bt13.2.1, bt13.2.2.1, bt13.2.2.2.1, bt13.2.2.2.2.1))) = some (r1, r2, r3, r4, r5) from h)
 clear h
 have HB := Aside0.mk (Below.refl w.heap.size w)
 have hu57 := Try.underlying57
 go_enter Try.func46, Try.ntmps46
 go_wp2_with ((with_reducible refine gd 4 rfl ?_); refine zb 4 57 #[.int .i64 0, .bool false, .int .i64 0, .string (⟨#[]⟩ : ByteArray), .slice none 0 0] (h := ?_); intro g1 hg w2 BKg1 hb)
 refine Stop.go ?_
 have GEg1 := zge hg (below_size HB.out)
 replace HB := zhb HB.out hb
 clear hg hb
 obtain ⟨j3, j4, j5, j6, j7, j8, j9, ja, jb, jc⟩ := MB.lay5 BKg1.out
 replace HH := zd HH
 obtain ⟨⟨t13, t14, t15, t16, t17, t18⟩, At19, HH⟩ := HH
 dsimp only at HH
 go_wp2_with ((with_reducible refine gc 66 rfl ?_); refine zc 66 (some 10) Try.func66 #[.int .i64 0, .int .i64 a0, .int .i64 a1] (h := ?_); (with_reducible refine (prims_Int.calls k  0 a0 a1 t13 t14 t15 t16 t17 t18 _  At19.out).mono ?_); rintro e w20 ⟨v21, rfl, hn21, hb⟩; refine ⟨_, rfl, ?_⟩)
 refine Stop.go ?_
 have hba := Kd.N_base hn21
 have HN21 := znl (ok2 := (fun k_ => (w.heap.size ≤ k_) ∧ k_ ≠ g1)) hn21 (below_size HB.out) (fun k_ h_ => ⟨(Nat.le_trans (below_size HB.out) h_), Kd.freshB (g := g1) BKg1.out k_ h_⟩)
 replace BKg1 := zbb BKg1.out hb
 replace HB := zhb HB.out hb
 clear hn21 hba hb
 clear j3 j4 j5 j6 j7 j8 j9 ja jb jc
 obtain ⟨jm, jn, jo, jp, jq, jr, js, jt, ju, jv⟩ := MB.lay5 BKg1.out
 go_wp2_with ((with_reducible refine gd 5 rfl ?_); refine zb 5 57 #[.int .i64 0, .bool false, .int .i64 0, .string (⟨#[]⟩ : ByteArray), .slice none 0 0] (h := ?_); intro g32 hg w33 BKg32 hb)
 refine Stop.go ?_
 have GEg32 := zge hg (below_size HB.out)
 have NEg1_g32 := znq hg BKg1.out
 have NEg32_g1 := zsy NEg1_g32
 replace HN21 := zne HN21.out hg hb
 replace BKg1 := zbb BKg1.out hb
 replace HB := zhb HB.out hb
 clear hg hb
 clear jm jn jo jp jq jr js jt ju jv
 obtain ⟨jy, jz, jA, jB, jC, jD, jE, jF, jG, jH⟩ := MB.lay5 BKg1.out
 obtain ⟨jI, jJ, jK, jL, jM, jN, jO, jP, jQ, jR⟩ := MB.lay5 BKg32.out
 obtain ⟨A55, cp56, he_⟩ := Kd.N_slice HN21.out
 subst he_
 go_wp2_with ((with_reducible refine gs 57 5 rfl ?_); refine zs 57 5 #[.int .i64 t13, .bool t14, .int .i64 t15, .string t16, (.slice A55 t17.length cp56)] BKg32.out [.int .i64 t13, .bool t14, .int .i64 t15, .string t16, (.slice A55 t17.length cp56)] (h := ?_); intro w54 hbk hg)
 refine Stop.go ?_
 replace HN21 := zng HN21.out hg fun k_ hk_ => hk_.2
 replace BKg1 := zbg BKg1.out hg NEg1_g32
 replace HB := zhg HB.out hg (below_size HB.out) GEg32
 replace BKg32 := hbk
 clear hg hbk
 clear jy jz jA jB jC jD jE jF jG jH jI jJ jK jL jM jN jO jP jQ jR
 obtain ⟨jV, jW, jX, jY, jZ, j10, j11, j12, j13, j14⟩ := MB.lay5 BKg1.out
 obtain ⟨j15, j16, j17, j18, j19, j1a, j1b, j1c, j1d, j1e⟩ := MB.lay5 BKg32.out
 go_wp2_with ((with_reducible refine gs 57 4 rfl ?_); refine zs 57 4 #[.int .i64 t13, .bool t14, .int .i64 t15, .string t16, (.slice A55 t17.length cp56)] BKg1.out [.int .i64 t13, .bool t14, .int .i64 t15, .string t16, (.slice A55 t17.length cp56)] (h := ?_); intro w77 hbk hg)
 refine Stop.go ?_
 replace HN21 := zng HN21.out hg fun k_ hk_ => hk_.1.2
 replace BKg32 := zbg BKg32.out hg NEg32_g1
 replace HB := zhg HB.out hg (below_size HB.out) GEg1
 replace BKg1 := hbk
 clear hg hbk
 clear jV jW jX jY jZ j10 j11 j12 j13 j14 j15 j16 j17 j18 j19 j1a j1b j1c j1d j1e
 obtain ⟨j1g, j1h, j1i, j1j, j1k, j1l, j1m, j1n, j1o, j1p⟩ := MB.lay5 BKg1.out
 obtain ⟨j1q, j1r, j1s, j1t, j1u, j1v, j1w, j1x, j1y, j1z⟩ := MB.lay5 BKg32.out
 have H := HH.out
 simp only [Option.some.injEq, Prod.mk.injEq] at H
 obtain ⟨rfl, rfl, rfl, rfl, rfl⟩ := H
 clear HH
 go_wp2
 refine bodyPost_ret (MW.results_c rfl _ _ g1 57 #[.int .i64 t13, .bool t14, .int .i64 t15, .string t16, (.slice A55 t17.length cp56)] (0, 0) _ rfl BKg1.out Try.underlying57 rfl (by kernel_rfl)) rfl ?_
 exact ⟨_, by first | rfl | (simp; done) | (simp [*]; done), (Kd.N_mono (ok := (fun k_ => ((w.heap.size ≤ k_) ∧ k_ ≠ g1) ∧ k_ ≠ g32)) HN21.out (fun k_ hk_ => hk_.1.1)), HB.out⟩

/-! ### prims_Text: function 61 -/
def prims_Text.f (a0 : Int) (a1 : Int) (a2 : ByteArray) : Option (Int × Bool × Int × ByteArray × (List (S57)) × Int) := if a0 < 0 then (some (0, false, 0, (⟨#[]⟩ : ByteArray), ([] : List (S57)), 2)) else (if a0 > 3 then (some (0, false, 0, (⟨#[]⟩ : ByteArray), ([] : List (S57)), 2)) else (if a1 < 0 then (some (0, false, 0, (⟨#[]⟩ : ByteArray), ([] : List (S57)), 2)) else (if a1 > 30 then (some (0, false, 0, (⟨#[]⟩ : ByteArray), ([] : List (S57)), 2)) else (some (a0, false, a1, a2, ([] : List (S57)), 0)))))
set_option maxHeartbeats 8000000 in
set_option maxRecDepth 100000 in
theorem prims_Text.calls (a0 : Int) (a1 : Int) (a2 : ByteArray) (r1 : Int) (r2 : Bool) (r3 : Int) (r4 : ByteArray) (r5 : List (S57)) (r6 : Int) (w : World) (h : prims_Text.f a0 a1 a2 = some (r1, r2, r3, r4, r5, r6)) :
  Calls Try.prog 61 #[.int .i64 a0, .int .i64 a1, .string a2] w (fun e w' => ∃ v4_ : Value, e = .returned (.tuple #[.agg #[.int .i64 r1, .bool r2, .int .i64 r3, .string r4, v4_], .int .i64 r6]) ∧ Kd.N k57 57 w' w.heap.size (fun k_ => w.heap.size ≤ k_) v4_ r5 ∧ Below w.heap.size w w') := by
 have HH := Aside0.mk (show (if a0 < 0 then (some (0, false, 0, (⟨#[]⟩ : ByteArray), ([] : List (S57)), 2)) else (if a0 > 3 then (some (0, false, 0, (⟨#[]⟩ : ByteArray), ([] : List (S57)), 2)) else (if a1 < 0 then (some (0, false, 0, (⟨#[]⟩ : ByteArray), ([] : List (S57)), 2)) else (if a1 > 30 then (some (0, false, 0, (⟨#[]⟩ : ByteArray), ([] : List (S57)), 2)) else (some (a0, false, a1, a2, ([] : List (S57)), 0)))))) = some (r1, r2, r3, r4, r5, r6) from h)
 clear h
 have HB := Aside0.mk (Below.refl w.heap.size w)
 have hu57 := Try.underlying57
 go_enter Try.func61, Try.ntmps61
 go_wp2_with ((with_reducible refine gd 5 rfl ?_); refine zb 5 9 #[.string a2] (h := ?_); intro g1 hg w2 BKg1 hb)
 refine Stop.go ?_
 replace HB := zhb HB.out hb
 clear hg hb
 obtain ⟨j3, j4⟩ := MB.lay1 BKg1.out
 go_wp2_with ((with_reducible refine gd 6 rfl ?_); refine zb 6 57 #[.int .i64 0, .bool false, .int .i64 0, .string (⟨#[]⟩ : ByteArray), .slice none 0 0] (h := ?_); intro g5 hg w6 BKg5 hb)
 refine Stop.go ?_
 have GEg5 := zge hg (below_size HB.out)
 have NEg1_g5 := znq hg BKg1.out
 replace BKg1 := zbb BKg1.out hb
 replace HB := zhb HB.out hb
 clear hg hb
 clear j3 j4
 obtain ⟨j7, j8⟩ := MB.lay1 BKg1.out
 obtain ⟨j9, ja, jb, jc, jd, je, jf, jg, jh, ji⟩ := MB.lay5 BKg5.out
 go_wp2_with (((with_reducible refine gate_callee (f := 84) rfl ?_); (try (refine gate_guard (by rfl) ?_; dsimp only)); refine goesL_ (some 11) rfl rfl Try.func84 (by kernel_rfl) rfl #[.int .i64 a0, .int .i64 a1, .func (.func 85) #[] #[.pointer (some ⟨g1, 0, none⟩)]] rfl (by (try simp only [List.map_toArray, List.map_cons, List.map_nil]); first | done | rfl) ?_); refine stop_ ?_)
 refine Stop.go ?_
 go_enter Try.func84, Try.ntmps84
 go_wp2_with ((with_reducible refine gd 6 rfl ?_); refine zb 6 57 #[.int .i64 0, .bool false, .int .i64 0, .string (⟨#[]⟩ : ByteArray), .slice none 0 0] (h := ?_); intro g19 hg w20 BKg19 hb)
 refine Stop.go ?_
 have GEg19 := zge hg (below_size HB.out)
 have NEg1_g19 := znq hg BKg1.out
 have NEg5_g19 := znq hg BKg5.out
 have NEg19_g5 := zsy NEg5_g19
 replace BKg1 := zbb BKg1.out hb
 replace BKg5 := zbb BKg5.out hb
 replace HB := zhb HB.out hb
 clear hg hb
 clear j7 j8 j9 ja jb jc jd je jf jg jh ji
 obtain ⟨jl, jm⟩ := MB.lay1 BKg1.out
 obtain ⟨jn, jo, jp, jq, jr, js, jt, ju, jv, jw⟩ := MB.lay5 BKg5.out
 obtain ⟨jx, jy, jz, jA, jB, jC, jD, jE, jF, jG⟩ := MB.lay5 BKg19.out
 replace HH := zqt HH
 rcases HH with ⟨HH, hk44, hk45⟩ | ⟨HH, hk92, hk93⟩
 ·go_wp2_with ((with_reducible refine gs 57 6 rfl ?_); refine zs 57 6 #[.int .i64 0, .bool false, .int .i64 0, .string (⟨#[]⟩ : ByteArray), .slice none 0 0] BKg19.out [.int .i64 0, .bool false, .int .i64 0, .string (⟨#[]⟩ : ByteArray), .slice none 0 0] (h := ?_); intro w46 hbk hg)
  refine Stop.go ?_
  replace BKg1 := zbg BKg1.out hg NEg1_g19
  replace BKg5 := zbg BKg5.out hg NEg5_g19
  replace HB := zhg HB.out hg (below_size HB.out) GEg19
  replace BKg19 := hbk
  clear hg hbk
  clear jl jm jn jo jp jq jr js jt ju jv jw jx jy jz jA jB jC jD jE jF jG
  obtain ⟨jL, jM⟩ := MB.lay1 BKg1.out
  obtain ⟨jN, jO, jP, jQ, jR, jS, jT, jU, jV, jW⟩ := MB.lay5 BKg5.out
  obtain ⟨jX, jY, jZ, j10, j11, j12, j13, j14, j15, j16⟩ := MB.lay5 BKg19.out
  go_wp2
  refine bodyPost_ret (results_ct rfl _ _ g19 57 #[.int .i64 0, .bool false, .int .i64 0, .string (⟨#[]⟩ : ByteArray), .slice none 0 0] (0, 0) _ rfl BKg19.out Try.underlying57 rfl (by kernel_rfl)) rfl ?_
  refine ⟨_, rfl, ?_⟩
  go_wp2_with ((with_reducible refine gs 57 6 rfl ?_); refine zs 57 6 #[.int .i64 0, .bool false, .int .i64 0, .string (⟨#[]⟩ : ByteArray), .slice none 0 0] BKg5.out [.int .i64 0, .bool false, .int .i64 0, .string (⟨#[]⟩ : ByteArray), .slice none 0 0] (h := ?_); intro w69 hbk hg)
  refine Stop.go ?_
  replace BKg1 := zbg BKg1.out hg NEg1_g5
  replace BKg19 := zbg BKg19.out hg NEg19_g5
  replace HB := zhg HB.out hg (below_size HB.out) GEg5
  replace BKg5 := hbk
  clear hg hbk
  clear jL jM jN jO jP jQ jR jS jT jU jV jW jX jY jZ j10 j11 j12 j13 j14 j15 j16
  obtain ⟨j18, j19⟩ := MB.lay1 BKg1.out
  obtain ⟨j1a, j1b, j1c, j1d, j1e, j1f, j1g, j1h, j1i, j1j⟩ := MB.lay5 BKg5.out
  obtain ⟨j1k, j1l, j1m, j1n, j1o, j1p, j1q, j1r, j1s, j1t⟩ := MB.lay5 BKg19.out
  have H := HH.out
  simp only [Option.some.injEq, Prod.mk.injEq] at H
  obtain ⟨rfl, rfl, rfl, rfl, rfl, rfl⟩ := H
  clear HH
  go_wp2
  refine bodyPost_ret (results_ct rfl _ _ g5 57 #[.int .i64 0, .bool false, .int .i64 0, .string (⟨#[]⟩ : ByteArray), .slice none 0 0] (0, 0) _ rfl BKg5.out Try.underlying57 rfl (by kernel_rfl)) rfl ?_
  exact ⟨_, by first | rfl | (simp; done) | (simp [*]; done), (Kd.N_nil _ _ _ _ _), HB.out⟩
 replace HH := zqg HH
 rcases HH with ⟨HH, hk95⟩ | ⟨HH, hk142⟩
 ·go_wp2_with ((with_reducible refine gs 57 6 rfl ?_); refine zs 57 6 #[.int .i64 0, .bool false, .int .i64 0, .string (⟨#[]⟩ : ByteArray), .slice none 0 0] BKg19.out [.int .i64 0, .bool false, .int .i64 0, .string (⟨#[]⟩ : ByteArray), .slice none 0 0] (h := ?_); intro w96 hbk hg)
  refine Stop.go ?_
  replace BKg1 := zbg BKg1.out hg NEg1_g19
  replace BKg5 := zbg BKg5.out hg NEg5_g19
  replace HB := zhg HB.out hg (below_size HB.out) GEg19
  replace BKg19 := hbk
  clear hg hbk
  clear jl jm jn jo jp jq jr js jt ju jv jw jx jy jz jA jB jC jD jE jF jG
  obtain ⟨j1z, j1A⟩ := MB.lay1 BKg1.out
  obtain ⟨j1B, j1C, j1D, j1E, j1F, j1G, j1H, j1I, j1J, j1K⟩ := MB.lay5 BKg5.out
  obtain ⟨j1L, j1M, j1N, j1O, j1P, j1Q, j1R, j1S, j1T, j1U⟩ := MB.lay5 BKg19.out
  go_wp2
  refine bodyPost_ret (results_ct rfl _ _ g19 57 #[.int .i64 0, .bool false, .int .i64 0, .string (⟨#[]⟩ : ByteArray), .slice none 0 0] (0, 0) _ rfl BKg19.out Try.underlying57 rfl (by kernel_rfl)) rfl ?_
  refine ⟨_, rfl, ?_⟩
  go_wp2_with ((with_reducible refine gs 57 6 rfl ?_); refine zs 57 6 #[.int .i64 0, .bool false, .int .i64 0, .string (⟨#[]⟩ : ByteArray), .slice none 0 0] BKg5.out [.int .i64 0, .bool false, .int .i64 0, .string (⟨#[]⟩ : ByteArray), .slice none 0 0] (h := ?_); intro w119 hbk hg)
  refine Stop.go ?_
  replace BKg1 := zbg BKg1.out hg NEg1_g5
  replace BKg19 := zbg BKg19.out hg NEg19_g5
  replace HB := zhg HB.out hg (below_size HB.out) GEg5
  replace BKg5 := hbk
  clear hg hbk
  clear j1z j1A j1B j1C j1D j1E j1F j1G j1H j1I j1J j1K j1L j1M j1N j1O j1P j1Q j1R j1S j1T j1U
  obtain ⟨j1W, j1X⟩ := MB.lay1 BKg1.out
  obtain ⟨j1Y, j1Z, j20, j21, j22, j23, j24, j25, j26, j27⟩ := MB.lay5 BKg5.out
  obtain ⟨j28, j29, j2a, j2b, j2c, j2d, j2e, j2f, j2g, j2h⟩ := MB.lay5 BKg19.out
  have H := HH.out
  simp only [Option.some.injEq, Prod.mk.injEq] at H
  obtain ⟨rfl, rfl, rfl, rfl, rfl, rfl⟩ := H
  clear HH
  go_wp2
  refine bodyPost_ret (results_ct rfl _ _ g5 57 #[.int .i64 0, .bool false, .int .i64 0, .string (⟨#[]⟩ : ByteArray), .slice none 0 0] (0, 0) _ rfl BKg5.out Try.underlying57 rfl (by kernel_rfl)) rfl ?_
  exact ⟨_, by first | rfl | (simp; done) | (simp [*]; done), (Kd.N_nil _ _ _ _ _), HB.out⟩
 replace HH := zqt HH
 rcases HH with ⟨HH, hk144, hk145⟩ | ⟨HH, hk192, hk193⟩
 ·go_wp2_with ((with_reducible refine gs 57 6 rfl ?_); refine zs 57 6 #[.int .i64 0, .bool false, .int .i64 0, .string (⟨#[]⟩ : ByteArray), .slice none 0 0] BKg19.out [.int .i64 0, .bool false, .int .i64 0, .string (⟨#[]⟩ : ByteArray), .slice none 0 0] (h := ?_); intro w146 hbk hg)
  refine Stop.go ?_
  replace BKg1 := zbg BKg1.out hg NEg1_g19
  replace BKg5 := zbg BKg5.out hg NEg5_g19
  replace HB := zhg HB.out hg (below_size HB.out) GEg19
  replace BKg19 := hbk
  clear hg hbk
  clear jl jm jn jo jp jq jr js jt ju jv jw jx jy jz jA jB jC jD jE jF jG
  obtain ⟨j2n, j2o⟩ := MB.lay1 BKg1.out
  obtain ⟨j2p, j2q, j2r, j2s, j2t, j2u, j2v, j2w, j2x, j2y⟩ := MB.lay5 BKg5.out
  obtain ⟨j2z, j2A, j2B, j2C, j2D, j2E, j2F, j2G, j2H, j2I⟩ := MB.lay5 BKg19.out
  go_wp2
  refine bodyPost_ret (results_ct rfl _ _ g19 57 #[.int .i64 0, .bool false, .int .i64 0, .string (⟨#[]⟩ : ByteArray), .slice none 0 0] (0, 0) _ rfl BKg19.out Try.underlying57 rfl (by kernel_rfl)) rfl ?_
  refine ⟨_, rfl, ?_⟩
  go_wp2_with ((with_reducible refine gs 57 6 rfl ?_); refine zs 57 6 #[.int .i64 0, .bool false, .int .i64 0, .string (⟨#[]⟩ : ByteArray), .slice none 0 0] BKg5.out [.int .i64 0, .bool false, .int .i64 0, .string (⟨#[]⟩ : ByteArray), .slice none 0 0] (h := ?_); intro w169 hbk hg)
  refine Stop.go ?_
  replace BKg1 := zbg BKg1.out hg NEg1_g5
  replace BKg19 := zbg BKg19.out hg NEg19_g5
  replace HB := zhg HB.out hg (below_size HB.out) GEg5
  replace BKg5 := hbk
  clear hg hbk
  clear j2n j2o j2p j2q j2r j2s j2t j2u j2v j2w j2x j2y j2z j2A j2B j2C j2D j2E j2F j2G j2H j2I
  obtain ⟨j2K, j2L⟩ := MB.lay1 BKg1.out
  obtain ⟨j2M, j2N, j2O, j2P, j2Q, j2R, j2S, j2T, j2U, j2V⟩ := MB.lay5 BKg5.out
  obtain ⟨j2W, j2X, j2Y, j2Z, j30, j31, j32, j33, j34, j35⟩ := MB.lay5 BKg19.out
  have H := HH.out
  simp only [Option.some.injEq, Prod.mk.injEq] at H
  obtain ⟨rfl, rfl, rfl, rfl, rfl, rfl⟩ := H
  clear HH
  go_wp2
  refine bodyPost_ret (results_ct rfl _ _ g5 57 #[.int .i64 0, .bool false, .int .i64 0, .string (⟨#[]⟩ : ByteArray), .slice none 0 0] (0, 0) _ rfl BKg5.out Try.underlying57 rfl (by kernel_rfl)) rfl ?_
  exact ⟨_, by first | rfl | (simp; done) | (simp [*]; done), (Kd.N_nil _ _ _ _ _), HB.out⟩
 replace HH := zqg HH
 rcases HH with ⟨HH, hk195⟩ | ⟨HH, hk242⟩
 ·go_wp2_with ((with_reducible refine gs 57 6 rfl ?_); refine zs 57 6 #[.int .i64 0, .bool false, .int .i64 0, .string (⟨#[]⟩ : ByteArray), .slice none 0 0] BKg19.out [.int .i64 0, .bool false, .int .i64 0, .string (⟨#[]⟩ : ByteArray), .slice none 0 0] (h := ?_); intro w196 hbk hg)
  refine Stop.go ?_
  replace BKg1 := zbg BKg1.out hg NEg1_g19
  replace BKg5 := zbg BKg5.out hg NEg5_g19
  replace HB := zhg HB.out hg (below_size HB.out) GEg19
  replace BKg19 := hbk
  clear hg hbk
  clear jl jm jn jo jp jq jr js jt ju jv jw jx jy jz jA jB jC jD jE jF jG
  obtain ⟨j3b, j3c⟩ := MB.lay1 BKg1.out
  obtain ⟨j3d, j3e, j3f, j3g, j3h, j3i, j3j, j3k, j3l, j3m⟩ := MB.lay5 BKg5.out
  obtain ⟨j3n, j3o, j3p, j3q, j3r, j3s, j3t, j3u, j3v, j3w⟩ := MB.lay5 BKg19.out
  go_wp2
  refine bodyPost_ret (results_ct rfl _ _ g19 57 #[.int .i64 0, .bool false, .int .i64 0, .string (⟨#[]⟩ : ByteArray), .slice none 0 0] (0, 0) _ rfl BKg19.out Try.underlying57 rfl (by kernel_rfl)) rfl ?_
  refine ⟨_, rfl, ?_⟩
  go_wp2_with ((with_reducible refine gs 57 6 rfl ?_); refine zs 57 6 #[.int .i64 0, .bool false, .int .i64 0, .string (⟨#[]⟩ : ByteArray), .slice none 0 0] BKg5.out [.int .i64 0, .bool false, .int .i64 0, .string (⟨#[]⟩ : ByteArray), .slice none 0 0] (h := ?_); intro w219 hbk hg)
  refine Stop.go ?_
  replace BKg1 := zbg BKg1.out hg NEg1_g5
  replace BKg19 := zbg BKg19.out hg NEg19_g5
  replace HB := zhg HB.out hg (below_size HB.out) GEg5
  replace BKg5 := hbk
  clear hg hbk
  clear j3b j3c j3d j3e j3f j3g j3h j3i j3j j3k j3l j3m j3n j3o j3p j3q j3r j3s j3t j3u j3v j3w
  obtain ⟨j3y, j3z⟩ := MB.lay1 BKg1.out
  obtain ⟨j3A, j3B, j3C, j3D, j3E, j3F, j3G, j3H, j3I, j3J⟩ := MB.lay5 BKg5.out
  obtain ⟨j3K, j3L, j3M, j3N, j3O, j3P, j3Q, j3R, j3S, j3T⟩ := MB.lay5 BKg19.out
  have H := HH.out
  simp only [Option.some.injEq, Prod.mk.injEq] at H
  obtain ⟨rfl, rfl, rfl, rfl, rfl, rfl⟩ := H
  clear HH
  go_wp2
  refine bodyPost_ret (results_ct rfl _ _ g5 57 #[.int .i64 0, .bool false, .int .i64 0, .string (⟨#[]⟩ : ByteArray), .slice none 0 0] (0, 0) _ rfl BKg5.out Try.underlying57 rfl (by kernel_rfl)) rfl ?_
  exact ⟨_, by first | rfl | (simp; done) | (simp [*]; done), (Kd.N_nil _ _ _ _ _), HB.out⟩
 go_wp2_with ((with_reducible refine gd 8 rfl ?_); refine zb 8 57 #[.int .i64 0, .bool false, .int .i64 0, .string (⟨#[]⟩ : ByteArray), .slice none 0 0] (h := ?_); intro g243 hg w244 BKg243 hb)
 refine Stop.go ?_
 have GEg243 := zge hg (below_size HB.out)
 have NEg1_g243 := znq hg BKg1.out
 have NEg5_g243 := znq hg BKg5.out
 have NEg243_g5 := zsy NEg5_g243
 have NEg19_g243 := znq hg BKg19.out
 have NEg243_g19 := zsy NEg19_g243
 replace BKg1 := zbb BKg1.out hb
 replace BKg5 := zbb BKg5.out hb
 replace BKg19 := zbb BKg19.out hb
 replace HB := zhb HB.out hb
 clear hg hb
 clear jl jm jn jo jp jq jr js jt ju jv jw jx jy jz jA jB jC jD jE jF jG
 obtain ⟨j3X, j3Y⟩ := MB.lay1 BKg1.out
 obtain ⟨j3Z, j40, j41, j42, j43, j44, j45, j46, j47, j48⟩ := MB.lay5 BKg5.out
 obtain ⟨j49, j4a, j4b, j4c, j4d, j4e, j4f, j4g, j4h, j4i⟩ := MB.lay5 BKg19.out
 obtain ⟨j4j, j4k, j4l, j4m, j4n, j4o, j4p, j4q, j4r, j4s⟩ := MB.lay5 BKg243.out
 go_wp2_with ((with_reducible refine gs 57 8 rfl ?_); refine zs 57 8 #[.int .i64 a0, .bool false, .int .i64 a1, .string (⟨#[]⟩ : ByteArray), .slice none 0 0] BKg243.out [.int .i64 a0, .bool false, .int .i64 a1, .string (⟨#[]⟩ : ByteArray), .slice none 0 0] (h := ?_); intro w277 hbk hg)
 refine Stop.go ?_
 replace BKg1 := zbg BKg1.out hg NEg1_g243
 replace BKg5 := zbg BKg5.out hg NEg5_g243
 replace BKg19 := zbg BKg19.out hg NEg19_g243
 replace HB := zhg HB.out hg (below_size HB.out) GEg243
 replace BKg243 := hbk
 clear hg hbk
 clear j3X j3Y j3Z j40 j41 j42 j43 j44 j45 j46 j47 j48 j49 j4a j4b j4c j4d j4e j4f j4g j4h j4i j4j j4k j4l j4m j4n j4o j4p j4q j4r j4s
 obtain ⟨j4u, j4v⟩ := MB.lay1 BKg1.out
 obtain ⟨j4w, j4x, j4y, j4z, j4A, j4B, j4C, j4D, j4E, j4F⟩ := MB.lay5 BKg5.out
 obtain ⟨j4G, j4H, j4I, j4J, j4K, j4L, j4M, j4N, j4O, j4P⟩ := MB.lay5 BKg19.out
 obtain ⟨j4Q, j4R, j4S, j4T, j4U, j4V, j4W, j4X, j4Y, j4Z⟩ := MB.lay5 BKg243.out
 go_wp2_with (((with_reducible refine gate_dst (N := 28) rfl ?_); (try (refine gate_guard (by rfl) ?_; dsimp only)); refine MW.goesV_ (some 28) rfl rfl Try.func85 (by kernel_rfl) rfl #[.pointer (some ⟨g243, 0, none⟩), .pointer (some ⟨g1, 0, none⟩)] rfl #[.pointer (some ⟨g1, 0, none⟩)] rfl (by simp only [List.map_toArray, List.map_cons, List.map_nil, List.append_toArray, List.cons_append, List.nil_append]; first | done | rfl) ?_); refine stop_ ?_)
 refine Stop.go ?_
 go_enter Try.func85, Try.ntmps85
 go_wp2_with ((with_reducible refine gs 9 6 rfl ?_); refine zs 9 6 #[.int .i64 a0, .bool false, .int .i64 a1, .string a2, .slice none 0 0] BKg243.out [.string a2] (h := ?_); intro w310 hbk hg)
 refine Stop.go ?_
 replace BKg1 := zbg BKg1.out hg NEg1_g243
 replace BKg5 := zbg BKg5.out hg NEg5_g243
 replace BKg19 := zbg BKg19.out hg NEg19_g243
 replace HB := zhg HB.out hg (below_size HB.out) GEg243
 replace BKg243 := hbk
 clear hg hbk
 clear j4u j4v j4w j4x j4y j4z j4A j4B j4C j4D j4E j4F j4G j4H j4I j4J j4K j4L j4M j4N j4O j4P j4Q j4R j4S j4T j4U j4V j4W j4X j4Y j4Z
 obtain ⟨j51, j52⟩ := MB.lay1 BKg1.out
 obtain ⟨j53, j54, j55, j56, j57, j58, j59, j5a, j5b, j5c⟩ := MB.lay5 BKg5.out
 obtain ⟨j5d, j5e, j5f, j5g, j5h, j5i, j5j, j5k, j5l, j5m⟩ := MB.lay5 BKg19.out
 obtain ⟨j5n, j5o, j5p, j5q, j5r, j5s, j5t, j5u, j5v, j5w⟩ := MB.lay5 BKg243.out
 go_wp2
 go_end0
 refine ⟨_, rfl, ?_⟩
 go_wp2_with ((with_reducible refine gs 57 6 rfl ?_); refine zs 57 6 #[.int .i64 a0, .bool false, .int .i64 a1, .string a2, .slice none 0 0] BKg19.out [.int .i64 a0, .bool false, .int .i64 a1, .string a2, .slice none 0 0] (h := ?_); intro w343 hbk hg)
 refine Stop.go ?_
 replace BKg1 := zbg BKg1.out hg NEg1_g19
 replace BKg5 := zbg BKg5.out hg NEg5_g19
 replace BKg243 := zbg BKg243.out hg NEg243_g19
 replace HB := zhg HB.out hg (below_size HB.out) GEg19
 replace BKg19 := hbk
 clear hg hbk
 clear j51 j52 j53 j54 j55 j56 j57 j58 j59 j5a j5b j5c j5d j5e j5f j5g j5h j5i j5j j5k j5l j5m j5n j5o j5p j5q j5r j5s j5t j5u j5v j5w
 obtain ⟨j5y, j5z⟩ := MB.lay1 BKg1.out
 obtain ⟨j5A, j5B, j5C, j5D, j5E, j5F, j5G, j5H, j5I, j5J⟩ := MB.lay5 BKg5.out
 obtain ⟨j5K, j5L, j5M, j5N, j5O, j5P, j5Q, j5R, j5S, j5T⟩ := MB.lay5 BKg19.out
 obtain ⟨j5U, j5V, j5W, j5X, j5Y, j5Z, j60, j61, j62, j63⟩ := MB.lay5 BKg243.out
 go_wp2
 refine bodyPost_ret (results_ct rfl _ _ g19 57 #[.int .i64 a0, .bool false, .int .i64 a1, .string a2, .slice none 0 0] (0, 0) _ rfl BKg19.out Try.underlying57 rfl (by kernel_rfl)) rfl ?_
 refine ⟨_, rfl, ?_⟩
 go_wp2_with ((with_reducible refine gs 57 6 rfl ?_); refine zs 57 6 #[.int .i64 a0, .bool false, .int .i64 a1, .string a2, .slice none 0 0] BKg5.out [.int .i64 a0, .bool false, .int .i64 a1, .string a2, .slice none 0 0] (h := ?_); intro w376 hbk hg)
 refine Stop.go ?_
 replace BKg1 := zbg BKg1.out hg NEg1_g5
 replace BKg19 := zbg BKg19.out hg NEg19_g5
 replace BKg243 := zbg BKg243.out hg NEg243_g5
 replace HB := zhg HB.out hg (below_size HB.out) GEg5
 replace BKg5 := hbk
 clear hg hbk
 clear j5y j5z j5A j5B j5C j5D j5E j5F j5G j5H j5I j5J j5K j5L j5M j5N j5O j5P j5Q j5R j5S j5T j5U j5V j5W j5X j5Y j5Z j60 j61 j62 j63
 obtain ⟨j65, j66⟩ := MB.lay1 BKg1.out
 obtain ⟨j67, j68, j69, j6a, j6b, j6c, j6d, j6e, j6f, j6g⟩ := MB.lay5 BKg5.out
 obtain ⟨j6h, j6i, j6j, j6k, j6l, j6m, j6n, j6o, j6p, j6q⟩ := MB.lay5 BKg19.out
 obtain ⟨j6r, j6s, j6t, j6u, j6v, j6w, j6x, j6y, j6z, j6A⟩ := MB.lay5 BKg243.out
 have H := HH.out
 simp only [Option.some.injEq, Prod.mk.injEq] at H
 obtain ⟨rfl, rfl, rfl, rfl, rfl, rfl⟩ := H
 clear HH
 go_wp2
 refine bodyPost_ret (results_ct rfl _ _ g5 57 #[.int .i64 a0, .bool false, .int .i64 a1, .string a2, .slice none 0 0] (0, 0) _ rfl BKg5.out Try.underlying57 rfl (by kernel_rfl)) rfl ?_
 exact ⟨_, by first | rfl | (simp; done) | (simp [*]; done), (Kd.N_nil _ _ _ _ _), HB.out⟩

/-! ### reply_text: function 60 -/
def reply_text.f (a0 : ByteArray) : Option (Int × Bool × Int × ByteArray × (List (S57))) := (prims_Text.f 0 4 a0).bind fun bt13 => (some (bt13.1, bt13.2.1, bt13.2.2.1, bt13.2.2.2.1, bt13.2.2.2.2.1))
set_option maxHeartbeats 8000000 in
set_option maxRecDepth 100000 in
theorem reply_text.calls (a0 : ByteArray) (r1 : Int) (r2 : Bool) (r3 : Int) (r4 : ByteArray) (r5 : List (S57)) (w : World) (h : reply_text.f a0 = some (r1, r2, r3, r4, r5)) :
  Calls Try.prog 60 #[.string a0] w (fun e w' => ∃ v4_ : Value, e = .returned (.agg #[.int .i64 r1, .bool r2, .int .i64 r3, .string r4, v4_]) ∧ Kd.N k57 57 w' w.heap.size (fun k_ => w.heap.size ≤ k_) v4_ r5 ∧ Below w.heap.size w w') := by
 have HH := Aside0.mk (show ((prims_Text.f 0 4 a0).bind fun bt13 => (some (bt13.1, bt13.2.1, bt13.2.2.1, bt13.2.2.2.1, bt13.2.2.2.2.1))) = some (r1, r2, r3, r4, r5) from h)
 clear h
 have HB := Aside0.mk (Below.refl w.heap.size w)
 have hu57 := Try.underlying57
 go_enter Try.func60, Try.ntmps60
 go_wp2_with ((with_reducible refine gd 2 rfl ?_); refine zb 2 57 #[.int .i64 0, .bool false, .int .i64 0, .string (⟨#[]⟩ : ByteArray), .slice none 0 0] (h := ?_); intro g1 hg w2 BKg1 hb)
 refine Stop.go ?_
 have GEg1 := zge hg (below_size HB.out)
 replace HB := zhb HB.out hb
 clear hg hb
 obtain ⟨j3, j4, j5, j6, j7, j8, j9, ja, jb, jc⟩ := MB.lay5 BKg1.out
 replace HH := zd HH
 obtain ⟨⟨t13, t14, t15, t16, t17, t18⟩, At19, HH⟩ := HH
 dsimp only at HH
 go_wp2_with ((with_reducible refine gc 61 rfl ?_); refine zc 61 (some 7) Try.func61 #[.int .i64 0, .int .i64 4, .string a0] (h := ?_); (with_reducible refine (prims_Text.calls  0 4 a0 t13 t14 t15 t16 t17 t18 _  At19.out).mono ?_); rintro e w20 ⟨v21, rfl, hn21, hb⟩; refine ⟨_, rfl, ?_⟩)
 refine Stop.go ?_
 have hba := Kd.N_base hn21
 have HN21 := znl (ok2 := (fun k_ => (w.heap.size ≤ k_) ∧ k_ ≠ g1)) hn21 (below_size HB.out) (fun k_ h_ => ⟨(Nat.le_trans (below_size HB.out) h_), Kd.freshB (g := g1) BKg1.out k_ h_⟩)
 replace BKg1 := zbb BKg1.out hb
 replace HB := zhb HB.out hb
 clear hn21 hba hb
 clear j3 j4 j5 j6 j7 j8 j9 ja jb jc
 obtain ⟨jm, jn, jo, jp, jq, jr, js, jt, ju, jv⟩ := MB.lay5 BKg1.out
 go_wp2_with ((with_reducible refine gd 3 rfl ?_); refine zb 3 57 #[.int .i64 0, .bool false, .int .i64 0, .string (⟨#[]⟩ : ByteArray), .slice none 0 0] (h := ?_); intro g32 hg w33 BKg32 hb)
 refine Stop.go ?_
 have GEg32 := zge hg (below_size HB.out)
 have NEg1_g32 := znq hg BKg1.out
 have NEg32_g1 := zsy NEg1_g32
 replace HN21 := zne HN21.out hg hb
 replace BKg1 := zbb BKg1.out hb
 replace HB := zhb HB.out hb
 clear hg hb
 clear jm jn jo jp jq jr js jt ju jv
 obtain ⟨jy, jz, jA, jB, jC, jD, jE, jF, jG, jH⟩ := MB.lay5 BKg1.out
 obtain ⟨jI, jJ, jK, jL, jM, jN, jO, jP, jQ, jR⟩ := MB.lay5 BKg32.out
 obtain ⟨A55, cp56, he_⟩ := Kd.N_slice HN21.out
 subst he_
 go_wp2_with ((with_reducible refine gs 57 3 rfl ?_); refine zs 57 3 #[.int .i64 t13, .bool t14, .int .i64 t15, .string t16, (.slice A55 t17.length cp56)] BKg32.out [.int .i64 t13, .bool t14, .int .i64 t15, .string t16, (.slice A55 t17.length cp56)] (h := ?_); intro w54 hbk hg)
 refine Stop.go ?_
 replace HN21 := zng HN21.out hg fun k_ hk_ => hk_.2
 replace BKg1 := zbg BKg1.out hg NEg1_g32
 replace HB := zhg HB.out hg (below_size HB.out) GEg32
 replace BKg32 := hbk
 clear hg hbk
 clear jy jz jA jB jC jD jE jF jG jH jI jJ jK jL jM jN jO jP jQ jR
 obtain ⟨jV, jW, jX, jY, jZ, j10, j11, j12, j13, j14⟩ := MB.lay5 BKg1.out
 obtain ⟨j15, j16, j17, j18, j19, j1a, j1b, j1c, j1d, j1e⟩ := MB.lay5 BKg32.out
 go_wp2_with ((with_reducible refine gs 57 2 rfl ?_); refine zs 57 2 #[.int .i64 t13, .bool t14, .int .i64 t15, .string t16, (.slice A55 t17.length cp56)] BKg1.out [.int .i64 t13, .bool t14, .int .i64 t15, .string t16, (.slice A55 t17.length cp56)] (h := ?_); intro w77 hbk hg)
 refine Stop.go ?_
 replace HN21 := zng HN21.out hg fun k_ hk_ => hk_.1.2
 replace BKg32 := zbg BKg32.out hg NEg32_g1
 replace HB := zhg HB.out hg (below_size HB.out) GEg1
 replace BKg1 := hbk
 clear hg hbk
 clear jV jW jX jY jZ j10 j11 j12 j13 j14 j15 j16 j17 j18 j19 j1a j1b j1c j1d j1e
 obtain ⟨j1g, j1h, j1i, j1j, j1k, j1l, j1m, j1n, j1o, j1p⟩ := MB.lay5 BKg1.out
 obtain ⟨j1q, j1r, j1s, j1t, j1u, j1v, j1w, j1x, j1y, j1z⟩ := MB.lay5 BKg32.out
 have H := HH.out
 simp only [Option.some.injEq, Prod.mk.injEq] at H
 obtain ⟨rfl, rfl, rfl, rfl, rfl⟩ := H
 clear HH
 go_wp2
 refine bodyPost_ret (MW.results_c rfl _ _ g1 57 #[.int .i64 t13, .bool t14, .int .i64 t15, .string t16, (.slice A55 t17.length cp56)] (0, 0) _ rfl BKg1.out Try.underlying57 rfl (by kernel_rfl)) rfl ?_
 exact ⟨_, by first | rfl | (simp; done) | (simp [*]; done), (Kd.N_mono (ok := (fun k_ => ((w.heap.size ≤ k_) ∧ k_ ≠ g1) ∧ k_ ≠ g32)) HN21.out (fun k_ hk_ => hk_.1.1)), HB.out⟩

/-! ### ber_depth: function 99 -/
mutual
def ber_depth.l0 : Nat → Int → Int → Int → (List (S57)) → Option (Int)
 | 0, _, _, _, _ => none
 | k + 1, x18, x19, a1, l0_4 => if x19 < (l0_4.length : Int) then (if 0 ≤ x19 then ((ber_depth.f k ((rd_T57 l0_4 x19).f0) ((rd_T57 l0_4 x19).f1) ((rd_T57 l0_4 x19).f2) ((rd_T57 l0_4 x19).f3) ((rd_T57 l0_4 x19).f4) (wrap64 (a1 - 1))).bind fun t81 => (if x18 < t81 then ((ber_depth.l0 k t81 (wrap64 (x19 + 1)) a1 l0_4)) else ((ber_depth.l0 k x18 (wrap64 (x19 + 1)) a1 l0_4)))) else (none)) else (some (wrap64 (x18 + 1)))
def ber_depth.f : Nat → Int → Bool → Int → ByteArray → (List (S57)) → Int → Option (Int)
 | 0, _, _, _, _, _, _ => none
 | k + 1, a0_0, a0_1, a0_2, a0_3, l0_4, a1 => if a1 = 0 then (some 1) else ((ber_depth.l0 k 0 0 a1 l0_4))
end
theorem ber_depth.mono_l : ∀ k, (∀ y0 y1 y2 y3 y4 y5, LeO (ber_depth.f k y0 y1 y2 y3 y4 y5) (ber_depth.f (k + 1) y0 y1 y2 y3 y4 y5)) ∧ (∀ y0 y1 y2 y3, LeO (ber_depth.l0 k y0 y1 y2 y3) (ber_depth.l0 (k + 1) y0 y1 y2 y3))
 | 0 => ⟨fun _ _ _ _ _ _ r h => by simp [ber_depth.f] at h, fun _ _ _ _ r h => by simp [ber_depth.l0] at h⟩
 | k + 1 => by
  obtain ⟨ih0, ih1⟩ := ber_depth.mono_l k
  refine ⟨?_, ?_⟩
  ·intro y0 y1 y2 y3 y4 y5
   unfold ber_depth.f
   repeat' first
   | (with_reducible exact ih0 _ _ _ _ _ _)
   | (with_reducible exact ih1 _ _ _ _)
   | (with_reducible exact LeO.refl _)
   | (with_reducible exact LeO.none _)
   | (with_reducible refine LeO.ite ?_ ?_)
   | (with_reducible refine LeO.bind ?_ (fun _ => ?_))
  intro y0 y1 y2 y3
  unfold ber_depth.l0
  repeat' first
  | (with_reducible exact ih0 _ _ _ _ _ _)
  | (with_reducible exact ih1 _ _ _ _)
  | (with_reducible exact LeO.refl _)
  | (with_reducible exact LeO.none _)
  | (with_reducible refine LeO.ite ?_ ?_)
  | (with_reducible refine LeO.bind ?_ (fun _ => ?_))
theorem ber_depth.mono : ∀ a0_ a1_ a2_ a3_ a4_ a5_ k, LeO (ber_depth.f k a0_ a1_ a2_ a3_ a4_ a5_) (ber_depth.f (k + 1) a0_ a1_ a2_ a3_ a4_ a5_) := by
 intro a0_ a1_ a2_ a3_ a4_ a5_ k
 obtain ⟨ih0, ih1⟩ := ber_depth.mono_l k
 exact ih0 a0_ a1_ a2_ a3_ a4_ a5_
set_option maxHeartbeats 8000000 in
set_option maxRecDepth 100000 in
theorem ber_depth.calls (k : Nat) : ∀ (P_ : Nat → Prop) (a0_0 : Int) (a0_1 : Bool) (a0_2 : Int) (a0_3 : ByteArray) (A0_4 : Option Addr) (c0_4 : Nat) (l0_4 : List (S57)) (a1 : Int) (r : Int) (w : World) (hs0_4 : Kd.F k57 w P_ A0_4 l0_4.length l0_4) (hc0_4 : l0_4.length ≤ c0_4) (h : ber_depth.f k a0_0 a0_1 a0_2 a0_3 l0_4 a1 = some r),
  Calls Try.prog 99 #[.agg #[.int .i64 a0_0, .bool a0_1, .int .i64 a0_2, .string a0_3, .slice A0_4 l0_4.length c0_4], .int .i64 a1] w (fun e w' => e = .returned (.int .i64 r) ∧ Below w.heap.size w w') := by
 induction k using Nat.strongRecOn with
 | _ k ih =>
 intro P_ a0_0 a0_1 a0_2 a0_3 A0_4 c0_4 l0_4 a1 r w hs0_4 hc0_4 h
 cases k with
 | zero => exact absurd h (by simp [ber_depth.f])
 | succ k1 =>
 simp only [ber_depth.f] at h
 have HH := Aside0.mk h
 clear h
 have HF0_4 := zfp hs0_4
 clear hs0_4 hc0_4
 have HB := Aside0.mk (Below.refl w.heap.size w)
 have hu57 := Try.underlying57
 go_enter Try.func99, Try.ntmps99
 go_wp2_with ((with_reducible refine gd 2 rfl ?_); refine zb 2 57 #[.int .i64 a0_0, .bool a0_1, .int .i64 a0_2, .string a0_3, .slice A0_4 l0_4.length c0_4] (h := ?_); intro g1 hg w2 BKg1 hb)
 refine Stop.go ?_
 replace HF0_4 := zfe HF0_4.out hg hb
 replace HB := zhb HB.out hb
 clear hg hb
 obtain ⟨j3, j4, j5, j6, j7, j8, j9, ja, jb, jc⟩ := MB.lay5 BKg1.out
 replace HH := zqe HH
 rcases HH with ⟨HH, hk14, hk15⟩ | ⟨HH, hk16, hk17⟩
 ·have H := HH.out
  obtain rfl := Option.some.inj H
  clear HH
  go_wp2
  go_ret
  exact ⟨by first | rfl | (simp; done) | (simp [*]; done), HB.out⟩
 go_wp2
 go_loopg [5, 13] k1 (fun kq u5 u13 w' => ∃ (x18 : Int) (x19 : Int), u5 = .int .i64 x18 ∧ u13 = .int .i64 x19 ∧ Aside0 ((ber_depth.l0 kq x18 x19 a1 l0_4) = some r) ∧ Aside0 (kq ≤ k1) ∧ Aside0 (Kd.F k57 w' (fun k_ => (P_ k_ ∨ w.heap.size ≤ k_) ∧ k_ ≠ g1) A0_4 l0_4.length l0_4) ∧ Aside0 (w'.heap[g1]? = some (.cells #[.int .i64 a0_0, .bool a0_1, .int .i64 a0_2, .string a0_3, .slice A0_4 l0_4.length c0_4] 57 (0, 0))) ∧ Aside0 (Below w.heap.size w w'))
 case atStart => exact ⟨0, 0, (by first | rfl | (simp; done) | (simp [*]; done)), (by first | rfl | (simp; done) | (simp [*]; done)), HH, ⟨Nat.le_refl _⟩, ⟨(Kd.F_mono (ok := (fun k_ => (P_ k_ ∨ w.heap.size ≤ k_) ∧ k_ ≠ g1)) HF0_4.out (fun k_ hk_ => hk_))⟩, ⟨BKg1.out⟩, ⟨HB.out⟩⟩
 case round =>
  clear j3 j4 j5 j6 j7 j8 j9 ja jb jc
  clear hk16
  clear hk17
  clear HH
  clear HF0_4 BKg1 HB
  obtain ⟨x18, x19, rfl, rfl, HA, HK0, HF0_4, BKg1, HB⟩ := hrel
  obtain ⟨w21, rfl⟩ : ∃ wo_ : World, wo_ = wr := ⟨_, rfl⟩
  cases gk with
  | zero => exact absurd HA.out (by simp [ber_depth.l0])
  | succ k20 =>
   have H := HA.out
   clear HA
   simp only [ber_depth.l0] at H
   have HH := Aside0.mk H
   clear H
   obtain ⟨jm, jn, jo, jp, jq, jr, js, jt, ju, jv⟩ := MB.lay5 BKg1.out
   replace HH := zqt HH
   rcases HH with ⟨HH, hk33, hk34⟩ | ⟨HH, hk110, hk111⟩
   ·replace HH := zqdo HH
    obtain ⟨HH, hk36⟩ := HH
    have p37 : 0 ≤ (x19 : Int) := of_decide_eq_true (by first | (with_reducible assumption) | assumption)
    have q37 : x19 < (l0_4.length : Int) := of_decide_eq_true (by first | (with_reducible assumption) | assumption)
    obtain ⟨ad37, A37_4, c37_4, e37, hx37_0, hx37_1, hx37_2, hx37_3, hx37_4, hl37_4, hi37_4⟩ := atF_T57 HF0_4.out x19 p37 q37
    cases e37
    have HF37_4 := Aside0.mk hi37_4
    have HL37_4 := Aside0.mk hl37_4
    clear hi37_4 hl37_4
    replace p37 := eq_true p37
    replace q37 := eq_true q37
    go_wp2_with ((with_reducible refine gd 7 rfl ?_); refine zb 7 57 #[.int .i64 0, .bool false, .int .i64 0, .string (⟨#[]⟩ : ByteArray), .slice none 0 0] (h := ?_); intro g38 hg w39 BKg38 hb)
    refine Stop.go ?_
    have GEg38 := zge hg (below_size HB.out)
    have NEg1_g38 := znq hg BKg1.out
    replace HF0_4 := zfe HF0_4.out hg hb
    replace HF37_4 := zfe HF37_4.out hg hb
    replace BKg1 := zbb BKg1.out hb
    replace HB := zhb HB.out hb
    clear hg hb
    clear jm jn jo jp jq jr js jt ju jv hx37_0 hx37_1 hx37_2 hx37_3 hx37_4 p37 q37
    obtain ⟨jE, jF, jG, jH, jI, jJ, jK, jL, jM, jN⟩ := MB.lay5 BKg1.out
    obtain ⟨jO, jP, jQ, jR, jS, jT, jU, jV, jW, jX⟩ := MB.lay5 BKg38.out
    go_wp2_with ((with_reducible refine gs 57 7 rfl ?_); refine zs 57 7 #[.int .i64 ((rd_T57 l0_4 x19).f0), .bool ((rd_T57 l0_4 x19).f1), .int .i64 ((rd_T57 l0_4 x19).f2), .string ((rd_T57 l0_4 x19).f3), .slice A37_4 ((rd_T57 l0_4 x19).f4).length c37_4] BKg38.out [.int .i64 ((rd_T57 l0_4 x19).f0), .bool ((rd_T57 l0_4 x19).f1), .int .i64 ((rd_T57 l0_4 x19).f2), .string ((rd_T57 l0_4 x19).f3), .slice A37_4 ((rd_T57 l0_4 x19).f4).length c37_4] (h := ?_); intro w60 hbk hg)
    refine Stop.go ?_
    replace HF0_4 := zfg HF0_4.out hg fun k_ hk_ => hk_.2
    replace HF37_4 := zfg HF37_4.out hg fun k_ hk_ => hk_.2
    replace BKg1 := zbg BKg1.out hg NEg1_g38
    replace HB := zhg HB.out hg (below_size HB.out) GEg38
    replace BKg38 := hbk
    clear hg hbk
    clear jE jF jG jH jI jJ jK jL jM jN jO jP jQ jR jS jT jU jV jW jX
    obtain ⟨jZ, j10, j11, j12, j13, j14, j15, j16, j17, j18⟩ := MB.lay5 BKg1.out
    obtain ⟨j19, j1a, j1b, j1c, j1d, j1e, j1f, j1g, j1h, j1i⟩ := MB.lay5 BKg38.out
    replace HH := zd HH
    obtain ⟨t81, At82, HH⟩ := HH
    go_wp2_with ((with_reducible refine gc 99 rfl ?_); refine zc 99 (some 21) Try.func99 #[.agg #[.int .i64 ((rd_T57 l0_4 x19).f0), .bool ((rd_T57 l0_4 x19).f1), .int .i64 ((rd_T57 l0_4 x19).f2), .string ((rd_T57 l0_4 x19).f3), .slice A37_4 ((rd_T57 l0_4 x19).f4).length c37_4], .int .i64 (wrap64 (a1 - 1))] (h := ?_); (with_reducible refine (ih k20 (by have := HK0.out; omega) (fun k_ => ((P_ k_ ∨ w.heap.size ≤ k_) ∧ k_ ≠ g1) ∧ k_ ≠ g38) ((rd_T57 l0_4 x19).f0) ((rd_T57 l0_4 x19).f1) ((rd_T57 l0_4 x19).f2) ((rd_T57 l0_4 x19).f3) _ _ ((rd_T57 l0_4 x19).f4) (wrap64 (a1 - 1)) t81 _ (Kd.F_mono (ok := (fun k_ => ((P_ k_ ∨ w.heap.size ≤ k_) ∧ k_ ≠ g1) ∧ k_ ≠ g38)) HF37_4.out (fun k_ hk_ => hk_)) HL37_4.out At82.out).mono ?_); rintro e w83 ⟨rfl, hb⟩; refine ⟨_, rfl, ?_⟩)
    refine Stop.go ?_
    replace HF0_4 := zfb HF0_4.out hb
    replace BKg1 := zbb BKg1.out hb
    replace BKg38 := zbb BKg38.out hb
    replace HB := zhb HB.out hb
    clear hb
    clear jZ j10 j11 j12 j13 j14 j15 j16 j17 j18 j19 j1a j1b j1c j1d j1e j1f j1g j1h j1i
    obtain ⟨j1m, j1n, j1o, j1p, j1q, j1r, j1s, j1t, j1u, j1v⟩ := MB.lay5 BKg1.out
    obtain ⟨j1w, j1x, j1y, j1z, j1A, j1B, j1C, j1D, j1E, j1F⟩ := MB.lay5 BKg38.out
    replace HH := zqt HH
    rcases HH with ⟨HH, hk105, hk106⟩ | ⟨HH, hk107, hk108⟩
    ·go_wp2
     go_roundg k20
     case measure => have := HK0.out; omega
     case rel => exact ⟨t81, wrap64 (x19 + 1), (by first | rfl | (simp; done) | (simp [*]; done)), (by first | rfl | (simp; done) | (simp [*]; done)), HH, ⟨by have := HK0.out; omega⟩, ⟨(Kd.F_mono (ok := (fun k_ => ((P_ k_ ∨ w.heap.size ≤ k_) ∧ k_ ≠ g1) ∧ k_ ≠ g38)) HF0_4.out (fun k_ hk_ => ⟨hk_.1.1, hk_.1.2⟩))⟩, ⟨BKg1.out⟩, ⟨HB.out⟩⟩
    go_wp2
    go_roundg k20
    case measure => have := HK0.out; omega
    case rel => exact ⟨x18, wrap64 (x19 + 1), (by first | rfl | (simp; done) | (simp [*]; done)), (by first | rfl | (simp; done) | (simp [*]; done)), HH, ⟨by have := HK0.out; omega⟩, ⟨(Kd.F_mono (ok := (fun k_ => ((P_ k_ ∨ w.heap.size ≤ k_) ∧ k_ ≠ g1) ∧ k_ ≠ g38)) HF0_4.out (fun k_ hk_ => ⟨hk_.1.1, hk_.1.2⟩))⟩, ⟨BKg1.out⟩, ⟨HB.out⟩⟩
   have H := HH.out
   obtain rfl := Option.some.inj H
   clear HH
   go_wp2
   go_ret
   exact ⟨by first | rfl | (simp; done) | (simp [*]; done), HB.out⟩

/-! ### ber_Deep: function 86 -/
def ber_Deep.f (k : Nat) (a0_0 : Int) (a0_1 : Bool) (a0_2 : Int) (a0_3 : ByteArray) (l0_4 : List (S57)) : Option (Int) := (ber_depth.f k a0_0 a0_1 a0_2 a0_3 l0_4 12).bind fun t13 => (some t13)
theorem ber_Deep.mono : ∀ a0_ a1_ a2_ a3_ a4_ k, LeO (ber_Deep.f k a0_ a1_ a2_ a3_ a4_) (ber_Deep.f (k + 1) a0_ a1_ a2_ a3_ a4_) := by
 intro a0_ a1_ a2_ a3_ a4_ k
 unfold ber_Deep.f
 repeat' first
   | (with_reducible exact ber_depth.mono _ _ _ _ _ _ _)
   | (with_reducible exact LeO.refl _)
   | (with_reducible exact LeO.none _)
   | (with_reducible refine LeO.ite ?_ ?_)
   | (with_reducible refine LeO.bind ?_ (fun _ => ?_))
set_option maxHeartbeats 8000000 in
set_option maxRecDepth 100000 in
theorem ber_Deep.calls (k : Nat) (P_ : Nat → Prop) (a0_0 : Int) (a0_1 : Bool) (a0_2 : Int) (a0_3 : ByteArray) (A0_4 : Option Addr) (c0_4 : Nat) (l0_4 : List (S57)) (r : Int) (w : World) (hs0_4 : Kd.F k57 w P_ A0_4 l0_4.length l0_4) (hc0_4 : l0_4.length ≤ c0_4) (h : ber_Deep.f k a0_0 a0_1 a0_2 a0_3 l0_4 = some r) :
  Calls Try.prog 86 #[.agg #[.int .i64 a0_0, .bool a0_1, .int .i64 a0_2, .string a0_3, .slice A0_4 l0_4.length c0_4]] w (fun e w' => e = .returned (.int .i64 r) ∧ Below w.heap.size w w') := by
 have HH := Aside0.mk (show ((ber_depth.f k a0_0 a0_1 a0_2 a0_3 l0_4 12).bind fun t13 => (some t13)) = some r from h)
 clear h
 have HF0_4 := zfp hs0_4
 have HL0_4 := Aside0.mk hc0_4
 clear hs0_4 hc0_4
 have HB := Aside0.mk (Below.refl w.heap.size w)
 have hu57 := Try.underlying57
 go_enter Try.func86, Try.ntmps86
 go_wp2_with ((with_reducible refine gd 1 rfl ?_); refine zb 1 57 #[.int .i64 a0_0, .bool a0_1, .int .i64 a0_2, .string a0_3, .slice A0_4 l0_4.length c0_4] (h := ?_); intro g1 hg w2 BKg1 hb)
 refine Stop.go ?_
 replace HF0_4 := zfe HF0_4.out hg hb
 replace HB := zhb HB.out hb
 clear hg hb
 obtain ⟨j3, j4, j5, j6, j7, j8, j9, ja, jb, jc⟩ := MB.lay5 BKg1.out
 replace HH := zd HH
 obtain ⟨t13, At14, HH⟩ := HH
 go_wp2_with ((with_reducible refine gc 99 rfl ?_); refine zc 99 (some 4) Try.func99 #[.agg #[.int .i64 a0_0, .bool a0_1, .int .i64 a0_2, .string a0_3, .slice A0_4 l0_4.length c0_4], .int .i64 12] (h := ?_); (with_reducible refine (ber_depth.calls k (fun k_ => (P_ k_ ∨ w.heap.size ≤ k_) ∧ k_ ≠ g1) a0_0 a0_1 a0_2 a0_3 _ _ l0_4 12 t13 _ (Kd.F_mono (ok := (fun k_ => (P_ k_ ∨ w.heap.size ≤ k_) ∧ k_ ≠ g1)) HF0_4.out (fun k_ hk_ => hk_)) HL0_4.out At14.out).mono ?_); rintro e w15 ⟨rfl, hb⟩; refine ⟨_, rfl, ?_⟩)
 refine Stop.go ?_
 replace BKg1 := zbb BKg1.out hb
 replace HB := zhb HB.out hb
 clear hb
 clear j3 j4 j5 j6 j7 j8 j9 ja jb jc
 obtain ⟨jg, jh, ji, jj, jk, jl, jm, jn, jo, jp⟩ := MB.lay5 BKg1.out
 have H := HH.out
 obtain rfl := Option.some.inj H
 clear HH
 go_wp2
 go_ret
 exact ⟨by first | rfl | (simp; done) | (simp [*]; done), HB.out⟩

/-! ### ber_sane: function 87 -/
mutual
def ber_sane.l0 : Nat → Int → (List (S57)) → Option (Bool)
 | 0, _, _ => none
 | k + 1, x33, l0_4 => if x33 < (l0_4.length : Int) then (if 0 ≤ x33 then ((ber_sane.f k ((rd_T57 l0_4 x33).f0) ((rd_T57 l0_4 x33).f1) ((rd_T57 l0_4 x33).f2) ((rd_T57 l0_4 x33).f3) ((rd_T57 l0_4 x33).f4)).bind fun t95 => (if t95 = true then ((ber_sane.l0 k (wrap64 (x33 + 1)) l0_4)) else (some false))) else (none)) else (some true)
def ber_sane.l1 : Nat → Int → (List (S57)) → Option (Bool)
 | 0, _, _ => none
 | k + 1, x129, l0_4 => if x129 < (l0_4.length : Int) then (if 0 ≤ x129 then ((ber_sane.f k ((rd_T57 l0_4 x129).f0) ((rd_T57 l0_4 x129).f1) ((rd_T57 l0_4 x129).f2) ((rd_T57 l0_4 x129).f3) ((rd_T57 l0_4 x129).f4)).bind fun t191 => (if t191 = true then ((ber_sane.l1 k (wrap64 (x129 + 1)) l0_4)) else (some false))) else (none)) else (some true)
def ber_sane.f : Nat → Int → Bool → Int → ByteArray → (List (S57)) → Option (Bool)
 | 0, _, _, _, _, _ => none
 | k + 1, a0_0, a0_1, a0_2, a0_3, l0_4 => if a0_0 < 0 then (some false) else (if a0_0 > 3 then (some false) else (if a0_2 < 0 then (some false) else (if a0_2 > 30 then (some false) else (if a0_1 = true then (if a0_3.toList = ([] : List UInt8) then ((ber_sane.l0 k 0 l0_4)) else (some false)) else (if (l0_4.length : Int) > 0 then (some false) else ((ber_sane.l1 k 0 l0_4)))))))
end
theorem ber_sane.mono_l : ∀ k, (∀ y0 y1 y2 y3 y4, LeO (ber_sane.f k y0 y1 y2 y3 y4) (ber_sane.f (k + 1) y0 y1 y2 y3 y4)) ∧ (∀ y0 y1, LeO (ber_sane.l0 k y0 y1) (ber_sane.l0 (k + 1) y0 y1)) ∧ (∀ y0 y1, LeO (ber_sane.l1 k y0 y1) (ber_sane.l1 (k + 1) y0 y1))
 | 0 => ⟨fun _ _ _ _ _ r h => by simp [ber_sane.f] at h, fun _ _ r h => by simp [ber_sane.l0] at h, fun _ _ r h => by simp [ber_sane.l1] at h⟩
 | k + 1 => by
  obtain ⟨ih0, ih1, ih2⟩ := ber_sane.mono_l k
  refine ⟨?_, ?_, ?_⟩
  ·intro y0 y1 y2 y3 y4
   unfold ber_sane.f
   repeat' first
   | (with_reducible exact ih0 _ _ _ _ _)
   | (with_reducible exact ih1 _ _)
   | (with_reducible exact ih2 _ _)
   | (with_reducible exact LeO.refl _)
   | (with_reducible exact LeO.none _)
   | (with_reducible refine LeO.ite ?_ ?_)
   | (with_reducible refine LeO.bind ?_ (fun _ => ?_))
  ·intro y0 y1
   unfold ber_sane.l0
   repeat' first
   | (with_reducible exact ih0 _ _ _ _ _)
   | (with_reducible exact ih1 _ _)
   | (with_reducible exact ih2 _ _)
   | (with_reducible exact LeO.refl _)
   | (with_reducible exact LeO.none _)
   | (with_reducible refine LeO.ite ?_ ?_)
   | (with_reducible refine LeO.bind ?_ (fun _ => ?_))
  intro y0 y1
  unfold ber_sane.l1
  repeat' first
  | (with_reducible exact ih0 _ _ _ _ _)
  | (with_reducible exact ih1 _ _)
  | (with_reducible exact ih2 _ _)
  | (with_reducible exact LeO.refl _)
  | (with_reducible exact LeO.none _)
  | (with_reducible refine LeO.ite ?_ ?_)
  | (with_reducible refine LeO.bind ?_ (fun _ => ?_))
theorem ber_sane.mono : ∀ a0_ a1_ a2_ a3_ a4_ k, LeO (ber_sane.f k a0_ a1_ a2_ a3_ a4_) (ber_sane.f (k + 1) a0_ a1_ a2_ a3_ a4_) := by
 intro a0_ a1_ a2_ a3_ a4_ k
 obtain ⟨ih0, ih1, ih2⟩ := ber_sane.mono_l k
 exact ih0 a0_ a1_ a2_ a3_ a4_
set_option maxHeartbeats 8000000 in
set_option maxRecDepth 100000 in
theorem ber_sane.calls (k : Nat) : ∀ (P_ : Nat → Prop) (a0_0 : Int) (a0_1 : Bool) (a0_2 : Int) (a0_3 : ByteArray) (A0_4 : Option Addr) (c0_4 : Nat) (l0_4 : List (S57)) (r : Bool) (w : World) (hs0_4 : Kd.F k57 w P_ A0_4 l0_4.length l0_4) (hc0_4 : l0_4.length ≤ c0_4) (h : ber_sane.f k a0_0 a0_1 a0_2 a0_3 l0_4 = some r),
  Calls Try.prog 87 #[.agg #[.int .i64 a0_0, .bool a0_1, .int .i64 a0_2, .string a0_3, .slice A0_4 l0_4.length c0_4]] w (fun e w' => e = .returned (.bool r) ∧ Below w.heap.size w w') := by
 induction k using Nat.strongRecOn with
 | _ k ih =>
 intro P_ a0_0 a0_1 a0_2 a0_3 A0_4 c0_4 l0_4 r w hs0_4 hc0_4 h
 cases k with
 | zero => exact absurd h (by simp [ber_sane.f])
 | succ k1 =>
 simp only [ber_sane.f] at h
 have HH := Aside0.mk h
 clear h
 have HF0_4 := zfp hs0_4
 clear hs0_4 hc0_4
 have HB := Aside0.mk (Below.refl w.heap.size w)
 have hu57 := Try.underlying57
 go_enter Try.func87, Try.ntmps87
 go_wp2_with ((with_reducible refine gd 1 rfl ?_); refine zb 1 57 #[.int .i64 a0_0, .bool a0_1, .int .i64 a0_2, .string a0_3, .slice A0_4 l0_4.length c0_4] (h := ?_); intro g1 hg w2 BKg1 hb)
 refine Stop.go ?_
 replace HF0_4 := zfe HF0_4.out hg hb
 replace HB := zhb HB.out hb
 clear hg hb
 obtain ⟨j3, j4, j5, j6, j7, j8, j9, ja, jb, jc⟩ := MB.lay5 BKg1.out
 replace HH := zqt HH
 rcases HH with ⟨HH, hk14, hk15⟩ | ⟨HH, hk16, hk17⟩
 ·have H := HH.out
  obtain rfl := Option.some.inj H
  clear HH
  go_wp2
  go_ret
  exact ⟨by first | rfl | (simp; done) | (simp [*]; done), HB.out⟩
 replace HH := zqg HH
 rcases HH with ⟨HH, hk19⟩ | ⟨HH, hk20⟩
 ·have H := HH.out
  obtain rfl := Option.some.inj H
  clear HH
  go_wp2
  go_ret
  exact ⟨by first | rfl | (simp; done) | (simp [*]; done), HB.out⟩
 replace HH := zqt HH
 rcases HH with ⟨HH, hk22, hk23⟩ | ⟨HH, hk24, hk25⟩
 ·have H := HH.out
  obtain rfl := Option.some.inj H
  clear HH
  go_wp2
  go_ret
  exact ⟨by first | rfl | (simp; done) | (simp [*]; done), HB.out⟩
 replace HH := zqg HH
 rcases HH with ⟨HH, hk27⟩ | ⟨HH, hk28⟩
 ·have H := HH.out
  obtain rfl := Option.some.inj H
  clear HH
  go_wp2
  go_ret
  exact ⟨by first | rfl | (simp; done) | (simp [*]; done), HB.out⟩
 by_cases c29 : a0_1 = true
 ·replace HH := MW.hpos HH c29
  subst c29
  replace HH := zqe HH
  rcases HH with ⟨HH, hk31, hk32⟩ | ⟨HH, hk122, hk123⟩
  ·go_wp2
   go_loopg [44] k1 (fun kq u44 w' => ∃ (x33 : Int), u44 = .int .i64 x33 ∧ Aside0 ((ber_sane.l0 kq x33 l0_4) = some r) ∧ Aside0 (kq ≤ k1) ∧ Aside0 (Kd.F k57 w' (fun k_ => (P_ k_ ∨ w.heap.size ≤ k_) ∧ k_ ≠ g1) A0_4 l0_4.length l0_4) ∧ Aside0 (w'.heap[g1]? = some (.cells #[.int .i64 a0_0, .bool true, .int .i64 a0_2, .string a0_3, .slice A0_4 l0_4.length c0_4] 57 (0, 0))) ∧ Aside0 (Below w.heap.size w w'))
   case atStart => exact ⟨0, (by first | rfl | (simp; done) | (simp [*]; done)), HH, ⟨Nat.le_refl _⟩, ⟨(Kd.F_mono (ok := (fun k_ => (P_ k_ ∨ w.heap.size ≤ k_) ∧ k_ ≠ g1)) HF0_4.out (fun k_ hk_ => hk_))⟩, ⟨BKg1.out⟩, ⟨HB.out⟩⟩
   case round =>
    clear j3 j4 j5 j6 j7 j8 j9 ja jb jc
    clear hk16
    clear hk17
    clear hk20
    clear hk24
    clear hk25
    clear hk28
    clear hk31
    clear hk32
    clear HH
    clear HF0_4 BKg1 HB
    obtain ⟨x33, rfl, HA, HK0, HF0_4, BKg1, HB⟩ := hrel
    obtain ⟨w35, rfl⟩ : ∃ wo_ : World, wo_ = wr := ⟨_, rfl⟩
    cases gk with
    | zero => exact absurd HA.out (by simp [ber_sane.l0])
    | succ k34 =>
     have H := HA.out
     clear HA
     simp only [ber_sane.l0] at H
     have HH := Aside0.mk H
     clear H
     obtain ⟨jA, jB, jC, jD, jE, jF, jG, jH, jI, jJ⟩ := MB.lay5 BKg1.out
     replace HH := zqt HH
     rcases HH with ⟨HH, hk47, hk48⟩ | ⟨HH, hk120, hk121⟩
     ·replace HH := zqdo HH
      obtain ⟨HH, hk50⟩ := HH
      have p51 : 0 ≤ (x33 : Int) := of_decide_eq_true (by first | (with_reducible assumption) | assumption)
      have q51 : x33 < (l0_4.length : Int) := of_decide_eq_true (by first | (with_reducible assumption) | assumption)
      obtain ⟨ad51, A51_4, c51_4, e51, hx51_0, hx51_1, hx51_2, hx51_3, hx51_4, hl51_4, hi51_4⟩ := atF_T57 HF0_4.out x33 p51 q51
      cases e51
      have HF51_4 := Aside0.mk hi51_4
      have HL51_4 := Aside0.mk hl51_4
      clear hi51_4 hl51_4
      replace p51 := eq_true p51
      replace q51 := eq_true q51
      go_wp2_with ((with_reducible refine gd 4 rfl ?_); refine zb 4 57 #[.int .i64 0, .bool false, .int .i64 0, .string (⟨#[]⟩ : ByteArray), .slice none 0 0] (h := ?_); intro g52 hg w53 BKg52 hb)
      refine Stop.go ?_
      have GEg52 := zge hg (below_size HB.out)
      have NEg1_g52 := znq hg BKg1.out
      replace HF0_4 := zfe HF0_4.out hg hb
      replace HF51_4 := zfe HF51_4.out hg hb
      replace BKg1 := zbb BKg1.out hb
      replace HB := zhb HB.out hb
      clear hg hb
      clear jA jB jC jD jE jF jG jH jI jJ hx51_0 hx51_1 hx51_2 hx51_3 hx51_4 p51 q51
      obtain ⟨jS, jT, jU, jV, jW, jX, jY, jZ, j10, j11⟩ := MB.lay5 BKg1.out
      obtain ⟨j12, j13, j14, j15, j16, j17, j18, j19, j1a, j1b⟩ := MB.lay5 BKg52.out
      go_wp2_with ((with_reducible refine gs 57 4 rfl ?_); refine zs 57 4 #[.int .i64 ((rd_T57 l0_4 x33).f0), .bool ((rd_T57 l0_4 x33).f1), .int .i64 ((rd_T57 l0_4 x33).f2), .string ((rd_T57 l0_4 x33).f3), .slice A51_4 ((rd_T57 l0_4 x33).f4).length c51_4] BKg52.out [.int .i64 ((rd_T57 l0_4 x33).f0), .bool ((rd_T57 l0_4 x33).f1), .int .i64 ((rd_T57 l0_4 x33).f2), .string ((rd_T57 l0_4 x33).f3), .slice A51_4 ((rd_T57 l0_4 x33).f4).length c51_4] (h := ?_); intro w74 hbk hg)
      refine Stop.go ?_
      replace HF0_4 := zfg HF0_4.out hg fun k_ hk_ => hk_.2
      replace HF51_4 := zfg HF51_4.out hg fun k_ hk_ => hk_.2
      replace BKg1 := zbg BKg1.out hg NEg1_g52
      replace HB := zhg HB.out hg (below_size HB.out) GEg52
      replace BKg52 := hbk
      clear hg hbk
      clear jS jT jU jV jW jX jY jZ j10 j11 j12 j13 j14 j15 j16 j17 j18 j19 j1a j1b
      obtain ⟨j1d, j1e, j1f, j1g, j1h, j1i, j1j, j1k, j1l, j1m⟩ := MB.lay5 BKg1.out
      obtain ⟨j1n, j1o, j1p, j1q, j1r, j1s, j1t, j1u, j1v, j1w⟩ := MB.lay5 BKg52.out
      replace HH := zd HH
      obtain ⟨t95, At96, HH⟩ := HH
      go_wp2_with ((with_reducible refine gc 87 rfl ?_); refine zc 87 (some 49) Try.func87 #[.agg #[.int .i64 ((rd_T57 l0_4 x33).f0), .bool ((rd_T57 l0_4 x33).f1), .int .i64 ((rd_T57 l0_4 x33).f2), .string ((rd_T57 l0_4 x33).f3), .slice A51_4 ((rd_T57 l0_4 x33).f4).length c51_4]] (h := ?_); (with_reducible refine (ih k34 (by have := HK0.out; omega) (fun k_ => ((P_ k_ ∨ w.heap.size ≤ k_) ∧ k_ ≠ g1) ∧ k_ ≠ g52) ((rd_T57 l0_4 x33).f0) ((rd_T57 l0_4 x33).f1) ((rd_T57 l0_4 x33).f2) ((rd_T57 l0_4 x33).f3) _ _ ((rd_T57 l0_4 x33).f4) t95 _ (Kd.F_mono (ok := (fun k_ => ((P_ k_ ∨ w.heap.size ≤ k_) ∧ k_ ≠ g1) ∧ k_ ≠ g52)) HF51_4.out (fun k_ hk_ => hk_)) HL51_4.out At96.out).mono ?_); rintro e w97 ⟨rfl, hb⟩; refine ⟨_, rfl, ?_⟩)
      refine Stop.go ?_
      replace HF0_4 := zfb HF0_4.out hb
      replace BKg1 := zbb BKg1.out hb
      replace BKg52 := zbb BKg52.out hb
      replace HB := zhb HB.out hb
      clear hb
      clear j1d j1e j1f j1g j1h j1i j1j j1k j1l j1m j1n j1o j1p j1q j1r j1s j1t j1u j1v j1w
      obtain ⟨j1A, j1B, j1C, j1D, j1E, j1F, j1G, j1H, j1I, j1J⟩ := MB.lay5 BKg1.out
      obtain ⟨j1K, j1L, j1M, j1N, j1O, j1P, j1Q, j1R, j1S, j1T⟩ := MB.lay5 BKg52.out
      by_cases c118 : t95 = true
      ·replace HH := MW.hpos HH c118
       subst c118
       go_wp2
       go_roundg k34
       case measure => have := HK0.out; omega
       case rel => exact ⟨wrap64 (x33 + 1), (by first | rfl | (simp; done) | (simp [*]; done)), HH, ⟨by have := HK0.out; omega⟩, ⟨(Kd.F_mono (ok := (fun k_ => ((P_ k_ ∨ w.heap.size ≤ k_) ∧ k_ ≠ g1) ∧ k_ ≠ g52)) HF0_4.out (fun k_ hk_ => ⟨hk_.1.1, hk_.1.2⟩))⟩, ⟨BKg1.out⟩, ⟨HB.out⟩⟩
      replace HH := MW.hneg HH c118
      replace c118 := Bool.eq_false_iff.mpr c118
      subst c118
      have H := HH.out
      obtain rfl := Option.some.inj H
      clear HH
      go_wp2
      go_ret
      exact ⟨by first | rfl | (simp; done) | (simp [*]; done), HB.out⟩
     have H := HH.out
     obtain rfl := Option.some.inj H
     clear HH
     go_wp2
     go_ret
     exact ⟨by first | rfl | (simp; done) | (simp [*]; done), HB.out⟩
  have H := HH.out
  obtain rfl := Option.some.inj H
  clear HH
  go_wp2
  go_ret
  exact ⟨by first | rfl | (simp; done) | (simp [*]; done), HB.out⟩
 replace HH := MW.hneg HH c29
 replace c29 := Bool.eq_false_iff.mpr c29
 subst c29
 replace HH := zqK 0 HH
 rcases HH with ⟨HH, hk125, hk126⟩ | ⟨HH, hk127, hk128⟩
 ·have H := HH.out
  obtain rfl := Option.some.inj H
  clear HH
  go_wp2
  go_ret
  exact ⟨by first | rfl | (simp; done) | (simp [*]; done), HB.out⟩
 go_wp2
 go_loopg [44] k1 (fun kq u44 w' => ∃ (x129 : Int), u44 = .int .i64 x129 ∧ Aside0 ((ber_sane.l1 kq x129 l0_4) = some r) ∧ Aside0 (kq ≤ k1) ∧ Aside0 (Kd.F k57 w' (fun k_ => (P_ k_ ∨ w.heap.size ≤ k_) ∧ k_ ≠ g1) A0_4 l0_4.length l0_4) ∧ Aside0 (w'.heap[g1]? = some (.cells #[.int .i64 a0_0, .bool false, .int .i64 a0_2, .string a0_3, .slice A0_4 l0_4.length c0_4] 57 (0, 0))) ∧ Aside0 (Below w.heap.size w w'))
 case atStart => exact ⟨0, (by first | rfl | (simp; done) | (simp [*]; done)), HH, ⟨Nat.le_refl _⟩, ⟨(Kd.F_mono (ok := (fun k_ => (P_ k_ ∨ w.heap.size ≤ k_) ∧ k_ ≠ g1)) HF0_4.out (fun k_ hk_ => hk_))⟩, ⟨BKg1.out⟩, ⟨HB.out⟩⟩
 case round =>
  clear j3 j4 j5 j6 j7 j8 j9 ja jb jc
  clear hk16
  clear hk17
  clear hk20
  clear hk24
  clear hk25
  clear hk28
  clear hk127
  clear hk128
  clear HH
  clear HF0_4 BKg1 HB
  obtain ⟨x129, rfl, HA, HK1, HF0_4, BKg1, HB⟩ := hrel
  obtain ⟨w131, rfl⟩ : ∃ wo_ : World, wo_ = wr := ⟨_, rfl⟩
  cases gk with
  | zero => exact absurd HA.out (by simp [ber_sane.l1])
  | succ k130 =>
   have H := HA.out
   clear HA
   simp only [ber_sane.l1] at H
   have HH := Aside0.mk H
   clear H
   obtain ⟨j28, j29, j2a, j2b, j2c, j2d, j2e, j2f, j2g, j2h⟩ := MB.lay5 BKg1.out
   replace HH := zqt HH
   rcases HH with ⟨HH, hk143, hk144⟩ | ⟨HH, hk216, hk217⟩
   ·replace HH := zqdo HH
    obtain ⟨HH, hk146⟩ := HH
    have p147 : 0 ≤ (x129 : Int) := of_decide_eq_true (by first | (with_reducible assumption) | assumption)
    have q147 : x129 < (l0_4.length : Int) := of_decide_eq_true (by first | (with_reducible assumption) | assumption)
    obtain ⟨ad147, A147_4, c147_4, e147, hx147_0, hx147_1, hx147_2, hx147_3, hx147_4, hl147_4, hi147_4⟩ := atF_T57 HF0_4.out x129 p147 q147
    cases e147
    have HF147_4 := Aside0.mk hi147_4
    have HL147_4 := Aside0.mk hl147_4
    clear hi147_4 hl147_4
    replace p147 := eq_true p147
    replace q147 := eq_true q147
    go_wp2_with ((with_reducible refine gd 4 rfl ?_); refine zb 4 57 #[.int .i64 0, .bool false, .int .i64 0, .string (⟨#[]⟩ : ByteArray), .slice none 0 0] (h := ?_); intro g148 hg w149 BKg148 hb)
    refine Stop.go ?_
    have GEg148 := zge hg (below_size HB.out)
    have NEg1_g148 := znq hg BKg1.out
    replace HF0_4 := zfe HF0_4.out hg hb
    replace HF147_4 := zfe HF147_4.out hg hb
    replace BKg1 := zbb BKg1.out hb
    replace HB := zhb HB.out hb
    clear hg hb
    clear j28 j29 j2a j2b j2c j2d j2e j2f j2g j2h hx147_0 hx147_1 hx147_2 hx147_3 hx147_4 p147 q147
    obtain ⟨j2q, j2r, j2s, j2t, j2u, j2v, j2w, j2x, j2y, j2z⟩ := MB.lay5 BKg1.out
    obtain ⟨j2A, j2B, j2C, j2D, j2E, j2F, j2G, j2H, j2I, j2J⟩ := MB.lay5 BKg148.out
    go_wp2_with ((with_reducible refine gs 57 4 rfl ?_); refine zs 57 4 #[.int .i64 ((rd_T57 l0_4 x129).f0), .bool ((rd_T57 l0_4 x129).f1), .int .i64 ((rd_T57 l0_4 x129).f2), .string ((rd_T57 l0_4 x129).f3), .slice A147_4 ((rd_T57 l0_4 x129).f4).length c147_4] BKg148.out [.int .i64 ((rd_T57 l0_4 x129).f0), .bool ((rd_T57 l0_4 x129).f1), .int .i64 ((rd_T57 l0_4 x129).f2), .string ((rd_T57 l0_4 x129).f3), .slice A147_4 ((rd_T57 l0_4 x129).f4).length c147_4] (h := ?_); intro w170 hbk hg)
    refine Stop.go ?_
    replace HF0_4 := zfg HF0_4.out hg fun k_ hk_ => hk_.2
    replace HF147_4 := zfg HF147_4.out hg fun k_ hk_ => hk_.2
    replace BKg1 := zbg BKg1.out hg NEg1_g148
    replace HB := zhg HB.out hg (below_size HB.out) GEg148
    replace BKg148 := hbk
    clear hg hbk
    clear j2q j2r j2s j2t j2u j2v j2w j2x j2y j2z j2A j2B j2C j2D j2E j2F j2G j2H j2I j2J
    obtain ⟨j2L, j2M, j2N, j2O, j2P, j2Q, j2R, j2S, j2T, j2U⟩ := MB.lay5 BKg1.out
    obtain ⟨j2V, j2W, j2X, j2Y, j2Z, j30, j31, j32, j33, j34⟩ := MB.lay5 BKg148.out
    replace HH := zd HH
    obtain ⟨t191, At192, HH⟩ := HH
    go_wp2_with ((with_reducible refine gc 87 rfl ?_); refine zc 87 (some 49) Try.func87 #[.agg #[.int .i64 ((rd_T57 l0_4 x129).f0), .bool ((rd_T57 l0_4 x129).f1), .int .i64 ((rd_T57 l0_4 x129).f2), .string ((rd_T57 l0_4 x129).f3), .slice A147_4 ((rd_T57 l0_4 x129).f4).length c147_4]] (h := ?_); (with_reducible refine (ih k130 (by have := HK1.out; omega) (fun k_ => ((P_ k_ ∨ w.heap.size ≤ k_) ∧ k_ ≠ g1) ∧ k_ ≠ g148) ((rd_T57 l0_4 x129).f0) ((rd_T57 l0_4 x129).f1) ((rd_T57 l0_4 x129).f2) ((rd_T57 l0_4 x129).f3) _ _ ((rd_T57 l0_4 x129).f4) t191 _ (Kd.F_mono (ok := (fun k_ => ((P_ k_ ∨ w.heap.size ≤ k_) ∧ k_ ≠ g1) ∧ k_ ≠ g148)) HF147_4.out (fun k_ hk_ => hk_)) HL147_4.out At192.out).mono ?_); rintro e w193 ⟨rfl, hb⟩; refine ⟨_, rfl, ?_⟩)
    refine Stop.go ?_
    replace HF0_4 := zfb HF0_4.out hb
    replace BKg1 := zbb BKg1.out hb
    replace BKg148 := zbb BKg148.out hb
    replace HB := zhb HB.out hb
    clear hb
    clear j2L j2M j2N j2O j2P j2Q j2R j2S j2T j2U j2V j2W j2X j2Y j2Z j30 j31 j32 j33 j34
    obtain ⟨j38, j39, j3a, j3b, j3c, j3d, j3e, j3f, j3g, j3h⟩ := MB.lay5 BKg1.out
    obtain ⟨j3i, j3j, j3k, j3l, j3m, j3n, j3o, j3p, j3q, j3r⟩ := MB.lay5 BKg148.out
    by_cases c214 : t191 = true
    ·replace HH := MW.hpos HH c214
     subst c214
     go_wp2
     go_roundg k130
     case measure => have := HK1.out; omega
     case rel => exact ⟨wrap64 (x129 + 1), (by first | rfl | (simp; done) | (simp [*]; done)), HH, ⟨by have := HK1.out; omega⟩, ⟨(Kd.F_mono (ok := (fun k_ => ((P_ k_ ∨ w.heap.size ≤ k_) ∧ k_ ≠ g1) ∧ k_ ≠ g148)) HF0_4.out (fun k_ hk_ => ⟨hk_.1.1, hk_.1.2⟩))⟩, ⟨BKg1.out⟩, ⟨HB.out⟩⟩
    replace HH := MW.hneg HH c214
    replace c214 := Bool.eq_false_iff.mpr c214
    subst c214
    have H := HH.out
    obtain rfl := Option.some.inj H
    clear HH
    go_wp2
    go_ret
    exact ⟨by first | rfl | (simp; done) | (simp [*]; done), HB.out⟩
   have H := HH.out
   obtain rfl := Option.some.inj H
   clear HH
   go_wp2
   go_ret
   exact ⟨by first | rfl | (simp; done) | (simp [*]; done), HB.out⟩

/-! ### ber_sheaf_put: function 89 -/
def ber_sheaf_put.f (l0_1 : List Int) (a0_2 : Bool) (a1 : ByteArray) : Option (List Int × Bool) := if a0_2 = true then (some (l0_1, true)) else (if (wrap64 ((l0_1.length : Int) + (a1.size : Int))) > 4000 then (some (l0_1, decide ((wrap64 ((l0_1.length : Int) + (a1.size : Int))) > 4000))) else (if l0_1.length + a1.size < 140737488355328 then ((some (l0_1 ++ MB.numsOf a1 : List Int)).bind fun y37 => (some (y37, decide ((wrap64 ((l0_1.length : Int) + (a1.size : Int))) > 4000)))) else (none)))
def ber_sheaf_put.Post (B_ : Nat) (g0 : Nat) (p0_0 : Value) (v0_1 : Value) (l0_1 : List Int) (a0_2 : Bool) (a1 : ByteArray) (w : World) (r1 : List Int) (r2 : Bool) (e : Ending) (w' : World) : Prop := ∃ v1'_ : Value, ∃ p0'_ : Value, e = .returned (.tuple #[]) ∧ Kd.N (Kd.int .u8) 5 w' B_ (fun k_ => (True ∧ (some k_ = (v0_1 : Value).ownBlock ∨ w.heap.size ≤ k_)) ∧ k_ ≠ g0) v1'_ r1 ∧ (p0'_ = .pointer none ∨ p0'_ = .pointer (some ⟨g0, 0, none⟩)) ∧ w'.heap[g0]? = some (.cells #[p0'_, v1'_, .bool r2] 99 (0, 0)) ∧ (∀ k_ : Nat, k_ ≠ g0 → some k_ ≠ (v0_1 : Value).ownBlock → k_ < w.heap.size → w'.heap[k_]? = w.heap[k_]?) ∧ Below B_ w w'
set_option maxHeartbeats 8000000 in
set_option maxRecDepth 100000 in
theorem ber_sheaf_put.calls (B_ : Nat) (g0 : Nat) (p0_0 : Value) (v0_1 : Value) (l0_1 : List Int) (a0_2 : Bool) (a1 : ByteArray) (r1 : List Int) (r2 : Bool) (w : World) (hB0 : B_ ≤ w.heap.size) (hb0 : w.heap[g0]? = some (.cells #[p0_0, v0_1, .bool a0_2] 99 (0, 0))) (hge0 : B_ ≤ g0) (hp0_0 : p0_0 = .pointer none ∨ p0_0 = .pointer (some ⟨g0, 0, none⟩)) (hn0_1 : Kd.N (Kd.int .u8) 5 w B_ (fun k_ => (True ∧ (some k_ = (v0_1 : Value).ownBlock ∨ w.heap.size ≤ k_)) ∧ k_ ≠ g0) v0_1 l0_1) (h : ber_sheaf_put.f l0_1 a0_2 a1 = some (r1, r2)) :
  Calls Try.prog 89 #[.pointer (some ⟨g0, 0, none⟩), .string a1] w (fun e w' => ber_sheaf_put.Post B_ g0 p0_0 v0_1 l0_1 a0_2 a1 w r1 r2 e w') := by
 have HH := Aside0.mk (show (if a0_2 = true then (some (l0_1, true)) else (if (wrap64 ((l0_1.length : Int) + (a1.size : Int))) > 4000 then (some (l0_1, decide ((wrap64 ((l0_1.length : Int) + (a1.size : Int))) > 4000))) else (if l0_1.length + a1.size < 140737488355328 then ((some (l0_1 ++ MB.numsOf a1 : List Int)).bind fun y37 => (some (y37, decide ((wrap64 ((l0_1.length : Int) + (a1.size : Int))) > 4000)))) else (none)))) = some (r1, r2) from h)
 clear h
 obtain ⟨P0_, HPO⟩ : ∃ P0_ : Nat → Prop, P0_ = (fun k_ => k_ ≠ g0 ∧ some k_ ≠ (v0_1 : Value).ownBlock) := ⟨_, rfl⟩
 have HFfr := Aside0.mk (MB.frK_new w (fun k_ hk_ => by rw [HPO] at hk_; exact ⟨⟨trivial, hk_.2⟩, hk_.1⟩) : Kd.F (MB.frK w P0_) w (fun k_ => (True ∧ some k_ ≠ (v0_1 : Value).ownBlock) ∧ k_ ≠ g0) (some ⟨0, 0, none⟩) [()].length [()])
 replace HPO := Aside0.mk HPO
 have hB_ := Aside0.mk hB0
 have HPp0_0 := Aside0.mk hp0_0
 clear hp0_0
 have HN0_1 := Aside0.mk hn0_1
 clear hn0_1
 have BKg0 := Aside0.mk hb0
 have GEg0 := Aside0.mk hge0
 clear hb0 hge0
 obtain ⟨j1, j2, j3, j4, j5, j6⟩ := MB.lay3 BKg0.out
 have HB := Aside0.mk (Below.refl B_ w)
 go_enter Try.func89, Try.ntmps89
 by_cases c7 : a0_2 = true
 ·replace HH := MW.hpos HH c7
  subst c7
  obtain ⟨A9, cp10, he_⟩ := Kd.N_slice HN0_1.out
  subst he_
  go_wp2_with ((with_reducible refine gs 4 20 rfl ?_); refine zs 4 20 #[p0_0, (.slice A9 l0_1.length cp10), .bool true] BKg0.out [.bool true] (h := ?_); intro w8 hbk hg)
  refine Stop.go ?_
  replace HFfr := zfg HFfr.out hg fun k_ hk_ => hk_.2
  replace HN0_1 := zng HN0_1.out hg fun k_ hk_ => hk_.2
  replace HB := zhg HB.out hg (Nat.le_trans hB_.out (MB.bsize (a := B_) HB.out)) GEg0
  replace BKg0 := hbk
  clear hg hbk
  clear j1 j2 j3 j4 j5 j6
  obtain ⟨jb, jc, jd, je, jf, jg⟩ := MB.lay3 BKg0.out
  have H := HH.out
  simp only [Option.some.injEq, Prod.mk.injEq] at H
  obtain ⟨rfl, rfl⟩ := H
  clear HH
  go_wp2
  go_end0
  unfold ber_sheaf_put.Post
  exact ⟨((.slice A9 l0_1.length cp10)), (p0_0), by first | rfl | (simp; done) | (simp [*]; done), (Kd.N_mono (ok := (fun k_ => (True ∧ (some k_ = ((.slice A9 l0_1.length cp10) : Value).ownBlock ∨ w.heap.size ≤ k_)) ∧ k_ ≠ g0)) HN0_1.out (fun k_ hk_ => ⟨⟨trivial, hk_.1.2⟩, hk_.2⟩)), HPp0_0.out, (by first | exact BKg0.out | (have h_ := BKg0.out; simp only [*] at h_; exact h_) | (have h_ := BKg0.out; simp [*] at h_ ⊢; exact h_)), (fun k_ hg_ hv_ hlt_ => MB.frK_out HFfr.out k_ (by rw [HPO.out]; exact ⟨hg_, hv_⟩) hlt_), HB.out⟩
 replace HH := MW.hneg HH c7
 replace c7 := Bool.eq_false_iff.mpr c7
 subst c7
 go_wp2_with (((with_reducible refine gate_callee (f := 100) rfl ?_); (try (refine gate_guard (by rfl) ?_; dsimp only)); refine goesL_ (some 13) rfl rfl Try.func100 (by kernel_rfl) rfl #[.pointer (some ⟨g0, 0, none⟩)] rfl (by (try simp only [List.map_toArray, List.map_cons, List.map_nil]); first | done | rfl) ?_); refine stop_ ?_)
 refine Stop.go ?_
 go_enter Try.func100, Try.ntmps100
 obtain ⟨A17, cp18, he_⟩ := Kd.N_slice HN0_1.out
 subst he_
 go_wp2
 go_ret
 refine ⟨_, rfl, ?_⟩
 go_wp2_with ((with_reducible refine gs 4 20 rfl ?_); refine zs 4 20 #[p0_0, (.slice A17 l0_1.length cp18), .bool (decide ((wrap64 ((l0_1.length : Int) + (a1.size : Int))) > 4000))] BKg0.out [.bool (decide ((wrap64 ((l0_1.length : Int) + (a1.size : Int))) > 4000))] (h := ?_); intro w19 hbk hg)
 refine Stop.go ?_
 replace HFfr := zfg HFfr.out hg fun k_ hk_ => hk_.2
 replace HN0_1 := zng HN0_1.out hg fun k_ hk_ => hk_.2
 replace HB := zhg HB.out hg (Nat.le_trans hB_.out (MB.bsize (a := B_) HB.out)) GEg0
 replace BKg0 := hbk
 clear hg hbk
 clear j1 j2 j3 j4 j5 j6
 obtain ⟨jk, jl, jm, jn, jo, jp⟩ := MB.lay3 BKg0.out
 replace HH := zqg HH
 rcases HH with ⟨HH, hk27⟩ | ⟨HH, hk28⟩
 ·have H := HH.out
  simp only [Option.some.injEq, Prod.mk.injEq] at H
  obtain ⟨rfl, rfl⟩ := H
  clear HH
  go_wp2
  go_end0
  unfold ber_sheaf_put.Post
  exact ⟨((.slice A17 l0_1.length cp18)), (p0_0), by first | rfl | (simp; done) | (simp [*]; done), (Kd.N_mono (ok := (fun k_ => (True ∧ (some k_ = ((.slice A17 l0_1.length cp18) : Value).ownBlock ∨ w.heap.size ≤ k_)) ∧ k_ ≠ g0)) HN0_1.out (fun k_ hk_ => ⟨⟨trivial, hk_.1.2⟩, hk_.2⟩)), HPp0_0.out, (by first | exact BKg0.out | (have h_ := BKg0.out; simp only [*] at h_; exact h_) | (have h_ := BKg0.out; simp [*] at h_ ⊢; exact h_)), (fun k_ hg_ hv_ hlt_ => MB.frK_out HFfr.out k_ (by rw [HPO.out]; exact ⟨hg_, hv_⟩) hlt_), HB.out⟩
 go_wp2_with (((with_reducible refine gate_callee (f := 101) rfl ?_); (try (refine gate_guard (by rfl) ?_; dsimp only)); refine goesL_ (some 30) rfl rfl Try.func101 (by kernel_rfl) rfl #[.pointer (some ⟨g0, 0, none⟩), .string a1] rfl (by (try simp only [List.map_toArray, List.map_cons, List.map_nil]); first | done | rfl) ?_); refine stop_ ?_)
 refine Stop.go ?_
 go_enter Try.func101, Try.ntmps101
 go_wp2_with (((with_reducible refine gc 103 rfl ?_); refine zc 103 (some 7) Try.func103 #[.pointer (some ⟨g0, 0, none⟩)] (h := ?_); refine (copyCheck103 g0 99 (p0_0) [(.slice A17 l0_1.length cp18), .bool (decide ((wrap64 ((l0_1.length : Int) + (a1.size : Int))) > 4000))] _ BKg0.out HPp0_0.out (by kernel_rfl)).mono ?_; rintro e w29 ⟨rfl, hbk, hg⟩; refine ⟨_, rfl, ?_⟩); replace hbk := Aside0.mk hbk)
 refine Stop.go ?_
 replace hbk := hbk.out
 replace HFfr := Aside0.mk (Kd.F_grown (ok := (fun k_ => (True ∧ some k_ ≠ ((.slice A17 l0_1.length cp18) : Value).ownBlock) ∧ k_ ≠ g0)) HFfr.out hg (fun k_ hk_ he_ => hk_.2 (Option.some.inj he_)))
 replace HN0_1 := Aside0.mk (Kd.N_grown (ok := (fun k_ => (True ∧ (some k_ = ((.slice A17 l0_1.length cp18) : Value).ownBlock ∨ w.heap.size ≤ k_)) ∧ k_ ≠ g0)) HN0_1.out hg (fun k_ hk_ he_ => hk_.2 (Option.some.inj he_)))
 replace HB := Aside0.mk (Below.grown HB.out hg (Nat.le_trans hB_.out (MB.bsize (a := B_) HB.out)) (fun k_ hk_ => by injection hk_ with hk_; rw [← hk_]; exact GEg0.out))
 replace BKg0 := Aside0.mk hbk
 clear hg hbk
 clear jk jl jm jn jo jp
 obtain ⟨ju, jv, jw, jx, jy, jz⟩ := MB.lay3 BKg0.out
 obtain ⟨HH, LMc36⟩ := zlm HH
 obtain ⟨y37, hy37⟩ : ∃ y_ : List Int, y_ = (l0_1 ++ MB.numsOf a1) := ⟨_, rfl⟩
 have H : (some (y37, decide ((wrap64 ((l0_1.length : Int) + (a1.size : Int))) > 4000))) = some (r1, r2) := by rw [hy37]; exact HH.out
 replace HH := Aside0.mk H
 clear H
 have NYy37 := Aside0.mk hy37
 clear hy37
 go_wp2_with (((with_reducible refine gate_dst (N := 14) rfl ?_); (try (refine gate_guard (by rfl) ?_; dsimp only)); refine MB.N_append_str B_ rfl _ _ 95 9 5 rfl Try.underlying95 Try.underlying9 info5 ((.slice A17 l0_1.length cp18)) l0_1 a1 (fun k_ => (True ∧ (some k_ = ((.slice A17 l0_1.length cp18) : Value).ownBlock ∨ w.heap.size ≤ k_)) ∧ k_ ≠ g0) rfl rfl HN0_1.out (fun k_ h_ => ⟨⟨trivial, (.inr (Nat.le_trans (MB.bsize (a := B_) HB.out) h_))⟩, Kd.freshB (g := g0) BKg0.out k_ h_⟩) HB.out (Nat.le_trans hB_.out (MB.bsize (a := B_) HB.out)) (by first | (have := LMc36.out; simp only [List.length_nil] at *; omega) | (have := LMc36.out; simp at *; omega) | (have := LMc36.out; simp only [List.length_nil] at *; simp; omega)) ?_; intro v38 w39 hn1 hb1 hg1 hat1); replace hat1 := Aside0.mk hat1; refine stop_ ?_)
 refine Stop.go ?_
 replace hat1 := hat1.out
 replace HFfr := Aside0.mk (Kd.F_mono (Kd.F_after (v := (.slice A17 l0_1.length cp18)) (ok := (fun k_ => True ∧ k_ ≠ g0)) (Kd.F_mono (ok := (fun k_ => (True ∧ some k_ ≠ ((.slice A17 l0_1.length cp18) : Value).ownBlock) ∧ k_ ≠ g0)) HFfr.out (fun k_ hk_ => ⟨⟨hk_.1.1, hk_.2⟩, hk_.1.2⟩)) hg1 hat1) (fun k_ hk_ => hk_) : Kd.F (MB.frK w P0_) _ (fun k_ => (True ∧ k_ ≠ g0) ∧ some k_ ≠ (v38 : Value).ownBlock) _ _ _)
 replace BKg0 := Aside0.mk (blk_grown (g := g0) BKg0.out hg1 (Kd.N_away (ok := (fun k_ => (True ∧ (some k_ = ((.slice A17 l0_1.length cp18) : Value).ownBlock ∨ w.heap.size ≤ k_)) ∧ k_ ≠ g0)) HN0_1.out (fun k_ hk_ => hk_.2)))
 replace HB := Aside0.mk hb1
 clear HN0_1
 have HN40 := Aside0.mk hn1
 clear hn1 hb1 hg1 hat1
 replace HN40 := Aside0.mk (by rw [NYy37.out]; exact HN40.out : Kd.N (Kd.int .u8) 5 w39 B_ (fun k_ => (True ∧ (some k_ = ((.slice A17 l0_1.length cp18) : Value).ownBlock ∨ w.heap.size ≤ k_)) ∧ k_ ≠ g0) v38 y37)
 clear ju jv jw jx jy jz
 obtain ⟨jF, jG, jH, jI, jJ, jK⟩ := MB.lay3 BKg0.out
 obtain ⟨A48, cp49, he_⟩ := Kd.N_slice HN40.out
 subst he_
 go_wp2_with ((with_reducible refine gs 95 16 rfl ?_); refine zs 95 16 #[.pointer (some ⟨g0, 0, none⟩), (.slice A48 y37.length cp49), .bool (decide ((wrap64 ((l0_1.length : Int) + (a1.size : Int))) > 4000))] BKg0.out [(.slice A48 y37.length cp49)] (h := ?_); intro w47 hbk hg)
 refine Stop.go ?_
 replace HFfr := zfg HFfr.out hg fun k_ hk_ => hk_.1.2
 replace HN40 := zng HN40.out hg fun k_ hk_ => hk_.2
 replace HB := zhg HB.out hg (Nat.le_trans hB_.out (MB.bsize (a := B_) HB.out)) GEg0
 replace BKg0 := hbk
 clear hg hbk
 clear jF jG jH jI jJ jK
 obtain ⟨jO, jP, jQ, jR, jS, jT⟩ := MB.lay3 BKg0.out
 go_wp2
 go_ret2
 refine ⟨_, rfl, ?_⟩
 have H := HH.out
 simp only [Option.some.injEq, Prod.mk.injEq] at H
 obtain ⟨rfl, rfl⟩ := H
 clear HH
 go_wp2
 go_end0
 unfold ber_sheaf_put.Post
 exact ⟨((.slice A48 y37.length cp49)), (.pointer (some ⟨g0, 0, none⟩)), by first | rfl | (simp; done) | (simp [*]; done), (Kd.N_mono (ok := (fun k_ => (True ∧ (some k_ = ((.slice A17 l0_1.length cp18) : Value).ownBlock ∨ w.heap.size ≤ k_)) ∧ k_ ≠ g0)) HN40.out (fun k_ hk_ => ⟨⟨trivial, hk_.1.2⟩, hk_.2⟩)), (.inr rfl), (by first | exact BKg0.out | (have h_ := BKg0.out; simp only [*] at h_; exact h_) | (have h_ := BKg0.out; simp [*] at h_ ⊢; exact h_)), (fun k_ hg_ hv_ hlt_ => MB.frK_out HFfr.out k_ (by rw [HPO.out]; exact ⟨hg_, hv_⟩) hlt_), HB.out⟩

/-! ### ber_length: function 90 -/
def ber_length.f (a0 : Int) : Option (ByteArray) := if a0 < 128 then (some (strOfNums ([(a0) % 256] : List Int))) else (if a0 < 256 then (some (strOfNums ([129, (a0) % 256] : List Int))) else (some (strOfNums ([130, (a0 / 256) % 256, (a0) % 256] : List Int))))
set_option maxHeartbeats 8000000 in
set_option maxRecDepth 100000 in
theorem ber_length.calls (a0 : Int) (r : ByteArray) (w : World) (h : ber_length.f a0 = some r) :
  Calls Try.prog 90 #[.int .i64 a0] w (fun e w' => e = .returned (.string r) ∧ Below w.heap.size w w') := by
 have HH := Aside0.mk (show (if a0 < 128 then (some (strOfNums ([(a0) % 256] : List Int))) else (if a0 < 256 then (some (strOfNums ([129, (a0) % 256] : List Int))) else (some (strOfNums ([130, (a0 / 256) % 256, (a0) % 256] : List Int))))) = some r from h)
 clear h
 have HB := Aside0.mk (Below.refl w.heap.size w)
 go_enter Try.func90, Try.ntmps90
 replace HH := zqt HH
 rcases HH with ⟨HH, hk2, hk3⟩ | ⟨HH, hk12, hk13⟩
 ·go_wp2_with (((with_reducible refine gate_dst (N := 8) rfl ?_); (try (refine gate_guard (by rfl) ?_; dsimp only)); refine Kd.N_lit (Kd.int .u8) w.heap.size 5 rfl (N' := 8) rfl (xs := ([(a0) % 256] : List Int)) (inner := [.int .u8 ((a0) % 256)]) (ok := (fun k_ => (w.heap.size ≤ k_))) (okp := (fun k_ => (w.heap.size ≤ k_))) ?hr ?hp (fun _ hk_ => hk_) ?hf HB.out (below_size HB.out) (by first | simp | decide) ?_; (case hr => first | (go_simp; done) | (go_simp; rfl)); (case hp => exact (Reps.one (fun _ _ => rfl) (Reps.none _ _))); (case hf => exact (show ∀ k_, w.heap.size ≤ k_ → (fun k_ => (w.heap.size ≤ k_)) k_ from fun k_ h_ => (Nat.le_trans (below_size HB.out) h_)) _ (Nat.le_refl _)); intro v4 w5 hn1 hb1 hg1 hat1); replace hat1 := Aside0.mk hat1; refine stop_ ?_)
  refine Stop.go ?_
  replace hat1 := hat1.out
  have hbe := MW.grown_below hg1
  have hba := MW.base_of hat1
  replace HB := Aside0.mk hb1
  have HN6 := Aside0.mk hn1
  clear hn1 hb1 hg1 hat1 hbe hba
  obtain ⟨A7, cp8, he_⟩ := Kd.N_slice HN6.out
  subst he_
  have HF9 := Aside0.mk (Kd.N_F HN6.out)
  clear HN6
  have hcv11 := Kd.C_string (P := Try.prog) (A := A7) (c := cp8) Try.underlying95 Try.underlying5 Try.underlying9 (Kd.F_now HF9.out)
  (try simp only [List.length_cons, List.length_nil, Nat.reduceAdd] at hcv11)
  have H := HH.out
  obtain rfl := Option.some.inj H
  clear HH
  go_wp2
  go_ret
  exact ⟨by first | rfl | (simp; done) | (simp [*]; done), HB.out⟩
 replace HH := zqt HH
 rcases HH with ⟨HH, hk15, hk16⟩ | ⟨HH, hk25, hk26⟩
 ·go_wp2_with (((with_reducible refine gate_dst (N := 15) rfl ?_); (try (refine gate_guard (by rfl) ?_; dsimp only)); refine Kd.N_lit (Kd.int .u8) w.heap.size 5 rfl (N' := 15) rfl (xs := ([129, (a0) % 256] : List Int)) (inner := [.int .u8 129, .int .u8 ((a0) % 256)]) (ok := (fun k_ => (w.heap.size ≤ k_))) (okp := (fun k_ => (w.heap.size ≤ k_))) ?hr ?hp (fun _ hk_ => hk_) ?hf HB.out (below_size HB.out) (by first | simp | decide) ?_; (case hr => first | (go_simp; done) | (go_simp; rfl)); (case hp => exact (Reps.one (fun _ _ => rfl) (Reps.one (fun _ _ => rfl) (Reps.none _ _)))); (case hf => exact (show ∀ k_, w.heap.size ≤ k_ → (fun k_ => (w.heap.size ≤ k_)) k_ from fun k_ h_ => (Nat.le_trans (below_size HB.out) h_)) _ (Nat.le_refl _)); intro v17 w18 hn1 hb1 hg1 hat1); replace hat1 := Aside0.mk hat1; refine stop_ ?_)
  refine Stop.go ?_
  replace hat1 := hat1.out
  have hbe := MW.grown_below hg1
  have hba := MW.base_of hat1
  replace HB := Aside0.mk hb1
  have HN19 := Aside0.mk hn1
  clear hn1 hb1 hg1 hat1 hbe hba
  obtain ⟨A20, cp21, he_⟩ := Kd.N_slice HN19.out
  subst he_
  have HF22 := Aside0.mk (Kd.N_F HN19.out)
  clear HN19
  have hcv24 := Kd.C_string (P := Try.prog) (A := A20) (c := cp21) Try.underlying95 Try.underlying5 Try.underlying9 (Kd.F_now HF22.out)
  (try simp only [List.length_cons, List.length_nil, Nat.reduceAdd] at hcv24)
  have H := HH.out
  obtain rfl := Option.some.inj H
  clear HH
  go_wp2
  go_ret
  exact ⟨by first | rfl | (simp; done) | (simp [*]; done), HB.out⟩
 go_wp2_with (((with_reducible refine gate_dst (N := 22) rfl ?_); (try (refine gate_guard (by rfl) ?_; dsimp only)); refine Kd.N_lit (Kd.int .u8) w.heap.size 5 rfl (N' := 22) rfl (xs := ([130, (a0 / 256) % 256, (a0) % 256] : List Int)) (inner := [.int .u8 130, .int .u8 ((a0 / 256) % 256), .int .u8 ((a0) % 256)]) (ok := (fun k_ => (w.heap.size ≤ k_))) (okp := (fun k_ => (w.heap.size ≤ k_))) ?hr ?hp (fun _ hk_ => hk_) ?hf HB.out (below_size HB.out) (by first | simp | decide) ?_; (case hr => first | (go_simp; done) | (go_simp; rfl)); (case hp => exact (Reps.one (fun _ _ => rfl) (Reps.one (fun _ _ => rfl) (Reps.one (fun _ _ => rfl) (Reps.none _ _))))); (case hf => exact (show ∀ k_, w.heap.size ≤ k_ → (fun k_ => (w.heap.size ≤ k_)) k_ from fun k_ h_ => (Nat.le_trans (below_size HB.out) h_)) _ (Nat.le_refl _)); intro v27 w28 hn1 hb1 hg1 hat1); replace hat1 := Aside0.mk hat1; refine stop_ ?_)
 refine Stop.go ?_
 replace hat1 := hat1.out
 have hbe := MW.grown_below hg1
 have hba := MW.base_of hat1
 replace HB := Aside0.mk hb1
 have HN29 := Aside0.mk hn1
 clear hn1 hb1 hg1 hat1 hbe hba
 obtain ⟨A30, cp31, he_⟩ := Kd.N_slice HN29.out
 subst he_
 have HF32 := Aside0.mk (Kd.N_F HN29.out)
 clear HN29
 have hcv34 := Kd.C_string (P := Try.prog) (A := A30) (c := cp31) Try.underlying95 Try.underlying5 Try.underlying9 (Kd.F_now HF32.out)
 (try simp only [List.length_cons, List.length_nil, Nat.reduceAdd] at hcv34)
 have H := HH.out
 obtain rfl := Option.some.inj H
 clear HH
 go_wp2
 go_ret
 exact ⟨by first | rfl | (simp; done) | (simp [*]; done), HB.out⟩

/-! ### toponymref16_SameTexts: function 14 -/
def toponymref16_SameTexts.l0 : Nat → Int → (List ByteArray) → (List ByteArray) → Option (Bool)
 | 0, _, _, _ => none
 | k + 1, x5, l0, l1 => if x5 < (l0.length : Int) then (if 0 ≤ x5 then (if x5 < (l1.length : Int) then (if (rdOf ByteArray.empty l0 x5).toList = (rdOf ByteArray.empty l1 x5).toList then ((toponymref16_SameTexts.l0 k (wrap64 (x5 + 1)) l0 l1)) else (some false)) else (none)) else (none)) else (some true)
def toponymref16_SameTexts.f (k : Nat) (l0 : List ByteArray) (l1 : List ByteArray) : Option (Bool) := if (l0.length : Int) = (l1.length : Int) then ((toponymref16_SameTexts.l0 k 0 l0 l1)) else (some false)
theorem toponymref16_SameTexts.mono_l : ∀ k, (∀ y0 y1 y2, LeO (toponymref16_SameTexts.l0 k y0 y1 y2) (toponymref16_SameTexts.l0 (k + 1) y0 y1 y2))
 | 0 => fun _ _ _ r h => by simp [toponymref16_SameTexts.l0] at h
 | k + 1 => by
  have ih0 := toponymref16_SameTexts.mono_l k
  ·intro y0 y1 y2
   unfold toponymref16_SameTexts.l0
   repeat' first
   | (with_reducible exact ih0 _ _ _)
   | (with_reducible exact LeO.refl _)
   | (with_reducible exact LeO.none _)
   | (with_reducible refine LeO.ite ?_ ?_)
   | (with_reducible refine LeO.bind ?_ (fun _ => ?_))
theorem toponymref16_SameTexts.mono : ∀ a0_ a1_ k, LeO (toponymref16_SameTexts.f k a0_ a1_) (toponymref16_SameTexts.f (k + 1) a0_ a1_) := by
 intro a0_ a1_ k
 have ih0 := toponymref16_SameTexts.mono_l k
 unfold toponymref16_SameTexts.f
 repeat' first
   | (with_reducible exact ih0 _ _ _)
   | (with_reducible exact LeO.refl _)
   | (with_reducible exact LeO.none _)
   | (with_reducible refine LeO.ite ?_ ?_)
   | (with_reducible refine LeO.bind ?_ (fun _ => ?_))
set_option maxHeartbeats 8000000 in
set_option maxRecDepth 100000 in
theorem toponymref16_SameTexts.calls (k : Nat) (P_ : Nat → Prop) (A0 : Option Addr) (c0 : Nat) (l0 : List ByteArray) (A1 : Option Addr) (c1 : Nat) (l1 : List ByteArray) (r : Bool) (w : World) (hs0 : Kd.F Kd.string w P_ A0 l0.length l0) (hc0 : l0.length ≤ c0) (hs1 : Kd.F Kd.string w P_ A1 l1.length l1) (hc1 : l1.length ≤ c1) (h : toponymref16_SameTexts.f k l0 l1 = some r) :
  Calls Try.prog 14 #[.slice A0 l0.length c0, .slice A1 l1.length c1] w (fun e w' => e = .returned (.bool r) ∧ Drawn0 w w') := by
 have HH := Aside0.mk (show (if (l0.length : Int) = (l1.length : Int) then ((toponymref16_SameTexts.l0 k 0 l0 l1)) else (some false)) = some r from h)
 clear h
 have HF0 := zfp hs0
 clear hs0 hc0
 have HF1 := zfp hs1
 clear hs1 hc1
 go_enter Try.func14, Try.ntmps14
 by_cases c1 : (l0.length : Int) = (l1.length : Int)
 ·replace HH := MW.hpos HH c1
  have hk2 : ((l0.length : Int) == (l1.length : Int)) = true := beq_iff_eq.mpr c1
  have hk3 : ((l0.length : Int) != (l1.length : Int)) = false := bne_eq_false_iff_eq.mpr c1
  have hk4 : (l0.length == l1.length) = true := by first | simpa using c1 | (simp at c1 ⊢; omega)
  clear c1
  go_wp2
  go_loopg [5] k (fun kq u5 w' => ∃ (x5 : Int), u5 = .int .i64 x5 ∧ Aside0 ((toponymref16_SameTexts.l0 kq x5 l0 l1) = some r) ∧ Aside0 (kq ≤ k) ∧ Drawn0 w w')
  case atStart => exact ⟨0, (by first | rfl | (simp; done) | (simp [*]; done)), HH, ⟨Nat.le_refl _⟩, by repeat (first | exact Drawn0.refl _ | apply Drawn0.step)⟩
  case round =>
   clear hk2
   clear hk3
   clear hk4
   clear HH
   obtain ⟨x5, rfl, HA, HK0, ⟨m0_, rfl⟩⟩ := hrel
   cases gk with
   | zero => exact absurd HA.out (by simp [toponymref16_SameTexts.l0])
   | succ k6 =>
    have H := HA.out
    clear HA
    simp only [toponymref16_SameTexts.l0] at H
    have HH := Aside0.mk H
    clear H
    replace HH := zqt HH
    rcases HH with ⟨HH, hk9, hk10⟩ | ⟨HH, hk26, hk27⟩
    ·replace HH := zqdo HH
     obtain ⟨HH, hk12⟩ := HH
     have p13 : 0 ≤ (x5 : Int) := of_decide_eq_true (by first | (with_reducible assumption) | assumption)
     have q13 : x5 < (l0.length : Int) := of_decide_eq_true (by first | (with_reducible assumption) | assumption)
     obtain ⟨ad13, e13, hx13_0⟩ := Kd.at_string (Kd.F_now HF0.out) x5 p13 q13
     cases e13
     replace p13 := eq_true p13
     replace q13 := eq_true q13
     replace HH := zqto HH
     obtain ⟨HH, hk15, hk16⟩ := HH
     have p17 : 0 ≤ (x5 : Int) := of_decide_eq_true (by first | (with_reducible assumption) | assumption)
     have q17 : x5 < (l1.length : Int) := of_decide_eq_true (by first | (with_reducible assumption) | assumption)
     obtain ⟨ad17, e17, hx17_0⟩ := Kd.at_string (Kd.F_now HF1.out) x5 p17 q17
     cases e17
     replace p17 := eq_true p17
     replace q17 := eq_true q17
     replace HH := zqe HH
     rcases HH with ⟨HH, hk19, hk20⟩ | ⟨HH, hk21, hk22⟩
     ·go_wp2
      go_quiet (fail)
      go_wp2
      go_roundg k6
      case measure => have := HK0.out; omega
      case rel => exact ⟨wrap64 (x5 + 1), (by first | rfl | (simp; done) | (simp [*]; done)), HH, ⟨by have := HK0.out; omega⟩, by repeat (first | exact Drawn0.refl _ | apply Drawn0.step)⟩
     have H := HH.out
     obtain rfl := Option.some.inj H
     clear HH
     go_wp2
     go_quiet (fail)
     go_wp2
     go_ret
     exact ⟨by first | rfl | (simp; done) | (simp [*]; done), by repeat (first | exact Drawn0.refl _ | apply Drawn0.step)⟩
    have H := HH.out
    obtain rfl := Option.some.inj H
    clear HH
    go_wp2
    go_ret
    exact ⟨by first | rfl | (simp; done) | (simp [*]; done), by repeat (first | exact Drawn0.refl _ | apply Drawn0.step)⟩
 replace HH := MW.hneg HH c1
 have hk28 : ((l0.length : Int) == (l1.length : Int)) = false := beq_eq_false_iff_ne.mpr c1
 have hk29 : ((l0.length : Int) != (l1.length : Int)) = true := bne_iff_ne.mpr c1
 have hk30 : (l0.length == l1.length) = false := by first | simpa using c1 | (simp at c1 ⊢; omega)
 clear c1
 have H := HH.out
 obtain rfl := Option.some.inj H
 clear HH
 go_wp2
 go_ret
 exact ⟨by first | rfl | (simp; done) | (simp [*]; done), by repeat (first | exact Drawn0.refl _ | apply Drawn0.step)⟩

/-! ### ber_sized: function 73 -/
def ber_sized.f (a0 : ByteArray) (a1 : Int) : Option (Int × Int × Int) := if a1 ≥ (a0.size : Int) then (some (0, 0, 150)) else (if 0 ≤ a1 then (if a1 < (a0.size : Int) then (if (wrap64 (bt a0 a1)) < 128 then (some (wrap64 (bt a0 a1), wrap64 (a1 + 1), 0)) else (if (wrap64 ((wrap64 (bt a0 a1)) - 128)) < 1 then (some (0, 0, 152)) else (if (wrap64 ((wrap64 (bt a0 a1)) - 128)) > 2 then (some (0, 0, 152)) else (if (wrap64 ((wrap64 (bt a0 a1)) - 128)) > (wrap64 ((a0.size : Int) - (wrap64 (a1 + 1)))) then (some (0, 0, 150)) else (if 0 ≤ (wrap64 (a1 + 1)) then (if (wrap64 (a1 + 1)) < (a0.size : Int) then (if (wrap64 ((wrap64 (bt a0 a1)) - 128)) = 2 then (if 0 ≤ (wrap64 ((wrap64 (a1 + 1)) + 1)) then (if (wrap64 ((wrap64 (a1 + 1)) + 1)) < (a0.size : Int) then ((ber_length.f (Go.bits .or .i64 (wrap64 ((wrap64 (bt a0 (wrap64 (a1 + 1)))) * 256)) (wrap64 (bt a0 (wrap64 ((wrap64 (a1 + 1)) + 1)))))).bind fun t41 => (if (t41.size : Int) = (wrap64 (1 + (wrap64 ((wrap64 (bt a0 a1)) - 128)))) then (some (Go.bits .or .i64 (wrap64 ((wrap64 (bt a0 (wrap64 (a1 + 1)))) * 256)) (wrap64 (bt a0 (wrap64 ((wrap64 (a1 + 1)) + 1)))), wrap64 ((wrap64 (a1 + 1)) + (wrap64 ((wrap64 (bt a0 a1)) - 128))), 0)) else (some (0, 0, 152)))) else (none)) else (none)) else ((ber_length.f (wrap64 (bt a0 (wrap64 (a1 + 1))))).bind fun t54 => (if (t54.size : Int) = (wrap64 (1 + (wrap64 ((wrap64 (bt a0 a1)) - 128)))) then (some (wrap64 (bt a0 (wrap64 (a1 + 1))), wrap64 ((wrap64 (a1 + 1)) + (wrap64 ((wrap64 (bt a0 a1)) - 128))), 0)) else (some (0, 0, 152))))) else (none)) else (none)))))) else (none)) else (none))
set_option maxHeartbeats 8000000 in
set_option maxRecDepth 100000 in
theorem ber_sized.calls (a0 : ByteArray) (a1 : Int) (r1 : Int) (r2 : Int) (r3 : Int) (w : World) (h : ber_sized.f a0 a1 = some (r1, r2, r3)) :
  Calls Try.prog 73 #[.string a0, .int .i64 a1] w (fun e w' => e = .returned (.tuple #[.int .i64 r1, .int .i64 r2, .int .i64 r3]) ∧ Below w.heap.size w w') := by
 have HH := Aside0.mk (show (if a1 ≥ (a0.size : Int) then (some (0, 0, 150)) else (if 0 ≤ a1 then (if a1 < (a0.size : Int) then (if (wrap64 (bt a0 a1)) < 128 then (some (wrap64 (bt a0 a1), wrap64 (a1 + 1), 0)) else (if (wrap64 ((wrap64 (bt a0 a1)) - 128)) < 1 then (some (0, 0, 152)) else (if (wrap64 ((wrap64 (bt a0 a1)) - 128)) > 2 then (some (0, 0, 152)) else (if (wrap64 ((wrap64 (bt a0 a1)) - 128)) > (wrap64 ((a0.size : Int) - (wrap64 (a1 + 1)))) then (some (0, 0, 150)) else (if 0 ≤ (wrap64 (a1 + 1)) then (if (wrap64 (a1 + 1)) < (a0.size : Int) then (if (wrap64 ((wrap64 (bt a0 a1)) - 128)) = 2 then (if 0 ≤ (wrap64 ((wrap64 (a1 + 1)) + 1)) then (if (wrap64 ((wrap64 (a1 + 1)) + 1)) < (a0.size : Int) then ((ber_length.f (Go.bits .or .i64 (wrap64 ((wrap64 (bt a0 (wrap64 (a1 + 1)))) * 256)) (wrap64 (bt a0 (wrap64 ((wrap64 (a1 + 1)) + 1)))))).bind fun t41 => (if (t41.size : Int) = (wrap64 (1 + (wrap64 ((wrap64 (bt a0 a1)) - 128)))) then (some (Go.bits .or .i64 (wrap64 ((wrap64 (bt a0 (wrap64 (a1 + 1)))) * 256)) (wrap64 (bt a0 (wrap64 ((wrap64 (a1 + 1)) + 1)))), wrap64 ((wrap64 (a1 + 1)) + (wrap64 ((wrap64 (bt a0 a1)) - 128))), 0)) else (some (0, 0, 152)))) else (none)) else (none)) else ((ber_length.f (wrap64 (bt a0 (wrap64 (a1 + 1))))).bind fun t54 => (if (t54.size : Int) = (wrap64 (1 + (wrap64 ((wrap64 (bt a0 a1)) - 128)))) then (some (wrap64 (bt a0 (wrap64 (a1 + 1))), wrap64 ((wrap64 (a1 + 1)) + (wrap64 ((wrap64 (bt a0 a1)) - 128))), 0)) else (some (0, 0, 152))))) else (none)) else (none)))))) else (none)) else (none))) = some (r1, r2, r3) from h)
 clear h
 have HB := Aside0.mk (Below.refl w.heap.size w)
 go_enter Try.func73, Try.ntmps73
 replace HH := zqG HH
 rcases HH with ⟨HH, hk2⟩ | ⟨HH, hk3⟩
 ·have H := HH.out
  simp only [Option.some.injEq, Prod.mk.injEq] at H
  obtain ⟨rfl, rfl, rfl⟩ := H
  clear HH
  (try go_wp2)
  refine MW.scope_labs ?_
  go_wp2
  apply wp_goto
  refine MW.goto_labs (Eq.refl _) ?_
  go_wp2
  (try simp only [MW.backTo_ret, MW.labs_ret])
  go_ret3
  exact ⟨by first | rfl | (simp; done) | (simp [*]; done), HB.out⟩
 replace HH := zqdo HH
 obtain ⟨HH, hk5⟩ := HH
 replace HH := zqto HH
 obtain ⟨HH, hk7, hk8⟩ := HH
 have p9 : 0 ≤ (a1 : Int) := of_decide_eq_true (by first | (with_reducible assumption) | assumption)
 have q9 : a1 < (a0.size : Int) := of_decide_eq_true (by first | (with_reducible assumption) | assumption)
 have hx9 := MW.bt_at' a0 a1
 replace p9 := eq_true p9
 replace q9 := eq_true q9
 replace HH := zqt HH
 rcases HH with ⟨HH, hk11, hk12⟩ | ⟨HH, hk13, hk14⟩
 ·have H := HH.out
  simp only [Option.some.injEq, Prod.mk.injEq] at H
  obtain ⟨rfl, rfl, rfl⟩ := H
  clear HH
  (try go_wp2)
  refine MW.scope_labs ?_
  go_wp2
  (try simp only [MW.backTo_ret, MW.labs_ret])
  go_ret3
  exact ⟨by first | rfl | (simp; done) | (simp [*]; done), HB.out⟩
 replace HH := zqt HH
 rcases HH with ⟨HH, hk16, hk17⟩ | ⟨HH, hk18, hk19⟩
 ·have H := HH.out
  simp only [Option.some.injEq, Prod.mk.injEq] at H
  obtain ⟨rfl, rfl, rfl⟩ := H
  clear HH
  (try go_wp2)
  refine MW.scope_labs ?_
  go_wp2
  apply wp_goto
  refine MW.goto_labs (Eq.refl _) ?_
  go_wp2
  (try simp only [MW.backTo_ret, MW.labs_ret])
  go_ret3
  exact ⟨by first | rfl | (simp; done) | (simp [*]; done), HB.out⟩
 replace HH := zqg HH
 rcases HH with ⟨HH, hk21⟩ | ⟨HH, hk22⟩
 ·have H := HH.out
  simp only [Option.some.injEq, Prod.mk.injEq] at H
  obtain ⟨rfl, rfl, rfl⟩ := H
  clear HH
  (try go_wp2)
  refine MW.scope_labs ?_
  go_wp2
  apply wp_goto
  refine MW.goto_labs (Eq.refl _) ?_
  go_wp2
  (try simp only [MW.backTo_ret, MW.labs_ret])
  go_ret3
  exact ⟨by first | rfl | (simp; done) | (simp [*]; done), HB.out⟩
 replace HH := zqg HH
 rcases HH with ⟨HH, hk24⟩ | ⟨HH, hk25⟩
 ·have H := HH.out
  simp only [Option.some.injEq, Prod.mk.injEq] at H
  obtain ⟨rfl, rfl, rfl⟩ := H
  clear HH
  (try go_wp2)
  refine MW.scope_labs ?_
  go_wp2
  apply wp_goto
  refine MW.goto_labs (Eq.refl _) ?_
  go_wp2
  (try simp only [MW.backTo_ret, MW.labs_ret])
  go_ret3
  exact ⟨by first | rfl | (simp; done) | (simp [*]; done), HB.out⟩
 replace HH := zqdo HH
 obtain ⟨HH, hk27⟩ := HH
 replace HH := zqto HH
 obtain ⟨HH, hk29, hk30⟩ := HH
 have p31 : 0 ≤ ((wrap64 (a1 + 1)) : Int) := of_decide_eq_true (by first | (with_reducible assumption) | assumption)
 have q31 : (wrap64 (a1 + 1)) < (a0.size : Int) := of_decide_eq_true (by first | (with_reducible assumption) | assumption)
 have hx31 := MW.bt_at' a0 (wrap64 (a1 + 1))
 replace p31 := eq_true p31
 replace q31 := eq_true q31
 replace HH := zqe HH
 rcases HH with ⟨HH, hk33, hk34⟩ | ⟨HH, hk52, hk53⟩
 ·replace HH := zqdo HH
  obtain ⟨HH, hk36⟩ := HH
  replace HH := zqto HH
  obtain ⟨HH, hk38, hk39⟩ := HH
  have p40 : 0 ≤ ((wrap64 ((wrap64 (a1 + 1)) + 1)) : Int) := of_decide_eq_true (by first | (with_reducible assumption) | assumption)
  have q40 : (wrap64 ((wrap64 (a1 + 1)) + 1)) < (a0.size : Int) := of_decide_eq_true (by first | (with_reducible assumption) | assumption)
  have hx40 := MW.bt_at' a0 (wrap64 ((wrap64 (a1 + 1)) + 1))
  replace p40 := eq_true p40
  replace q40 := eq_true q40
  replace HH := zd HH
  obtain ⟨t41, At42, HH⟩ := HH
  (try go_wp2)
  refine MW.scope_labs ?_
  go_wp2_with ((with_reducible refine gc 90 rfl ?_); refine zc 90 (some 52) Try.func90 #[.int .i64 (Go.bits .or .i64 (wrap64 ((wrap64 (bt a0 (wrap64 (a1 + 1)))) * 256)) (wrap64 (bt a0 (wrap64 ((wrap64 (a1 + 1)) + 1)))))] (h := ?_); (with_reducible refine (ber_length.calls  (Go.bits .or .i64 (wrap64 ((wrap64 (bt a0 (wrap64 (a1 + 1)))) * 256)) (wrap64 (bt a0 (wrap64 ((wrap64 (a1 + 1)) + 1))))) t41 _  At42.out).mono ?_); rintro e w43 ⟨rfl, hb⟩; refine ⟨_, rfl, ?_⟩)
  refine Stop.go ?_
  replace HB := zhb HB.out hb
  clear hb
  replace HH := zqe HH
  rcases HH with ⟨HH, hk45, hk46⟩ | ⟨HH, hk47, hk48⟩
  ·have H := HH.out
   simp only [Option.some.injEq, Prod.mk.injEq] at H
   obtain ⟨rfl, rfl, rfl⟩ := H
   clear HH
   go_wp2
   (try simp only [MW.backTo_ret, MW.labs_ret])
   go_ret3
   exact ⟨by first | rfl | (simp; done) | (simp [*]; done), HB.out⟩
  have H := HH.out
  simp only [Option.some.injEq, Prod.mk.injEq] at H
  obtain ⟨rfl, rfl, rfl⟩ := H
  clear HH
  go_wp2
  apply wp_goto
  refine MW.goto_labs (Eq.refl _) ?_
  go_wp2
  (try simp only [MW.backTo_ret, MW.labs_ret])
  go_ret3
  exact ⟨by first | rfl | (simp; done) | (simp [*]; done), HB.out⟩
 replace HH := zd HH
 obtain ⟨t54, At55, HH⟩ := HH
 (try go_wp2)
 refine MW.scope_labs ?_
 go_wp2_with ((with_reducible refine gc 90 rfl ?_); refine zc 90 (some 52) Try.func90 #[.int .i64 (wrap64 (bt a0 (wrap64 (a1 + 1))))] (h := ?_); (with_reducible refine (ber_length.calls  (wrap64 (bt a0 (wrap64 (a1 + 1)))) t54 _  At55.out).mono ?_); rintro e w56 ⟨rfl, hb⟩; refine ⟨_, rfl, ?_⟩)
 refine Stop.go ?_
 replace HB := zhb HB.out hb
 clear hb
 replace HH := zqe HH
 rcases HH with ⟨HH, hk58, hk59⟩ | ⟨HH, hk60, hk61⟩
 ·have H := HH.out
  simp only [Option.some.injEq, Prod.mk.injEq] at H
  obtain ⟨rfl, rfl, rfl⟩ := H
  clear HH
  go_wp2
  (try simp only [MW.backTo_ret, MW.labs_ret])
  go_ret3
  exact ⟨by first | rfl | (simp; done) | (simp [*]; done), HB.out⟩
 have H := HH.out
 simp only [Option.some.injEq, Prod.mk.injEq] at H
 obtain ⟨rfl, rfl, rfl⟩ := H
 clear HH
 go_wp2
 apply wp_goto
 refine MW.goto_labs (Eq.refl _) ?_
 go_wp2
 (try simp only [MW.backTo_ret, MW.labs_ret])
 go_ret3
 exact ⟨by first | rfl | (simp; done) | (simp [*]; done), HB.out⟩

/-! ### prims_plain: function 75 -/
def prims_plain.f (a0_0 : Int) (a0_1 : Bool) (a0_2 : Int) (a0_3 : ByteArray) (l0_4 : List (S57)) : Option (Bool) := if a0_1 = true then (some false) else (some ((l0_4.length : Int) == 0))
set_option maxHeartbeats 8000000 in
set_option maxRecDepth 100000 in
theorem prims_plain.calls (P_ : Nat → Prop) (a0_0 : Int) (a0_1 : Bool) (a0_2 : Int) (a0_3 : ByteArray) (A0_4 : Option Addr) (c0_4 : Nat) (l0_4 : List (S57)) (r : Bool) (w : World) (hs0_4 : Kd.F k57 w P_ A0_4 l0_4.length l0_4) (hc0_4 : l0_4.length ≤ c0_4) (h : prims_plain.f a0_0 a0_1 a0_2 a0_3 l0_4 = some r) :
  Calls Try.prog 75 #[.agg #[.int .i64 a0_0, .bool a0_1, .int .i64 a0_2, .string a0_3, .slice A0_4 l0_4.length c0_4]] w (fun e w' => e = .returned (.bool r) ∧ Below w.heap.size w w') := by
 have HH := Aside0.mk (show (if a0_1 = true then (some false) else (some ((l0_4.length : Int) == 0))) = some r from h)
 clear h
 clear hs0_4 hc0_4
 have HB := Aside0.mk (Below.refl w.heap.size w)
 have hu57 := Try.underlying57
 go_enter Try.func75, Try.ntmps75
 go_wp2_with ((with_reducible refine gd 1 rfl ?_); refine zb 1 57 #[.int .i64 a0_0, .bool a0_1, .int .i64 a0_2, .string a0_3, .slice A0_4 l0_4.length c0_4] (h := ?_); intro g1 hg w2 BKg1 hb)
 refine Stop.go ?_
 replace HB := zhb HB.out hb
 clear hg hb
 obtain ⟨j3, j4, j5, j6, j7, j8, j9, ja, jb, jc⟩ := MB.lay5 BKg1.out
 by_cases c13 : a0_1 = true
 ·replace HH := MW.hpos HH c13
  subst c13
  have H := HH.out
  obtain rfl := Option.some.inj H
  clear HH
  go_wp2
  go_ret
  exact ⟨by first | rfl | (simp; done) | (simp [*]; done), HB.out⟩
 replace HH := MW.hneg HH c13
 replace c13 := Bool.eq_false_iff.mpr c13
 subst c13
 have H := HH.out
 obtain rfl := Option.some.inj H
 clear HH
 go_wp2
 go_ret
 exact ⟨by first | rfl | (simp; done) | (simp [*]; done), HB.out⟩

/-! ### prims_AsInt: function 50 -/
def prims_AsInt.l0 : Nat → Int → Int → ByteArray → Option (Int × Int)
 | 0, _, _, _ => none
 | k + 1, x45, x46, a0_3 => if x46 < (a0_3.size : Int) then (if 0 ≤ x46 then ((prims_AsInt.l0 k (Go.bits .or .i32 (wrap32 (x45 * 256)) (wrap32 (bt a0_3 x46))) (wrap64 (x46 + 1)) a0_3)) else (none)) else ((prims_signed.f k x45).bind fun t68 => (if t68.toList = a0_3.toList then (some (wrap64 (x45), 0)) else (some (0, 160))))
def prims_AsInt.f (k : Nat) (a0_0 : Int) (a0_1 : Bool) (a0_2 : Int) (a0_3 : ByteArray) (l0_4 : List (S57)) : Option (Int × Int) := (prims_plain.f a0_0 a0_1 a0_2 a0_3 l0_4).bind fun t13 => (if t13 = true then (if (a0_3.size : Int) < 1 then (some (0, 160)) else (if (a0_3.size : Int) > 4 then (some (0, 160)) else (if 0 < (a0_3.size : Int) then ((prims_AsInt.l0 k (wrap32 (IntKind.i8.wrap (bt a0_3 0))) 1 a0_3)) else (none)))) else (some (0, 160)))
theorem prims_AsInt.mono_l : ∀ k, (∀ y0 y1 y2, LeO (prims_AsInt.l0 k y0 y1 y2) (prims_AsInt.l0 (k + 1) y0 y1 y2))
 | 0 => fun _ _ _ r h => by simp [prims_AsInt.l0] at h
 | k + 1 => by
  have ih0 := prims_AsInt.mono_l k
  ·intro y0 y1 y2
   unfold prims_AsInt.l0
   repeat' first
   | (with_reducible exact ih0 _ _ _)
   | (with_reducible exact prims_signed.mono _ _)
   | (with_reducible exact LeO.refl _)
   | (with_reducible exact LeO.none _)
   | (with_reducible refine LeO.ite ?_ ?_)
   | (with_reducible refine LeO.bind ?_ (fun _ => ?_))
theorem prims_AsInt.mono : ∀ a0_ a1_ a2_ a3_ a4_ k, LeO (prims_AsInt.f k a0_ a1_ a2_ a3_ a4_) (prims_AsInt.f (k + 1) a0_ a1_ a2_ a3_ a4_) := by
 intro a0_ a1_ a2_ a3_ a4_ k
 have ih0 := prims_AsInt.mono_l k
 unfold prims_AsInt.f
 repeat' first
   | (with_reducible exact ih0 _ _ _)
   | (with_reducible exact prims_signed.mono _ _)
   | (with_reducible exact LeO.refl _)
   | (with_reducible exact LeO.none _)
   | (with_reducible refine LeO.ite ?_ ?_)
   | (with_reducible refine LeO.bind ?_ (fun _ => ?_))
set_option maxHeartbeats 8000000 in
set_option maxRecDepth 100000 in
theorem prims_AsInt.calls (k : Nat) (P_ : Nat → Prop) (a0_0 : Int) (a0_1 : Bool) (a0_2 : Int) (a0_3 : ByteArray) (A0_4 : Option Addr) (c0_4 : Nat) (l0_4 : List (S57)) (r1 : Int) (r2 : Int) (w : World) (hs0_4 : Kd.F k57 w P_ A0_4 l0_4.length l0_4) (hc0_4 : l0_4.length ≤ c0_4) (h : prims_AsInt.f k a0_0 a0_1 a0_2 a0_3 l0_4 = some (r1, r2)) :
  Calls Try.prog 50 #[.agg #[.int .i64 a0_0, .bool a0_1, .int .i64 a0_2, .string a0_3, .slice A0_4 l0_4.length c0_4]] w (fun e w' => e = .returned (.tuple #[.int .i64 r1, .int .i64 r2]) ∧ Below w.heap.size w w') := by
 have HH := Aside0.mk (show ((prims_plain.f a0_0 a0_1 a0_2 a0_3 l0_4).bind fun t13 => (if t13 = true then (if (a0_3.size : Int) < 1 then (some (0, 160)) else (if (a0_3.size : Int) > 4 then (some (0, 160)) else (if 0 < (a0_3.size : Int) then ((prims_AsInt.l0 k (wrap32 (IntKind.i8.wrap (bt a0_3 0))) 1 a0_3)) else (none)))) else (some (0, 160)))) = some (r1, r2) from h)
 clear h
 have HF0_4 := zfp hs0_4
 have HL0_4 := Aside0.mk hc0_4
 clear hs0_4 hc0_4
 have HB := Aside0.mk (Below.refl w.heap.size w)
 have hu57 := Try.underlying57
 go_enter Try.func50, Try.ntmps50
 go_wp2_with ((with_reducible refine gd 1 rfl ?_); refine zb 1 57 #[.int .i64 a0_0, .bool a0_1, .int .i64 a0_2, .string a0_3, .slice A0_4 l0_4.length c0_4] (h := ?_); intro g1 hg w2 BKg1 hb)
 refine Stop.go ?_
 replace HF0_4 := zfe HF0_4.out hg hb
 replace HB := zhb HB.out hb
 clear hg hb
 obtain ⟨j3, j4, j5, j6, j7, j8, j9, ja, jb, jc⟩ := MB.lay5 BKg1.out
 replace HH := zd HH
 obtain ⟨t13, At14, HH⟩ := HH
 go_wp2_with ((with_reducible refine gc 75 rfl ?_); refine zc 75 (some 10) Try.func75 #[.agg #[.int .i64 a0_0, .bool a0_1, .int .i64 a0_2, .string a0_3, .slice A0_4 l0_4.length c0_4]] (h := ?_); (with_reducible refine (prims_plain.calls (fun k_ => (P_ k_ ∨ w.heap.size ≤ k_) ∧ k_ ≠ g1) a0_0 a0_1 a0_2 a0_3 _ _ l0_4 t13 _ (Kd.F_mono (ok := (fun k_ => (P_ k_ ∨ w.heap.size ≤ k_) ∧ k_ ≠ g1)) HF0_4.out (fun k_ hk_ => hk_)) HL0_4.out At14.out).mono ?_); rintro e w15 ⟨rfl, hb⟩; refine ⟨_, rfl, ?_⟩)
 refine Stop.go ?_
 replace HF0_4 := zfb HF0_4.out hb
 replace BKg1 := zbb BKg1.out hb
 replace HB := zhb HB.out hb
 clear hb
 clear j3 j4 j5 j6 j7 j8 j9 ja jb jc
 obtain ⟨jg, jh, ji, jj, jk, jl, jm, jn, jo, jp⟩ := MB.lay5 BKg1.out
 by_cases c26 : t13 = true
 ·replace HH := MW.hpos HH c26
  subst c26
  replace HH := zqN 1 HH
  rcases HH with ⟨HH, hk28, hk29, hk30⟩ | ⟨HH, hk31, hk32, hk33⟩
  ·have H := HH.out
   simp only [Option.some.injEq, Prod.mk.injEq] at H
   obtain ⟨rfl, rfl⟩ := H
   clear HH
   go_wp2
   go_ret2
   exact ⟨by first | rfl | (simp; done) | (simp [*]; done), HB.out⟩
  replace HH := zqK 4 HH
  rcases HH with ⟨HH, hk35, hk36⟩ | ⟨HH, hk37, hk38⟩
  ·have H := HH.out
   simp only [Option.some.injEq, Prod.mk.injEq] at H
   obtain ⟨rfl, rfl⟩ := H
   clear HH
   go_wp2
   go_ret2
   exact ⟨by first | rfl | (simp; done) | (simp [*]; done), HB.out⟩
  replace HH := zqno 0 HH
  obtain ⟨HH, hk40, hk41, hk42, hk43⟩ := HH
  have p44 : 0 ≤ (0 : Int) := (by omega)
  have q44 : 0 < a0_3.size := (by have : (0 : Int) < (a0_3.size : Int) := of_decide_eq_true (by first | (with_reducible assumption) | assumption); omega)
  have hx44 : ∀ h : 0 < a0_3.size, ((a0_3[0]'h).toNat : Int) = bt a0_3 0 := MW.bt_at' a0_3 0
  clear p44
  have qi44 : (0 < (a0_3.size : Int)) = True := eq_true (of_decide_eq_true (by first | (with_reducible assumption) | assumption))
  replace q44 := eq_true q44
  go_wp2
  go_loopg [5, 6] k (fun kq u5 u6 w' => ∃ (x45 : Int) (x46 : Int), u5 = .int .i32 x45 ∧ u6 = .int .i64 x46 ∧ Aside0 ((prims_AsInt.l0 kq x45 x46 a0_3) = some (r1, r2)) ∧ Aside0 (kq ≤ k) ∧ Aside0 (Kd.F k57 w' (fun k_ => (P_ k_ ∨ w.heap.size ≤ k_) ∧ k_ ≠ g1) A0_4 l0_4.length l0_4) ∧ Aside0 (w'.heap[g1]? = some (.cells #[.int .i64 a0_0, .bool a0_1, .int .i64 a0_2, .string a0_3, .slice A0_4 l0_4.length c0_4] 57 (0, 0))) ∧ Aside0 (Below w.heap.size w w'))
  case atStart => exact ⟨wrap32 (IntKind.i8.wrap (bt a0_3 0)), 1, (by first | rfl | (simp; done) | (simp [*]; done)), (by first | rfl | (simp; done) | (simp [*]; done)), HH, ⟨Nat.le_refl _⟩, ⟨(Kd.F_mono (ok := (fun k_ => (P_ k_ ∨ w.heap.size ≤ k_) ∧ k_ ≠ g1)) HF0_4.out (fun k_ hk_ => hk_))⟩, ⟨BKg1.out⟩, ⟨HB.out⟩⟩
  case round =>
   clear jg jh ji jj jk jl jm jn jo jp
   clear hk31
   clear hk32
   clear hk33
   clear hk37
   clear hk38
   clear hk40
   clear hk41
   clear hk42
   clear hk43
   clear qi44
   clear q44
   clear hx44
   clear HH
   clear HF0_4 BKg1 HB
   obtain ⟨x45, x46, rfl, rfl, HA, HK0, HF0_4, BKg1, HB⟩ := hrel
   obtain ⟨w48, rfl⟩ : ∃ wo_ : World, wo_ = wr := ⟨_, rfl⟩
   cases gk with
   | zero => exact absurd HA.out (by simp [prims_AsInt.l0])
   | succ k47 =>
    have H := HA.out
    clear HA
    simp only [prims_AsInt.l0] at H
    have HH := Aside0.mk H
    clear H
    obtain ⟨jN, jO, jP, jQ, jR, jS, jT, jU, jV, jW⟩ := MB.lay5 BKg1.out
    replace HH := zqt HH
    rcases HH with ⟨HH, hk60, hk61⟩ | ⟨HH, hk66, hk67⟩
    ·replace HH := zqdo HH
     obtain ⟨HH, hk63⟩ := HH
     have p64 : 0 ≤ (x46 : Int) := of_decide_eq_true (by first | (with_reducible assumption) | assumption)
     have q64 : x46 < (a0_3.size : Int) := of_decide_eq_true (by first | (with_reducible assumption) | assumption)
     have hx64 := MW.bt_at' a0_3 x46
     replace p64 := eq_true p64
     replace q64 := eq_true q64
     go_wp2
     go_roundg k47
     case measure => have := HK0.out; omega
     case rel => exact ⟨Go.bits .or .i32 (wrap32 (x45 * 256)) (wrap32 (bt a0_3 x46)), wrap64 (x46 + 1), (by first | rfl | (simp; done) | (simp [*]; done)), (by first | rfl | (simp; done) | (simp [*]; done)), HH, ⟨by have := HK0.out; omega⟩, ⟨(Kd.F_mono (ok := (fun k_ => (P_ k_ ∨ w.heap.size ≤ k_) ∧ k_ ≠ g1)) HF0_4.out (fun k_ hk_ => hk_))⟩, ⟨BKg1.out⟩, ⟨HB.out⟩⟩
    replace HH := zd HH
    obtain ⟨t68, At69, HH⟩ := HH
    go_wp2_with ((with_reducible refine gc 76 rfl ?_); refine zc 76 (some 40) Try.func76 #[.int .i32 x45] (h := ?_); (with_reducible refine (prims_signed.calls k47  x45 t68 _  At69.out).mono ?_); rintro e w70 ⟨rfl, hb⟩; refine ⟨_, rfl, ?_⟩)
    refine Stop.go ?_
    replace BKg1 := zbb BKg1.out hb
    replace HB := zhb HB.out hb
    clear hb
    clear jN jO jP jQ jR jS jT jU jV jW
    obtain ⟨j19, j1a, j1b, j1c, j1d, j1e, j1f, j1g, j1h, j1i⟩ := MB.lay5 BKg1.out
    replace HH := zqe HH
    rcases HH with ⟨HH, hk82, hk83⟩ | ⟨HH, hk84, hk85⟩
    ·have H := HH.out
     simp only [Option.some.injEq, Prod.mk.injEq] at H
     obtain ⟨rfl, rfl⟩ := H
     clear HH
     go_wp2
     go_ret2
     exact ⟨by first | rfl | (simp; done) | (simp [*]; done), HB.out⟩
    have H := HH.out
    simp only [Option.some.injEq, Prod.mk.injEq] at H
    obtain ⟨rfl, rfl⟩ := H
    clear HH
    go_wp2
    go_ret2
    exact ⟨by first | rfl | (simp; done) | (simp [*]; done), HB.out⟩
 replace HH := MW.hneg HH c26
 replace c26 := Bool.eq_false_iff.mpr c26
 subst c26
 have H := HH.out
 simp only [Option.some.injEq, Prod.mk.injEq] at H
 obtain ⟨rfl, rfl⟩ := H
 clear HH
 go_wp2
 go_ret2
 exact ⟨by first | rfl | (simp; done) | (simp [*]; done), HB.out⟩

/-! ### prims_Is: function 79 -/
def prims_Is.f (a0_0 : Int) (a0_1 : Bool) (a0_2 : Int) (a0_3 : ByteArray) (l0_4 : List (S57)) (a1 : Int) (a2 : Int) (a3 : Bool) : Option (Bool) := if a0_0 = a1 then (if a0_2 = a2 then (some (a0_1 == a3)) else (some false)) else (some false)
set_option maxHeartbeats 8000000 in
set_option maxRecDepth 100000 in
theorem prims_Is.calls (P_ : Nat → Prop) (a0_0 : Int) (a0_1 : Bool) (a0_2 : Int) (a0_3 : ByteArray) (A0_4 : Option Addr) (c0_4 : Nat) (l0_4 : List (S57)) (a1 : Int) (a2 : Int) (a3 : Bool) (r : Bool) (w : World) (hs0_4 : Kd.F k57 w P_ A0_4 l0_4.length l0_4) (hc0_4 : l0_4.length ≤ c0_4) (h : prims_Is.f a0_0 a0_1 a0_2 a0_3 l0_4 a1 a2 a3 = some r) :
  Calls Try.prog 79 #[.agg #[.int .i64 a0_0, .bool a0_1, .int .i64 a0_2, .string a0_3, .slice A0_4 l0_4.length c0_4], .int .i64 a1, .int .i64 a2, .bool a3] w (fun e w' => e = .returned (.bool r) ∧ Below w.heap.size w w') := by
 have HH := Aside0.mk (show (if a0_0 = a1 then (if a0_2 = a2 then (some (a0_1 == a3)) else (some false)) else (some false)) = some r from h)
 clear h
 clear hs0_4 hc0_4
 have HB := Aside0.mk (Below.refl w.heap.size w)
 have hu57 := Try.underlying57
 go_enter Try.func79, Try.ntmps79
 go_wp2_with ((with_reducible refine gd 4 rfl ?_); refine zb 4 57 #[.int .i64 a0_0, .bool a0_1, .int .i64 a0_2, .string a0_3, .slice A0_4 l0_4.length c0_4] (h := ?_); intro g1 hg w2 BKg1 hb)
 refine Stop.go ?_
 replace HB := zhb HB.out hb
 clear hg hb
 obtain ⟨j3, j4, j5, j6, j7, j8, j9, ja, jb, jc⟩ := MB.lay5 BKg1.out
 replace HH := zqe HH
 rcases HH with ⟨HH, hk14, hk15⟩ | ⟨HH, hk21, hk22⟩
 ·replace HH := zqe HH
  rcases HH with ⟨HH, hk17, hk18⟩ | ⟨HH, hk19, hk20⟩
  ·have H := HH.out
   obtain rfl := Option.some.inj H
   clear HH
   go_wp2
   go_ret
   exact ⟨by first | rfl | (simp; done) | (simp [*]; done), HB.out⟩
  have H := HH.out
  obtain rfl := Option.some.inj H
  clear HH
  go_wp2
  go_ret
  exact ⟨by first | rfl | (simp; done) | (simp [*]; done), HB.out⟩
 have H := HH.out
 obtain rfl := Option.some.inj H
 clear HH
 go_wp2
 go_ret
 exact ⟨by first | rfl | (simp; done) | (simp [*]; done), HB.out⟩

/-! ### reply_texts_1: function 78 -/
def reply_texts_1.f (a0_0 : Int) (a0_1 : Bool) (a0_2 : Int) (a0_3 : ByteArray) (l0_4 : List (S57)) : Option (Bool) := (prims_Is.f a0_0 a0_1 a0_2 a0_3 l0_4 0 4 false).bind fun t13 => (some (!t13))
set_option maxHeartbeats 8000000 in
set_option maxRecDepth 100000 in
theorem reply_texts_1.calls (P_ : Nat → Prop) (a0_0 : Int) (a0_1 : Bool) (a0_2 : Int) (a0_3 : ByteArray) (A0_4 : Option Addr) (c0_4 : Nat) (l0_4 : List (S57)) (r : Bool) (w : World) (hs0_4 : Kd.F k57 w P_ A0_4 l0_4.length l0_4) (hc0_4 : l0_4.length ≤ c0_4) (h : reply_texts_1.f a0_0 a0_1 a0_2 a0_3 l0_4 = some r) :
  Calls Try.prog 78 #[.agg #[.int .i64 a0_0, .bool a0_1, .int .i64 a0_2, .string a0_3, .slice A0_4 l0_4.length c0_4]] w (fun e w' => e = .returned (.bool r) ∧ Below w.heap.size w w') := by
 have HH := Aside0.mk (show ((prims_Is.f a0_0 a0_1 a0_2 a0_3 l0_4 0 4 false).bind fun t13 => (some (!t13))) = some r from h)
 clear h
 have HF0_4 := zfp hs0_4
 have HL0_4 := Aside0.mk hc0_4
 clear hs0_4 hc0_4
 have HB := Aside0.mk (Below.refl w.heap.size w)
 have hu57 := Try.underlying57
 go_enter Try.func78, Try.ntmps78
 go_wp2_with ((with_reducible refine gd 1 rfl ?_); refine zb 1 57 #[.int .i64 a0_0, .bool a0_1, .int .i64 a0_2, .string a0_3, .slice A0_4 l0_4.length c0_4] (h := ?_); intro g1 hg w2 BKg1 hb)
 refine Stop.go ?_
 replace HF0_4 := zfe HF0_4.out hg hb
 replace HB := zhb HB.out hb
 clear hg hb
 obtain ⟨j3, j4, j5, j6, j7, j8, j9, ja, jb, jc⟩ := MB.lay5 BKg1.out
 replace HH := zd HH
 obtain ⟨t13, At14, HH⟩ := HH
 go_wp2_with ((with_reducible refine gc 79 rfl ?_); refine zc 79 (some 4) Try.func79 #[.agg #[.int .i64 a0_0, .bool a0_1, .int .i64 a0_2, .string a0_3, .slice A0_4 l0_4.length c0_4], .int .i64 0, .int .i64 4, .bool false] (h := ?_); (with_reducible refine (prims_Is.calls (fun k_ => (P_ k_ ∨ w.heap.size ≤ k_) ∧ k_ ≠ g1) a0_0 a0_1 a0_2 a0_3 _ _ l0_4 0 4 false t13 _ (Kd.F_mono (ok := (fun k_ => (P_ k_ ∨ w.heap.size ≤ k_) ∧ k_ ≠ g1)) HF0_4.out (fun k_ hk_ => hk_)) HL0_4.out At14.out).mono ?_); rintro e w15 ⟨rfl, hb⟩; refine ⟨_, rfl, ?_⟩)
 refine Stop.go ?_
 replace BKg1 := zbb BKg1.out hb
 replace HB := zhb HB.out hb
 clear hb
 clear j3 j4 j5 j6 j7 j8 j9 ja jb jc
 obtain ⟨jg, jh, ji, jj, jk, jl, jm, jn, jo, jp⟩ := MB.lay5 BKg1.out
 have H := HH.out
 obtain rfl := Option.some.inj H
 clear HH
 go_wp2
 go_ret
 exact ⟨by first | rfl | (simp; done) | (simp [*]; done), HB.out⟩

/-! ### reply_texts: function 52 -/
def reply_texts.l0 : Nat → Int → (List (S57)) → Option (Bool)
 | 0, _, _ => none
 | k + 1, x1, l0 => if x1 < (l0.length : Int) then (if 0 ≤ x1 then ((reply_texts_1.f ((rd_T57 l0 x1).f0) ((rd_T57 l0 x1).f1) ((rd_T57 l0 x1).f2) ((rd_T57 l0 x1).f3) ((rd_T57 l0 x1).f4)).bind fun t10 => (if t10 = true then (some (!(decide (x1 ≥ 0)))) else ((reply_texts.l0 k (wrap64 (x1 + 1)) l0)))) else (none)) else (some true)
def reply_texts.f (k : Nat) (l0 : List (S57)) : Option (Bool) := (reply_texts.l0 k 0 l0)
theorem reply_texts.mono_l : ∀ k, (∀ y0 y1, LeO (reply_texts.l0 k y0 y1) (reply_texts.l0 (k + 1) y0 y1))
 | 0 => fun _ _ r h => by simp [reply_texts.l0] at h
 | k + 1 => by
  have ih0 := reply_texts.mono_l k
  ·intro y0 y1
   unfold reply_texts.l0
   repeat' first
   | (with_reducible exact ih0 _ _)
   | (with_reducible exact LeO.refl _)
   | (with_reducible exact LeO.none _)
   | (with_reducible refine LeO.ite ?_ ?_)
   | (with_reducible refine LeO.bind ?_ (fun _ => ?_))
theorem reply_texts.mono : ∀ a0_ k, LeO (reply_texts.f k a0_) (reply_texts.f (k + 1) a0_) := by
 intro a0_ k
 have ih0 := reply_texts.mono_l k
 unfold reply_texts.f
 repeat' first
   | (with_reducible exact ih0 _ _)
   | (with_reducible exact LeO.refl _)
   | (with_reducible exact LeO.none _)
   | (with_reducible refine LeO.ite ?_ ?_)
   | (with_reducible refine LeO.bind ?_ (fun _ => ?_))
set_option maxHeartbeats 8000000 in
set_option maxRecDepth 100000 in
theorem reply_texts.calls (k : Nat) (P_ : Nat → Prop) (A0 : Option Addr) (c0 : Nat) (l0 : List (S57)) (r : Bool) (w : World) (hs0 : Kd.F k57 w P_ A0 l0.length l0) (hc0 : l0.length ≤ c0) (h : reply_texts.f k l0 = some r) :
  Calls Try.prog 52 #[.slice A0 l0.length c0] w (fun e w' => e = .returned (.bool r) ∧ Below w.heap.size w w') := by
 have HH := Aside0.mk (show ((reply_texts.l0 k 0 l0)) = some r from h)
 clear h
 have HF0 := zfp hs0
 clear hs0 hc0
 have HB := Aside0.mk (Below.refl w.heap.size w)
 go_enter Try.func52, Try.ntmps52
 go_wp2_with (((with_reducible refine gate_callee (f := 77) rfl ?_); (try (refine gate_guard (by rfl) ?_; dsimp only)); refine goesL_ (some 4) rfl rfl Try.func77 (by kernel_rfl) rfl #[.slice A0 l0.length c0, .func (.func 78) #[] #[]] rfl (by (try simp only [List.map_toArray, List.map_cons, List.map_nil]); first | done | rfl) ?_); refine stop_ ?_)
 refine Stop.go ?_
 go_enter Try.func77, Try.ntmps77
 go_wp2_with (((with_reducible refine gate_callee (f := 98) rfl ?_); (try (refine gate_guard (by rfl) ?_; dsimp only)); refine goesL_ (some 7) rfl rfl Try.func98 (by kernel_rfl) rfl #[.slice A0 l0.length c0, .func (.func 78) #[] #[]] rfl (by (try simp only [List.map_toArray, List.map_cons, List.map_nil]); first | done | rfl) ?_); refine stop_ ?_)
 refine Stop.go ?_
 go_enter Try.func98, Try.ntmps98
 go_wp2
 go_loopg [8] k (fun kq u8 w' => ∃ (x1 : Int), u8 = .int .i64 x1 ∧ Aside0 ((reply_texts.l0 kq x1 l0) = some r) ∧ Aside0 (kq ≤ k) ∧ Aside0 (Kd.F k57 w' (fun k_ => (P_ k_ ∨ w.heap.size ≤ k_)) A0 l0.length l0) ∧ Aside0 (Below w.heap.size w w'))
 case atStart => exact ⟨0, (by first | rfl | (simp; done) | (simp [*]; done)), HH, ⟨Nat.le_refl _⟩, ⟨(Kd.F_mono (ok := (fun k_ => (P_ k_ ∨ w.heap.size ≤ k_))) HF0.out (fun k_ hk_ => hk_))⟩, ⟨HB.out⟩⟩
 case round =>
  clear HH
  clear HF0 HB
  obtain ⟨x1, rfl, HA, HK0, HF0, HB⟩ := hrel
  obtain ⟨w3, rfl⟩ : ∃ wo_ : World, wo_ = wr := ⟨_, rfl⟩
  cases gk with
  | zero => exact absurd HA.out (by simp [reply_texts.l0])
  | succ k2 =>
   have H := HA.out
   clear HA
   simp only [reply_texts.l0] at H
   have HH := Aside0.mk H
   clear H
   replace HH := zqt HH
   rcases HH with ⟨HH, hk5, hk6⟩ | ⟨HH, hk15, hk16⟩
   ·replace HH := zqdo HH
    obtain ⟨HH, hk8⟩ := HH
    have p9 : 0 ≤ (x1 : Int) := of_decide_eq_true (by first | (with_reducible assumption) | assumption)
    have q9 : x1 < (l0.length : Int) := of_decide_eq_true (by first | (with_reducible assumption) | assumption)
    obtain ⟨ad9, A9_4, c9_4, e9, hx9_0, hx9_1, hx9_2, hx9_3, hx9_4, hl9_4, hi9_4⟩ := atF_T57 HF0.out x1 p9 q9
    cases e9
    have HF9_4 := Aside0.mk hi9_4
    have HL9_4 := Aside0.mk hl9_4
    clear hi9_4 hl9_4
    replace p9 := eq_true p9
    replace q9 := eq_true q9
    replace HH := zd HH
    obtain ⟨t10, At11, HH⟩ := HH
    go_wp2_with ((with_reducible refine gd 16 rfl ?_); refine zv 16 Try.func78 #[.agg #[.int .i64 ((rd_T57 l0 x1).f0), .bool ((rd_T57 l0 x1).f1), .int .i64 ((rd_T57 l0 x1).f2), .string ((rd_T57 l0 x1).f3), .slice A9_4 ((rd_T57 l0 x1).f4).length c9_4]] #[] (h := ?_); (with_reducible refine (reply_texts_1.calls (fun k_ => (P_ k_ ∨ w.heap.size ≤ k_)) ((rd_T57 l0 x1).f0) ((rd_T57 l0 x1).f1) ((rd_T57 l0 x1).f2) ((rd_T57 l0 x1).f3) _ _ ((rd_T57 l0 x1).f4) t10 _ (Kd.F_mono (ok := (fun k_ => (P_ k_ ∨ w.heap.size ≤ k_))) HF9_4.out (fun k_ hk_ => hk_)) HL9_4.out At11.out).mono ?_); rintro e w12 ⟨rfl, hb⟩; refine ⟨_, rfl, ?_⟩)
    refine Stop.go ?_
    replace HF0 := zfb HF0.out hb
    replace HB := zhb HB.out hb
    clear hb
    clear hx9_0 hx9_1 hx9_2 hx9_3 hx9_4 p9 q9
    by_cases c13 : t10 = true
    ·replace HH := MW.hpos HH c13
     subst c13
     go_wp2
     go_ret
     refine ⟨_, rfl, ?_⟩
     go_wp2
     go_ret
     refine ⟨_, rfl, ?_⟩
     have H := HH.out
     obtain rfl := Option.some.inj H
     clear HH
     go_wp2
     go_ret
     exact ⟨by first | rfl | (simp; done) | (simp [*]; done), HB.out⟩
    replace HH := MW.hneg HH c13
    replace c13 := Bool.eq_false_iff.mpr c13
    subst c13
    go_wp2
    go_roundg k2
    case measure => have := HK0.out; omega
    case rel => exact ⟨wrap64 (x1 + 1), (by first | rfl | (simp; done) | (simp [*]; done)), HH, ⟨by have := HK0.out; omega⟩, ⟨(Kd.F_mono (ok := (fun k_ => (P_ k_ ∨ w.heap.size ≤ k_))) HF0.out (fun k_ hk_ => hk_))⟩, ⟨HB.out⟩⟩
   go_wp2
   go_ret
   refine ⟨_, rfl, ?_⟩
   go_wp2
   go_ret
   refine ⟨_, rfl, ?_⟩
   have H := HH.out
   obtain rfl := Option.some.inj H
   clear HH
   go_wp2
   go_ret
   exact ⟨by first | rfl | (simp; done) | (simp [*]; done), HB.out⟩

/-! ### slices_Equal_string_string: function 57 -/
def slices_Equal_string_string.l0 : Nat → Int → (List ByteArray) → (List ByteArray) → Option (Bool)
 | 0, _, _, _ => none
 | k + 1, x5, l0, l1 => if x5 < (l0.length : Int) then (if 0 ≤ x5 then (if x5 < (l1.length : Int) then (if (rdOf ByteArray.empty l0 x5).toList = (rdOf ByteArray.empty l1 x5).toList then ((slices_Equal_string_string.l0 k (wrap64 (x5 + 1)) l0 l1)) else (some false)) else (none)) else (none)) else (some true)
def slices_Equal_string_string.f (k : Nat) (l0 : List ByteArray) (l1 : List ByteArray) : Option (Bool) := if (l0.length : Int) = (l1.length : Int) then ((slices_Equal_string_string.l0 k 0 l0 l1)) else (some false)
theorem slices_Equal_string_string.mono_l : ∀ k, (∀ y0 y1 y2, LeO (slices_Equal_string_string.l0 k y0 y1 y2) (slices_Equal_string_string.l0 (k + 1) y0 y1 y2))
 | 0 => fun _ _ _ r h => by simp [slices_Equal_string_string.l0] at h
 | k + 1 => by
  have ih0 := slices_Equal_string_string.mono_l k
  ·intro y0 y1 y2
   unfold slices_Equal_string_string.l0
   repeat' first
   | (with_reducible exact ih0 _ _ _)
   | (with_reducible exact LeO.refl _)
   | (with_reducible exact LeO.none _)
   | (with_reducible refine LeO.ite ?_ ?_)
   | (with_reducible refine LeO.bind ?_ (fun _ => ?_))
theorem slices_Equal_string_string.mono : ∀ a0_ a1_ k, LeO (slices_Equal_string_string.f k a0_ a1_) (slices_Equal_string_string.f (k + 1) a0_ a1_) := by
 intro a0_ a1_ k
 have ih0 := slices_Equal_string_string.mono_l k
 unfold slices_Equal_string_string.f
 repeat' first
   | (with_reducible exact ih0 _ _ _)
   | (with_reducible exact LeO.refl _)
   | (with_reducible exact LeO.none _)
   | (with_reducible refine LeO.ite ?_ ?_)
   | (with_reducible refine LeO.bind ?_ (fun _ => ?_))
set_option maxHeartbeats 8000000 in
set_option maxRecDepth 100000 in
theorem slices_Equal_string_string.calls (k : Nat) (P_ : Nat → Prop) (A0 : Option Addr) (c0 : Nat) (l0 : List ByteArray) (A1 : Option Addr) (c1 : Nat) (l1 : List ByteArray) (r : Bool) (w : World) (hs0 : Kd.F Kd.string w P_ A0 l0.length l0) (hc0 : l0.length ≤ c0) (hs1 : Kd.F Kd.string w P_ A1 l1.length l1) (hc1 : l1.length ≤ c1) (h : slices_Equal_string_string.f k l0 l1 = some r) :
  Calls Try.prog 57 #[.slice A0 l0.length c0, .slice A1 l1.length c1] w (fun e w' => e = .returned (.bool r) ∧ Drawn0 w w') := by
 have HH := Aside0.mk (show (if (l0.length : Int) = (l1.length : Int) then ((slices_Equal_string_string.l0 k 0 l0 l1)) else (some false)) = some r from h)
 clear h
 have HF0 := zfp hs0
 clear hs0 hc0
 have HF1 := zfp hs1
 clear hs1 hc1
 go_enter Try.func57, Try.ntmps57
 by_cases c1 : (l0.length : Int) = (l1.length : Int)
 ·replace HH := MW.hpos HH c1
  have hk2 : ((l0.length : Int) == (l1.length : Int)) = true := beq_iff_eq.mpr c1
  have hk3 : ((l0.length : Int) != (l1.length : Int)) = false := bne_eq_false_iff_eq.mpr c1
  have hk4 : (l0.length == l1.length) = true := by first | simpa using c1 | (simp at c1 ⊢; omega)
  clear c1
  go_wp2
  go_loopg [13] k (fun kq u13 w' => ∃ (x5 : Int), u13 = .int .i64 x5 ∧ Aside0 ((slices_Equal_string_string.l0 kq x5 l0 l1) = some r) ∧ Aside0 (kq ≤ k) ∧ Drawn0 w w')
  case atStart => exact ⟨0, (by first | rfl | (simp; done) | (simp [*]; done)), HH, ⟨Nat.le_refl _⟩, by repeat (first | exact Drawn0.refl _ | apply Drawn0.step)⟩
  case round =>
   clear hk2
   clear hk3
   clear hk4
   clear HH
   obtain ⟨x5, rfl, HA, HK0, ⟨m0_, rfl⟩⟩ := hrel
   cases gk with
   | zero => exact absurd HA.out (by simp [slices_Equal_string_string.l0])
   | succ k6 =>
    have H := HA.out
    clear HA
    simp only [slices_Equal_string_string.l0] at H
    have HH := Aside0.mk H
    clear H
    replace HH := zqt HH
    rcases HH with ⟨HH, hk9, hk10⟩ | ⟨HH, hk26, hk27⟩
    ·replace HH := zqdo HH
     obtain ⟨HH, hk12⟩ := HH
     have p13 : 0 ≤ (x5 : Int) := of_decide_eq_true (by first | (with_reducible assumption) | assumption)
     have q13 : x5 < (l0.length : Int) := of_decide_eq_true (by first | (with_reducible assumption) | assumption)
     obtain ⟨ad13, e13, hx13_0⟩ := Kd.at_string (Kd.F_now HF0.out) x5 p13 q13
     cases e13
     replace p13 := eq_true p13
     replace q13 := eq_true q13
     replace HH := zqto HH
     obtain ⟨HH, hk15, hk16⟩ := HH
     have p17 : 0 ≤ (x5 : Int) := of_decide_eq_true (by first | (with_reducible assumption) | assumption)
     have q17 : x5 < (l1.length : Int) := of_decide_eq_true (by first | (with_reducible assumption) | assumption)
     obtain ⟨ad17, e17, hx17_0⟩ := Kd.at_string (Kd.F_now HF1.out) x5 p17 q17
     cases e17
     replace p17 := eq_true p17
     replace q17 := eq_true q17
     replace HH := zqe HH
     rcases HH with ⟨HH, hk19, hk20⟩ | ⟨HH, hk21, hk22⟩
     ·go_wp2
      go_quiet (fail)
      go_wp2
      go_roundg k6
      case measure => have := HK0.out; omega
      case rel => exact ⟨wrap64 (x5 + 1), (by first | rfl | (simp; done) | (simp [*]; done)), HH, ⟨by have := HK0.out; omega⟩, by repeat (first | exact Drawn0.refl _ | apply Drawn0.step)⟩
     have H := HH.out
     obtain rfl := Option.some.inj H
     clear HH
     go_wp2
     go_quiet (fail)
     go_wp2
     go_ret
     exact ⟨by first | rfl | (simp; done) | (simp [*]; done), by repeat (first | exact Drawn0.refl _ | apply Drawn0.step)⟩
    have H := HH.out
    obtain rfl := Option.some.inj H
    clear HH
    go_wp2
    go_ret
    exact ⟨by first | rfl | (simp; done) | (simp [*]; done), by repeat (first | exact Drawn0.refl _ | apply Drawn0.step)⟩
 replace HH := MW.hneg HH c1
 have hk28 : ((l0.length : Int) == (l1.length : Int)) = false := beq_eq_false_iff_ne.mpr c1
 have hk29 : ((l0.length : Int) != (l1.length : Int)) = true := bne_iff_ne.mpr c1
 have hk30 : (l0.length == l1.length) = false := by first | simpa using c1 | (simp at c1 ⊢; omega)
 clear c1
 have H := HH.out
 obtain rfl := Option.some.inj H
 clear HH
 go_wp2
 go_ret
 exact ⟨by first | rfl | (simp; done) | (simp [*]; done), by repeat (first | exact Drawn0.refl _ | apply Drawn0.step)⟩

/-! ### reply_same: function 36 -/
def reply_same.f (k : Nat) (a0_0 : ByteArray) (l0_1 : List ByteArray) (a1_0 : ByteArray) (l1_1 : List ByteArray) : Option (Bool) := if a0_0.toList = a1_0.toList then ((slices_Equal_string_string.f k l0_1 l1_1).bind fun t20 => (some t20)) else (some false)
theorem reply_same.mono : ∀ a0_ a1_ a2_ a3_ k, LeO (reply_same.f k a0_ a1_ a2_ a3_) (reply_same.f (k + 1) a0_ a1_ a2_ a3_) := by
 intro a0_ a1_ a2_ a3_ k
 unfold reply_same.f
 repeat' first
   | (with_reducible exact slices_Equal_string_string.mono _ _ _)
   | (with_reducible exact LeO.refl _)
   | (with_reducible exact LeO.none _)
   | (with_reducible refine LeO.ite ?_ ?_)
   | (with_reducible refine LeO.bind ?_ (fun _ => ?_))
set_option maxHeartbeats 8000000 in
set_option maxRecDepth 100000 in
theorem reply_same.calls (k : Nat) (P_ : Nat → Prop) (a0_0 : ByteArray) (A0_1 : Option Addr) (c0_1 : Nat) (l0_1 : List ByteArray) (a1_0 : ByteArray) (A1_1 : Option Addr) (c1_1 : Nat) (l1_1 : List ByteArray) (r : Bool) (w : World) (hs0_1 : Kd.F Kd.string w P_ A0_1 l0_1.length l0_1) (hc0_1 : l0_1.length ≤ c0_1) (hs1_1 : Kd.F Kd.string w P_ A1_1 l1_1.length l1_1) (hc1_1 : l1_1.length ≤ c1_1) (h : reply_same.f k a0_0 l0_1 a1_0 l1_1 = some r) :
  Calls Try.prog 36 #[.agg #[.string a0_0, .slice A0_1 l0_1.length c0_1], .agg #[.string a1_0, .slice A1_1 l1_1.length c1_1]] w (fun e w' => e = .returned (.bool r) ∧ Below w.heap.size w w') := by
 have HH := Aside0.mk (show (if a0_0.toList = a1_0.toList then ((slices_Equal_string_string.f k l0_1 l1_1).bind fun t20 => (some t20)) else (some false)) = some r from h)
 clear h
 have HF0_1 := zfp hs0_1
 have HL0_1 := Aside0.mk hc0_1
 clear hs0_1 hc0_1
 have HF1_1 := zfp hs1_1
 have HL1_1 := Aside0.mk hc1_1
 clear hs1_1 hc1_1
 have HB := Aside0.mk (Below.refl w.heap.size w)
 have hu46 := Try.underlying46
 go_enter Try.func36, Try.ntmps36
 go_wp2_with ((with_reducible refine gd 2 rfl ?_); refine zb 2 46 #[.string a0_0, .slice A0_1 l0_1.length c0_1] (h := ?_); intro g1 hg w2 BKg1 hb)
 refine Stop.go ?_
 replace HF0_1 := zfe HF0_1.out hg hb
 replace HF1_1 := zfe HF1_1.out hg hb
 replace HB := zhb HB.out hb
 clear hg hb
 obtain ⟨j3, j4, j5, j6⟩ := MB.lay2 BKg1.out
 go_wp2_with ((with_reducible refine gd 3 rfl ?_); refine zb 3 46 #[.string a1_0, .slice A1_1 l1_1.length c1_1] (h := ?_); intro g7 hg w8 BKg7 hb)
 refine Stop.go ?_
 replace HF0_1 := zfe HF0_1.out hg hb
 replace HF1_1 := zfe HF1_1.out hg hb
 replace BKg1 := zbb BKg1.out hb
 replace HB := zhb HB.out hb
 clear hg hb
 clear j3 j4 j5 j6
 obtain ⟨j9, ja, jb, jc⟩ := MB.lay2 BKg1.out
 obtain ⟨jd, je, jf, jg⟩ := MB.lay2 BKg7.out
 replace HH := zqe HH
 rcases HH with ⟨HH, hk18, hk19⟩ | ⟨HH, hk23, hk24⟩
 ·replace HH := zd HH
  obtain ⟨t20, At21, HH⟩ := HH
  go_wp2_with ((with_reducible refine gc 57 rfl ?_); refine zc 57 (some 15) Try.func57 #[.slice A0_1 l0_1.length c0_1, .slice A1_1 l1_1.length c1_1] (h := ?_); (with_reducible refine (slices_Equal_string_string.calls k (fun k_ => ((P_ k_ ∨ w.heap.size ≤ k_) ∧ k_ ≠ g1) ∧ k_ ≠ g7) _ _ l0_1 _ _ l1_1 t20 _ (Kd.F_mono (ok := (fun k_ => ((P_ k_ ∨ w.heap.size ≤ k_) ∧ k_ ≠ g1) ∧ k_ ≠ g7)) HF0_1.out (fun k_ hk_ => hk_)) HL0_1.out (Kd.F_mono (ok := (fun k_ => ((P_ k_ ∨ w.heap.size ≤ k_) ∧ k_ ≠ g1) ∧ k_ ≠ g7)) HF1_1.out (fun k_ hk_ => hk_)) HL1_1.out At21.out).mono ?_); rintro e w' ⟨rfl, ⟨nd, rfl⟩⟩; refine ⟨_, rfl, ?_⟩)
  refine Stop.go ?_
  have H := HH.out
  obtain rfl := Option.some.inj H
  clear HH
  go_wp2
  go_ret
  exact ⟨by first | rfl | (simp; done) | (simp [*]; done), (by repeat (first | (with_reducible first | exact HB.out | apply below_alloc | apply pw_below_drewN | apply below_drew1) | exact HB.out))⟩
 have H := HH.out
 obtain rfl := Option.some.inj H
 clear HH
 go_wp2
 go_ret
 exact ⟨by first | rfl | (simp; done) | (simp [*]; done), HB.out⟩
end Go.Proofs.Ytdjkemhmhkpmkaa.GA
