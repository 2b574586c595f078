import Derived.Test.YtdjkemhmhkpmkaaGA0
import Derived.Test.YtdjkemhmhkpmkaaGAB
import Derived.Test.YtdjkemhmhkpmkaaGAF61
namespace Go.Proofs.Ytdjkemhmhkpmkaa.GA
open Go.RowKit Go.Proofs.Ytdjkemhmhkpmkaa Go.Proofs.Ytdjkemhmhkpmkaa.MW Go.Proofs.YtdjkemhmhkpmkaaW.PrintWords Go.Proofs.YtdjkemhmhkpmkaaW.PrintLast Go.Proofs.YtdjkemhmhkpmkaaW.PrintMore
attribute [local go_sem] max2_int min2_int max_two min_two
set_option linter.unusedVariables false
set_option linter.unusedSimpArgs false
/-! ### reply_wrong_1: function 38 -/
def reply_wrong_1.f (a0 : ByteArray) : Option (Bool) := some (decide ((a0.size : Int) > 400))
set_option maxHeartbeats 8000000 in
set_option maxRecDepth 100000 in
theorem reply_wrong_1.calls (a0 : ByteArray) (r : Bool) (w : World) (h : reply_wrong_1.f a0 = some r) :
  Calls Try.prog 38 #[.string a0] w (fun e w' => e = .returned (.bool r) ∧ Drawn0 w w') := by
 have HH := Aside0.mk (show (some (decide ((a0.size : Int) > 400))) = some r from h)
 clear h
 go_enter Try.func38, Try.ntmps38
 have H := HH.out
 obtain rfl := Option.some.inj H
 clear HH
 go_wp2
 go_ret
 exact ⟨by first | rfl | (simp; done) | (simp [*]; done), by repeat (first | exact Drawn0.refl _ | apply Drawn0.step)⟩

/-! ### dn_small: function 58 -/
def dn_small.f (a0 : Int) : Option (Bool) := if a0 ≥ 97 then (some (decide (a0 ≤ 122))) else (some false)
set_option maxHeartbeats 8000000 in
set_option maxRecDepth 100000 in
theorem dn_small.calls (a0 : Int) (r : Bool) (w : World) (h : dn_small.f a0 = some r) :
  Calls Try.prog 58 #[.int .u8 a0] w (fun e w' => e = .returned (.bool r) ∧ Drawn0 w w') := by
 have HH := Aside0.mk (show (if a0 ≥ 97 then (some (decide (a0 ≤ 122))) else (some false)) = some r from h)
 clear h
 go_enter Try.func58, Try.ntmps58
 by_cases c1 : a0 ≥ 97
 ·replace HH := MW.hpos HH c1
  have hk2 : decide (97 ≤ a0) = true := decide_eq_true c1
  clear c1
  have H := HH.out
  obtain rfl := Option.some.inj H
  clear HH
  go_wp2
  go_ret
  exact ⟨by first | rfl | (simp; done) | (simp [*]; done), by repeat (first | exact Drawn0.refl _ | apply Drawn0.step)⟩
 replace HH := MW.hneg HH c1
 have hk3 : decide (97 ≤ a0) = false := decide_eq_false c1
 clear c1
 have H := HH.out
 obtain rfl := Option.some.inj H
 clear HH
 go_wp2
 go_ret
 exact ⟨by first | rfl | (simp; done) | (simp [*]; done), by repeat (first | exact Drawn0.refl _ | apply Drawn0.step)⟩

/-! ### dn_Word: function 39 -/
def dn_Word.l0 : Nat → Int → ByteArray → Option (Bool)
 | 0, _, _ => none
 | k + 1, x21, a0 => if x21 < (a0.size : Int) then (if 0 ≤ x21 then ((dn_small.f (bt a0 x21)).bind fun t30 => (if t30 = true then ((dn_Word.l0 k (wrap64 (x21 + 1)) a0)) else (if (bt a0 x21) < 48 then (if (bt a0 x21) = 45 then ((dn_Word.l0 k (wrap64 (x21 + 1)) a0)) else (some false)) else (if (bt a0 x21) > 57 then (if (bt a0 x21) = 45 then ((dn_Word.l0 k (wrap64 (x21 + 1)) a0)) else (some false)) else ((dn_Word.l0 k (wrap64 (x21 + 1)) a0)))))) else (none)) else (some true)
def dn_Word.f (k : Nat) (a0 : ByteArray) : Option (Bool) := if a0.toList = ([] : List UInt8) then (some false) else (if (a0.size : Int) > 16 then (some false) else (if 0 < (a0.size : Int) then ((dn_small.f (bt a0 0)).bind fun t17 => (if t17 = true then ((dn_Word.l0 k 1 a0)) else (some false))) else (none)))
theorem dn_Word.mono_l : ∀ k, (∀ y0 y1, LeO (dn_Word.l0 k y0 y1) (dn_Word.l0 (k + 1) y0 y1))
 | 0 => fun _ _ r h => by simp [dn_Word.l0] at h
 | k + 1 => by
  have ih0 := dn_Word.mono_l k
  ·intro y0 y1
   unfold dn_Word.l0
   repeat' first
   | (with_reducible exact ih0 _ _)
   | (with_reducible exact LeO.refl _)
   | (with_reducible exact LeO.none _)
   | (with_reducible refine LeO.ite ?_ ?_)
   | (with_reducible refine LeO.bind ?_ (fun _ => ?_))
theorem dn_Word.mono : ∀ a0_ k, LeO (dn_Word.f k a0_) (dn_Word.f (k + 1) a0_) := by
 intro a0_ k
 have ih0 := dn_Word.mono_l k
 unfold dn_Word.f
 repeat' first
   | (with_reducible exact ih0 _ _)
   | (with_reducible exact LeO.refl _)
   | (with_reducible exact LeO.none _)
   | (with_reducible refine LeO.ite ?_ ?_)
   | (with_reducible refine LeO.bind ?_ (fun _ => ?_))
set_option maxHeartbeats 8000000 in
set_option maxRecDepth 100000 in
theorem dn_Word.calls (k : Nat) (a0 : ByteArray) (r : Bool) (w : World) (h : dn_Word.f k a0 = some r) :
  Calls Try.prog 39 #[.string a0] w (fun e w' => e = .returned (.bool r) ∧ Drawn0 w w') := by
 have HH := Aside0.mk (show (if a0.toList = ([] : List UInt8) then (some false) else (if (a0.size : Int) > 16 then (some false) else (if 0 < (a0.size : Int) then ((dn_small.f (bt a0 0)).bind fun t17 => (if t17 = true then ((dn_Word.l0 k 1 a0)) else (some false))) else (none)))) = some r from h)
 clear h
 go_enter Try.func39, Try.ntmps39
 by_cases c1 : a0.toList = ([] : List UInt8)
 ·replace HH := MW.hpos HH c1
  have hk2 : (a0.toList == ([] : List UInt8)) = true := beq_iff_eq.mpr c1
  have hk3 : (a0.toList != ([] : List UInt8)) = false := bne_eq_false_iff_eq.mpr c1
  clear c1
  have H := HH.out
  obtain rfl := Option.some.inj H
  clear HH
  go_wp2
  go_ret
  exact ⟨by first | rfl | (simp; done) | (simp [*]; done), by repeat (first | exact Drawn0.refl _ | apply Drawn0.step)⟩
 replace HH := MW.hneg HH c1
 have hk4 : (a0.toList == ([] : List UInt8)) = false := beq_eq_false_iff_ne.mpr c1
 have hk5 : (a0.toList != ([] : List UInt8)) = true := bne_iff_ne.mpr c1
 clear c1
 by_cases c6 : (a0.size : Int) > 16
 ·replace HH := MW.hpos HH c6
  have hk7 : decide (16 < (a0.size : Int)) = true := decide_eq_true c6
  have hk8 : decide (16 < a0.size) = true := decide_eq_true (by omega)
  clear c6
  have H := HH.out
  obtain rfl := Option.some.inj H
  clear HH
  go_wp2
  go_ret
  exact ⟨by first | rfl | (simp; done) | (simp [*]; done), by repeat (first | exact Drawn0.refl _ | apply Drawn0.step)⟩
 replace HH := MW.hneg HH c6
 have hk9 : decide (16 < (a0.size : Int)) = false := decide_eq_false c6
 have hk10 : decide (16 < a0.size) = false := decide_eq_false (by omega)
 clear c6
 by_cases c11 : 0 < (a0.size : Int)
 ·replace HH := MW.hpos HH c11
  have hk12 : (0 < (a0.size : Int)) = True := eq_true c11
  have hk13 : (0 < a0.size) = True := eq_true (by have := c11; omega)
  have hk14 : decide (0 < (a0.size : Int)) = true := decide_eq_true c11
  have hk15 : decide (0 < a0.size) = true := decide_eq_true (by omega)
  clear c11
  have p16 : 0 ≤ (0 : Int) := (by omega)
  have q16 : 0 < a0.size := (by have : (0 : Int) < (a0.size : Int) := of_decide_eq_true (by first | (with_reducible assumption) | assumption); omega)
  have hx16 : ∀ h : 0 < a0.size, ((a0[0]'h).toNat : Int) = bt a0 0 := MW.bt_at' a0 0
  clear p16
  have qi16 : (0 < (a0.size : Int)) = True := eq_true (of_decide_eq_true (by first | (with_reducible assumption) | assumption))
  replace q16 := eq_true q16
  have H := HH.out
  replace H := Option.bind_eq_some_iff.mp H
  obtain ⟨t17, at_, H⟩ := H
  have At18 := Aside0.mk at_
  clear at_
  (try dsimp only at H)
  replace HH := Aside0.mk H
  clear H
  go_wp2_with (((with_reducible refine gate_callee (f := 58) rfl ?_); (try (refine gate_guard (by rfl) ?_; dsimp only)); refine goesL_ (some 15) rfl rfl Try.func58 (by kernel_rfl) rfl #[.int .u8 (bt a0 0)] rfl (by (try simp only [List.map_toArray, List.map_cons, List.map_nil]); first | done | rfl | (simp only [List.length_drop, List.length_take]; rfl)) ?_; (with_reducible refine (dn_small.calls  (bt a0 0) t17 _  At18.out).mono ?_); rintro e w' ⟨rfl, ⟨nd, rfl⟩⟩; refine ⟨_, rfl, ?_⟩); refine stop_ ?_)
  refine Stop.go ?_
  by_cases c20 : t17 = true
  ·replace HH := MW.hpos HH c20
   subst c20
   go_wp2
   go_loopg [3] k (fun kq u3 w' => ∃ (x21 : Int), u3 = .int .i64 x21 ∧ Aside0 ((dn_Word.l0 kq x21 a0) = some r) ∧ Aside0 (kq ≤ k) ∧ Drawn0 w w')
   case atStart => exact ⟨1, (by first | rfl | (simp; done) | (simp [*]; done)), HH, ⟨Nat.le_refl _⟩, by repeat (first | exact Drawn0.refl _ | apply Drawn0.step)⟩
   case round =>
    clear hk4
    clear hk5
    clear hk9
    clear hk10
    clear hk12
    clear hk13
    clear hk14
    clear hk15
    clear qi16
    clear q16
    clear hx16
    clear HH
    obtain ⟨x21, rfl, HA, HK0, ⟨m0_, rfl⟩⟩ := hrel
    cases gk with
    | zero => exact absurd HA.out (by simp [dn_Word.l0])
    | succ k22 =>
     have H := HA.out
     clear HA
     simp only [dn_Word.l0] at H
     have HH := Aside0.mk H
     clear H
     by_cases c24 : x21 < (a0.size : Int)
     ·replace HH := MW.hpos HH c24
      have hk25 : (x21 < (a0.size : Int)) = True := eq_true c24
      have hk26 : decide (x21 < (a0.size : Int)) = true := decide_eq_true c24
      clear c24
      by_cases c27 : 0 ≤ x21
      ·replace HH := MW.hpos HH c27
       have hk28 : decide (0 ≤ x21) = true := decide_eq_true c27
       clear c27
       have p29 : 0 ≤ (x21 : Int) := of_decide_eq_true (by first | (with_reducible assumption) | assumption)
       have q29 : x21 < (a0.size : Int) := of_decide_eq_true (by first | (with_reducible assumption) | assumption)
       have hx29 := MW.bt_at' a0 x21
       replace p29 := eq_true p29
       replace q29 := eq_true q29
       have H := HH.out
       replace H := Option.bind_eq_some_iff.mp H
       obtain ⟨t30, at_, H⟩ := H
       have At31 := Aside0.mk at_
       clear at_
       (try dsimp only at H)
       replace HH := Aside0.mk H
       clear H
       go_wp2_with (((with_reducible refine gate_callee (f := 58) rfl ?_); (try (refine gate_guard (by rfl) ?_; dsimp only)); refine goesL_ (some 28) rfl rfl Try.func58 (by kernel_rfl) rfl #[.int .u8 (bt a0 x21)] rfl (by (try simp only [List.map_toArray, List.map_cons, List.map_nil]); first | done | rfl | (simp only [List.length_drop, List.length_take]; rfl)) ?_; (with_reducible refine (dn_small.calls  (bt a0 x21) t30 _  At31.out).mono ?_); rintro e w' ⟨rfl, ⟨nd, rfl⟩⟩; refine ⟨_, rfl, ?_⟩); refine stop_ ?_)
       refine Stop.go ?_
       by_cases c33 : t30 = true
       ·replace HH := MW.hpos HH c33
        subst c33
        go_wp2
        go_roundg k22
        case measure => have := HK0.out; omega
        case rel => exact ⟨wrap64 (x21 + 1), (by first | rfl | (simp; done) | (simp [*]; done)), HH, ⟨by have := HK0.out; omega⟩, by repeat (first | exact Drawn0.refl _ | apply Drawn0.step)⟩
       replace HH := MW.hneg HH c33
       replace c33 := Bool.eq_false_iff.mpr c33
       subst c33
       by_cases c34 : (bt a0 x21) < 48
       ·replace HH := MW.hpos HH c34
        have hk35 : ((bt a0 x21) < 48) = True := eq_true c34
        have hk36 : decide ((bt a0 x21) < 48) = true := decide_eq_true c34
        clear c34
        by_cases c37 : (bt a0 x21) = 45
        ·replace HH := MW.hpos HH c37
         have hk38 : ((bt a0 x21) == 45) = true := beq_iff_eq.mpr c37
         have hk39 : ((bt a0 x21) != 45) = false := bne_eq_false_iff_eq.mpr c37
         clear c37
         go_wp2
         go_roundg k22
         case measure => have := HK0.out; omega
         case rel => exact ⟨wrap64 (x21 + 1), (by first | rfl | (simp; done) | (simp [*]; done)), HH, ⟨by have := HK0.out; omega⟩, by repeat (first | exact Drawn0.refl _ | apply Drawn0.step)⟩
        replace HH := MW.hneg HH c37
        have hk40 : ((bt a0 x21) == 45) = false := beq_eq_false_iff_ne.mpr c37
        have hk41 : ((bt a0 x21) != 45) = true := bne_iff_ne.mpr c37
        clear c37
        have H := HH.out
        obtain rfl := Option.some.inj H
        clear HH
        go_wp2
        go_ret
        exact ⟨by first | rfl | (simp; done) | (simp [*]; done), by repeat (first | exact Drawn0.refl _ | apply Drawn0.step)⟩
       replace HH := MW.hneg HH c34
       have hk42 : ((bt a0 x21) < 48) = False := eq_false c34
       have hk43 : decide ((bt a0 x21) < 48) = false := decide_eq_false c34
       clear c34
       by_cases c44 : (bt a0 x21) > 57
       ·replace HH := MW.hpos HH c44
        have hk45 : decide (57 < (bt a0 x21)) = true := decide_eq_true c44
        clear c44
        by_cases c46 : (bt a0 x21) = 45
        ·replace HH := MW.hpos HH c46
         have hk47 : ((bt a0 x21) == 45) = true := beq_iff_eq.mpr c46
         have hk48 : ((bt a0 x21) != 45) = false := bne_eq_false_iff_eq.mpr c46
         clear c46
         go_wp2
         go_roundg k22
         case measure => have := HK0.out; omega
         case rel => exact ⟨wrap64 (x21 + 1), (by first | rfl | (simp; done) | (simp [*]; done)), HH, ⟨by have := HK0.out; omega⟩, by repeat (first | exact Drawn0.refl _ | apply Drawn0.step)⟩
        replace HH := MW.hneg HH c46
        have hk49 : ((bt a0 x21) == 45) = false := beq_eq_false_iff_ne.mpr c46
        have hk50 : ((bt a0 x21) != 45) = true := bne_iff_ne.mpr c46
        clear c46
        have H := HH.out
        obtain rfl := Option.some.inj H
        clear HH
        go_wp2
        go_ret
        exact ⟨by first | rfl | (simp; done) | (simp [*]; done), by repeat (first | exact Drawn0.refl _ | apply Drawn0.step)⟩
       replace HH := MW.hneg HH c44
       have hk51 : decide (57 < (bt a0 x21)) = false := decide_eq_false c44
       clear c44
       go_wp2
       go_roundg k22
       case measure => have := HK0.out; omega
       case rel => exact ⟨wrap64 (x21 + 1), (by first | rfl | (simp; done) | (simp [*]; done)), HH, ⟨by have := HK0.out; omega⟩, by repeat (first | exact Drawn0.refl _ | apply Drawn0.step)⟩
      exact absurd HH.out (by rw [if_neg c27]; simp)
     replace HH := MW.hneg HH c24
     have hk53 : (x21 < (a0.size : Int)) = False := eq_false c24
     have hk54 : decide (x21 < (a0.size : Int)) = false := decide_eq_false c24
     clear c24
     have H := HH.out
     obtain rfl := Option.some.inj H
     clear HH
     go_wp2
     go_ret
     exact ⟨by first | rfl | (simp; done) | (simp [*]; done), by repeat (first | exact Drawn0.refl _ | apply Drawn0.step)⟩
  replace HH := MW.hneg HH c20
  replace c20 := Bool.eq_false_iff.mpr c20
  subst c20
  have H := HH.out
  obtain rfl := Option.some.inj H
  clear HH
  go_wp2
  go_ret
  exact ⟨by first | rfl | (simp; done) | (simp [*]; done), by repeat (first | exact Drawn0.refl _ | apply Drawn0.step)⟩
 exact absurd HH.out (by rw [if_neg c11]; simp)

/-! ### reply_wrong: function 21 -/
def reply_wrong.l0 : Nat → Int → (List ByteArray) → Option (Bool)
 | 0, _, _ => none
 | k + 1, x16, l0_1 => if x16 < (l0_1.length : Int) then (if 0 ≤ x16 then ((reply_wrong_1.f (rdOf ByteArray.empty l0_1 x16)).bind fun t29 => (if t29 = true then (some (decide (x16 ≥ 0))) else ((reply_wrong.l0 k (wrap64 (x16 + 1)) l0_1)))) else (none)) else (some false)
def reply_wrong.f (k : Nat) (a0_0 : ByteArray) (l0_1 : List ByteArray) : Option (Bool) := (dn_Word.f k a0_0).bind fun t7 => (if t7 = true then (if (l0_1.length : Int) > 8 then (some true) else ((reply_wrong.l0 k 0 l0_1))) else (some true))
theorem reply_wrong.mono_l : ∀ k, (∀ y0 y1, LeO (reply_wrong.l0 k y0 y1) (reply_wrong.l0 (k + 1) y0 y1))
 | 0 => fun _ _ r h => by simp [reply_wrong.l0] at h
 | k + 1 => by
  have ih0 := reply_wrong.mono_l k
  ·intro y0 y1
   unfold reply_wrong.l0
   repeat' first
   | (with_reducible exact ih0 _ _)
   | (with_reducible exact dn_Word.mono _ _)
   | (with_reducible exact LeO.refl _)
   | (with_reducible exact LeO.none _)
   | (with_reducible refine LeO.ite ?_ ?_)
   | (with_reducible refine LeO.bind ?_ (fun _ => ?_))
theorem reply_wrong.mono : ∀ a0_ a1_ k, LeO (reply_wrong.f k a0_ a1_) (reply_wrong.f (k + 1) a0_ a1_) := by
 intro a0_ a1_ k
 have ih0 := reply_wrong.mono_l k
 unfold reply_wrong.f
 repeat' first
   | (with_reducible exact ih0 _ _)
   | (with_reducible exact dn_Word.mono _ _)
   | (with_reducible exact LeO.refl _)
   | (with_reducible exact LeO.none _)
   | (with_reducible refine LeO.ite ?_ ?_)
   | (with_reducible refine LeO.bind ?_ (fun _ => ?_))
set_option maxHeartbeats 8000000 in
set_option maxRecDepth 100000 in
theorem reply_wrong.calls (k : Nat) (P_ : Nat → Prop) (a0_0 : ByteArray) (A0_1 : Option Addr) (c0_1 : Nat) (l0_1 : List ByteArray) (r : Bool) (w : World) (hs0_1 : Kd.F Kd.string w P_ A0_1 l0_1.length l0_1) (hc0_1 : l0_1.length ≤ c0_1) (h : reply_wrong.f k a0_0 l0_1 = some r) :
  Calls Try.prog 21 #[.agg #[.string a0_0, .slice A0_1 l0_1.length c0_1]] w (fun e w' => e = .returned (.bool r) ∧ Below w.heap.size w w') := by
 have HH := Aside0.mk (show ((dn_Word.f k a0_0).bind fun t7 => (if t7 = true then (if (l0_1.length : Int) > 8 then (some true) else ((reply_wrong.l0 k 0 l0_1))) else (some true))) = some r from h)
 clear h
 have HF0_1 := Aside0.mk (Kd.F_mono hs0_1 (fun k_ hk_ => (.inl hk_ : P_ k_ ∨ w.heap.size ≤ k_)))
 clear hs0_1 hc0_1
 have HB := Aside0.mk (Below.refl w.heap.size w)
 have hu46 := Try.underlying46
 go_enter Try.func21, Try.ntmps21
 go_wp2_with (((with_reducible refine gate_dst (N := 1) rfl ?_); (try (refine gate_guard (by rfl) ?_; dsimp only)); refine box_event ?hg (N := 1) ?hd (cs := #[.string a0_0, .slice A0_1 l0_1.length c0_1]) (t := 46) ?hr ?_; (case hd => rfl); (case hg => rfl); (case hr => first | (go_simp; done) | (go_simp; rfl)); intro g1 hg w2 hbox hb); replace hg := Aside0.mk hg; replace hbox := Aside0.mk hbox; refine stop_ ?_)
 refine Stop.go ?_
 replace hg := hg.out
 replace hbox := hbox.out
 replace HF0_1 := Aside0.mk (Kd.F_elderB HF0_1.out g1 (Nat.le_of_eq hg.symm))
 replace HF0_1 := Aside0.mk (Kd.F_mono HF0_1.out (fun k_ hk_ => ⟨hk_.1, hk_.2⟩) : Kd.F Kd.string _ (fun k_ => (P_ k_ ∨ w.heap.size ≤ k_) ∧ k_ ≠ g1) _ _ _)
 replace HF0_1 := Aside0.mk (Kd.F_below HF0_1.out hb)
 replace HB := Aside0.mk (below_step HB.out hb)
 have BKg1 := Aside0.mk hbox
 clear hg hbox hb
 obtain ⟨j3, j4, j5, j6⟩ := MB.lay2 BKg1.out
 have H := HH.out
 replace H := Option.bind_eq_some_iff.mp H
 obtain ⟨t7, at_, H⟩ := H
 have At8 := Aside0.mk at_
 clear at_
 (try dsimp only at H)
 replace HH := Aside0.mk H
 clear H
 go_wp2_with (((with_reducible refine gate_callee (f := 39) rfl ?_); (try (refine gate_guard (by rfl) ?_; dsimp only)); refine goesL_ (some 6) rfl rfl Try.func39 (by kernel_rfl) rfl #[.string a0_0] rfl (by (try simp only [List.map_toArray, List.map_cons, List.map_nil]); first | done | rfl | (simp only [List.length_drop, List.length_take]; rfl)) ?_; (with_reducible refine (dn_Word.calls k  a0_0 t7 _  At8.out).mono ?_); rintro e w' ⟨rfl, ⟨nd, rfl⟩⟩; refine ⟨_, rfl, ?_⟩); refine stop_ ?_)
 refine Stop.go ?_
 by_cases c10 : t7 = true
 ·replace HH := MW.hpos HH c10
  subst c10
  by_cases c11 : (l0_1.length : Int) > 8
  ·replace HH := MW.hpos HH c11
   have hk12 : decide (8 < (l0_1.length : Int)) = true := decide_eq_true c11
   have hk13 : decide (8 < l0_1.length) = true := decide_eq_true (by omega)
   clear c11
   have H := HH.out
   obtain rfl := Option.some.inj H
   clear HH
   go_wp2
   go_ret
   exact ⟨by first | rfl | (simp; done) | (simp [*]; done), (by repeat (first | (with_reducible first | exact HB.out | apply below_alloc | apply pw_below_drewN | apply below_drew1) | exact HB.out))⟩
  replace HH := MW.hneg HH c11
  have hk14 : decide (8 < (l0_1.length : Int)) = false := decide_eq_false c11
  have hk15 : decide (8 < l0_1.length) = false := decide_eq_false (by omega)
  clear c11
  go_wp2_with (((with_reducible refine gate_callee (f := 40) rfl ?_); (try (refine gate_guard (by rfl) ?_; dsimp only)); refine goesL_ (some 18) rfl rfl Try.func40 (by kernel_rfl) rfl #[.slice A0_1 l0_1.length c0_1, .func (.func 38) #[] #[]] rfl (by (try simp only [List.map_toArray, List.map_cons, List.map_nil]); first | done | rfl) ?_); refine stop_ ?_)
  refine Stop.go ?_
  go_enter Try.func40, Try.ntmps40
  go_wp2_with (((with_reducible refine gate_callee (f := 59) rfl ?_); (try (refine gate_guard (by rfl) ?_; dsimp only)); refine goesL_ (some 7) rfl rfl Try.func59 (by kernel_rfl) rfl #[.slice A0_1 l0_1.length c0_1, .func (.func 38) #[] #[]] rfl (by (try simp only [List.map_toArray, List.map_cons, List.map_nil]); first | done | rfl) ?_); refine stop_ ?_)
  refine Stop.go ?_
  go_enter Try.func59, Try.ntmps59
  go_wp2
  go_loopg [8] k (fun kq u8 w' => ∃ (x16 : Int), u8 = .int .i64 x16 ∧ Aside0 ((reply_wrong.l0 kq x16 l0_1) = some r) ∧ Aside0 (kq ≤ k) ∧ Aside0 (Kd.F Kd.string w' (fun k_ => (P_ k_ ∨ w.heap.size ≤ k_) ∧ k_ ≠ g1) A0_1 l0_1.length l0_1) ∧ Aside0 (w'.heap[g1]? = some (.cells #[.string a0_0, .slice A0_1 l0_1.length c0_1] 46 (0, 0))) ∧ Aside0 (Below w.heap.size w w'))
  case atStart => exact ⟨0, (by first | rfl | (simp; done) | (simp [*]; done)), HH, ⟨Nat.le_refl _⟩, ⟨(Kd.F_mono (ok := (fun k_ => (P_ k_ ∨ w.heap.size ≤ k_) ∧ k_ ≠ g1)) (by (with_reducible repeat (first | apply Kd.F_alloc | apply Kd.F_drewN | apply Kd.F_drew)); exact HF0_1.out) (fun k_ hk_ => ⟨hk_.1, hk_.2⟩))⟩, ⟨(by (with_reducible repeat (first | refine blk_drewN ?_ _ | refine blk_drew ?_ | refine blk_alloc ?_ _)); exact BKg1.out)⟩, ⟨(by repeat (first | (with_reducible first | exact HB.out | apply below_alloc | apply pw_below_drewN | apply below_drew1) | exact HB.out))⟩⟩
  case round =>
   clear j3 j4 j5 j6
   clear hk14
   clear hk15
   clear HH
   clear HF0_1 BKg1 HB
   obtain ⟨x16, rfl, HA, HK0, HF0_1, BKg1, HB⟩ := hrel
   obtain ⟨w18, rfl⟩ : ∃ wo_ : World, wo_ = wr := ⟨_, rfl⟩
   cases gk with
   | zero => exact absurd HA.out (by simp [reply_wrong.l0])
   | succ k17 =>
    have H := HA.out
    clear HA
    simp only [reply_wrong.l0] at H
    have HH := Aside0.mk H
    clear H
    obtain ⟨jj, jk, jl, jm⟩ := MB.lay2 BKg1.out
    by_cases c23 : x16 < (l0_1.length : Int)
    ·replace HH := MW.hpos HH c23
     have hk24 : (x16 < (l0_1.length : Int)) = True := eq_true c23
     have hk25 : decide (x16 < (l0_1.length : Int)) = true := decide_eq_true c23
     clear c23
     by_cases c26 : 0 ≤ x16
     ·replace HH := MW.hpos HH c26
      have hk27 : decide (0 ≤ x16) = true := decide_eq_true c26
      clear c26
      have p28 : 0 ≤ (x16 : Int) := of_decide_eq_true (by first | (with_reducible assumption) | assumption)
      have q28 : x16 < (l0_1.length : Int) := of_decide_eq_true (by first | (with_reducible assumption) | assumption)
      obtain ⟨ad28, e28, hx28_0⟩ := Kd.at_string (Kd.F_now HF0_1.out) x16 p28 q28
      cases e28
      replace p28 := eq_true p28
      replace q28 := eq_true q28
      have H := HH.out
      replace H := Option.bind_eq_some_iff.mp H
      obtain ⟨t29, at_, H⟩ := H
      have At30 := Aside0.mk at_
      clear at_
      (try dsimp only at H)
      replace HH := Aside0.mk H
      clear H
      go_wp2_with (((with_reducible refine gate_dst (N := 16) rfl ?_); (try (refine gate_guard (by rfl) ?_; dsimp only)); refine MW.goesV_ (some 16) rfl rfl Try.func38 (by kernel_rfl) rfl #[.string (rdOf ByteArray.empty l0_1 x16)] rfl #[] rfl (by (try simp only [List.map_toArray, List.map_cons, List.map_nil, List.append_toArray, List.cons_append, List.nil_append, List.append_nil]); first | done | rfl | (simp only [List.length_drop, List.length_take]; rfl)) ?_; (with_reducible refine (reply_wrong_1.calls  (rdOf ByteArray.empty l0_1 x16) t29 _  At30.out).mono ?_); rintro e w' ⟨rfl, ⟨nd, rfl⟩⟩; refine ⟨_, rfl, ?_⟩); refine stop_ ?_)
      refine Stop.go ?_
      by_cases c32 : t29 = true
      ·replace HH := MW.hpos HH c32
       subst c32
       go_wp2
       go_ret
       refine ⟨_, rfl, ?_⟩
       go_wp2
       go_ret
       refine ⟨_, rfl, ?_⟩
       have H := HH.out
       obtain rfl := Option.some.inj H
       clear HH
       go_wp2
       go_ret
       exact ⟨by first | rfl | (simp; done) | (simp [*]; done), (by repeat (first | (with_reducible first | exact HB.out | apply below_alloc | apply pw_below_drewN | apply below_drew1) | exact HB.out))⟩
      replace HH := MW.hneg HH c32
      replace c32 := Bool.eq_false_iff.mpr c32
      subst c32
      go_wp2
      go_roundg k17
      case measure => have := HK0.out; omega
      case rel => exact ⟨wrap64 (x16 + 1), (by first | rfl | (simp; done) | (simp [*]; done)), HH, ⟨by have := HK0.out; omega⟩, ⟨(Kd.F_mono (ok := (fun k_ => (P_ k_ ∨ w.heap.size ≤ k_) ∧ k_ ≠ g1)) (by (with_reducible repeat (first | apply Kd.F_alloc | apply Kd.F_drewN | apply Kd.F_drew)); exact HF0_1.out) (fun k_ hk_ => ⟨hk_.1, hk_.2⟩))⟩, ⟨(by (with_reducible repeat (first | refine blk_drewN ?_ _ | refine blk_drew ?_ | refine blk_alloc ?_ _)); exact BKg1.out)⟩, ⟨(by repeat (first | (with_reducible first | exact HB.out | apply below_alloc | apply pw_below_drewN | apply below_drew1) | exact HB.out))⟩⟩
     exact absurd HH.out (by rw [if_neg c26]; simp)
    replace HH := MW.hneg HH c23
    have hk34 : (x16 < (l0_1.length : Int)) = False := eq_false c23
    have hk35 : decide (x16 < (l0_1.length : Int)) = false := decide_eq_false c23
    clear c23
    go_wp2
    go_ret
    refine ⟨_, rfl, ?_⟩
    go_wp2
    go_ret
    refine ⟨_, rfl, ?_⟩
    have H := HH.out
    obtain rfl := Option.some.inj H
    clear HH
    go_wp2
    go_ret
    exact ⟨by first | rfl | (simp; done) | (simp [*]; done), HB.out⟩
 replace HH := MW.hneg HH c10
 replace c10 := Bool.eq_false_iff.mpr c10
 subst c10
 have H := HH.out
 obtain rfl := Option.some.inj H
 clear HH
 go_wp2
 go_ret
 exact ⟨by first | rfl | (simp; done) | (simp [*]; done), (by repeat (first | (with_reducible first | exact HB.out | apply below_alloc | apply pw_below_drewN | apply below_drew1) | exact HB.out))⟩

/-! ### reply_tag: function 22 -/
def reply_tag.f (a0 : Int) : Option (Int) := if a0 = 1 then (some 1) else (if a0 = 3 then (some 5) else (if a0 = 4 then (some 7) else (if a0 = 5 then (some 9) else (if a0 = 6 then (some 11) else (if a0 = 7 then (some 13) else (if a0 = 8 then (some 15) else (if a0 = 10 then (some 24) else (some (-1)))))))))
set_option maxHeartbeats 8000000 in
set_option maxRecDepth 100000 in
theorem reply_tag.calls (a0 : Int) (r : Int) (w : World) (h : reply_tag.f a0 = some r) :
  Calls Try.prog 22 #[.int .i64 a0] w (fun e w' => e = .returned (.int .i64 r) ∧ Drawn0 w w') := by
 have HH := Aside0.mk (show (if a0 = 1 then (some 1) else (if a0 = 3 then (some 5) else (if a0 = 4 then (some 7) else (if a0 = 5 then (some 9) else (if a0 = 6 then (some 11) else (if a0 = 7 then (some 13) else (if a0 = 8 then (some 15) else (if a0 = 10 then (some 24) else (some (-1)))))))))) = some r from h)
 clear h
 go_enter Try.func22, Try.ntmps22
 by_cases c1 : a0 = 1
 ·replace HH := MW.hpos HH c1
  have hk2 : (a0 == 1) = true := beq_iff_eq.mpr c1
  have hk3 : (a0 != 1) = false := bne_eq_false_iff_eq.mpr c1
  clear c1
  have H := HH.out
  obtain rfl := Option.some.inj H
  clear HH
  go_wp2
  go_ret
  exact ⟨by first | rfl | (simp; done) | (simp [*]; done), by repeat (first | exact Drawn0.refl _ | apply Drawn0.step)⟩
 replace HH := MW.hneg HH c1
 have hk4 : (a0 == 1) = false := beq_eq_false_iff_ne.mpr c1
 have hk5 : (a0 != 1) = true := bne_iff_ne.mpr c1
 clear c1
 by_cases c6 : a0 = 3
 ·replace HH := MW.hpos HH c6
  have hk7 : (a0 == 3) = true := beq_iff_eq.mpr c6
  have hk8 : (a0 != 3) = false := bne_eq_false_iff_eq.mpr c6
  clear c6
  have H := HH.out
  obtain rfl := Option.some.inj H
  clear HH
  go_wp2
  go_ret
  exact ⟨by first | rfl | (simp; done) | (simp [*]; done), by repeat (first | exact Drawn0.refl _ | apply Drawn0.step)⟩
 replace HH := MW.hneg HH c6
 have hk9 : (a0 == 3) = false := beq_eq_false_iff_ne.mpr c6
 have hk10 : (a0 != 3) = true := bne_iff_ne.mpr c6
 clear c6
 by_cases c11 : a0 = 4
 ·replace HH := MW.hpos HH c11
  have hk12 : (a0 == 4) = true := beq_iff_eq.mpr c11
  have hk13 : (a0 != 4) = false := bne_eq_false_iff_eq.mpr c11
  clear c11
  have H := HH.out
  obtain rfl := Option.some.inj H
  clear HH
  go_wp2
  go_ret
  exact ⟨by first | rfl | (simp; done) | (simp [*]; done), by repeat (first | exact Drawn0.refl _ | apply Drawn0.step)⟩
 replace HH := MW.hneg HH c11
 have hk14 : (a0 == 4) = false := beq_eq_false_iff_ne.mpr c11
 have hk15 : (a0 != 4) = true := bne_iff_ne.mpr c11
 clear c11
 by_cases c16 : a0 = 5
 ·replace HH := MW.hpos HH c16
  have hk17 : (a0 == 5) = true := beq_iff_eq.mpr c16
  have hk18 : (a0 != 5) = false := bne_eq_false_iff_eq.mpr c16
  clear c16
  have H := HH.out
  obtain rfl := Option.some.inj H
  clear HH
  go_wp2
  go_ret
  exact ⟨by first | rfl | (simp; done) | (simp [*]; done), by repeat (first | exact Drawn0.refl _ | apply Drawn0.step)⟩
 replace HH := MW.hneg HH c16
 have hk19 : (a0 == 5) = false := beq_eq_false_iff_ne.mpr c16
 have hk20 : (a0 != 5) = true := bne_iff_ne.mpr c16
 clear c16
 by_cases c21 : a0 = 6
 ·replace HH := MW.hpos HH c21
  have hk22 : (a0 == 6) = true := beq_iff_eq.mpr c21
  have hk23 : (a0 != 6) = false := bne_eq_false_iff_eq.mpr c21
  clear c21
  have H := HH.out
  obtain rfl := Option.some.inj H
  clear HH
  go_wp2
  go_ret
  exact ⟨by first | rfl | (simp; done) | (simp [*]; done), by repeat (first | exact Drawn0.refl _ | apply Drawn0.step)⟩
 replace HH := MW.hneg HH c21
 have hk24 : (a0 == 6) = false := beq_eq_false_iff_ne.mpr c21
 have hk25 : (a0 != 6) = true := bne_iff_ne.mpr c21
 clear c21
 by_cases c26 : a0 = 7
 ·replace HH := MW.hpos HH c26
  have hk27 : (a0 == 7) = true := beq_iff_eq.mpr c26
  have hk28 : (a0 != 7) = false := bne_eq_false_iff_eq.mpr c26
  clear c26
  have H := HH.out
  obtain rfl := Option.some.inj H
  clear HH
  go_wp2
  go_ret
  exact ⟨by first | rfl | (simp; done) | (simp [*]; done), by repeat (first | exact Drawn0.refl _ | apply Drawn0.step)⟩
 replace HH := MW.hneg HH c26
 have hk29 : (a0 == 7) = false := beq_eq_false_iff_ne.mpr c26
 have hk30 : (a0 != 7) = true := bne_iff_ne.mpr c26
 clear c26
 by_cases c31 : a0 = 8
 ·replace HH := MW.hpos HH c31
  have hk32 : (a0 == 8) = true := beq_iff_eq.mpr c31
  have hk33 : (a0 != 8) = false := bne_eq_false_iff_eq.mpr c31
  clear c31
  have H := HH.out
  obtain rfl := Option.some.inj H
  clear HH
  go_wp2
  go_ret
  exact ⟨by first | rfl | (simp; done) | (simp [*]; done), by repeat (first | exact Drawn0.refl _ | apply Drawn0.step)⟩
 replace HH := MW.hneg HH c31
 have hk34 : (a0 == 8) = false := beq_eq_false_iff_ne.mpr c31
 have hk35 : (a0 != 8) = true := bne_iff_ne.mpr c31
 clear c31
 by_cases c36 : a0 = 10
 ·replace HH := MW.hpos HH c36
  have hk37 : (a0 == 10) = true := beq_iff_eq.mpr c36
  have hk38 : (a0 != 10) = false := bne_eq_false_iff_eq.mpr c36
  clear c36
  have H := HH.out
  obtain rfl := Option.some.inj H
  clear HH
  go_wp2
  go_ret
  exact ⟨by first | rfl | (simp; done) | (simp [*]; done), by repeat (first | exact Drawn0.refl _ | apply Drawn0.step)⟩
 replace HH := MW.hneg HH c36
 have hk39 : (a0 == 10) = false := beq_eq_false_iff_ne.mpr c36
 have hk40 : (a0 != 10) = true := bne_iff_ne.mpr c36
 clear c36
 have H := HH.out
 obtain rfl := Option.some.inj H
 clear HH
 go_wp2
 go_ret
 exact ⟨by first | rfl | (simp; done) | (simp [*]; done), by repeat (first | exact Drawn0.refl _ | apply Drawn0.step)⟩

/-! ### Clone_92: function 92 (slices.Clone) -/
def Clone_92.f (l0 : List (S57)) : Option (List (S57)) := if l0.length < 2199023255552 then some l0 else none
set_option maxHeartbeats 8000000 in
set_option maxRecDepth 100000 in
theorem Clone_92.calls (P_ : Nat → Prop) (A0 : Option Addr) (c0 : Nat) (l0 : List (S57)) (r : List (S57)) (w : World) (hs0 : Kd.F k57 w P_ A0 l0.length l0) (hc0 : l0.length ≤ c0) (h : Clone_92.f l0 = some r) :
  Calls Try.prog 92 #[.slice A0 l0.length c0] w fun e w' => ∃ v0_ : Value, e = .returned (v0_) ∧ Kd.N k57 57 w' w.heap.size (fun k_ => P_ k_ ∨ w.heap.size ≤ k_) v0_ r ∧ Below w.heap.size w w' := by
 have hu := Try.underlying55
 unfold Clone_92.f at h
 by_cases hl : l0.length < 2199023255552
 ·rw [if_pos hl] at h
  obtain rfl := Option.some.inj h
  clear h
  have heq := fun W => Lib.run_eql_slice_nil (P := Try.prog) W 55 57 A0 l0.length c0 0 0 hu
  have HF := Aside0.mk (Kd.F_mono hs0 (fun k_ hk_ => (.inl hk_ : P_ k_ ∨ w.heap.size ≤ k_)))
  cases A0 with
  | none =>
   have hz : l0 = [] := by
    have h2 := (Kd.F_now hs0).2.2
    cases l0 with
    | nil => rfl
    | cons a l => obtain ⟨ad, e, _⟩ := h2 (by simp); cases e
   subst hz
   clear hs0
   simp only [List.length_nil] at heq
   go_enter Try.func92, Try.ntmps92
   go_wp2
   go_ret
   exact ⟨_, rfl, Kd.N_nil _ _ _ _ _, Below.refl _ _⟩
  | some ad =>
   clear hs0
   go_enter Try.func92, Try.ntmps92
   go_wp2_with ((with_reducible refine gate_dst (N := 5) rfl ?_); refine Kd.N_lit k57 w.heap.size 57 rfl rfl (xs := []) (inner := []) (ok := fun k_ => P_ k_ ∨ w.heap.size ≤ k_) (okp := fun _ => False) ?hr ?hp (fun _ h => h.elim) (.inr (Nat.le_refl _)) (Below.refl _ _) (Nat.le_refl _) (by simp) ?_; (case hr => first | (go_simp; done) | (go_simp; rfl)); (case hp => exact Reps.none _ _); intro v1 w1 hN hB hg hat; replace hat := Aside0.mk hat; refine stop_ ?_)
   refine Stop.go ?_
   replace hat := hat.out
   have HN := Aside0.mk hN
   have HB := Aside0.mk hB
   have HF1 := Aside0.mk (Kd.F_elder' HF.out (MW.base_of hat) (MW.grown_below hg))
   clear hN hB hg hat
   go_wp2_with ((with_reducible refine gate_dst (N := 7) rfl ?_); refine Kd.N_append_rows k57 w.heap.size rfl _ _ 55 57 (.agg #[(.int .i64 0), (.bool false), (.int .i64 0), (.string ⟨#[]⟩), (.slice none 0 0)]) 64 rfl hu info57 rfl (by decide) (by decide) _ _ l0 _ _ _ (fun k_ => P_ k_ ∨ w.heap.size ≤ k_) _ rfl rfl HN.out HF1.out (fun _ hk => hk) (fun k_ h_ => .inr (Nat.le_trans HB.out.size h_)) HB.out HB.out.size (by simp; omega) ?_; intro v2 w2 hN2 hB2 hg2 hat2; replace hat2 := Aside0.mk hat2; refine stop_ ?_)
   refine Stop.go ?_
   have HN2 := Aside0.mk hN2
   have HB2 := Aside0.mk hB2
   clear hN2 hB2 hg2 hat2 HN HB HF1 HF
   go_wp2
   go_ret
   exact ⟨_, rfl, HN2.out, HB2.out⟩
 rw [if_neg hl] at h
 exact absurd h (by simp)

/-! ### prims_signed: function 76 -/
def prims_signed.l0 : Nat → (List Int) → Option (ByteArray)
 | 0, _ => none
 | k + 1, x8 => if (x8.length : Int) > 1 then (if 0 < (x8.length : Int) then (if (rd x8 (0 : Int)) = 0 then (if 1 < (x8.length : Int) then (if (rd x8 (1 : Int)) < 128 then (if 1 ≤ (x8.length : Int) then ((some (List.drop 1 x8 : List Int)).bind fun y37 => ((prims_signed.l0 k y37))) else (none)) else (if (rd x8 (0 : Int)) = 255 then (if (rd x8 (1 : Int)) ≥ 128 then (if 1 ≤ (x8.length : Int) then ((some (List.drop 1 x8 : List Int)).bind fun y51 => ((prims_signed.l0 k y51))) else (none)) else (some (strOfNums x8))) else (some (strOfNums x8)))) else (none)) else (if (rd x8 (0 : Int)) = 255 then (if 1 < (x8.length : Int) then (if (rd x8 (1 : Int)) ≥ 128 then (if 1 ≤ (x8.length : Int) then ((some (List.drop 1 x8 : List Int)).bind fun y80 => ((prims_signed.l0 k y80))) else (none)) else (some (strOfNums x8))) else (none)) else (some (strOfNums x8)))) else (none)) else (some (strOfNums x8))
def prims_signed.f (k : Nat) (a0 : Int) : Option (ByteArray) := (prims_signed.l0 k ([(a0 / 16777216) % 256, (a0 / 65536) % 256, (a0 / 256) % 256, (a0) % 256] : List Int))
theorem prims_signed.mono_l : ∀ k, (∀ y0, LeO (prims_signed.l0 k y0) (prims_signed.l0 (k + 1) y0))
 | 0 => fun _ r h => by simp [prims_signed.l0] at h
 | k + 1 => by
  have ih0 := prims_signed.mono_l k
  ·intro y0
   unfold prims_signed.l0
   repeat' first
   | (with_reducible exact ih0 _)
   | (with_reducible exact LeO.refl _)
   | (with_reducible exact LeO.none _)
   | (with_reducible refine LeO.ite ?_ ?_)
   | (with_reducible refine LeO.bind ?_ (fun _ => ?_))
theorem prims_signed.mono : ∀ a0_ k, LeO (prims_signed.f k a0_) (prims_signed.f (k + 1) a0_) := by
 intro a0_ k
 have ih0 := prims_signed.mono_l k
 unfold prims_signed.f
 repeat' first
   | (with_reducible exact ih0 _)
   | (with_reducible exact LeO.refl _)
   | (with_reducible exact LeO.none _)
   | (with_reducible refine LeO.ite ?_ ?_)
   | (with_reducible refine LeO.bind ?_ (fun _ => ?_))
set_option maxHeartbeats 8000000 in
set_option maxRecDepth 100000 in
theorem prims_signed.calls (k : Nat) (a0 : Int) (r : ByteArray) (w : World) (h : prims_signed.f k a0 = some r) :
  Calls Try.prog 76 #[.int .i32 a0] w (fun e w' => e = .returned (.string r) ∧ Below w.heap.size w w') := by
 have HH := Aside0.mk (show ((prims_signed.l0 k ([(a0 / 16777216) % 256, (a0 / 65536) % 256, (a0 / 256) % 256, (a0) % 256] : List Int))) = some r from h)
 clear h
 have HB := Aside0.mk (Below.refl w.heap.size w)
 go_enter Try.func76, Try.ntmps76
 go_wp2_with (((with_reducible refine gate_dst (N := 15) rfl ?_); (try (refine gate_guard (by rfl) ?_; dsimp only)); refine Kd.N_lit (Kd.int .u8) w.heap.size 5 rfl (N' := 15) rfl (xs := ([(a0 / 16777216) % 256, (a0 / 65536) % 256, (a0 / 256) % 256, (a0) % 256] : List Int)) (inner := [.int .u8 ((a0 / 16777216) % 256), .int .u8 ((a0 / 65536) % 256), .int .u8 ((a0 / 256) % 256), .int .u8 ((a0) % 256)]) (ok := (fun k_ => (w.heap.size ≤ k_))) (okp := (fun k_ => (w.heap.size ≤ k_))) ?hr ?hp (fun _ hk_ => hk_) ?hf HB.out (below_size HB.out) (by first | simp | decide) ?_; (case hr => first | (go_simp; done) | (go_simp; rfl)); (case hp => exact (Reps.one (fun _ _ => rfl) (Reps.one (fun _ _ => rfl) (Reps.one (fun _ _ => rfl) (Reps.one (fun _ _ => rfl) (Reps.none _ _)))))); (case hf => exact (show ∀ k_, w.heap.size ≤ k_ → (fun k_ => (w.heap.size ≤ k_)) k_ from fun k_ h_ => (Nat.le_trans (below_size HB.out) h_)) _ (Nat.le_refl _)); intro v1 w2 hn1 hb1 hg1 hat1); replace hat1 := Aside0.mk hat1; refine stop_ ?_)
 refine Stop.go ?_
 replace hat1 := hat1.out
 have hbe := MW.grown_below hg1
 have hba := MW.base_of hat1
 replace HB := Aside0.mk hb1
 have HN3 := Aside0.mk hn1
 clear hn1 hb1 hg1 hat1 hbe hba
 obtain ⟨A4, cp5, he_⟩ := Kd.N_slice HN3.out
 subst he_
 have HL7 := Aside0.mk (Kd.N_reads' HN3.out).2.1
 have HF6 := Aside0.mk (Kd.N_F HN3.out)
 clear HN3
 go_wp2
 go_loopg [3] k (fun kq u3 w' => ∃ (x8 : List Int) (A9 : Option Addr) (cp9 : Nat), u3 = .slice A9 x8.length cp9 ∧ Aside0 ((prims_signed.l0 kq x8) = some r) ∧ Aside0 (kq ≤ k) ∧ Aside0 (Kd.F (Kd.int .u8) w' (fun k_ => (w.heap.size ≤ k_)) A4 ([(a0 / 16777216) % 256, (a0 / 65536) % 256, (a0 / 256) % 256, (a0) % 256] : List Int).length ([(a0 / 16777216) % 256, (a0 / 65536) % 256, (a0 / 256) % 256, (a0) % 256] : List Int)) ∧ Aside0 (x8.length ≤ cp9) ∧ Aside0 (Kd.F (Kd.int .u8) w' (fun k_ => (w.heap.size ≤ k_)) A9 x8.length x8) ∧ Aside0 (Below w.heap.size w w'))
 case atStart => exact ⟨([(a0 / 16777216) % 256, (a0 / 65536) % 256, (a0 / 256) % 256, (a0) % 256] : List Int), A4, cp5, (by first | rfl | (simp; done) | (simp [*]; done)), HH, ⟨Nat.le_refl _⟩, ⟨(Kd.F_mono (ok := (fun k_ => (w.heap.size ≤ k_))) HF6.out (fun k_ hk_ => hk_))⟩, ⟨HL7.out⟩, ⟨(Kd.F_mono (ok := (fun k_ => (w.heap.size ≤ k_))) HF6.out (fun k_ hk_ => hk_))⟩, ⟨HB.out⟩⟩
 case round =>
  clear HH
  clear HF6 HB
  obtain ⟨x8, A9, cp9, rfl, HA, HK0, HF6, HL9, HF9, HB⟩ := hrel
  obtain ⟨w11, rfl⟩ : ∃ wo_ : World, wo_ = wr := ⟨_, rfl⟩
  cases gk with
  | zero => exact absurd HA.out (by simp [prims_signed.l0])
  | succ k10 =>
   have H := HA.out
   clear HA
   simp only [prims_signed.l0] at H
   have HH := Aside0.mk H
   clear H
   by_cases c12 : (x8.length : Int) > 1
   ·replace HH := MW.hpos HH c12
    have hk13 : decide (1 < (x8.length : Int)) = true := decide_eq_true c12
    have hk14 : decide (1 < x8.length) = true := decide_eq_true (by omega)
    clear c12
    by_cases c15 : 0 < (x8.length : Int)
    ·replace HH := MW.hpos HH c15
     have hk16 : (0 < (x8.length : Int)) = True := eq_true c15
     have hk17 : (0 < x8.length) = True := eq_true (by have := c15; omega)
     have hk18 : decide (0 < (x8.length : Int)) = true := decide_eq_true c15
     have hk19 : decide (0 < x8.length) = true := decide_eq_true (by omega)
     clear c15
     have p20 : 0 ≤ (0 : Int) := by decide
     have q20 : (0 : Int) < (x8.length : Int) := of_decide_eq_true (by first | (with_reducible assumption) | assumption)
     obtain ⟨ad20, e20, hx20_0⟩ := Kd.at_int (Kd.F_now HF9.out) (0 : Int) p20 q20
     cases e20
     (try simp only [show ((0 : Int)).toNat = 0 from rfl] at hx20_0)
     (try rw [Addr.add_zero'] at hx20_0)
     replace p20 := eq_true p20
     replace q20 := eq_true q20
     by_cases c21 : (rd x8 (0 : Int)) = 0
     ·replace HH := MW.hpos HH c21
      have hk22 : ((rd x8 (0 : Int)) == 0) = true := beq_iff_eq.mpr c21
      have hk23 : ((rd x8 (0 : Int)) != 0) = false := bne_eq_false_iff_eq.mpr c21
      clear c21
      by_cases c24 : 1 < (x8.length : Int)
      ·replace HH := MW.hpos HH c24
       have hk25 : (1 < (x8.length : Int)) = True := eq_true c24
       have hk26 : (1 < x8.length) = True := eq_true (by have := c24; omega)
       have hk27 : decide (1 < (x8.length : Int)) = true := decide_eq_true c24
       have hk28 : decide (1 < x8.length) = true := decide_eq_true (by omega)
       clear c24
       have p29 : 0 ≤ (1 : Int) := by decide
       have q29 : (1 : Int) < (x8.length : Int) := of_decide_eq_true (by first | (with_reducible assumption) | assumption)
       obtain ⟨ad29, e29, hx29_0⟩ := Kd.at_int (Kd.F_now HF9.out) (1 : Int) p29 q29
       cases e29
       (try simp only [show ((1 : Int)).toNat = 1 from rfl] at hx29_0)
       (try simp only [Nat.reduceMul, Nat.reduceEqDiff, Go.Addr.add, ↓reduceIte] at hx29_0)
       replace p29 := eq_true p29
       replace q29 := eq_true q29
       by_cases c30 : (rd x8 (1 : Int)) < 128
       ·replace HH := MW.hpos HH c30
        have hk31 : ((rd x8 (1 : Int)) < 128) = True := eq_true c30
        have hk32 : decide ((rd x8 (1 : Int)) < 128) = true := decide_eq_true c30
        clear c30
        by_cases c34 : 1 ≤ (x8.length : Int)
        ·replace HH := MW.hpos HH c34
         have hk35 : decide (1 ≤ (x8.length : Int)) = true := decide_eq_true c34
         have hk36 : decide (1 ≤ x8.length) = true := decide_eq_true (by omega)
         clear c34
         obtain ⟨i033, hi033, _, hsz33, _⟩ := info_parts info5
         have q033 : 0 ≤ (1 : Int) := (by decide)
         have ql33 : (1 : Int) ≤ ((x8.length : Int) : Int) := (by first | exact Int.le_refl _ | exact of_decide_eq_true (by first | (with_reducible assumption) | assumption) | (simp; done))
         have hcut33 := cut_from (P := Try.prog) 95 5 .i64 Try.underlying95 hi033 1 hsz33 (some ad20) x8.length cp9 1 q033 ql33
         have hr33 : Kd.F (Kd.int .u8) w11 (fun k_ => (w.heap.size ≤ k_)) (if cp9 = 1 then (some ad20) else ((some ad20) : Option Addr).map (·.add (1 * 1))) (List.drop 1 x8).length (List.drop 1 x8) := Kd.F_cut (m := 1) (c := cp9) HF9.out (by omega) HL9.out
         have hy33 : (List.drop 1 x8).length = x8.length - 1 := List.length_drop
         have hl33 : (List.drop 1 x8).length ≤ cp9 - 1 := (by have := HL9.out; rw [List.length_drop]; omega)
         try simp only [show ((1 : Int)).toNat = 1 from rfl] at hcut33
         rw [← hy33] at hcut33
         generalize (if cp9 = 1 then (some ad20) else ((some ad20) : Option Addr).map (·.add (1 * 1))) = A33 at hcut33 hr33
         generalize cp9 - 1 = cp33 at hcut33 hl33
         clear hy33 q033 ql33
         have HF33 := Aside0.mk hr33
         have HL33 := Aside0.mk hl33
         clear hr33 hl33 hi033 hsz33
         obtain ⟨y37, hy37⟩ : ∃ y_ : List Int, y_ = List.drop 1 x8 := ⟨_, rfl⟩
         rw [← hy37] at hcut33 HL33 HF33
         have H : ((prims_signed.l0 k10 y37)) = some r := by rw [hy37]; exact HH.out
         replace HH := Aside0.mk H
         clear H
         clear hy37
         go_wp2
         go_roundg k10
         case measure => have := HK0.out; omega
         case rel => exact ⟨y37, A33, cp33, (by first | rfl | (simp; done) | (simp [*]; done)), HH, ⟨by have := HK0.out; omega⟩, ⟨(Kd.F_mono (ok := (fun k_ => (w.heap.size ≤ k_))) HF6.out (fun k_ hk_ => hk_))⟩, ⟨HL33.out⟩, ⟨(Kd.F_mono (ok := (fun k_ => (w.heap.size ≤ k_))) HF33.out (fun k_ hk_ => hk_))⟩, ⟨HB.out⟩⟩
        exact absurd HH.out (by rw [if_neg c34]; simp)
       replace HH := MW.hneg HH c30
       have hk40 : ((rd x8 (1 : Int)) < 128) = False := eq_false c30
       have hk41 : decide ((rd x8 (1 : Int)) < 128) = false := decide_eq_false c30
       clear c30
       by_cases c42 : (rd x8 (0 : Int)) = 255
       ·replace HH := MW.hpos HH c42
        have hk43 : ((rd x8 (0 : Int)) == 255) = true := beq_iff_eq.mpr c42
        have hk44 : ((rd x8 (0 : Int)) != 255) = false := bne_eq_false_iff_eq.mpr c42
        clear c42
        by_cases c45 : (rd x8 (1 : Int)) ≥ 128
        ·replace HH := MW.hpos HH c45
         have hk46 : decide (128 ≤ (rd x8 (1 : Int))) = true := decide_eq_true c45
         clear c45
         by_cases c48 : 1 ≤ (x8.length : Int)
         ·replace HH := MW.hpos HH c48
          have hk49 : decide (1 ≤ (x8.length : Int)) = true := decide_eq_true c48
          have hk50 : decide (1 ≤ x8.length) = true := decide_eq_true (by omega)
          clear c48
          obtain ⟨i047, hi047, _, hsz47, _⟩ := info_parts info5
          have q047 : 0 ≤ (1 : Int) := (by decide)
          have ql47 : (1 : Int) ≤ ((x8.length : Int) : Int) := (by first | exact Int.le_refl _ | exact of_decide_eq_true (by first | (with_reducible assumption) | assumption) | (simp; done))
          have hcut47 := cut_from (P := Try.prog) 95 5 .i64 Try.underlying95 hi047 1 hsz47 (some ad20) x8.length cp9 1 q047 ql47
          have hr47 : Kd.F (Kd.int .u8) w11 (fun k_ => (w.heap.size ≤ k_)) (if cp9 = 1 then (some ad20) else ((some ad20) : Option Addr).map (·.add (1 * 1))) (List.drop 1 x8).length (List.drop 1 x8) := Kd.F_cut (m := 1) (c := cp9) HF9.out (by omega) HL9.out
          have hy47 : (List.drop 1 x8).length = x8.length - 1 := List.length_drop
          have hl47 : (List.drop 1 x8).length ≤ cp9 - 1 := (by have := HL9.out; rw [List.length_drop]; omega)
          try simp only [show ((1 : Int)).toNat = 1 from rfl] at hcut47
          rw [← hy47] at hcut47
          generalize (if cp9 = 1 then (some ad20) else ((some ad20) : Option Addr).map (·.add (1 * 1))) = A47 at hcut47 hr47
          generalize cp9 - 1 = cp47 at hcut47 hl47
          clear hy47 q047 ql47
          have HF47 := Aside0.mk hr47
          have HL47 := Aside0.mk hl47
          clear hr47 hl47 hi047 hsz47
          obtain ⟨y51, hy51⟩ : ∃ y_ : List Int, y_ = List.drop 1 x8 := ⟨_, rfl⟩
          rw [← hy51] at hcut47 HL47 HF47
          have H : ((prims_signed.l0 k10 y51)) = some r := by rw [hy51]; exact HH.out
          replace HH := Aside0.mk H
          clear H
          clear hy51
          go_wp2
          go_roundg k10
          case measure => have := HK0.out; omega
          case rel => exact ⟨y51, A47, cp47, (by first | rfl | (simp; done) | (simp [*]; done)), HH, ⟨by have := HK0.out; omega⟩, ⟨(Kd.F_mono (ok := (fun k_ => (w.heap.size ≤ k_))) HF6.out (fun k_ hk_ => hk_))⟩, ⟨HL47.out⟩, ⟨(Kd.F_mono (ok := (fun k_ => (w.heap.size ≤ k_))) HF47.out (fun k_ hk_ => hk_))⟩, ⟨HB.out⟩⟩
         exact absurd HH.out (by rw [if_neg c48]; simp)
        replace HH := MW.hneg HH c45
        have hk54 : decide (128 ≤ (rd x8 (1 : Int))) = false := decide_eq_false c45
        clear c45
        have hcv55 := Kd.C_string (P := Try.prog) (A := (some ad20)) (c := cp9) Try.underlying95 Try.underlying5 Try.underlying9 (Kd.F_now HF9.out)
        have H := HH.out
        obtain rfl := Option.some.inj H
        clear HH
        go_wp2
        go_ret
        exact ⟨by first | rfl | (simp; done) | (simp [*]; done), HB.out⟩
       replace HH := MW.hneg HH c42
       have hk56 : ((rd x8 (0 : Int)) == 255) = false := beq_eq_false_iff_ne.mpr c42
       have hk57 : ((rd x8 (0 : Int)) != 255) = true := bne_iff_ne.mpr c42
       clear c42
       have hcv58 := Kd.C_string (P := Try.prog) (A := (some ad20)) (c := cp9) Try.underlying95 Try.underlying5 Try.underlying9 (Kd.F_now HF9.out)
       have H := HH.out
       obtain rfl := Option.some.inj H
       clear HH
       go_wp2
       go_ret
       exact ⟨by first | rfl | (simp; done) | (simp [*]; done), HB.out⟩
      exact absurd HH.out (by rw [if_neg c24]; simp)
     replace HH := MW.hneg HH c21
     have hk63 : ((rd x8 (0 : Int)) == 0) = false := beq_eq_false_iff_ne.mpr c21
     have hk64 : ((rd x8 (0 : Int)) != 0) = true := bne_iff_ne.mpr c21
     clear c21
     by_cases c65 : (rd x8 (0 : Int)) = 255
     ·replace HH := MW.hpos HH c65
      have hk66 : ((rd x8 (0 : Int)) == 255) = true := beq_iff_eq.mpr c65
      have hk67 : ((rd x8 (0 : Int)) != 255) = false := bne_eq_false_iff_eq.mpr c65
      clear c65
      by_cases c68 : 1 < (x8.length : Int)
      ·replace HH := MW.hpos HH c68
       have hk69 : (1 < (x8.length : Int)) = True := eq_true c68
       have hk70 : (1 < x8.length) = True := eq_true (by have := c68; omega)
       have hk71 : decide (1 < (x8.length : Int)) = true := decide_eq_true c68
       have hk72 : decide (1 < x8.length) = true := decide_eq_true (by omega)
       clear c68
       have p73 : 0 ≤ (1 : Int) := by decide
       have q73 : (1 : Int) < (x8.length : Int) := of_decide_eq_true (by first | (with_reducible assumption) | assumption)
       obtain ⟨ad73, e73, hx73_0⟩ := Kd.at_int (Kd.F_now HF9.out) (1 : Int) p73 q73
       cases e73
       (try simp only [show ((1 : Int)).toNat = 1 from rfl] at hx73_0)
       (try simp only [Nat.reduceMul, Nat.reduceEqDiff, Go.Addr.add, ↓reduceIte] at hx73_0)
       replace p73 := eq_true p73
       replace q73 := eq_true q73
       by_cases c74 : (rd x8 (1 : Int)) ≥ 128
       ·replace HH := MW.hpos HH c74
        have hk75 : decide (128 ≤ (rd x8 (1 : Int))) = true := decide_eq_true c74
        clear c74
        by_cases c77 : 1 ≤ (x8.length : Int)
        ·replace HH := MW.hpos HH c77
         have hk78 : decide (1 ≤ (x8.length : Int)) = true := decide_eq_true c77
         have hk79 : decide (1 ≤ x8.length) = true := decide_eq_true (by omega)
         clear c77
         obtain ⟨i076, hi076, _, hsz76, _⟩ := info_parts info5
         have q076 : 0 ≤ (1 : Int) := (by decide)
         have ql76 : (1 : Int) ≤ ((x8.length : Int) : Int) := (by first | exact Int.le_refl _ | exact of_decide_eq_true (by first | (with_reducible assumption) | assumption) | (simp; done))
         have hcut76 := cut_from (P := Try.prog) 95 5 .i64 Try.underlying95 hi076 1 hsz76 (some ad20) x8.length cp9 1 q076 ql76
         have hr76 : Kd.F (Kd.int .u8) w11 (fun k_ => (w.heap.size ≤ k_)) (if cp9 = 1 then (some ad20) else ((some ad20) : Option Addr).map (·.add (1 * 1))) (List.drop 1 x8).length (List.drop 1 x8) := Kd.F_cut (m := 1) (c := cp9) HF9.out (by omega) HL9.out
         have hy76 : (List.drop 1 x8).length = x8.length - 1 := List.length_drop
         have hl76 : (List.drop 1 x8).length ≤ cp9 - 1 := (by have := HL9.out; rw [List.length_drop]; omega)
         try simp only [show ((1 : Int)).toNat = 1 from rfl] at hcut76
         rw [← hy76] at hcut76
         generalize (if cp9 = 1 then (some ad20) else ((some ad20) : Option Addr).map (·.add (1 * 1))) = A76 at hcut76 hr76
         generalize cp9 - 1 = cp76 at hcut76 hl76
         clear hy76 q076 ql76
         have HF76 := Aside0.mk hr76
         have HL76 := Aside0.mk hl76
         clear hr76 hl76 hi076 hsz76
         obtain ⟨y80, hy80⟩ : ∃ y_ : List Int, y_ = List.drop 1 x8 := ⟨_, rfl⟩
         rw [← hy80] at hcut76 HL76 HF76
         have H : ((prims_signed.l0 k10 y80)) = some r := by rw [hy80]; exact HH.out
         replace HH := Aside0.mk H
         clear H
         clear hy80
         go_wp2
         go_roundg k10
         case measure => have := HK0.out; omega
         case rel => exact ⟨y80, A76, cp76, (by first | rfl | (simp; done) | (simp [*]; done)), HH, ⟨by have := HK0.out; omega⟩, ⟨(Kd.F_mono (ok := (fun k_ => (w.heap.size ≤ k_))) HF6.out (fun k_ hk_ => hk_))⟩, ⟨HL76.out⟩, ⟨(Kd.F_mono (ok := (fun k_ => (w.heap.size ≤ k_))) HF76.out (fun k_ hk_ => hk_))⟩, ⟨HB.out⟩⟩
        exact absurd HH.out (by rw [if_neg c77]; simp)
       replace HH := MW.hneg HH c74
       have hk83 : decide (128 ≤ (rd x8 (1 : Int))) = false := decide_eq_false c74
       clear c74
       have hcv84 := Kd.C_string (P := Try.prog) (A := (some ad20)) (c := cp9) Try.underlying95 Try.underlying5 Try.underlying9 (Kd.F_now HF9.out)
       have H := HH.out
       obtain rfl := Option.some.inj H
       clear HH
       go_wp2
       go_ret
       exact ⟨by first | rfl | (simp; done) | (simp [*]; done), HB.out⟩
      exact absurd HH.out (by rw [if_neg c68]; simp)
     replace HH := MW.hneg HH c65
     have hk89 : ((rd x8 (0 : Int)) == 255) = false := beq_eq_false_iff_ne.mpr c65
     have hk90 : ((rd x8 (0 : Int)) != 255) = true := bne_iff_ne.mpr c65
     clear c65
     have hcv91 := Kd.C_string (P := Try.prog) (A := (some ad20)) (c := cp9) Try.underlying95 Try.underlying5 Try.underlying9 (Kd.F_now HF9.out)
     have H := HH.out
     obtain rfl := Option.some.inj H
     clear HH
     go_wp2
     go_ret
     exact ⟨by first | rfl | (simp; done) | (simp [*]; done), HB.out⟩
    exact absurd HH.out (by rw [if_neg c15]; simp)
   replace HH := MW.hneg HH c12
   have hk96 : decide (1 < (x8.length : Int)) = false := decide_eq_false c12
   have hk97 : decide (1 < x8.length) = false := decide_eq_false (by omega)
   clear c12
   have hcv98 := Kd.C_string (P := Try.prog) (A := A9) (c := cp9) Try.underlying95 Try.underlying5 Try.underlying9 (Kd.F_now HF9.out)
   have H := HH.out
   obtain rfl := Option.some.inj H
   clear HH
   go_wp2
   go_ret
   exact ⟨by first | rfl | (simp; done) | (simp [*]; done), HB.out⟩

/-! ### reply_text: function 60 -/
def reply_text.f (a0 : ByteArray) : Option (Int × Bool × Int × ByteArray × (List (S57))) := (prims_Text.f 0 4 a0).bind fun bt13 => (some (bt13.1, bt13.2.1, bt13.2.2.1, bt13.2.2.2.1, bt13.2.2.2.2.1))
set_option maxHeartbeats 8000000 in
set_option maxRecDepth 100000 in
theorem reply_text.calls (a0 : ByteArray) (r1 : Int) (r2 : Bool) (r3 : Int) (r4 : ByteArray) (r5 : List (S57)) (w : World) (h : reply_text.f a0 = some (r1, r2, r3, r4, r5)) :
  Calls Try.prog 60 #[.string a0] w (fun e w' => ∃ v4_ : Value, e = .returned (.agg #[.int .i64 r1, .bool r2, .int .i64 r3, .string r4, v4_]) ∧ Kd.N k57 57 w' w.heap.size (fun k_ => w.heap.size ≤ k_) v4_ r5 ∧ Below w.heap.size w w') := by
 have HH := Aside0.mk (show ((prims_Text.f 0 4 a0).bind fun bt13 => (some (bt13.1, bt13.2.1, bt13.2.2.1, bt13.2.2.2.1, bt13.2.2.2.2.1))) = some (r1, r2, r3, r4, r5) from h)
 clear h
 have HB := Aside0.mk (Below.refl w.heap.size w)
 have hu57 := Try.underlying57
 go_enter Try.func60, Try.ntmps60
 go_wp2_with (((with_reducible refine gate_dst (N := 2) rfl ?_); (try (refine gate_guard (by rfl) ?_; dsimp only)); refine box_event ?hg (N := 2) ?hd (cs := #[.int .i64 0, .bool false, .int .i64 0, .string (⟨#[]⟩ : ByteArray), .slice none 0 0]) (t := 57) ?hr ?_; (case hd => rfl); (case hg => rfl); (case hr => first | (go_simp; done) | (go_simp; rfl)); intro g1 hg w2 hbox hb); replace hg := Aside0.mk hg; replace hbox := Aside0.mk hbox; refine stop_ ?_)
 refine Stop.go ?_
 replace hg := hg.out
 replace hbox := hbox.out
 have GEg1 := Aside0.mk (by rw [hg]; exact (below_size HB.out) : w.heap.size ≤ g1)
 replace HB := Aside0.mk (below_step HB.out hb)
 have BKg1 := Aside0.mk hbox
 clear hg hbox hb
 obtain ⟨j3, j4, j5, j6, j7, j8, j9, ja, jb, jc⟩ := MB.lay5 BKg1.out
 have H := HH.out
 replace H := Option.bind_eq_some_iff.mp H
 obtain ⟨⟨t13, t14, t15, t16, t17, t18⟩, at_, H⟩ := H
 have At19 := Aside0.mk at_
 clear at_
 replace HH := Aside0.mk (show (some (t13, t14, t15, t16, t17)) = some (r1, r2, r3, r4, r5) from H)
 clear H
 go_wp2_with (((with_reducible refine gate_callee (f := 61) rfl ?_); (try (refine gate_guard (by rfl) ?_; dsimp only)); refine goesL_ (some 7) rfl rfl Try.func61 (by kernel_rfl) rfl #[.int .i64 0, .int .i64 4, .string a0] rfl (by (try simp only [List.map_toArray, List.map_cons, List.map_nil]); first | done | rfl | (simp only [List.length_drop, List.length_take]; rfl)) ?_; (with_reducible refine (prims_Text.calls  0 4 a0 t13 t14 t15 t16 t17 t18 _  At19.out).mono ?_); rintro e w20 ⟨v21, rfl, hn21, hb⟩; refine ⟨_, rfl, ?_⟩); refine stop_ ?_)
 refine Stop.go ?_
 have hba := Kd.N_base hn21
 have HN21 := Aside0.mk (Kd.N_mono (Kd.N_lower hn21 (below_size HB.out)) (fun k_ h_ => ⟨(Nat.le_trans (below_size HB.out) h_), Kd.freshB (g := g1) BKg1.out k_ h_⟩) : Kd.N k57 57 w20 w.heap.size (fun k_ => (w.heap.size ≤ k_) ∧ k_ ≠ g1) v21 t17)
 replace BKg1 := Aside0.mk (blk_below (g := g1) BKg1.out hb)
 replace HB := Aside0.mk (below_step HB.out hb)
 clear hn21 hba hb
 clear j3 j4 j5 j6 j7 j8 j9 ja jb jc
 obtain ⟨jm, jn, jo, jp, jq, jr, js, jt, ju, jv⟩ := MB.lay5 BKg1.out
 go_wp2_with (((with_reducible refine gate_dst (N := 3) rfl ?_); (try (refine gate_guard (by rfl) ?_; dsimp only)); refine box_event ?hg (N := 3) ?hd (cs := #[.int .i64 0, .bool false, .int .i64 0, .string (⟨#[]⟩ : ByteArray), .slice none 0 0]) (t := 57) ?hr ?_; (case hd => rfl); (case hg => rfl); (case hr => first | (go_simp; done) | (go_simp; rfl)); intro g32 hg w33 hbox hb); replace hg := Aside0.mk hg; replace hbox := Aside0.mk hbox; refine stop_ ?_)
 refine Stop.go ?_
 replace hg := hg.out
 replace hbox := hbox.out
 have GEg32 := Aside0.mk (by rw [hg]; exact (below_size HB.out) : w.heap.size ≤ g32)
 replace HN21 := Aside0.mk (Kd.N_elderB HN21.out g32 (Nat.le_of_eq hg.symm))
 replace HN21 := Aside0.mk (Kd.N_mono HN21.out (fun k_ hk_ => ⟨hk_.1.1, hk_.1.2, hk_.2⟩) : Kd.N k57 _ _ _ (fun k_ => (w.heap.size ≤ k_) ∧ k_ ≠ g1 ∧ k_ ≠ g32) _ _)
 have NEg1_g32 := Aside0.mk (by rw [hg]; exact Nat.ne_of_lt (blk_lt (g := g1) BKg1.out) : g1 ≠ g32)
 have NEg32_g1 := Aside0.mk (Ne.symm NEg1_g32.out)
 replace HN21 := Aside0.mk (Kd.N_below HN21.out hb)
 replace BKg1 := Aside0.mk (blk_below (g := g1) BKg1.out hb)
 replace HB := Aside0.mk (below_step HB.out hb)
 have BKg32 := Aside0.mk hbox
 clear hg hbox hb
 clear jm jn jo jp jq jr js jt ju jv
 obtain ⟨jy, jz, jA, jB, jC, jD, jE, jF, jG, jH⟩ := MB.lay5 BKg1.out
 obtain ⟨jI, jJ, jK, jL, jM, jN, jO, jP, jQ, jR⟩ := MB.lay5 BKg32.out
 obtain ⟨A55, cp56, he_⟩ := Kd.N_slice HN21.out
 subst he_
 go_wp2_with (((with_reducible refine gate_store (t := 57) (p := 3) rfl ?_); (try (refine gate_guard (by rfl) ?_; dsimp only)); refine MW.ev_store #[.int .i64 t13, .bool t14, .int .i64 t15, .string t16, (.slice A55 t17.length cp56)] rfl rfl rfl rfl BKg32.out [.int .i64 t13, .bool t14, .int .i64 t15, .string t16, (.slice A55 t17.length cp56)] rfl (by kernel_rfl) (by simp) (by simp [Value.oneCell']) rfl ?_; intro w54 hbk hg); replace hbk := Aside0.mk hbk; refine stop_ ?_)
 refine Stop.go ?_
 replace hbk := hbk.out
 replace HN21 := Aside0.mk (Kd.N_grown (ok := (fun k_ => (w.heap.size ≤ k_) ∧ k_ ≠ g1 ∧ k_ ≠ g32)) HN21.out hg (fun k_ hk_ he_ => hk_.2.2 (Option.some.inj he_)))
 replace BKg1 := Aside0.mk (blk_grown (g := g1) BKg1.out hg (fun he_ => NEg1_g32.out (Option.some.inj he_)))
 replace HB := Aside0.mk (Below.grown HB.out hg (below_size HB.out) (fun k_ hk_ => by injection hk_ with hk_; rw [← hk_]; exact GEg32.out))
 replace BKg32 := Aside0.mk hbk
 clear hg hbk
 clear jy jz jA jB jC jD jE jF jG jH jI jJ jK jL jM jN jO jP jQ jR
 obtain ⟨jV, jW, jX, jY, jZ, j10, j11, j12, j13, j14⟩ := MB.lay5 BKg1.out
 obtain ⟨j15, j16, j17, j18, j19, j1a, j1b, j1c, j1d, j1e⟩ := MB.lay5 BKg32.out
 go_wp2_with (((with_reducible refine gate_store (t := 57) (p := 2) rfl ?_); (try (refine gate_guard (by rfl) ?_; dsimp only)); refine MW.ev_store #[.int .i64 t13, .bool t14, .int .i64 t15, .string t16, (.slice A55 t17.length cp56)] rfl rfl rfl rfl BKg1.out [.int .i64 t13, .bool t14, .int .i64 t15, .string t16, (.slice A55 t17.length cp56)] rfl (by kernel_rfl) (by simp) (by simp [Value.oneCell']) rfl ?_; intro w77 hbk hg); replace hbk := Aside0.mk hbk; refine stop_ ?_)
 refine Stop.go ?_
 replace hbk := hbk.out
 replace HN21 := Aside0.mk (Kd.N_grown (ok := (fun k_ => (w.heap.size ≤ k_) ∧ k_ ≠ g1 ∧ k_ ≠ g32)) HN21.out hg (fun k_ hk_ he_ => hk_.2.1 (Option.some.inj he_)))
 replace BKg32 := Aside0.mk (blk_grown (g := g32) BKg32.out hg (fun he_ => NEg32_g1.out (Option.some.inj he_)))
 replace HB := Aside0.mk (Below.grown HB.out hg (below_size HB.out) (fun k_ hk_ => by injection hk_ with hk_; rw [← hk_]; exact GEg1.out))
 replace BKg1 := Aside0.mk hbk
 clear hg hbk
 clear jV jW jX jY jZ j10 j11 j12 j13 j14 j15 j16 j17 j18 j19 j1a j1b j1c j1d j1e
 obtain ⟨j1g, j1h, j1i, j1j, j1k, j1l, j1m, j1n, j1o, j1p⟩ := MB.lay5 BKg1.out
 obtain ⟨j1q, j1r, j1s, j1t, j1u, j1v, j1w, j1x, j1y, j1z⟩ := MB.lay5 BKg32.out
 have H := HH.out
 simp only [Option.some.injEq, Prod.mk.injEq] at H
 obtain ⟨rfl, rfl, rfl, rfl, rfl⟩ := H
 clear HH
 go_wp2
 refine bodyPost_ret (MW.results_c rfl _ _ g1 57 #[.int .i64 t13, .bool t14, .int .i64 t15, .string t16, (.slice A55 t17.length cp56)] (0, 0) _ rfl BKg1.out Try.underlying57 rfl (by kernel_rfl)) rfl ?_
 exact ⟨_, by first | rfl | (simp; done) | (simp [*]; done), (Kd.N_mono (ok := (fun k_ => (w.heap.size ≤ k_) ∧ k_ ≠ g1 ∧ k_ ≠ g32)) HN21.out (fun k_ hk_ => hk_.1)), HB.out⟩

/-! ### ber_depth: function 99 -/
mutual
def ber_depth.l0 : Nat → Int → Int → Int → (List (S57)) → Option (Int)
 | 0, _, _, _, _ => none
 | k + 1, x18, x19, a1, l0_4 => if x19 < (l0_4.length : Int) then (if 0 ≤ x19 then ((ber_depth.f k ((rd_T57 l0_4 x19).f0) ((rd_T57 l0_4 x19).f1) ((rd_T57 l0_4 x19).f2) ((rd_T57 l0_4 x19).f3) ((rd_T57 l0_4 x19).f4) (wrap64 (a1 - 1))).bind fun t81 => (if x18 < t81 then ((ber_depth.l0 k t81 (wrap64 (x19 + 1)) a1 l0_4)) else ((ber_depth.l0 k x18 (wrap64 (x19 + 1)) a1 l0_4)))) else (none)) else (some (wrap64 (x18 + 1)))
def ber_depth.f : Nat → Int → Bool → Int → ByteArray → (List (S57)) → Int → Option (Int)
 | 0, _, _, _, _, _, _ => none
 | k + 1, a0_0, a0_1, a0_2, a0_3, l0_4, a1 => if a1 = 0 then (some 1) else ((ber_depth.l0 k 0 0 a1 l0_4))
end
theorem ber_depth.mono_l : ∀ k, (∀ y0 y1 y2 y3 y4 y5, LeO (ber_depth.f k y0 y1 y2 y3 y4 y5) (ber_depth.f (k + 1) y0 y1 y2 y3 y4 y5)) ∧ (∀ y0 y1 y2 y3, LeO (ber_depth.l0 k y0 y1 y2 y3) (ber_depth.l0 (k + 1) y0 y1 y2 y3))
 | 0 => ⟨fun _ _ _ _ _ _ r h => by simp [ber_depth.f] at h, fun _ _ _ _ r h => by simp [ber_depth.l0] at h⟩
 | k + 1 => by
  obtain ⟨ih0, ih1⟩ := ber_depth.mono_l k
  refine ⟨?_, ?_⟩
  ·intro y0 y1 y2 y3 y4 y5
   unfold ber_depth.f
   repeat' first
   | (with_reducible exact ih0 _ _ _ _ _ _)
   | (with_reducible exact ih1 _ _ _ _)
   | (with_reducible exact LeO.refl _)
   | (with_reducible exact LeO.none _)
   | (with_reducible refine LeO.ite ?_ ?_)
   | (with_reducible refine LeO.bind ?_ (fun _ => ?_))
  intro y0 y1 y2 y3
  unfold ber_depth.l0
  repeat' first
  | (with_reducible exact ih0 _ _ _ _ _ _)
  | (with_reducible exact ih1 _ _ _ _)
  | (with_reducible exact LeO.refl _)
  | (with_reducible exact LeO.none _)
  | (with_reducible refine LeO.ite ?_ ?_)
  | (with_reducible refine LeO.bind ?_ (fun _ => ?_))
theorem ber_depth.mono : ∀ a0_ a1_ a2_ a3_ a4_ a5_ k, LeO (ber_depth.f k a0_ a1_ a2_ a3_ a4_ a5_) (ber_depth.f (k + 1) a0_ a1_ a2_ a3_ a4_ a5_) := by
 intro a0_ a1_ a2_ a3_ a4_ a5_ k
 obtain ⟨ih0, ih1⟩ := ber_depth.mono_l k
 exact ih0 a0_ a1_ a2_ a3_ a4_ a5_
set_option maxHeartbeats 8000000 in
set_option maxRecDepth 100000 in
theorem ber_depth.calls (k : Nat) : ∀ (P_ : Nat → Prop) (a0_0 : Int) (a0_1 : Bool) (a0_2 : Int) (a0_3 : ByteArray) (A0_4 : Option Addr) (c0_4 : Nat) (l0_4 : List (S57)) (a1 : Int) (r : Int) (w : World) (hs0_4 : Kd.F k57 w P_ A0_4 l0_4.length l0_4) (hc0_4 : l0_4.length ≤ c0_4) (h : ber_depth.f k a0_0 a0_1 a0_2 a0_3 l0_4 a1 = some r),
  Calls Try.prog 99 #[.agg #[.int .i64 a0_0, .bool a0_1, .int .i64 a0_2, .string a0_3, .slice A0_4 l0_4.length c0_4], .int .i64 a1] w (fun e w' => e = .returned (.int .i64 r) ∧ Below w.heap.size w w') := by
 induction k using Nat.strongRecOn with
 | _ k ih =>
 intro P_ a0_0 a0_1 a0_2 a0_3 A0_4 c0_4 l0_4 a1 r w hs0_4 hc0_4 h
 cases k with
 | zero => exact absurd h (by simp [ber_depth.f])
 | succ k1 =>
 simp only [ber_depth.f] at h
 have HH := Aside0.mk h
 clear h
 have HF0_4 := Aside0.mk (Kd.F_mono hs0_4 (fun k_ hk_ => (.inl hk_ : P_ k_ ∨ w.heap.size ≤ k_)))
 clear hs0_4 hc0_4
 have HB := Aside0.mk (Below.refl w.heap.size w)
 have hu57 := Try.underlying57
 go_enter Try.func99, Try.ntmps99
 go_wp2_with (((with_reducible refine gate_dst (N := 2) rfl ?_); (try (refine gate_guard (by rfl) ?_; dsimp only)); refine box_event ?hg (N := 2) ?hd (cs := #[.int .i64 a0_0, .bool a0_1, .int .i64 a0_2, .string a0_3, .slice A0_4 l0_4.length c0_4]) (t := 57) ?hr ?_; (case hd => rfl); (case hg => rfl); (case hr => first | (go_simp; done) | (go_simp; rfl)); intro g1 hg w2 hbox hb); replace hg := Aside0.mk hg; replace hbox := Aside0.mk hbox; refine stop_ ?_)
 refine Stop.go ?_
 replace hg := hg.out
 replace hbox := hbox.out
 replace HF0_4 := Aside0.mk (Kd.F_elderB HF0_4.out g1 (Nat.le_of_eq hg.symm))
 replace HF0_4 := Aside0.mk (Kd.F_mono HF0_4.out (fun k_ hk_ => ⟨hk_.1, hk_.2⟩) : Kd.F k57 _ (fun k_ => (P_ k_ ∨ w.heap.size ≤ k_) ∧ k_ ≠ g1) _ _ _)
 replace HF0_4 := Aside0.mk (Kd.F_below HF0_4.out hb)
 replace HB := Aside0.mk (below_step HB.out hb)
 have BKg1 := Aside0.mk hbox
 clear hg hbox hb
 obtain ⟨j3, j4, j5, j6, j7, j8, j9, ja, jb, jc⟩ := MB.lay5 BKg1.out
 by_cases c13 : a1 = 0
 ·replace HH := MW.hpos HH c13
  have hk14 : (a1 == 0) = true := beq_iff_eq.mpr c13
  have hk15 : (a1 != 0) = false := bne_eq_false_iff_eq.mpr c13
  clear c13
  have H := HH.out
  obtain rfl := Option.some.inj H
  clear HH
  go_wp2
  go_ret
  exact ⟨by first | rfl | (simp; done) | (simp [*]; done), HB.out⟩
 replace HH := MW.hneg HH c13
 have hk16 : (a1 == 0) = false := beq_eq_false_iff_ne.mpr c13
 have hk17 : (a1 != 0) = true := bne_iff_ne.mpr c13
 clear c13
 go_wp2
 go_loopg [5, 13] k1 (fun kq u5 u13 w' => ∃ (x18 : Int) (x19 : Int), u5 = .int .i64 x18 ∧ u13 = .int .i64 x19 ∧ Aside0 ((ber_depth.l0 kq x18 x19 a1 l0_4) = some r) ∧ Aside0 (kq ≤ k1) ∧ Aside0 (Kd.F k57 w' (fun k_ => (P_ k_ ∨ w.heap.size ≤ k_) ∧ k_ ≠ g1) A0_4 l0_4.length l0_4) ∧ Aside0 (w'.heap[g1]? = some (.cells #[.int .i64 a0_0, .bool a0_1, .int .i64 a0_2, .string a0_3, .slice A0_4 l0_4.length c0_4] 57 (0, 0))) ∧ Aside0 (Below w.heap.size w w'))
 case atStart => exact ⟨0, 0, (by first | rfl | (simp; done) | (simp [*]; done)), (by first | rfl | (simp; done) | (simp [*]; done)), HH, ⟨Nat.le_refl _⟩, ⟨(Kd.F_mono (ok := (fun k_ => (P_ k_ ∨ w.heap.size ≤ k_) ∧ k_ ≠ g1)) HF0_4.out (fun k_ hk_ => ⟨hk_.1, hk_.2⟩))⟩, ⟨BKg1.out⟩, ⟨HB.out⟩⟩
 case round =>
  clear j3 j4 j5 j6 j7 j8 j9 ja jb jc
  clear hk16
  clear hk17
  clear HH
  clear HF0_4 BKg1 HB
  obtain ⟨x18, x19, rfl, rfl, HA, HK0, HF0_4, BKg1, HB⟩ := hrel
  obtain ⟨w21, rfl⟩ : ∃ wo_ : World, wo_ = wr := ⟨_, rfl⟩
  cases gk with
  | zero => exact absurd HA.out (by simp [ber_depth.l0])
  | succ k20 =>
   have H := HA.out
   clear HA
   simp only [ber_depth.l0] at H
   have HH := Aside0.mk H
   clear H
   obtain ⟨jm, jn, jo, jp, jq, jr, js, jt, ju, jv⟩ := MB.lay5 BKg1.out
   by_cases c32 : x19 < (l0_4.length : Int)
   ·replace HH := MW.hpos HH c32
    have hk33 : (x19 < (l0_4.length : Int)) = True := eq_true c32
    have hk34 : decide (x19 < (l0_4.length : Int)) = true := decide_eq_true c32
    clear c32
    by_cases c35 : 0 ≤ x19
    ·replace HH := MW.hpos HH c35
     have hk36 : decide (0 ≤ x19) = true := decide_eq_true c35
     clear c35
     have p37 : 0 ≤ (x19 : Int) := of_decide_eq_true (by first | (with_reducible assumption) | assumption)
     have q37 : x19 < (l0_4.length : Int) := of_decide_eq_true (by first | (with_reducible assumption) | assumption)
     obtain ⟨ad37, A37_4, c37_4, e37, hx37_0, hx37_1, hx37_2, hx37_3, hx37_4, hl37_4, hi37_4⟩ := atF_T57 HF0_4.out x19 p37 q37
     cases e37
     have HF37_4 := Aside0.mk hi37_4
     have HL37_4 := Aside0.mk hl37_4
     clear hi37_4 hl37_4
     replace p37 := eq_true p37
     replace q37 := eq_true q37
     go_wp2_with (((with_reducible refine gate_dst (N := 7) rfl ?_); (try (refine gate_guard (by rfl) ?_; dsimp only)); refine box_event ?hg (N := 7) ?hd (cs := #[.int .i64 0, .bool false, .int .i64 0, .string (⟨#[]⟩ : ByteArray), .slice none 0 0]) (t := 57) ?hr ?_; (case hd => rfl); (case hg => rfl); (case hr => first | (go_simp; done) | (go_simp; rfl)); intro g38 hg w39 hbox hb); replace hg := Aside0.mk hg; replace hbox := Aside0.mk hbox; refine stop_ ?_)
     refine Stop.go ?_
     replace hg := hg.out
     replace hbox := hbox.out
     have GEg38 := Aside0.mk (by rw [hg]; exact (below_size HB.out) : w.heap.size ≤ g38)
     replace HF0_4 := Aside0.mk (Kd.F_elderB HF0_4.out g38 (Nat.le_of_eq hg.symm))
     replace HF0_4 := Aside0.mk (Kd.F_mono HF0_4.out (fun k_ hk_ => ⟨hk_.1.1, hk_.1.2, hk_.2⟩) : Kd.F k57 _ (fun k_ => (P_ k_ ∨ w.heap.size ≤ k_) ∧ k_ ≠ g1 ∧ k_ ≠ g38) _ _ _)
     replace HF37_4 := Aside0.mk (Kd.F_elderB HF37_4.out g38 (Nat.le_of_eq hg.symm))
     replace HF37_4 := Aside0.mk (Kd.F_mono HF37_4.out (fun k_ hk_ => ⟨hk_.1.1, hk_.1.2, hk_.2⟩) : Kd.F k57 _ (fun k_ => (P_ k_ ∨ w.heap.size ≤ k_) ∧ k_ ≠ g1 ∧ k_ ≠ g38) _ _ _)
     have NEg1_g38 := Aside0.mk (by rw [hg]; exact Nat.ne_of_lt (blk_lt (g := g1) BKg1.out) : g1 ≠ g38)
     replace HF0_4 := Aside0.mk (Kd.F_below HF0_4.out hb)
     replace HF37_4 := Aside0.mk (Kd.F_below HF37_4.out hb)
     replace BKg1 := Aside0.mk (blk_below (g := g1) BKg1.out hb)
     replace HB := Aside0.mk (below_step HB.out hb)
     have BKg38 := Aside0.mk hbox
     clear hg hbox hb
     clear jm jn jo jp jq jr js jt ju jv hx37_0 hx37_1 hx37_2 hx37_3 hx37_4 p37 q37
     obtain ⟨jE, jF, jG, jH, jI, jJ, jK, jL, jM, jN⟩ := MB.lay5 BKg1.out
     obtain ⟨jO, jP, jQ, jR, jS, jT, jU, jV, jW, jX⟩ := MB.lay5 BKg38.out
     go_wp2_with (((with_reducible refine gate_store (t := 57) (p := 7) rfl ?_); (try (refine gate_guard (by rfl) ?_; dsimp only)); refine MW.ev_store #[.int .i64 ((rd_T57 l0_4 x19).f0), .bool ((rd_T57 l0_4 x19).f1), .int .i64 ((rd_T57 l0_4 x19).f2), .string ((rd_T57 l0_4 x19).f3), .slice A37_4 ((rd_T57 l0_4 x19).f4).length c37_4] rfl rfl rfl rfl BKg38.out [.int .i64 ((rd_T57 l0_4 x19).f0), .bool ((rd_T57 l0_4 x19).f1), .int .i64 ((rd_T57 l0_4 x19).f2), .string ((rd_T57 l0_4 x19).f3), .slice A37_4 ((rd_T57 l0_4 x19).f4).length c37_4] rfl (by kernel_rfl) (by simp) (by simp [Value.oneCell']) rfl ?_; intro w60 hbk hg); replace hbk := Aside0.mk hbk; refine stop_ ?_)
     refine Stop.go ?_
     replace hbk := hbk.out
     replace HF0_4 := Aside0.mk (Kd.F_grown (ok := (fun k_ => (P_ k_ ∨ w.heap.size ≤ k_) ∧ k_ ≠ g1 ∧ k_ ≠ g38)) HF0_4.out hg (fun k_ hk_ he_ => hk_.2.2 (Option.some.inj he_)))
     replace HF37_4 := Aside0.mk (Kd.F_grown (ok := (fun k_ => (P_ k_ ∨ w.heap.size ≤ k_) ∧ k_ ≠ g1 ∧ k_ ≠ g38)) HF37_4.out hg (fun k_ hk_ he_ => hk_.2.2 (Option.some.inj he_)))
     replace BKg1 := Aside0.mk (blk_grown (g := g1) BKg1.out hg (fun he_ => NEg1_g38.out (Option.some.inj he_)))
     replace HB := Aside0.mk (Below.grown HB.out hg (below_size HB.out) (fun k_ hk_ => by injection hk_ with hk_; rw [← hk_]; exact GEg38.out))
     replace BKg38 := Aside0.mk hbk
     clear hg hbk
     clear jE jF jG jH jI jJ jK jL jM jN jO jP jQ jR jS jT jU jV jW jX
     obtain ⟨jZ, j10, j11, j12, j13, j14, j15, j16, j17, j18⟩ := MB.lay5 BKg1.out
     obtain ⟨j19, j1a, j1b, j1c, j1d, j1e, j1f, j1g, j1h, j1i⟩ := MB.lay5 BKg38.out
     have H := HH.out
     replace H := Option.bind_eq_some_iff.mp H
     obtain ⟨t81, at_, H⟩ := H
     have At82 := Aside0.mk at_
     clear at_
     (try dsimp only at H)
     replace HH := Aside0.mk H
     clear H
     go_wp2_with (((with_reducible refine gate_callee (f := 99) rfl ?_); (try (refine gate_guard (by rfl) ?_; dsimp only)); refine goesL_ (some 21) rfl rfl Try.func99 (by kernel_rfl) rfl #[.agg #[.int .i64 ((rd_T57 l0_4 x19).f0), .bool ((rd_T57 l0_4 x19).f1), .int .i64 ((rd_T57 l0_4 x19).f2), .string ((rd_T57 l0_4 x19).f3), .slice A37_4 ((rd_T57 l0_4 x19).f4).length c37_4], .int .i64 (wrap64 (a1 - 1))] rfl (by (try simp only [List.map_toArray, List.map_cons, List.map_nil]); first | done | rfl | (simp only [List.length_drop, List.length_take]; rfl)) ?_; (with_reducible refine (ih k20 (by have := HK0.out; omega) (fun k_ => (P_ k_ ∨ w.heap.size ≤ k_) ∧ k_ ≠ g1 ∧ k_ ≠ g38) ((rd_T57 l0_4 x19).f0) ((rd_T57 l0_4 x19).f1) ((rd_T57 l0_4 x19).f2) ((rd_T57 l0_4 x19).f3) _ _ ((rd_T57 l0_4 x19).f4) (wrap64 (a1 - 1)) t81 _ (Kd.F_mono (ok := (fun k_ => (P_ k_ ∨ w.heap.size ≤ k_) ∧ k_ ≠ g1 ∧ k_ ≠ g38)) HF37_4.out (fun k_ hk_ => ⟨hk_.1, hk_.2.1, hk_.2.2⟩)) HL37_4.out At82.out).mono ?_); rintro e w83 ⟨rfl, hb⟩; refine ⟨_, rfl, ?_⟩); refine stop_ ?_)
     refine Stop.go ?_
     replace HF0_4 := Aside0.mk (Kd.F_below HF0_4.out hb)
     replace BKg1 := Aside0.mk (blk_below (g := g1) BKg1.out hb)
     replace BKg38 := Aside0.mk (blk_below (g := g38) BKg38.out hb)
     replace HB := Aside0.mk (below_step HB.out hb)
     clear hb
     clear jZ j10 j11 j12 j13 j14 j15 j16 j17 j18 j19 j1a j1b j1c j1d j1e j1f j1g j1h j1i
     obtain ⟨j1m, j1n, j1o, j1p, j1q, j1r, j1s, j1t, j1u, j1v⟩ := MB.lay5 BKg1.out
     obtain ⟨j1w, j1x, j1y, j1z, j1A, j1B, j1C, j1D, j1E, j1F⟩ := MB.lay5 BKg38.out
     by_cases c104 : x18 < t81
     ·replace HH := MW.hpos HH c104
      have hk105 : (x18 < t81) = True := eq_true c104
      have hk106 : decide (x18 < t81) = true := decide_eq_true c104
      clear c104
      go_wp2
      go_roundg k20
      case measure => have := HK0.out; omega
      case rel => exact ⟨t81, wrap64 (x19 + 1), (by first | rfl | (simp; done) | (simp [*]; done)), (by first | rfl | (simp; done) | (simp [*]; done)), HH, ⟨by have := HK0.out; omega⟩, ⟨(Kd.F_mono (ok := (fun k_ => (P_ k_ ∨ w.heap.size ≤ k_) ∧ k_ ≠ g1 ∧ k_ ≠ g38)) HF0_4.out (fun k_ hk_ => ⟨hk_.1, hk_.2.1⟩))⟩, ⟨BKg1.out⟩, ⟨HB.out⟩⟩
     replace HH := MW.hneg HH c104
     have hk107 : (x18 < t81) = False := eq_false c104
     have hk108 : decide (x18 < t81) = false := decide_eq_false c104
     clear c104
     go_wp2
     go_roundg k20
     case measure => have := HK0.out; omega
     case rel => exact ⟨x18, wrap64 (x19 + 1), (by first | rfl | (simp; done) | (simp [*]; done)), (by first | rfl | (simp; done) | (simp [*]; done)), HH, ⟨by have := HK0.out; omega⟩, ⟨(Kd.F_mono (ok := (fun k_ => (P_ k_ ∨ w.heap.size ≤ k_) ∧ k_ ≠ g1 ∧ k_ ≠ g38)) HF0_4.out (fun k_ hk_ => ⟨hk_.1, hk_.2.1⟩))⟩, ⟨BKg1.out⟩, ⟨HB.out⟩⟩
    exact absurd HH.out (by rw [if_neg c35]; simp)
   replace HH := MW.hneg HH c32
   have hk110 : (x19 < (l0_4.length : Int)) = False := eq_false c32
   have hk111 : decide (x19 < (l0_4.length : Int)) = false := decide_eq_false c32
   clear c32
   have H := HH.out
   obtain rfl := Option.some.inj H
   clear HH
   go_wp2
   go_ret
   exact ⟨by first | rfl | (simp; done) | (simp [*]; done), HB.out⟩

/-! ### ber_Deep: function 86 -/
def ber_Deep.f (k : Nat) (a0_0 : Int) (a0_1 : Bool) (a0_2 : Int) (a0_3 : ByteArray) (l0_4 : List (S57)) : Option (Int) := (ber_depth.f k a0_0 a0_1 a0_2 a0_3 l0_4 12).bind fun t13 => (some t13)
theorem ber_Deep.mono : ∀ a0_ a1_ a2_ a3_ a4_ k, LeO (ber_Deep.f k a0_ a1_ a2_ a3_ a4_) (ber_Deep.f (k + 1) a0_ a1_ a2_ a3_ a4_) := by
 intro a0_ a1_ a2_ a3_ a4_ k
 unfold ber_Deep.f
 repeat' first
   | (with_reducible exact ber_depth.mono _ _ _ _ _ _ _)
   | (with_reducible exact LeO.refl _)
   | (with_reducible exact LeO.none _)
   | (with_reducible refine LeO.ite ?_ ?_)
   | (with_reducible refine LeO.bind ?_ (fun _ => ?_))
set_option maxHeartbeats 8000000 in
set_option maxRecDepth 100000 in
theorem ber_Deep.calls (k : Nat) (P_ : Nat → Prop) (a0_0 : Int) (a0_1 : Bool) (a0_2 : Int) (a0_3 : ByteArray) (A0_4 : Option Addr) (c0_4 : Nat) (l0_4 : List (S57)) (r : Int) (w : World) (hs0_4 : Kd.F k57 w P_ A0_4 l0_4.length l0_4) (hc0_4 : l0_4.length ≤ c0_4) (h : ber_Deep.f k a0_0 a0_1 a0_2 a0_3 l0_4 = some r) :
  Calls Try.prog 86 #[.agg #[.int .i64 a0_0, .bool a0_1, .int .i64 a0_2, .string a0_3, .slice A0_4 l0_4.length c0_4]] w (fun e w' => e = .returned (.int .i64 r) ∧ Below w.heap.size w w') := by
 have HH := Aside0.mk (show ((ber_depth.f k a0_0 a0_1 a0_2 a0_3 l0_4 12).bind fun t13 => (some t13)) = some r from h)
 clear h
 have HF0_4 := Aside0.mk (Kd.F_mono hs0_4 (fun k_ hk_ => (.inl hk_ : P_ k_ ∨ w.heap.size ≤ k_)))
 have HL0_4 := Aside0.mk hc0_4
 clear hs0_4 hc0_4
 have HB := Aside0.mk (Below.refl w.heap.size w)
 have hu57 := Try.underlying57
 go_enter Try.func86, Try.ntmps86
 go_wp2_with (((with_reducible refine gate_dst (N := 1) rfl ?_); (try (refine gate_guard (by rfl) ?_; dsimp only)); refine box_event ?hg (N := 1) ?hd (cs := #[.int .i64 a0_0, .bool a0_1, .int .i64 a0_2, .string a0_3, .slice A0_4 l0_4.length c0_4]) (t := 57) ?hr ?_; (case hd => rfl); (case hg => rfl); (case hr => first | (go_simp; done) | (go_simp; rfl)); intro g1 hg w2 hbox hb); replace hg := Aside0.mk hg; replace hbox := Aside0.mk hbox; refine stop_ ?_)
 refine Stop.go ?_
 replace hg := hg.out
 replace hbox := hbox.out
 replace HF0_4 := Aside0.mk (Kd.F_elderB HF0_4.out g1 (Nat.le_of_eq hg.symm))
 replace HF0_4 := Aside0.mk (Kd.F_mono HF0_4.out (fun k_ hk_ => ⟨hk_.1, hk_.2⟩) : Kd.F k57 _ (fun k_ => (P_ k_ ∨ w.heap.size ≤ k_) ∧ k_ ≠ g1) _ _ _)
 replace HF0_4 := Aside0.mk (Kd.F_below HF0_4.out hb)
 replace HB := Aside0.mk (below_step HB.out hb)
 have BKg1 := Aside0.mk hbox
 clear hg hbox hb
 obtain ⟨j3, j4, j5, j6, j7, j8, j9, ja, jb, jc⟩ := MB.lay5 BKg1.out
 have H := HH.out
 replace H := Option.bind_eq_some_iff.mp H
 obtain ⟨t13, at_, H⟩ := H
 have At14 := Aside0.mk at_
 clear at_
 replace HH := Aside0.mk (show (some t13) = some r from H)
 clear H
 go_wp2_with (((with_reducible refine gate_callee (f := 99) rfl ?_); (try (refine gate_guard (by rfl) ?_; dsimp only)); refine goesL_ (some 4) rfl rfl Try.func99 (by kernel_rfl) rfl #[.agg #[.int .i64 a0_0, .bool a0_1, .int .i64 a0_2, .string a0_3, .slice A0_4 l0_4.length c0_4], .int .i64 12] rfl (by (try simp only [List.map_toArray, List.map_cons, List.map_nil]); first | done | rfl | (simp only [List.length_drop, List.length_take]; rfl)) ?_; (with_reducible refine (ber_depth.calls k (fun k_ => (P_ k_ ∨ w.heap.size ≤ k_) ∧ k_ ≠ g1) a0_0 a0_1 a0_2 a0_3 _ _ l0_4 12 t13 _ (Kd.F_mono (ok := (fun k_ => (P_ k_ ∨ w.heap.size ≤ k_) ∧ k_ ≠ g1)) HF0_4.out (fun k_ hk_ => ⟨hk_.1, hk_.2⟩)) HL0_4.out At14.out).mono ?_); rintro e w15 ⟨rfl, hb⟩; refine ⟨_, rfl, ?_⟩); refine stop_ ?_)
 refine Stop.go ?_
 replace BKg1 := Aside0.mk (blk_below (g := g1) BKg1.out hb)
 replace HB := Aside0.mk (below_step HB.out hb)
 clear hb
 clear j3 j4 j5 j6 j7 j8 j9 ja jb jc
 obtain ⟨jg, jh, ji, jj, jk, jl, jm, jn, jo, jp⟩ := MB.lay5 BKg1.out
 have H := HH.out
 obtain rfl := Option.some.inj H
 clear HH
 go_wp2
 go_ret
 exact ⟨by first | rfl | (simp; done) | (simp [*]; done), HB.out⟩

/-! ### ber_sheaf_put: function 89 -/
def ber_sheaf_put.f (l0_1 : List Int) (a0_2 : Bool) (a1 : ByteArray) : Option (List Int × Bool) := if a0_2 = true then (some (l0_1, true)) else (if (wrap64 ((l0_1.length : Int) + (a1.size : Int))) > 4000 then (some (l0_1, decide ((wrap64 ((l0_1.length : Int) + (a1.size : Int))) > 4000))) else (if l0_1.length + a1.size < 140737488355328 then ((some (l0_1 ++ MB.numsOf a1 : List Int)).bind fun y37 => (some (y37, decide ((wrap64 ((l0_1.length : Int) + (a1.size : Int))) > 4000)))) else (none)))
def ber_sheaf_put.Post (B_ : Nat) (g0 : Nat) (p0_0 : Value) (v0_1 : Value) (l0_1 : List Int) (a0_2 : Bool) (a1 : ByteArray) (w : World) (r1 : List Int) (r2 : Bool) (e : Ending) (w' : World) : Prop := ∃ v1'_ : Value, ∃ p0'_ : Value, e = .returned (.tuple #[]) ∧ Kd.N (Kd.int .u8) 5 w' B_ (fun k_ => True ∧ (some k_ = (v0_1 : Value).ownBlock ∨ w.heap.size ≤ k_) ∧ k_ ≠ g0) v1'_ r1 ∧ (p0'_ = .pointer none ∨ p0'_ = .pointer (some ⟨g0, 0, none⟩)) ∧ w'.heap[g0]? = some (.cells #[p0'_, v1'_, .bool r2] 99 (0, 0)) ∧ (∀ k_ : Nat, k_ ≠ g0 → some k_ ≠ (v0_1 : Value).ownBlock → k_ < w.heap.size → w'.heap[k_]? = w.heap[k_]?) ∧ Below B_ w w'
set_option maxHeartbeats 8000000 in
set_option maxRecDepth 100000 in
theorem ber_sheaf_put.calls (B_ : Nat) (g0 : Nat) (p0_0 : Value) (v0_1 : Value) (l0_1 : List Int) (a0_2 : Bool) (a1 : ByteArray) (r1 : List Int) (r2 : Bool) (w : World) (hB0 : B_ ≤ w.heap.size) (hb0 : w.heap[g0]? = some (.cells #[p0_0, v0_1, .bool a0_2] 99 (0, 0))) (hge0 : B_ ≤ g0) (hp0_0 : p0_0 = .pointer none ∨ p0_0 = .pointer (some ⟨g0, 0, none⟩)) (hn0_1 : Kd.N (Kd.int .u8) 5 w B_ (fun k_ => True ∧ (some k_ = (v0_1 : Value).ownBlock ∨ w.heap.size ≤ k_) ∧ k_ ≠ g0) v0_1 l0_1) (h : ber_sheaf_put.f l0_1 a0_2 a1 = some (r1, r2)) :
  Calls Try.prog 89 #[.pointer (some ⟨g0, 0, none⟩), .string a1] w (fun e w' => ber_sheaf_put.Post B_ g0 p0_0 v0_1 l0_1 a0_2 a1 w r1 r2 e w') := by
 have HH := Aside0.mk (show (if a0_2 = true then (some (l0_1, true)) else (if (wrap64 ((l0_1.length : Int) + (a1.size : Int))) > 4000 then (some (l0_1, decide ((wrap64 ((l0_1.length : Int) + (a1.size : Int))) > 4000))) else (if l0_1.length + a1.size < 140737488355328 then ((some (l0_1 ++ MB.numsOf a1 : List Int)).bind fun y37 => (some (y37, decide ((wrap64 ((l0_1.length : Int) + (a1.size : Int))) > 4000)))) else (none)))) = some (r1, r2) from h)
 clear h
 obtain ⟨P0_, HPO⟩ : ∃ P0_ : Nat → Prop, P0_ = (fun k_ => k_ ≠ g0 ∧ some k_ ≠ (v0_1 : Value).ownBlock) := ⟨_, rfl⟩
 have HFfr := Aside0.mk (MB.frK_new w (fun k_ hk_ => by rw [HPO] at hk_; exact ⟨trivial, hk_.2, hk_.1⟩) : Kd.F (MB.frK w P0_) w (fun k_ => True ∧ some k_ ≠ (v0_1 : Value).ownBlock ∧ k_ ≠ g0) (some ⟨0, 0, none⟩) [()].length [()])
 replace HPO := Aside0.mk HPO
 have hB_ := Aside0.mk hB0
 have HPp0_0 := Aside0.mk hp0_0
 clear hp0_0
 have HN0_1 := Aside0.mk hn0_1
 clear hn0_1
 have BKg0 := Aside0.mk hb0
 have GEg0 := Aside0.mk hge0
 clear hb0 hge0
 obtain ⟨j1, j2, j3, j4, j5, j6⟩ := MB.lay3 BKg0.out
 have HB := Aside0.mk (Below.refl B_ w)
 go_enter Try.func89, Try.ntmps89
 by_cases c7 : a0_2 = true
 ·replace HH := MW.hpos HH c7
  subst c7
  obtain ⟨A9, cp10, he_⟩ := Kd.N_slice HN0_1.out
  subst he_
  go_wp2_with (((with_reducible refine gate_store (t := 4) (p := 20) rfl ?_); (try (refine gate_guard (by rfl) ?_; dsimp only)); refine MW.ev_store #[p0_0, (.slice A9 l0_1.length cp10), .bool true] rfl rfl rfl rfl BKg0.out [.bool true] rfl (by kernel_rfl) (by simp) (by simp [Value.oneCell']) rfl ?_; intro w8 hbk hg); replace hbk := Aside0.mk hbk; refine stop_ ?_)
  refine Stop.go ?_
  replace hbk := hbk.out
  replace HFfr := Aside0.mk (Kd.F_grown (ok := (fun k_ => True ∧ some k_ ≠ ((.slice A9 l0_1.length cp10) : Value).ownBlock ∧ k_ ≠ g0)) HFfr.out hg (fun k_ hk_ he_ => hk_.2.2 (Option.some.inj he_)))
  replace HN0_1 := Aside0.mk (Kd.N_grown (ok := (fun k_ => True ∧ (some k_ = ((.slice A9 l0_1.length cp10) : Value).ownBlock ∨ w.heap.size ≤ k_) ∧ k_ ≠ g0)) HN0_1.out hg (fun k_ hk_ he_ => hk_.2.2 (Option.some.inj he_)))
  replace HB := Aside0.mk (Below.grown HB.out hg (Nat.le_trans hB_.out (MB.bsize (a := B_) HB.out)) (fun k_ hk_ => by injection hk_ with hk_; rw [← hk_]; exact GEg0.out))
  replace BKg0 := Aside0.mk hbk
  clear hg hbk
  clear j1 j2 j3 j4 j5 j6
  obtain ⟨jb, jc, jd, je, jf, jg⟩ := MB.lay3 BKg0.out
  have H := HH.out
  simp only [Option.some.injEq, Prod.mk.injEq] at H
  obtain ⟨rfl, rfl⟩ := H
  clear HH
  go_wp2
  go_end0
  unfold ber_sheaf_put.Post
  exact ⟨((.slice A9 l0_1.length cp10)), (p0_0), by first | rfl | (simp; done) | (simp [*]; done), (Kd.N_mono (ok := (fun k_ => True ∧ (some k_ = ((.slice A9 l0_1.length cp10) : Value).ownBlock ∨ w.heap.size ≤ k_) ∧ k_ ≠ g0)) HN0_1.out (fun k_ hk_ => ⟨trivial, hk_.2.1, hk_.2.2⟩)), HPp0_0.out, (by first | exact BKg0.out | (have h_ := BKg0.out; simp only [*] at h_; exact h_) | (have h_ := BKg0.out; simp [*] at h_ ⊢; exact h_)), (fun k_ hg_ hv_ hlt_ => MB.frK_out HFfr.out k_ (by rw [HPO.out]; exact ⟨hg_, hv_⟩) hlt_), HB.out⟩
 replace HH := MW.hneg HH c7
 replace c7 := Bool.eq_false_iff.mpr c7
 subst c7
 go_wp2_with (((with_reducible refine gate_callee (f := 100) rfl ?_); (try (refine gate_guard (by rfl) ?_; dsimp only)); refine goesL_ (some 13) rfl rfl Try.func100 (by kernel_rfl) rfl #[.pointer (some ⟨g0, 0, none⟩)] rfl (by (try simp only [List.map_toArray, List.map_cons, List.map_nil]); first | done | rfl) ?_); refine stop_ ?_)
 refine Stop.go ?_
 go_enter Try.func100, Try.ntmps100
 obtain ⟨A17, cp18, he_⟩ := Kd.N_slice HN0_1.out
 subst he_
 go_wp2
 go_ret
 refine ⟨_, rfl, ?_⟩
 go_wp2_with (((with_reducible refine gate_store (t := 4) (p := 20) rfl ?_); (try (refine gate_guard (by rfl) ?_; dsimp only)); refine MW.ev_store #[p0_0, (.slice A17 l0_1.length cp18), .bool (decide ((wrap64 ((l0_1.length : Int) + (a1.size : Int))) > 4000))] rfl rfl rfl rfl BKg0.out [.bool (decide ((wrap64 ((l0_1.length : Int) + (a1.size : Int))) > 4000))] rfl (by kernel_rfl) (by simp) (by simp [Value.oneCell']) rfl ?_; intro w19 hbk hg); replace hbk := Aside0.mk hbk; refine stop_ ?_)
 refine Stop.go ?_
 replace hbk := hbk.out
 replace HFfr := Aside0.mk (Kd.F_grown (ok := (fun k_ => True ∧ some k_ ≠ ((.slice A17 l0_1.length cp18) : Value).ownBlock ∧ k_ ≠ g0)) HFfr.out hg (fun k_ hk_ he_ => hk_.2.2 (Option.some.inj he_)))
 replace HN0_1 := Aside0.mk (Kd.N_grown (ok := (fun k_ => True ∧ (some k_ = ((.slice A17 l0_1.length cp18) : Value).ownBlock ∨ w.heap.size ≤ k_) ∧ k_ ≠ g0)) HN0_1.out hg (fun k_ hk_ he_ => hk_.2.2 (Option.some.inj he_)))
 replace HB := Aside0.mk (Below.grown HB.out hg (Nat.le_trans hB_.out (MB.bsize (a := B_) HB.out)) (fun k_ hk_ => by injection hk_ with hk_; rw [← hk_]; exact GEg0.out))
 replace BKg0 := Aside0.mk hbk
 clear hg hbk
 clear j1 j2 j3 j4 j5 j6
 obtain ⟨jk, jl, jm, jn, jo, jp⟩ := MB.lay3 BKg0.out
 by_cases c26 : (wrap64 ((l0_1.length : Int) + (a1.size : Int))) > 4000
 ·replace HH := MW.hpos HH c26
  have hk27 : decide (4000 < (wrap64 ((l0_1.length : Int) + (a1.size : Int)))) = true := decide_eq_true c26
  clear c26
  have H := HH.out
  simp only [Option.some.injEq, Prod.mk.injEq] at H
  obtain ⟨rfl, rfl⟩ := H
  clear HH
  go_wp2
  go_end0
  unfold ber_sheaf_put.Post
  exact ⟨((.slice A17 l0_1.length cp18)), (p0_0), by first | rfl | (simp; done) | (simp [*]; done), (Kd.N_mono (ok := (fun k_ => True ∧ (some k_ = ((.slice A17 l0_1.length cp18) : Value).ownBlock ∨ w.heap.size ≤ k_) ∧ k_ ≠ g0)) HN0_1.out (fun k_ hk_ => ⟨trivial, hk_.2.1, hk_.2.2⟩)), HPp0_0.out, (by first | exact BKg0.out | (have h_ := BKg0.out; simp only [*] at h_; exact h_) | (have h_ := BKg0.out; simp [*] at h_ ⊢; exact h_)), (fun k_ hg_ hv_ hlt_ => MB.frK_out HFfr.out k_ (by rw [HPO.out]; exact ⟨hg_, hv_⟩) hlt_), HB.out⟩
 replace HH := MW.hneg HH c26
 have hk28 : decide (4000 < (wrap64 ((l0_1.length : Int) + (a1.size : Int)))) = false := decide_eq_false c26
 clear c26
 go_wp2_with (((with_reducible refine gate_callee (f := 101) rfl ?_); (try (refine gate_guard (by rfl) ?_; dsimp only)); refine goesL_ (some 30) rfl rfl Try.func101 (by kernel_rfl) rfl #[.pointer (some ⟨g0, 0, none⟩), .string a1] rfl (by (try simp only [List.map_toArray, List.map_cons, List.map_nil]); first | done | rfl) ?_); refine stop_ ?_)
 refine Stop.go ?_
 go_enter Try.func101, Try.ntmps101
 go_wp2_with (((with_reducible refine gate_callee (f := 103) rfl ?_); (try (refine gate_guard (by rfl) ?_; dsimp only)); refine goesL_ (some 7) rfl rfl Try.func103 (by kernel_rfl) rfl #[.pointer (some ⟨g0, 0, none⟩)] rfl (by (try simp only [List.map_toArray, List.map_cons, List.map_nil]); first | done | rfl) ?_; refine (copyCheck103 g0 99 (p0_0) [(.slice A17 l0_1.length cp18), .bool (decide ((wrap64 ((l0_1.length : Int) + (a1.size : Int))) > 4000))] _ BKg0.out HPp0_0.out (by kernel_rfl)).mono ?_; rintro e w29 ⟨rfl, hbk, hg⟩; refine ⟨_, rfl, ?_⟩); replace hbk := Aside0.mk hbk; refine stop_ ?_)
 refine Stop.go ?_
 replace hbk := hbk.out
 replace HFfr := Aside0.mk (Kd.F_grown (ok := (fun k_ => True ∧ some k_ ≠ ((.slice A17 l0_1.length cp18) : Value).ownBlock ∧ k_ ≠ g0)) HFfr.out hg (fun k_ hk_ he_ => hk_.2.2 (Option.some.inj he_)))
 replace HN0_1 := Aside0.mk (Kd.N_grown (ok := (fun k_ => True ∧ (some k_ = ((.slice A17 l0_1.length cp18) : Value).ownBlock ∨ w.heap.size ≤ k_) ∧ k_ ≠ g0)) HN0_1.out hg (fun k_ hk_ he_ => hk_.2.2 (Option.some.inj he_)))
 replace HB := Aside0.mk (Below.grown HB.out hg (Nat.le_trans hB_.out (MB.bsize (a := B_) HB.out)) (fun k_ hk_ => by injection hk_ with hk_; rw [← hk_]; exact GEg0.out))
 replace BKg0 := Aside0.mk hbk
 clear hg hbk
 clear jk jl jm jn jo jp
 obtain ⟨ju, jv, jw, jx, jy, jz⟩ := MB.lay3 BKg0.out
 by_cases c36 : l0_1.length + a1.size < 140737488355328
 ·replace HH := MW.hpos HH c36
  have LMc36 := Aside0.mk c36
  clear c36
  obtain ⟨y37, hy37⟩ : ∃ y_ : List Int, y_ = (l0_1 ++ MB.numsOf a1) := ⟨_, rfl⟩
  have H : (some (y37, decide ((wrap64 ((l0_1.length : Int) + (a1.size : Int))) > 4000))) = some (r1, r2) := by rw [hy37]; exact HH.out
  replace HH := Aside0.mk H
  clear H
  have NYy37 := Aside0.mk hy37
  clear hy37
  go_wp2_with (((with_reducible refine gate_dst (N := 14) rfl ?_); (try (refine gate_guard (by rfl) ?_; dsimp only)); refine MB.N_append_str B_ rfl _ _ 95 9 5 rfl Try.underlying95 Try.underlying9 info5 ((.slice A17 l0_1.length cp18)) l0_1 a1 (fun k_ => True ∧ (some k_ = ((.slice A17 l0_1.length cp18) : Value).ownBlock ∨ w.heap.size ≤ k_) ∧ k_ ≠ g0) rfl rfl HN0_1.out (fun k_ h_ => ⟨trivial, (.inr (Nat.le_trans (MB.bsize (a := B_) HB.out) h_)), Kd.freshB (g := g0) BKg0.out k_ h_⟩) HB.out (Nat.le_trans hB_.out (MB.bsize (a := B_) HB.out)) (by first | (have := LMc36.out; simp only [List.length_nil] at *; omega) | (have := LMc36.out; simp at *; omega) | (have := LMc36.out; simp only [List.length_nil] at *; simp; omega)) ?_; intro v38 w39 hn1 hb1 hg1 hat1); replace hat1 := Aside0.mk hat1; refine stop_ ?_)
  refine Stop.go ?_
  replace hat1 := hat1.out
  replace HFfr := Aside0.mk (Kd.F_mono (Kd.F_after (v := (.slice A17 l0_1.length cp18)) (ok := (fun k_ => True ∧ k_ ≠ g0)) (Kd.F_mono (ok := (fun k_ => True ∧ some k_ ≠ ((.slice A17 l0_1.length cp18) : Value).ownBlock ∧ k_ ≠ g0)) HFfr.out (fun k_ hk_ => ⟨⟨hk_.1, hk_.2.2⟩, hk_.2.1⟩)) hg1 hat1) (fun k_ hk_ => ⟨hk_.1.1, hk_.1.2, hk_.2⟩) : Kd.F (MB.frK w P0_) _ (fun k_ => True ∧ k_ ≠ g0 ∧ some k_ ≠ (v38 : Value).ownBlock) _ _ _)
  replace BKg0 := Aside0.mk (blk_grown (g := g0) BKg0.out hg1 (Kd.N_away (ok := (fun k_ => True ∧ (some k_ = ((.slice A17 l0_1.length cp18) : Value).ownBlock ∨ w.heap.size ≤ k_) ∧ k_ ≠ g0)) HN0_1.out (fun k_ hk_ => hk_.2.2)))
  replace HB := Aside0.mk hb1
  clear HN0_1
  have HN40 := Aside0.mk hn1
  clear hn1 hb1 hg1 hat1
  replace HN40 := Aside0.mk (by rw [NYy37.out]; exact HN40.out : Kd.N (Kd.int .u8) 5 w39 B_ (fun k_ => True ∧ (some k_ = ((.slice A17 l0_1.length cp18) : Value).ownBlock ∨ w.heap.size ≤ k_) ∧ k_ ≠ g0) v38 y37)
  clear ju jv jw jx jy jz
  obtain ⟨jF, jG, jH, jI, jJ, jK⟩ := MB.lay3 BKg0.out
  obtain ⟨A48, cp49, he_⟩ := Kd.N_slice HN40.out
  subst he_
  go_wp2_with (((with_reducible refine gate_store (t := 95) (p := 16) rfl ?_); (try (refine gate_guard (by rfl) ?_; dsimp only)); refine MW.ev_store #[.pointer (some ⟨g0, 0, none⟩), (.slice A48 y37.length cp49), .bool (decide ((wrap64 ((l0_1.length : Int) + (a1.size : Int))) > 4000))] rfl rfl rfl rfl BKg0.out [(.slice A48 y37.length cp49)] rfl (by kernel_rfl) (by simp) (by simp [Value.oneCell']) rfl ?_; intro w47 hbk hg); replace hbk := Aside0.mk hbk; refine stop_ ?_)
  refine Stop.go ?_
  replace hbk := hbk.out
  replace HFfr := Aside0.mk (Kd.F_grown (ok := (fun k_ => True ∧ k_ ≠ g0 ∧ some k_ ≠ ((.slice A48 y37.length cp49) : Value).ownBlock)) HFfr.out hg (fun k_ hk_ he_ => hk_.2.1 (Option.some.inj he_)))
  replace HN40 := Aside0.mk (Kd.N_grown (ok := (fun k_ => True ∧ (some k_ = ((.slice A17 l0_1.length cp18) : Value).ownBlock ∨ w.heap.size ≤ k_) ∧ k_ ≠ g0)) HN40.out hg (fun k_ hk_ he_ => hk_.2.2 (Option.some.inj he_)))
  replace HB := Aside0.mk (Below.grown HB.out hg (Nat.le_trans hB_.out (MB.bsize (a := B_) HB.out)) (fun k_ hk_ => by injection hk_ with hk_; rw [← hk_]; exact GEg0.out))
  replace BKg0 := Aside0.mk hbk
  clear hg hbk
  clear jF jG jH jI jJ jK
  obtain ⟨jO, jP, jQ, jR, jS, jT⟩ := MB.lay3 BKg0.out
  go_wp2
  go_ret2
  refine ⟨_, rfl, ?_⟩
  have H := HH.out
  simp only [Option.some.injEq, Prod.mk.injEq] at H
  obtain ⟨rfl, rfl⟩ := H
  clear HH
  go_wp2
  go_end0
  unfold ber_sheaf_put.Post
  exact ⟨((.slice A48 y37.length cp49)), (.pointer (some ⟨g0, 0, none⟩)), by first | rfl | (simp; done) | (simp [*]; done), (Kd.N_mono (ok := (fun k_ => True ∧ (some k_ = ((.slice A17 l0_1.length cp18) : Value).ownBlock ∨ w.heap.size ≤ k_) ∧ k_ ≠ g0)) HN40.out (fun k_ hk_ => ⟨trivial, hk_.2.1, hk_.2.2⟩)), (.inr rfl), (by first | exact BKg0.out | (have h_ := BKg0.out; simp only [*] at h_; exact h_) | (have h_ := BKg0.out; simp [*] at h_ ⊢; exact h_)), (fun k_ hg_ hv_ hlt_ => MB.frK_out HFfr.out k_ (by rw [HPO.out]; exact ⟨hg_, hv_⟩) hlt_), HB.out⟩
 exact absurd HH.out (by rw [if_neg c36]; simp)

/-! ### ber_length: function 90 -/
def ber_length.f (a0 : Int) : Option (ByteArray) := if a0 < 128 then (some (strOfNums ([(a0) % 256] : List Int))) else (if a0 < 256 then (some (strOfNums ([129, (a0) % 256] : List Int))) else (some (strOfNums ([130, (a0 / 256) % 256, (a0) % 256] : List Int))))
set_option maxHeartbeats 8000000 in
set_option maxRecDepth 100000 in
theorem ber_length.calls (a0 : Int) (r : ByteArray) (w : World) (h : ber_length.f a0 = some r) :
  Calls Try.prog 90 #[.int .i64 a0] w (fun e w' => e = .returned (.string r) ∧ Below w.heap.size w w') := by
 have HH := Aside0.mk (show (if a0 < 128 then (some (strOfNums ([(a0) % 256] : List Int))) else (if a0 < 256 then (some (strOfNums ([129, (a0) % 256] : List Int))) else (some (strOfNums ([130, (a0 / 256) % 256, (a0) % 256] : List Int))))) = some r from h)
 clear h
 have HB := Aside0.mk (Below.refl w.heap.size w)
 go_enter Try.func90, Try.ntmps90
 by_cases c1 : a0 < 128
 ·replace HH := MW.hpos HH c1
  have hk2 : (a0 < 128) = True := eq_true c1
  have hk3 : decide (a0 < 128) = true := decide_eq_true c1
  clear c1
  go_wp2_with (((with_reducible refine gate_dst (N := 8) rfl ?_); (try (refine gate_guard (by rfl) ?_; dsimp only)); refine Kd.N_lit (Kd.int .u8) w.heap.size 5 rfl (N' := 8) rfl (xs := ([(a0) % 256] : List Int)) (inner := [.int .u8 ((a0) % 256)]) (ok := (fun k_ => (w.heap.size ≤ k_))) (okp := (fun k_ => (w.heap.size ≤ k_))) ?hr ?hp (fun _ hk_ => hk_) ?hf HB.out (below_size HB.out) (by first | simp | decide) ?_; (case hr => first | (go_simp; done) | (go_simp; rfl)); (case hp => exact (Reps.one (fun _ _ => rfl) (Reps.none _ _))); (case hf => exact (show ∀ k_, w.heap.size ≤ k_ → (fun k_ => (w.heap.size ≤ k_)) k_ from fun k_ h_ => (Nat.le_trans (below_size HB.out) h_)) _ (Nat.le_refl _)); intro v4 w5 hn1 hb1 hg1 hat1); replace hat1 := Aside0.mk hat1; refine stop_ ?_)
  refine Stop.go ?_
  replace hat1 := hat1.out
  have hbe := MW.grown_below hg1
  have hba := MW.base_of hat1
  replace HB := Aside0.mk hb1
  have HN6 := Aside0.mk hn1
  clear hn1 hb1 hg1 hat1 hbe hba
  obtain ⟨A7, cp8, he_⟩ := Kd.N_slice HN6.out
  subst he_
  have HF9 := Aside0.mk (Kd.N_F HN6.out)
  clear HN6
  have hcv11 := Kd.C_string (P := Try.prog) (A := A7) (c := cp8) Try.underlying95 Try.underlying5 Try.underlying9 (Kd.F_now HF9.out)
  (try simp only [List.length_cons, List.length_nil, Nat.reduceAdd] at hcv11)
  have H := HH.out
  obtain rfl := Option.some.inj H
  clear HH
  go_wp2
  go_ret
  exact ⟨by first | rfl | (simp; done) | (simp [*]; done), HB.out⟩
 replace HH := MW.hneg HH c1
 have hk12 : (a0 < 128) = False := eq_false c1
 have hk13 : decide (a0 < 128) = false := decide_eq_false c1
 clear c1
 by_cases c14 : a0 < 256
 ·replace HH := MW.hpos HH c14
  have hk15 : (a0 < 256) = True := eq_true c14
  have hk16 : decide (a0 < 256) = true := decide_eq_true c14
  clear c14
  go_wp2_with (((with_reducible refine gate_dst (N := 15) rfl ?_); (try (refine gate_guard (by rfl) ?_; dsimp only)); refine Kd.N_lit (Kd.int .u8) w.heap.size 5 rfl (N' := 15) rfl (xs := ([129, (a0) % 256] : List Int)) (inner := [.int .u8 129, .int .u8 ((a0) % 256)]) (ok := (fun k_ => (w.heap.size ≤ k_))) (okp := (fun k_ => (w.heap.size ≤ k_))) ?hr ?hp (fun _ hk_ => hk_) ?hf HB.out (below_size HB.out) (by first | simp | decide) ?_; (case hr => first | (go_simp; done) | (go_simp; rfl)); (case hp => exact (Reps.one (fun _ _ => rfl) (Reps.one (fun _ _ => rfl) (Reps.none _ _)))); (case hf => exact (show ∀ k_, w.heap.size ≤ k_ → (fun k_ => (w.heap.size ≤ k_)) k_ from fun k_ h_ => (Nat.le_trans (below_size HB.out) h_)) _ (Nat.le_refl _)); intro v17 w18 hn1 hb1 hg1 hat1); replace hat1 := Aside0.mk hat1; refine stop_ ?_)
  refine Stop.go ?_
  replace hat1 := hat1.out
  have hbe := MW.grown_below hg1
  have hba := MW.base_of hat1
  replace HB := Aside0.mk hb1
  have HN19 := Aside0.mk hn1
  clear hn1 hb1 hg1 hat1 hbe hba
  obtain ⟨A20, cp21, he_⟩ := Kd.N_slice HN19.out
  subst he_
  have HF22 := Aside0.mk (Kd.N_F HN19.out)
  clear HN19
  have hcv24 := Kd.C_string (P := Try.prog) (A := A20) (c := cp21) Try.underlying95 Try.underlying5 Try.underlying9 (Kd.F_now HF22.out)
  (try simp only [List.length_cons, List.length_nil, Nat.reduceAdd] at hcv24)
  have H := HH.out
  obtain rfl := Option.some.inj H
  clear HH
  go_wp2
  go_ret
  exact ⟨by first | rfl | (simp; done) | (simp [*]; done), HB.out⟩
 replace HH := MW.hneg HH c14
 have hk25 : (a0 < 256) = False := eq_false c14
 have hk26 : decide (a0 < 256) = false := decide_eq_false c14
 clear c14
 go_wp2_with (((with_reducible refine gate_dst (N := 22) rfl ?_); (try (refine gate_guard (by rfl) ?_; dsimp only)); refine Kd.N_lit (Kd.int .u8) w.heap.size 5 rfl (N' := 22) rfl (xs := ([130, (a0 / 256) % 256, (a0) % 256] : List Int)) (inner := [.int .u8 130, .int .u8 ((a0 / 256) % 256), .int .u8 ((a0) % 256)]) (ok := (fun k_ => (w.heap.size ≤ k_))) (okp := (fun k_ => (w.heap.size ≤ k_))) ?hr ?hp (fun _ hk_ => hk_) ?hf HB.out (below_size HB.out) (by first | simp | decide) ?_; (case hr => first | (go_simp; done) | (go_simp; rfl)); (case hp => exact (Reps.one (fun _ _ => rfl) (Reps.one (fun _ _ => rfl) (Reps.one (fun _ _ => rfl) (Reps.none _ _))))); (case hf => exact (show ∀ k_, w.heap.size ≤ k_ → (fun k_ => (w.heap.size ≤ k_)) k_ from fun k_ h_ => (Nat.le_trans (below_size HB.out) h_)) _ (Nat.le_refl _)); intro v27 w28 hn1 hb1 hg1 hat1); replace hat1 := Aside0.mk hat1; refine stop_ ?_)
 refine Stop.go ?_
 replace hat1 := hat1.out
 have hbe := MW.grown_below hg1
 have hba := MW.base_of hat1
 replace HB := Aside0.mk hb1
 have HN29 := Aside0.mk hn1
 clear hn1 hb1 hg1 hat1 hbe hba
 obtain ⟨A30, cp31, he_⟩ := Kd.N_slice HN29.out
 subst he_
 have HF32 := Aside0.mk (Kd.N_F HN29.out)
 clear HN29
 have hcv34 := Kd.C_string (P := Try.prog) (A := A30) (c := cp31) Try.underlying95 Try.underlying5 Try.underlying9 (Kd.F_now HF32.out)
 (try simp only [List.length_cons, List.length_nil, Nat.reduceAdd] at hcv34)
 have H := HH.out
 obtain rfl := Option.some.inj H
 clear HH
 go_wp2
 go_ret
 exact ⟨by first | rfl | (simp; done) | (simp [*]; done), HB.out⟩

/-! ### toponymref16_SameTexts: function 14 -/
def toponymref16_SameTexts.l0 : Nat → Int → (List ByteArray) → (List ByteArray) → Option (Bool)
 | 0, _, _, _ => none
 | k + 1, x5, l0, l1 => if x5 < (l0.length : Int) then (if 0 ≤ x5 then (if x5 < (l1.length : Int) then (if (rdOf ByteArray.empty l0 x5).toList = (rdOf ByteArray.empty l1 x5).toList then ((toponymref16_SameTexts.l0 k (wrap64 (x5 + 1)) l0 l1)) else (some false)) else (none)) else (none)) else (some true)
def toponymref16_SameTexts.f (k : Nat) (l0 : List ByteArray) (l1 : List ByteArray) : Option (Bool) := if (l0.length : Int) = (l1.length : Int) then ((toponymref16_SameTexts.l0 k 0 l0 l1)) else (some false)
theorem toponymref16_SameTexts.mono_l : ∀ k, (∀ y0 y1 y2, LeO (toponymref16_SameTexts.l0 k y0 y1 y2) (toponymref16_SameTexts.l0 (k + 1) y0 y1 y2))
 | 0 => fun _ _ _ r h => by simp [toponymref16_SameTexts.l0] at h
 | k + 1 => by
  have ih0 := toponymref16_SameTexts.mono_l k
  ·intro y0 y1 y2
   unfold toponymref16_SameTexts.l0
   repeat' first
   | (with_reducible exact ih0 _ _ _)
   | (with_reducible exact LeO.refl _)
   | (with_reducible exact LeO.none _)
   | (with_reducible refine LeO.ite ?_ ?_)
   | (with_reducible refine LeO.bind ?_ (fun _ => ?_))
theorem toponymref16_SameTexts.mono : ∀ a0_ a1_ k, LeO (toponymref16_SameTexts.f k a0_ a1_) (toponymref16_SameTexts.f (k + 1) a0_ a1_) := by
 intro a0_ a1_ k
 have ih0 := toponymref16_SameTexts.mono_l k
 unfold toponymref16_SameTexts.f
 repeat' first
   | (with_reducible exact ih0 _ _ _)
   | (with_reducible exact LeO.refl _)
   | (with_reducible exact LeO.none _)
   | (with_reducible refine LeO.ite ?_ ?_)
   | (with_reducible refine LeO.bind ?_ (fun _ => ?_))
set_option maxHeartbeats 8000000 in
set_option maxRecDepth 100000 in
theorem toponymref16_SameTexts.calls (k : Nat) (P_ : Nat → Prop) (A0 : Option Addr) (c0 : Nat) (l0 : List ByteArray) (A1 : Option Addr) (c1 : Nat) (l1 : List ByteArray) (r : Bool) (w : World) (hs0 : Kd.F Kd.string w P_ A0 l0.length l0) (hc0 : l0.length ≤ c0) (hs1 : Kd.F Kd.string w P_ A1 l1.length l1) (hc1 : l1.length ≤ c1) (h : toponymref16_SameTexts.f k l0 l1 = some r) :
  Calls Try.prog 14 #[.slice A0 l0.length c0, .slice A1 l1.length c1] w (fun e w' => e = .returned (.bool r) ∧ Drawn0 w w') := by
 have HH := Aside0.mk (show (if (l0.length : Int) = (l1.length : Int) then ((toponymref16_SameTexts.l0 k 0 l0 l1)) else (some false)) = some r from h)
 clear h
 have HF0 := Aside0.mk (Kd.F_mono hs0 (fun k_ hk_ => (.inl hk_ : P_ k_ ∨ w.heap.size ≤ k_)))
 clear hs0 hc0
 have HF1 := Aside0.mk (Kd.F_mono hs1 (fun k_ hk_ => (.inl hk_ : P_ k_ ∨ w.heap.size ≤ k_)))
 clear hs1 hc1
 go_enter Try.func14, Try.ntmps14
 by_cases c1 : (l0.length : Int) = (l1.length : Int)
 ·replace HH := MW.hpos HH c1
  have hk2 : ((l0.length : Int) == (l1.length : Int)) = true := beq_iff_eq.mpr c1
  have hk3 : ((l0.length : Int) != (l1.length : Int)) = false := bne_eq_false_iff_eq.mpr c1
  have hk4 : (l0.length == l1.length) = true := by first | simpa using c1 | (simp at c1 ⊢; omega)
  clear c1
  go_wp2
  go_loopg [5] k (fun kq u5 w' => ∃ (x5 : Int), u5 = .int .i64 x5 ∧ Aside0 ((toponymref16_SameTexts.l0 kq x5 l0 l1) = some r) ∧ Aside0 (kq ≤ k) ∧ Drawn0 w w')
  case atStart => exact ⟨0, (by first | rfl | (simp; done) | (simp [*]; done)), HH, ⟨Nat.le_refl _⟩, by repeat (first | exact Drawn0.refl _ | apply Drawn0.step)⟩
  case round =>
   clear hk2
   clear hk3
   clear hk4
   clear HH
   obtain ⟨x5, rfl, HA, HK0, ⟨m0_, rfl⟩⟩ := hrel
   cases gk with
   | zero => exact absurd HA.out (by simp [toponymref16_SameTexts.l0])
   | succ k6 =>
    have H := HA.out
    clear HA
    simp only [toponymref16_SameTexts.l0] at H
    have HH := Aside0.mk H
    clear H
    by_cases c8 : x5 < (l0.length : Int)
    ·replace HH := MW.hpos HH c8
     have hk9 : (x5 < (l0.length : Int)) = True := eq_true c8
     have hk10 : decide (x5 < (l0.length : Int)) = true := decide_eq_true c8
     clear c8
     by_cases c11 : 0 ≤ x5
     ·replace HH := MW.hpos HH c11
      have hk12 : decide (0 ≤ x5) = true := decide_eq_true c11
      clear c11
      have p13 : 0 ≤ (x5 : Int) := of_decide_eq_true (by first | (with_reducible assumption) | assumption)
      have q13 : x5 < (l0.length : Int) := of_decide_eq_true (by first | (with_reducible assumption) | assumption)
      obtain ⟨ad13, e13, hx13_0⟩ := Kd.at_string (Kd.F_now HF0.out) x5 p13 q13
      cases e13
      replace p13 := eq_true p13
      replace q13 := eq_true q13
      by_cases c14 : x5 < (l1.length : Int)
      ·replace HH := MW.hpos HH c14
       have hk15 : (x5 < (l1.length : Int)) = True := eq_true c14
       have hk16 : decide (x5 < (l1.length : Int)) = true := decide_eq_true c14
       clear c14
       have p17 : 0 ≤ (x5 : Int) := of_decide_eq_true (by first | (with_reducible assumption) | assumption)
       have q17 : x5 < (l1.length : Int) := of_decide_eq_true (by first | (with_reducible assumption) | assumption)
       obtain ⟨ad17, e17, hx17_0⟩ := Kd.at_string (Kd.F_now HF1.out) x5 p17 q17
       cases e17
       replace p17 := eq_true p17
       replace q17 := eq_true q17
       by_cases c18 : (rdOf ByteArray.empty l0 x5).toList = (rdOf ByteArray.empty l1 x5).toList
       ·replace HH := MW.hpos HH c18
        have hk19 : ((rdOf ByteArray.empty l0 x5).toList == (rdOf ByteArray.empty l1 x5).toList) = true := beq_iff_eq.mpr c18
        have hk20 : ((rdOf ByteArray.empty l0 x5).toList != (rdOf ByteArray.empty l1 x5).toList) = false := bne_eq_false_iff_eq.mpr c18
        clear c18
        go_wp2
        go_quiet (fail)
        go_wp2
        go_roundg k6
        case measure => have := HK0.out; omega
        case rel => exact ⟨wrap64 (x5 + 1), (by first | rfl | (simp; done) | (simp [*]; done)), HH, ⟨by have := HK0.out; omega⟩, by repeat (first | exact Drawn0.refl _ | apply Drawn0.step)⟩
       replace HH := MW.hneg HH c18
       have hk21 : ((rdOf ByteArray.empty l0 x5).toList == (rdOf ByteArray.empty l1 x5).toList) = false := beq_eq_false_iff_ne.mpr c18
       have hk22 : ((rdOf ByteArray.empty l0 x5).toList != (rdOf ByteArray.empty l1 x5).toList) = true := bne_iff_ne.mpr c18
       clear c18
       have H := HH.out
       obtain rfl := Option.some.inj H
       clear HH
       go_wp2
       go_quiet (fail)
       go_wp2
       go_ret
       exact ⟨by first | rfl | (simp; done) | (simp [*]; done), by repeat (first | exact Drawn0.refl _ | apply Drawn0.step)⟩
      exact absurd HH.out (by rw [if_neg c14]; simp)
     exact absurd HH.out (by rw [if_neg c11]; simp)
    replace HH := MW.hneg HH c8
    have hk26 : (x5 < (l0.length : Int)) = False := eq_false c8
    have hk27 : decide (x5 < (l0.length : Int)) = false := decide_eq_false c8
    clear c8
    have H := HH.out
    obtain rfl := Option.some.inj H
    clear HH
    go_wp2
    go_ret
    exact ⟨by first | rfl | (simp; done) | (simp [*]; done), by repeat (first | exact Drawn0.refl _ | apply Drawn0.step)⟩
 replace HH := MW.hneg HH c1
 have hk28 : ((l0.length : Int) == (l1.length : Int)) = false := beq_eq_false_iff_ne.mpr c1
 have hk29 : ((l0.length : Int) != (l1.length : Int)) = true := bne_iff_ne.mpr c1
 have hk30 : (l0.length == l1.length) = false := by first | simpa using c1 | (simp at c1 ⊢; omega)
 clear c1
 have H := HH.out
 obtain rfl := Option.some.inj H
 clear HH
 go_wp2
 go_ret
 exact ⟨by first | rfl | (simp; done) | (simp [*]; done), by repeat (first | exact Drawn0.refl _ | apply Drawn0.step)⟩

/-! ### ber_sized: function 73 -/
def ber_sized.f (a0 : ByteArray) (a1 : Int) : Option (Int × Int × Int) := if a1 ≥ (a0.size : Int) then (some (0, 0, 150)) else (if 0 ≤ a1 then (if a1 < (a0.size : Int) then (if (wrap64 (bt a0 a1)) < 128 then (some (wrap64 (bt a0 a1), wrap64 (a1 + 1), 0)) else (if (wrap64 ((wrap64 (bt a0 a1)) - 128)) < 1 then (some (0, 0, 152)) else (if (wrap64 ((wrap64 (bt a0 a1)) - 128)) > 2 then (some (0, 0, 152)) else (if (wrap64 ((wrap64 (bt a0 a1)) - 128)) > (wrap64 ((a0.size : Int) - (wrap64 (a1 + 1)))) then (some (0, 0, 150)) else (if 0 ≤ (wrap64 (a1 + 1)) then (if (wrap64 (a1 + 1)) < (a0.size : Int) then (if (wrap64 ((wrap64 (bt a0 a1)) - 128)) = 2 then (if 0 ≤ (wrap64 ((wrap64 (a1 + 1)) + 1)) then (if (wrap64 ((wrap64 (a1 + 1)) + 1)) < (a0.size : Int) then ((ber_length.f (Go.bits .or .i64 (wrap64 ((wrap64 (bt a0 (wrap64 (a1 + 1)))) * 256)) (wrap64 (bt a0 (wrap64 ((wrap64 (a1 + 1)) + 1)))))).bind fun t41 => (if (t41.size : Int) = (wrap64 (1 + (wrap64 ((wrap64 (bt a0 a1)) - 128)))) then (some (Go.bits .or .i64 (wrap64 ((wrap64 (bt a0 (wrap64 (a1 + 1)))) * 256)) (wrap64 (bt a0 (wrap64 ((wrap64 (a1 + 1)) + 1)))), wrap64 ((wrap64 (a1 + 1)) + (wrap64 ((wrap64 (bt a0 a1)) - 128))), 0)) else (some (0, 0, 152)))) else (none)) else (none)) else ((ber_length.f (wrap64 (bt a0 (wrap64 (a1 + 1))))).bind fun t54 => (if (t54.size : Int) = (wrap64 (1 + (wrap64 ((wrap64 (bt a0 a1)) - 128)))) then (some (wrap64 (bt a0 (wrap64 (a1 + 1))), wrap64 ((wrap64 (a1 + 1)) + (wrap64 ((wrap64 (bt a0 a1)) - 128))), 0)) else (some (0, 0, 152))))) else (none)) else (none)))))) else (none)) else (none))
set_option maxHeartbeats 8000000 in
set_option maxRecDepth 100000 in
theorem ber_sized.calls (a0 : ByteArray) (a1 : Int) (r1 : Int) (r2 : Int) (r3 : Int) (w : World) (h : ber_sized.f a0 a1 = some (r1, r2, r3)) :
  Calls Try.prog 73 #[.string a0, .int .i64 a1] w (fun e w' => e = .returned (.tuple #[.int .i64 r1, .int .i64 r2, .int .i64 r3]) ∧ Below w.heap.size w w') := by
 have HH := Aside0.mk (show (if a1 ≥ (a0.size : Int) then (some (0, 0, 150)) else (if 0 ≤ a1 then (if a1 < (a0.size : Int) then (if (wrap64 (bt a0 a1)) < 128 then (some (wrap64 (bt a0 a1), wrap64 (a1 + 1), 0)) else (if (wrap64 ((wrap64 (bt a0 a1)) - 128)) < 1 then (some (0, 0, 152)) else (if (wrap64 ((wrap64 (bt a0 a1)) - 128)) > 2 then (some (0, 0, 152)) else (if (wrap64 ((wrap64 (bt a0 a1)) - 128)) > (wrap64 ((a0.size : Int) - (wrap64 (a1 + 1)))) then (some (0, 0, 150)) else (if 0 ≤ (wrap64 (a1 + 1)) then (if (wrap64 (a1 + 1)) < (a0.size : Int) then (if (wrap64 ((wrap64 (bt a0 a1)) - 128)) = 2 then (if 0 ≤ (wrap64 ((wrap64 (a1 + 1)) + 1)) then (if (wrap64 ((wrap64 (a1 + 1)) + 1)) < (a0.size : Int) then ((ber_length.f (Go.bits .or .i64 (wrap64 ((wrap64 (bt a0 (wrap64 (a1 + 1)))) * 256)) (wrap64 (bt a0 (wrap64 ((wrap64 (a1 + 1)) + 1)))))).bind fun t41 => (if (t41.size : Int) = (wrap64 (1 + (wrap64 ((wrap64 (bt a0 a1)) - 128)))) then (some (Go.bits .or .i64 (wrap64 ((wrap64 (bt a0 (wrap64 (a1 + 1)))) * 256)) (wrap64 (bt a0 (wrap64 ((wrap64 (a1 + 1)) + 1)))), wrap64 ((wrap64 (a1 + 1)) + (wrap64 ((wrap64 (bt a0 a1)) - 128))), 0)) else (some (0, 0, 152)))) else (none)) else (none)) else ((ber_length.f (wrap64 (bt a0 (wrap64 (a1 + 1))))).bind fun t54 => (if (t54.size : Int) = (wrap64 (1 + (wrap64 ((wrap64 (bt a0 a1)) - 128)))) then (some (wrap64 (bt a0 (wrap64 (a1 + 1))), wrap64 ((wrap64 (a1 + 1)) + (wrap64 ((wrap64 (bt a0 a1)) - 128))), 0)) else (some (0, 0, 152))))) else (none)) else (none)))))) else (none)) else (none))) = some (r1, r2, r3) from h)
 clear h
 have HB := Aside0.mk (Below.refl w.heap.size w)
 go_enter Try.func73, Try.ntmps73
 by_cases c1 : a1 ≥ (a0.size : Int)
 ·replace HH := MW.hpos HH c1
  have hk2 : decide ((a0.size : Int) ≤ a1) = true := decide_eq_true c1
  clear c1
  have H := HH.out
  simp only [Option.some.injEq, Prod.mk.injEq] at H
  obtain ⟨rfl, rfl, rfl⟩ := H
  clear HH
  (try go_wp2)
  refine MW.scope_labs ?_
  go_wp2
  apply wp_goto
  refine MW.goto_labs (Eq.refl _) ?_
  go_wp2
  (try simp only [MW.backTo_ret, MW.labs_ret])
  go_ret3
  exact ⟨by first | rfl | (simp; done) | (simp [*]; done), HB.out⟩
 replace HH := MW.hneg HH c1
 have hk3 : decide ((a0.size : Int) ≤ a1) = false := decide_eq_false c1
 clear c1
 by_cases c4 : 0 ≤ a1
 ·replace HH := MW.hpos HH c4
  have hk5 : decide (0 ≤ a1) = true := decide_eq_true c4
  clear c4
  by_cases c6 : a1 < (a0.size : Int)
  ·replace HH := MW.hpos HH c6
   have hk7 : (a1 < (a0.size : Int)) = True := eq_true c6
   have hk8 : decide (a1 < (a0.size : Int)) = true := decide_eq_true c6
   clear c6
   have p9 : 0 ≤ (a1 : Int) := of_decide_eq_true (by first | (with_reducible assumption) | assumption)
   have q9 : a1 < (a0.size : Int) := of_decide_eq_true (by first | (with_reducible assumption) | assumption)
   have hx9 := MW.bt_at' a0 a1
   replace p9 := eq_true p9
   replace q9 := eq_true q9
   by_cases c10 : (wrap64 (bt a0 a1)) < 128
   ·replace HH := MW.hpos HH c10
    have hk11 : ((wrap64 (bt a0 a1)) < 128) = True := eq_true c10
    have hk12 : decide ((wrap64 (bt a0 a1)) < 128) = true := decide_eq_true c10
    clear c10
    have H := HH.out
    simp only [Option.some.injEq, Prod.mk.injEq] at H
    obtain ⟨rfl, rfl, rfl⟩ := H
    clear HH
    (try go_wp2)
    refine MW.scope_labs ?_
    go_wp2
    (try simp only [MW.backTo_ret, MW.labs_ret])
    go_ret3
    exact ⟨by first | rfl | (simp; done) | (simp [*]; done), HB.out⟩
   replace HH := MW.hneg HH c10
   have hk13 : ((wrap64 (bt a0 a1)) < 128) = False := eq_false c10
   have hk14 : decide ((wrap64 (bt a0 a1)) < 128) = false := decide_eq_false c10
   clear c10
   by_cases c15 : (wrap64 ((wrap64 (bt a0 a1)) - 128)) < 1
   ·replace HH := MW.hpos HH c15
    have hk16 : ((wrap64 ((wrap64 (bt a0 a1)) - 128)) < 1) = True := eq_true c15
    have hk17 : decide ((wrap64 ((wrap64 (bt a0 a1)) - 128)) < 1) = true := decide_eq_true c15
    clear c15
    have H := HH.out
    simp only [Option.some.injEq, Prod.mk.injEq] at H
    obtain ⟨rfl, rfl, rfl⟩ := H
    clear HH
    (try go_wp2)
    refine MW.scope_labs ?_
    go_wp2
    apply wp_goto
    refine MW.goto_labs (Eq.refl _) ?_
    go_wp2
    (try simp only [MW.backTo_ret, MW.labs_ret])
    go_ret3
    exact ⟨by first | rfl | (simp; done) | (simp [*]; done), HB.out⟩
   replace HH := MW.hneg HH c15
   have hk18 : ((wrap64 ((wrap64 (bt a0 a1)) - 128)) < 1) = False := eq_false c15
   have hk19 : decide ((wrap64 ((wrap64 (bt a0 a1)) - 128)) < 1) = false := decide_eq_false c15
   clear c15
   by_cases c20 : (wrap64 ((wrap64 (bt a0 a1)) - 128)) > 2
   ·replace HH := MW.hpos HH c20
    have hk21 : decide (2 < (wrap64 ((wrap64 (bt a0 a1)) - 128))) = true := decide_eq_true c20
    clear c20
    have H := HH.out
    simp only [Option.some.injEq, Prod.mk.injEq] at H
    obtain ⟨rfl, rfl, rfl⟩ := H
    clear HH
    (try go_wp2)
    refine MW.scope_labs ?_
    go_wp2
    apply wp_goto
    refine MW.goto_labs (Eq.refl _) ?_
    go_wp2
    (try simp only [MW.backTo_ret, MW.labs_ret])
    go_ret3
    exact ⟨by first | rfl | (simp; done) | (simp [*]; done), HB.out⟩
   replace HH := MW.hneg HH c20
   have hk22 : decide (2 < (wrap64 ((wrap64 (bt a0 a1)) - 128))) = false := decide_eq_false c20
   clear c20
   by_cases c23 : (wrap64 ((wrap64 (bt a0 a1)) - 128)) > (wrap64 ((a0.size : Int) - (wrap64 (a1 + 1))))
   ·replace HH := MW.hpos HH c23
    have hk24 : decide ((wrap64 ((a0.size : Int) - (wrap64 (a1 + 1)))) < (wrap64 ((wrap64 (bt a0 a1)) - 128))) = true := decide_eq_true c23
    clear c23
    have H := HH.out
    simp only [Option.some.injEq, Prod.mk.injEq] at H
    obtain ⟨rfl, rfl, rfl⟩ := H
    clear HH
    (try go_wp2)
    refine MW.scope_labs ?_
    go_wp2
    apply wp_goto
    refine MW.goto_labs (Eq.refl _) ?_
    go_wp2
    (try simp only [MW.backTo_ret, MW.labs_ret])
    go_ret3
    exact ⟨by first | rfl | (simp; done) | (simp [*]; done), HB.out⟩
   replace HH := MW.hneg HH c23
   have hk25 : decide ((wrap64 ((a0.size : Int) - (wrap64 (a1 + 1)))) < (wrap64 ((wrap64 (bt a0 a1)) - 128))) = false := decide_eq_false c23
   clear c23
   by_cases c26 : 0 ≤ (wrap64 (a1 + 1))
   ·replace HH := MW.hpos HH c26
    have hk27 : decide (0 ≤ (wrap64 (a1 + 1))) = true := decide_eq_true c26
    clear c26
    by_cases c28 : (wrap64 (a1 + 1)) < (a0.size : Int)
    ·replace HH := MW.hpos HH c28
     have hk29 : ((wrap64 (a1 + 1)) < (a0.size : Int)) = True := eq_true c28
     have hk30 : decide ((wrap64 (a1 + 1)) < (a0.size : Int)) = true := decide_eq_true c28
     clear c28
     have p31 : 0 ≤ ((wrap64 (a1 + 1)) : Int) := of_decide_eq_true (by first | (with_reducible assumption) | assumption)
     have q31 : (wrap64 (a1 + 1)) < (a0.size : Int) := of_decide_eq_true (by first | (with_reducible assumption) | assumption)
     have hx31 := MW.bt_at' a0 (wrap64 (a1 + 1))
     replace p31 := eq_true p31
     replace q31 := eq_true q31
     by_cases c32 : (wrap64 ((wrap64 (bt a0 a1)) - 128)) = 2
     ·replace HH := MW.hpos HH c32
      have hk33 : ((wrap64 ((wrap64 (bt a0 a1)) - 128)) == 2) = true := beq_iff_eq.mpr c32
      have hk34 : ((wrap64 ((wrap64 (bt a0 a1)) - 128)) != 2) = false := bne_eq_false_iff_eq.mpr c32
      clear c32
      by_cases c35 : 0 ≤ (wrap64 ((wrap64 (a1 + 1)) + 1))
      ·replace HH := MW.hpos HH c35
       have hk36 : decide (0 ≤ (wrap64 ((wrap64 (a1 + 1)) + 1))) = true := decide_eq_true c35
       clear c35
       by_cases c37 : (wrap64 ((wrap64 (a1 + 1)) + 1)) < (a0.size : Int)
       ·replace HH := MW.hpos HH c37
        have hk38 : ((wrap64 ((wrap64 (a1 + 1)) + 1)) < (a0.size : Int)) = True := eq_true c37
        have hk39 : decide ((wrap64 ((wrap64 (a1 + 1)) + 1)) < (a0.size : Int)) = true := decide_eq_true c37
        clear c37
        have p40 : 0 ≤ ((wrap64 ((wrap64 (a1 + 1)) + 1)) : Int) := of_decide_eq_true (by first | (with_reducible assumption) | assumption)
        have q40 : (wrap64 ((wrap64 (a1 + 1)) + 1)) < (a0.size : Int) := of_decide_eq_true (by first | (with_reducible assumption) | assumption)
        have hx40 := MW.bt_at' a0 (wrap64 ((wrap64 (a1 + 1)) + 1))
        replace p40 := eq_true p40
        replace q40 := eq_true q40
        have H := HH.out
        replace H := Option.bind_eq_some_iff.mp H
        obtain ⟨t41, at_, H⟩ := H
        have At42 := Aside0.mk at_
        clear at_
        replace HH := Aside0.mk (show (if (t41.size : Int) = (wrap64 (1 + (wrap64 ((wrap64 (bt a0 a1)) - 128)))) then (some (Go.bits .or .i64 (wrap64 ((wrap64 (bt a0 (wrap64 (a1 + 1)))) * 256)) (wrap64 (bt a0 (wrap64 ((wrap64 (a1 + 1)) + 1)))), wrap64 ((wrap64 (a1 + 1)) + (wrap64 ((wrap64 (bt a0 a1)) - 128))), 0)) else (some (0, 0, 152))) = some (r1, r2, r3) from H)
        clear H
        (try go_wp2)
        refine MW.scope_labs ?_
        go_wp2_with (((with_reducible refine gate_callee (f := 90) rfl ?_); (try (refine gate_guard (by rfl) ?_; dsimp only)); refine goesL_ (some 52) rfl rfl Try.func90 (by kernel_rfl) rfl #[.int .i64 (Go.bits .or .i64 (wrap64 ((wrap64 (bt a0 (wrap64 (a1 + 1)))) * 256)) (wrap64 (bt a0 (wrap64 ((wrap64 (a1 + 1)) + 1)))))] rfl (by (try simp only [List.map_toArray, List.map_cons, List.map_nil]); first | done | rfl | (simp only [List.length_drop, List.length_take]; rfl)) ?_; (with_reducible refine (ber_length.calls  (Go.bits .or .i64 (wrap64 ((wrap64 (bt a0 (wrap64 (a1 + 1)))) * 256)) (wrap64 (bt a0 (wrap64 ((wrap64 (a1 + 1)) + 1))))) t41 _  At42.out).mono ?_); rintro e w43 ⟨rfl, hb⟩; refine ⟨_, rfl, ?_⟩); refine stop_ ?_)
        refine Stop.go ?_
        replace HB := Aside0.mk (below_step HB.out hb)
        clear hb
        by_cases c44 : (t41.size : Int) = (wrap64 (1 + (wrap64 ((wrap64 (bt a0 a1)) - 128))))
        ·replace HH := MW.hpos HH c44
         have hk45 : ((t41.size : Int) == (wrap64 (1 + (wrap64 ((wrap64 (bt a0 a1)) - 128))))) = true := beq_iff_eq.mpr c44
         have hk46 : ((t41.size : Int) != (wrap64 (1 + (wrap64 ((wrap64 (bt a0 a1)) - 128))))) = false := bne_eq_false_iff_eq.mpr c44
         clear c44
         have H := HH.out
         simp only [Option.some.injEq, Prod.mk.injEq] at H
         obtain ⟨rfl, rfl, rfl⟩ := H
         clear HH
         go_wp2
         (try simp only [MW.backTo_ret, MW.labs_ret])
         go_ret3
         exact ⟨by first | rfl | (simp; done) | (simp [*]; done), HB.out⟩
        replace HH := MW.hneg HH c44
        have hk47 : ((t41.size : Int) == (wrap64 (1 + (wrap64 ((wrap64 (bt a0 a1)) - 128))))) = false := beq_eq_false_iff_ne.mpr c44
        have hk48 : ((t41.size : Int) != (wrap64 (1 + (wrap64 ((wrap64 (bt a0 a1)) - 128))))) = true := bne_iff_ne.mpr c44
        clear c44
        have H := HH.out
        simp only [Option.some.injEq, Prod.mk.injEq] at H
        obtain ⟨rfl, rfl, rfl⟩ := H
        clear HH
        go_wp2
        apply wp_goto
        refine MW.goto_labs (Eq.refl _) ?_
        go_wp2
        (try simp only [MW.backTo_ret, MW.labs_ret])
        go_ret3
        exact ⟨by first | rfl | (simp; done) | (simp [*]; done), HB.out⟩
       exact absurd HH.out (by rw [if_neg c37]; simp)
      exact absurd HH.out (by rw [if_neg c35]; simp)
     replace HH := MW.hneg HH c32
     have hk52 : ((wrap64 ((wrap64 (bt a0 a1)) - 128)) == 2) = false := beq_eq_false_iff_ne.mpr c32
     have hk53 : ((wrap64 ((wrap64 (bt a0 a1)) - 128)) != 2) = true := bne_iff_ne.mpr c32
     clear c32
     have H := HH.out
     replace H := Option.bind_eq_some_iff.mp H
     obtain ⟨t54, at_, H⟩ := H
     have At55 := Aside0.mk at_
     clear at_
     replace HH := Aside0.mk (show (if (t54.size : Int) = (wrap64 (1 + (wrap64 ((wrap64 (bt a0 a1)) - 128)))) then (some (wrap64 (bt a0 (wrap64 (a1 + 1))), wrap64 ((wrap64 (a1 + 1)) + (wrap64 ((wrap64 (bt a0 a1)) - 128))), 0)) else (some (0, 0, 152))) = some (r1, r2, r3) from H)
     clear H
     (try go_wp2)
     refine MW.scope_labs ?_
     go_wp2_with (((with_reducible refine gate_callee (f := 90) rfl ?_); (try (refine gate_guard (by rfl) ?_; dsimp only)); refine goesL_ (some 52) rfl rfl Try.func90 (by kernel_rfl) rfl #[.int .i64 (wrap64 (bt a0 (wrap64 (a1 + 1))))] rfl (by (try simp only [List.map_toArray, List.map_cons, List.map_nil]); first | done | rfl | (simp only [List.length_drop, List.length_take]; rfl)) ?_; (with_reducible refine (ber_length.calls  (wrap64 (bt a0 (wrap64 (a1 + 1)))) t54 _  At55.out).mono ?_); rintro e w56 ⟨rfl, hb⟩; refine ⟨_, rfl, ?_⟩); refine stop_ ?_)
     refine Stop.go ?_
     replace HB := Aside0.mk (below_step HB.out hb)
     clear hb
     by_cases c57 : (t54.size : Int) = (wrap64 (1 + (wrap64 ((wrap64 (bt a0 a1)) - 128))))
     ·replace HH := MW.hpos HH c57
      have hk58 : ((t54.size : Int) == (wrap64 (1 + (wrap64 ((wrap64 (bt a0 a1)) - 128))))) = true := beq_iff_eq.mpr c57
      have hk59 : ((t54.size : Int) != (wrap64 (1 + (wrap64 ((wrap64 (bt a0 a1)) - 128))))) = false := bne_eq_false_iff_eq.mpr c57
      clear c57
      have H := HH.out
      simp only [Option.some.injEq, Prod.mk.injEq] at H
      obtain ⟨rfl, rfl, rfl⟩ := H
      clear HH
      go_wp2
      (try simp only [MW.backTo_ret, MW.labs_ret])
      go_ret3
      exact ⟨by first | rfl | (simp; done) | (simp [*]; done), HB.out⟩
     replace HH := MW.hneg HH c57
     have hk60 : ((t54.size : Int) == (wrap64 (1 + (wrap64 ((wrap64 (bt a0 a1)) - 128))))) = false := beq_eq_false_iff_ne.mpr c57
     have hk61 : ((t54.size : Int) != (wrap64 (1 + (wrap64 ((wrap64 (bt a0 a1)) - 128))))) = true := bne_iff_ne.mpr c57
     clear c57
     have H := HH.out
     simp only [Option.some.injEq, Prod.mk.injEq] at H
     obtain ⟨rfl, rfl, rfl⟩ := H
     clear HH
     go_wp2
     apply wp_goto
     refine MW.goto_labs (Eq.refl _) ?_
     go_wp2
     (try simp only [MW.backTo_ret, MW.labs_ret])
     go_ret3
     exact ⟨by first | rfl | (simp; done) | (simp [*]; done), HB.out⟩
    exact absurd HH.out (by rw [if_neg c28]; simp)
   exact absurd HH.out (by rw [if_neg c26]; simp)
  exact absurd HH.out (by rw [if_neg c6]; simp)
 exact absurd HH.out (by rw [if_neg c4]; simp)

/-! ### prims_plain: function 75 -/
def prims_plain.f (a0_0 : Int) (a0_1 : Bool) (a0_2 : Int) (a0_3 : ByteArray) (l0_4 : List (S57)) : Option (Bool) := if a0_1 = true then (some false) else (some ((l0_4.length : Int) == 0))
set_option maxHeartbeats 8000000 in
set_option maxRecDepth 100000 in
theorem prims_plain.calls (P_ : Nat → Prop) (a0_0 : Int) (a0_1 : Bool) (a0_2 : Int) (a0_3 : ByteArray) (A0_4 : Option Addr) (c0_4 : Nat) (l0_4 : List (S57)) (r : Bool) (w : World) (hs0_4 : Kd.F k57 w P_ A0_4 l0_4.length l0_4) (hc0_4 : l0_4.length ≤ c0_4) (h : prims_plain.f a0_0 a0_1 a0_2 a0_3 l0_4 = some r) :
  Calls Try.prog 75 #[.agg #[.int .i64 a0_0, .bool a0_1, .int .i64 a0_2, .string a0_3, .slice A0_4 l0_4.length c0_4]] w (fun e w' => e = .returned (.bool r) ∧ Below w.heap.size w w') := by
 have HH := Aside0.mk (show (if a0_1 = true then (some false) else (some ((l0_4.length : Int) == 0))) = some r from h)
 clear h
 clear hs0_4 hc0_4
 have HB := Aside0.mk (Below.refl w.heap.size w)
 have hu57 := Try.underlying57
 go_enter Try.func75, Try.ntmps75
 go_wp2_with (((with_reducible refine gate_dst (N := 1) rfl ?_); (try (refine gate_guard (by rfl) ?_; dsimp only)); refine box_event ?hg (N := 1) ?hd (cs := #[.int .i64 a0_0, .bool a0_1, .int .i64 a0_2, .string a0_3, .slice A0_4 l0_4.length c0_4]) (t := 57) ?hr ?_; (case hd => rfl); (case hg => rfl); (case hr => first | (go_simp; done) | (go_simp; rfl)); intro g1 hg w2 hbox hb); replace hg := Aside0.mk hg; replace hbox := Aside0.mk hbox; refine stop_ ?_)
 refine Stop.go ?_
 replace hg := hg.out
 replace hbox := hbox.out
 replace HB := Aside0.mk (below_step HB.out hb)
 have BKg1 := Aside0.mk hbox
 clear hg hbox hb
 obtain ⟨j3, j4, j5, j6, j7, j8, j9, ja, jb, jc⟩ := MB.lay5 BKg1.out
 by_cases c13 : a0_1 = true
 ·replace HH := MW.hpos HH c13
  subst c13
  have H := HH.out
  obtain rfl := Option.some.inj H
  clear HH
  go_wp2
  go_ret
  exact ⟨by first | rfl | (simp; done) | (simp [*]; done), HB.out⟩
 replace HH := MW.hneg HH c13
 replace c13 := Bool.eq_false_iff.mpr c13
 subst c13
 have H := HH.out
 obtain rfl := Option.some.inj H
 clear HH
 go_wp2
 go_ret
 exact ⟨by first | rfl | (simp; done) | (simp [*]; done), HB.out⟩

/-! ### prims_AsInt: function 50 -/
def prims_AsInt.l0 : Nat → Int → Int → ByteArray → Option (Int × Int)
 | 0, _, _, _ => none
 | k + 1, x45, x46, a0_3 => if x46 < (a0_3.size : Int) then (if 0 ≤ x46 then ((prims_AsInt.l0 k (Go.bits .or .i32 (wrap32 (x45 * 256)) (wrap32 (bt a0_3 x46))) (wrap64 (x46 + 1)) a0_3)) else (none)) else ((prims_signed.f k x45).bind fun t68 => (if t68.toList = a0_3.toList then (some (wrap64 (x45), 0)) else (some (0, 160))))
def prims_AsInt.f (k : Nat) (a0_0 : Int) (a0_1 : Bool) (a0_2 : Int) (a0_3 : ByteArray) (l0_4 : List (S57)) : Option (Int × Int) := (prims_plain.f a0_0 a0_1 a0_2 a0_3 l0_4).bind fun t13 => (if t13 = true then (if (a0_3.size : Int) < 1 then (some (0, 160)) else (if (a0_3.size : Int) > 4 then (some (0, 160)) else (if 0 < (a0_3.size : Int) then ((prims_AsInt.l0 k (wrap32 (IntKind.i8.wrap (bt a0_3 0))) 1 a0_3)) else (none)))) else (some (0, 160)))
theorem prims_AsInt.mono_l : ∀ k, (∀ y0 y1 y2, LeO (prims_AsInt.l0 k y0 y1 y2) (prims_AsInt.l0 (k + 1) y0 y1 y2))
 | 0 => fun _ _ _ r h => by simp [prims_AsInt.l0] at h
 | k + 1 => by
  have ih0 := prims_AsInt.mono_l k
  ·intro y0 y1 y2
   unfold prims_AsInt.l0
   repeat' first
   | (with_reducible exact ih0 _ _ _)
   | (with_reducible exact prims_signed.mono _ _)
   | (with_reducible exact LeO.refl _)
   | (with_reducible exact LeO.none _)
   | (with_reducible refine LeO.ite ?_ ?_)
   | (with_reducible refine LeO.bind ?_ (fun _ => ?_))
theorem prims_AsInt.mono : ∀ a0_ a1_ a2_ a3_ a4_ k, LeO (prims_AsInt.f k a0_ a1_ a2_ a3_ a4_) (prims_AsInt.f (k + 1) a0_ a1_ a2_ a3_ a4_) := by
 intro a0_ a1_ a2_ a3_ a4_ k
 have ih0 := prims_AsInt.mono_l k
 unfold prims_AsInt.f
 repeat' first
   | (with_reducible exact ih0 _ _ _)
   | (with_reducible exact prims_signed.mono _ _)
   | (with_reducible exact LeO.refl _)
   | (with_reducible exact LeO.none _)
   | (with_reducible refine LeO.ite ?_ ?_)
   | (with_reducible refine LeO.bind ?_ (fun _ => ?_))
set_option maxHeartbeats 8000000 in
set_option maxRecDepth 100000 in
theorem prims_AsInt.calls (k : Nat) (P_ : Nat → Prop) (a0_0 : Int) (a0_1 : Bool) (a0_2 : Int) (a0_3 : ByteArray) (A0_4 : Option Addr) (c0_4 : Nat) (l0_4 : List (S57)) (r1 : Int) (r2 : Int) (w : World) (hs0_4 : Kd.F k57 w P_ A0_4 l0_4.length l0_4) (hc0_4 : l0_4.length ≤ c0_4) (h : prims_AsInt.f k a0_0 a0_1 a0_2 a0_3 l0_4 = some (r1, r2)) :
  Calls Try.prog 50 #[.agg #[.int .i64 a0_0, .bool a0_1, .int .i64 a0_2, .string a0_3, .slice A0_4 l0_4.length c0_4]] w (fun e w' => e = .returned (.tuple #[.int .i64 r1, .int .i64 r2]) ∧ Below w.heap.size w w') := by
 have HH := Aside0.mk (show ((prims_plain.f a0_0 a0_1 a0_2 a0_3 l0_4).bind fun t13 => (if t13 = true then (if (a0_3.size : Int) < 1 then (some (0, 160)) else (if (a0_3.size : Int) > 4 then (some (0, 160)) else (if 0 < (a0_3.size : Int) then ((prims_AsInt.l0 k (wrap32 (IntKind.i8.wrap (bt a0_3 0))) 1 a0_3)) else (none)))) else (some (0, 160)))) = some (r1, r2) from h)
 clear h
 have HF0_4 := Aside0.mk (Kd.F_mono hs0_4 (fun k_ hk_ => (.inl hk_ : P_ k_ ∨ w.heap.size ≤ k_)))
 have HL0_4 := Aside0.mk hc0_4
 clear hs0_4 hc0_4
 have HB := Aside0.mk (Below.refl w.heap.size w)
 have hu57 := Try.underlying57
 go_enter Try.func50, Try.ntmps50
 go_wp2_with (((with_reducible refine gate_dst (N := 1) rfl ?_); (try (refine gate_guard (by rfl) ?_; dsimp only)); refine box_event ?hg (N := 1) ?hd (cs := #[.int .i64 a0_0, .bool a0_1, .int .i64 a0_2, .string a0_3, .slice A0_4 l0_4.length c0_4]) (t := 57) ?hr ?_; (case hd => rfl); (case hg => rfl); (case hr => first | (go_simp; done) | (go_simp; rfl)); intro g1 hg w2 hbox hb); replace hg := Aside0.mk hg; replace hbox := Aside0.mk hbox; refine stop_ ?_)
 refine Stop.go ?_
 replace hg := hg.out
 replace hbox := hbox.out
 replace HF0_4 := Aside0.mk (Kd.F_elderB HF0_4.out g1 (Nat.le_of_eq hg.symm))
 replace HF0_4 := Aside0.mk (Kd.F_mono HF0_4.out (fun k_ hk_ => ⟨hk_.1, hk_.2⟩) : Kd.F k57 _ (fun k_ => (P_ k_ ∨ w.heap.size ≤ k_) ∧ k_ ≠ g1) _ _ _)
 replace HF0_4 := Aside0.mk (Kd.F_below HF0_4.out hb)
 replace HB := Aside0.mk (below_step HB.out hb)
 have BKg1 := Aside0.mk hbox
 clear hg hbox hb
 obtain ⟨j3, j4, j5, j6, j7, j8, j9, ja, jb, jc⟩ := MB.lay5 BKg1.out
 have H := HH.out
 replace H := Option.bind_eq_some_iff.mp H
 obtain ⟨t13, at_, H⟩ := H
 have At14 := Aside0.mk at_
 clear at_
 replace HH := Aside0.mk (show (if t13 = true then (if (a0_3.size : Int) < 1 then (some (0, 160)) else (if (a0_3.size : Int) > 4 then (some (0, 160)) else (if 0 < (a0_3.size : Int) then ((prims_AsInt.l0 k (wrap32 (IntKind.i8.wrap (bt a0_3 0))) 1 a0_3)) else (none)))) else (some (0, 160))) = some (r1, r2) from H)
 clear H
 go_wp2_with (((with_reducible refine gate_callee (f := 75) rfl ?_); (try (refine gate_guard (by rfl) ?_; dsimp only)); refine goesL_ (some 10) rfl rfl Try.func75 (by kernel_rfl) rfl #[.agg #[.int .i64 a0_0, .bool a0_1, .int .i64 a0_2, .string a0_3, .slice A0_4 l0_4.length c0_4]] rfl (by (try simp only [List.map_toArray, List.map_cons, List.map_nil]); first | done | rfl | (simp only [List.length_drop, List.length_take]; rfl)) ?_; (with_reducible refine (prims_plain.calls (fun k_ => (P_ k_ ∨ w.heap.size ≤ k_) ∧ k_ ≠ g1) a0_0 a0_1 a0_2 a0_3 _ _ l0_4 t13 _ (Kd.F_mono (ok := (fun k_ => (P_ k_ ∨ w.heap.size ≤ k_) ∧ k_ ≠ g1)) HF0_4.out (fun k_ hk_ => ⟨hk_.1, hk_.2⟩)) HL0_4.out At14.out).mono ?_); rintro e w15 ⟨rfl, hb⟩; refine ⟨_, rfl, ?_⟩); refine stop_ ?_)
 refine Stop.go ?_
 replace HF0_4 := Aside0.mk (Kd.F_below HF0_4.out hb)
 replace BKg1 := Aside0.mk (blk_below (g := g1) BKg1.out hb)
 replace HB := Aside0.mk (below_step HB.out hb)
 clear hb
 clear j3 j4 j5 j6 j7 j8 j9 ja jb jc
 obtain ⟨jg, jh, ji, jj, jk, jl, jm, jn, jo, jp⟩ := MB.lay5 BKg1.out
 by_cases c26 : t13 = true
 ·replace HH := MW.hpos HH c26
  subst c26
  by_cases c27 : (a0_3.size : Int) < 1
  ·replace HH := MW.hpos HH c27
   have hk28 : ((a0_3.size : Int) < 1) = True := eq_true c27
   have hk29 : decide ((a0_3.size : Int) < 1) = true := decide_eq_true c27
   have hk30 : decide (a0_3.size < 1) = true := decide_eq_true (by omega)
   clear c27
   have H := HH.out
   simp only [Option.some.injEq, Prod.mk.injEq] at H
   obtain ⟨rfl, rfl⟩ := H
   clear HH
   go_wp2
   go_ret2
   exact ⟨by first | rfl | (simp; done) | (simp [*]; done), HB.out⟩
  replace HH := MW.hneg HH c27
  have hk31 : ((a0_3.size : Int) < 1) = False := eq_false c27
  have hk32 : decide ((a0_3.size : Int) < 1) = false := decide_eq_false c27
  have hk33 : decide (a0_3.size < 1) = false := decide_eq_false (by omega)
  clear c27
  by_cases c34 : (a0_3.size : Int) > 4
  ·replace HH := MW.hpos HH c34
   have hk35 : decide (4 < (a0_3.size : Int)) = true := decide_eq_true c34
   have hk36 : decide (4 < a0_3.size) = true := decide_eq_true (by omega)
   clear c34
   have H := HH.out
   simp only [Option.some.injEq, Prod.mk.injEq] at H
   obtain ⟨rfl, rfl⟩ := H
   clear HH
   go_wp2
   go_ret2
   exact ⟨by first | rfl | (simp; done) | (simp [*]; done), HB.out⟩
  replace HH := MW.hneg HH c34
  have hk37 : decide (4 < (a0_3.size : Int)) = false := decide_eq_false c34
  have hk38 : decide (4 < a0_3.size) = false := decide_eq_false (by omega)
  clear c34
  by_cases c39 : 0 < (a0_3.size : Int)
  ·replace HH := MW.hpos HH c39
   have hk40 : (0 < (a0_3.size : Int)) = True := eq_true c39
   have hk41 : (0 < a0_3.size) = True := eq_true (by have := c39; omega)
   have hk42 : decide (0 < (a0_3.size : Int)) = true := decide_eq_true c39
   have hk43 : decide (0 < a0_3.size) = true := decide_eq_true (by omega)
   clear c39
   have p44 : 0 ≤ (0 : Int) := (by omega)
   have q44 : 0 < a0_3.size := (by have : (0 : Int) < (a0_3.size : Int) := of_decide_eq_true (by first | (with_reducible assumption) | assumption); omega)
   have hx44 : ∀ h : 0 < a0_3.size, ((a0_3[0]'h).toNat : Int) = bt a0_3 0 := MW.bt_at' a0_3 0
   clear p44
   have qi44 : (0 < (a0_3.size : Int)) = True := eq_true (of_decide_eq_true (by first | (with_reducible assumption) | assumption))
   replace q44 := eq_true q44
   go_wp2
   go_loopg [5, 6] k (fun kq u5 u6 w' => ∃ (x45 : Int) (x46 : Int), u5 = .int .i32 x45 ∧ u6 = .int .i64 x46 ∧ Aside0 ((prims_AsInt.l0 kq x45 x46 a0_3) = some (r1, r2)) ∧ Aside0 (kq ≤ k) ∧ Aside0 (Kd.F k57 w' (fun k_ => (P_ k_ ∨ w.heap.size ≤ k_) ∧ k_ ≠ g1) A0_4 l0_4.length l0_4) ∧ Aside0 (w'.heap[g1]? = some (.cells #[.int .i64 a0_0, .bool a0_1, .int .i64 a0_2, .string a0_3, .slice A0_4 l0_4.length c0_4] 57 (0, 0))) ∧ Aside0 (Below w.heap.size w w'))
   case atStart => exact ⟨wrap32 (IntKind.i8.wrap (bt a0_3 0)), 1, (by first | rfl | (simp; done) | (simp [*]; done)), (by first | rfl | (simp; done) | (simp [*]; done)), HH, ⟨Nat.le_refl _⟩, ⟨(Kd.F_mono (ok := (fun k_ => (P_ k_ ∨ w.heap.size ≤ k_) ∧ k_ ≠ g1)) HF0_4.out (fun k_ hk_ => ⟨hk_.1, hk_.2⟩))⟩, ⟨BKg1.out⟩, ⟨HB.out⟩⟩
   case round =>
    clear jg jh ji jj jk jl jm jn jo jp
    clear hk31
    clear hk32
    clear hk33
    clear hk37
    clear hk38
    clear hk40
    clear hk41
    clear hk42
    clear hk43
    clear qi44
    clear q44
    clear hx44
    clear HH
    clear HF0_4 BKg1 HB
    obtain ⟨x45, x46, rfl, rfl, HA, HK0, HF0_4, BKg1, HB⟩ := hrel
    obtain ⟨w48, rfl⟩ : ∃ wo_ : World, wo_ = wr := ⟨_, rfl⟩
    cases gk with
    | zero => exact absurd HA.out (by simp [prims_AsInt.l0])
    | succ k47 =>
     have H := HA.out
     clear HA
     simp only [prims_AsInt.l0] at H
     have HH := Aside0.mk H
     clear H
     obtain ⟨jN, jO, jP, jQ, jR, jS, jT, jU, jV, jW⟩ := MB.lay5 BKg1.out
     by_cases c59 : x46 < (a0_3.size : Int)
     ·replace HH := MW.hpos HH c59
      have hk60 : (x46 < (a0_3.size : Int)) = True := eq_true c59
      have hk61 : decide (x46 < (a0_3.size : Int)) = true := decide_eq_true c59
      clear c59
      by_cases c62 : 0 ≤ x46
      ·replace HH := MW.hpos HH c62
       have hk63 : decide (0 ≤ x46) = true := decide_eq_true c62
       clear c62
       have p64 : 0 ≤ (x46 : Int) := of_decide_eq_true (by first | (with_reducible assumption) | assumption)
       have q64 : x46 < (a0_3.size : Int) := of_decide_eq_true (by first | (with_reducible assumption) | assumption)
       have hx64 := MW.bt_at' a0_3 x46
       replace p64 := eq_true p64
       replace q64 := eq_true q64
       go_wp2
       go_roundg k47
       case measure => have := HK0.out; omega
       case rel => exact ⟨Go.bits .or .i32 (wrap32 (x45 * 256)) (wrap32 (bt a0_3 x46)), wrap64 (x46 + 1), (by first | rfl | (simp; done) | (simp [*]; done)), (by first | rfl | (simp; done) | (simp [*]; done)), HH, ⟨by have := HK0.out; omega⟩, ⟨(Kd.F_mono (ok := (fun k_ => (P_ k_ ∨ w.heap.size ≤ k_) ∧ k_ ≠ g1)) HF0_4.out (fun k_ hk_ => ⟨hk_.1, hk_.2⟩))⟩, ⟨BKg1.out⟩, ⟨HB.out⟩⟩
      exact absurd HH.out (by rw [if_neg c62]; simp)
     replace HH := MW.hneg HH c59
     have hk66 : (x46 < (a0_3.size : Int)) = False := eq_false c59
     have hk67 : decide (x46 < (a0_3.size : Int)) = false := decide_eq_false c59
     clear c59
     have H := HH.out
     replace H := Option.bind_eq_some_iff.mp H
     obtain ⟨t68, at_, H⟩ := H
     have At69 := Aside0.mk at_
     clear at_
     replace HH := Aside0.mk (show (if t68.toList = a0_3.toList then (some (wrap64 (x45), 0)) else (some (0, 160))) = some (r1, r2) from H)
     clear H
     go_wp2_with (((with_reducible refine gate_callee (f := 76) rfl ?_); (try (refine gate_guard (by rfl) ?_; dsimp only)); refine goesL_ (some 40) rfl rfl Try.func76 (by kernel_rfl) rfl #[.int .i32 x45] rfl (by (try simp only [List.map_toArray, List.map_cons, List.map_nil]); first | done | rfl | (simp only [List.length_drop, List.length_take]; rfl)) ?_; (with_reducible refine (prims_signed.calls k47  x45 t68 _  At69.out).mono ?_); rintro e w70 ⟨rfl, hb⟩; refine ⟨_, rfl, ?_⟩); refine stop_ ?_)
     refine Stop.go ?_
     replace BKg1 := Aside0.mk (blk_below (g := g1) BKg1.out hb)
     replace HB := Aside0.mk (below_step HB.out hb)
     clear hb
     clear jN jO jP jQ jR jS jT jU jV jW
     obtain ⟨j19, j1a, j1b, j1c, j1d, j1e, j1f, j1g, j1h, j1i⟩ := MB.lay5 BKg1.out
     by_cases c81 : t68.toList = a0_3.toList
     ·replace HH := MW.hpos HH c81
      have hk82 : (t68.toList == a0_3.toList) = true := beq_iff_eq.mpr c81
      have hk83 : (t68.toList != a0_3.toList) = false := bne_eq_false_iff_eq.mpr c81
      clear c81
      have H := HH.out
      simp only [Option.some.injEq, Prod.mk.injEq] at H
      obtain ⟨rfl, rfl⟩ := H
      clear HH
      go_wp2
      go_ret2
      exact ⟨by first | rfl | (simp; done) | (simp [*]; done), HB.out⟩
     replace HH := MW.hneg HH c81
     have hk84 : (t68.toList == a0_3.toList) = false := beq_eq_false_iff_ne.mpr c81
     have hk85 : (t68.toList != a0_3.toList) = true := bne_iff_ne.mpr c81
     clear c81
     have H := HH.out
     simp only [Option.some.injEq, Prod.mk.injEq] at H
     obtain ⟨rfl, rfl⟩ := H
     clear HH
     go_wp2
     go_ret2
     exact ⟨by first | rfl | (simp; done) | (simp [*]; done), HB.out⟩
  exact absurd HH.out (by rw [if_neg c39]; simp)
 replace HH := MW.hneg HH c26
 replace c26 := Bool.eq_false_iff.mpr c26
 subst c26
 have H := HH.out
 simp only [Option.some.injEq, Prod.mk.injEq] at H
 obtain ⟨rfl, rfl⟩ := H
 clear HH
 go_wp2
 go_ret2
 exact ⟨by first | rfl | (simp; done) | (simp [*]; done), HB.out⟩

/-! ### prims_Is: function 79 -/
def prims_Is.f (a0_0 : Int) (a0_1 : Bool) (a0_2 : Int) (a0_3 : ByteArray) (l0_4 : List (S57)) (a1 : Int) (a2 : Int) (a3 : Bool) : Option (Bool) := if a0_0 = a1 then (if a0_2 = a2 then (some (a0_1 == a3)) else (some false)) else (some false)
set_option maxHeartbeats 8000000 in
set_option maxRecDepth 100000 in
theorem prims_Is.calls (P_ : Nat → Prop) (a0_0 : Int) (a0_1 : Bool) (a0_2 : Int) (a0_3 : ByteArray) (A0_4 : Option Addr) (c0_4 : Nat) (l0_4 : List (S57)) (a1 : Int) (a2 : Int) (a3 : Bool) (r : Bool) (w : World) (hs0_4 : Kd.F k57 w P_ A0_4 l0_4.length l0_4) (hc0_4 : l0_4.length ≤ c0_4) (h : prims_Is.f a0_0 a0_1 a0_2 a0_3 l0_4 a1 a2 a3 = some r) :
  Calls Try.prog 79 #[.agg #[.int .i64 a0_0, .bool a0_1, .int .i64 a0_2, .string a0_3, .slice A0_4 l0_4.length c0_4], .int .i64 a1, .int .i64 a2, .bool a3] w (fun e w' => e = .returned (.bool r) ∧ Below w.heap.size w w') := by
 have HH := Aside0.mk (show (if a0_0 = a1 then (if a0_2 = a2 then (some (a0_1 == a3)) else (some false)) else (some false)) = some r from h)
 clear h
 clear hs0_4 hc0_4
 have HB := Aside0.mk (Below.refl w.heap.size w)
 have hu57 := Try.underlying57
 go_enter Try.func79, Try.ntmps79
 go_wp2_with (((with_reducible refine gate_dst (N := 4) rfl ?_); (try (refine gate_guard (by rfl) ?_; dsimp only)); refine box_event ?hg (N := 4) ?hd (cs := #[.int .i64 a0_0, .bool a0_1, .int .i64 a0_2, .string a0_3, .slice A0_4 l0_4.length c0_4]) (t := 57) ?hr ?_; (case hd => rfl); (case hg => rfl); (case hr => first | (go_simp; done) | (go_simp; rfl)); intro g1 hg w2 hbox hb); replace hg := Aside0.mk hg; replace hbox := Aside0.mk hbox; refine stop_ ?_)
 refine Stop.go ?_
 replace hg := hg.out
 replace hbox := hbox.out
 replace HB := Aside0.mk (below_step HB.out hb)
 have BKg1 := Aside0.mk hbox
 clear hg hbox hb
 obtain ⟨j3, j4, j5, j6, j7, j8, j9, ja, jb, jc⟩ := MB.lay5 BKg1.out
 by_cases c13 : a0_0 = a1
 ·replace HH := MW.hpos HH c13
  have hk14 : (a0_0 == a1) = true := beq_iff_eq.mpr c13
  have hk15 : (a0_0 != a1) = false := bne_eq_false_iff_eq.mpr c13
  clear c13
  by_cases c16 : a0_2 = a2
  ·replace HH := MW.hpos HH c16
   have hk17 : (a0_2 == a2) = true := beq_iff_eq.mpr c16
   have hk18 : (a0_2 != a2) = false := bne_eq_false_iff_eq.mpr c16
   clear c16
   have H := HH.out
   obtain rfl := Option.some.inj H
   clear HH
   go_wp2
   go_ret
   exact ⟨by first | rfl | (simp; done) | (simp [*]; done), HB.out⟩
  replace HH := MW.hneg HH c16
  have hk19 : (a0_2 == a2) = false := beq_eq_false_iff_ne.mpr c16
  have hk20 : (a0_2 != a2) = true := bne_iff_ne.mpr c16
  clear c16
  have H := HH.out
  obtain rfl := Option.some.inj H
  clear HH
  go_wp2
  go_ret
  exact ⟨by first | rfl | (simp; done) | (simp [*]; done), HB.out⟩
 replace HH := MW.hneg HH c13
 have hk21 : (a0_0 == a1) = false := beq_eq_false_iff_ne.mpr c13
 have hk22 : (a0_0 != a1) = true := bne_iff_ne.mpr c13
 clear c13
 have H := HH.out
 obtain rfl := Option.some.inj H
 clear HH
 go_wp2
 go_ret
 exact ⟨by first | rfl | (simp; done) | (simp [*]; done), HB.out⟩

/-! ### reply_texts_1: function 78 -/
def reply_texts_1.f (a0_0 : Int) (a0_1 : Bool) (a0_2 : Int) (a0_3 : ByteArray) (l0_4 : List (S57)) : Option (Bool) := (prims_Is.f a0_0 a0_1 a0_2 a0_3 l0_4 0 4 false).bind fun t13 => (some (!t13))
set_option maxHeartbeats 8000000 in
set_option maxRecDepth 100000 in
theorem reply_texts_1.calls (P_ : Nat → Prop) (a0_0 : Int) (a0_1 : Bool) (a0_2 : Int) (a0_3 : ByteArray) (A0_4 : Option Addr) (c0_4 : Nat) (l0_4 : List (S57)) (r : Bool) (w : World) (hs0_4 : Kd.F k57 w P_ A0_4 l0_4.length l0_4) (hc0_4 : l0_4.length ≤ c0_4) (h : reply_texts_1.f a0_0 a0_1 a0_2 a0_3 l0_4 = some r) :
  Calls Try.prog 78 #[.agg #[.int .i64 a0_0, .bool a0_1, .int .i64 a0_2, .string a0_3, .slice A0_4 l0_4.length c0_4]] w (fun e w' => e = .returned (.bool r) ∧ Below w.heap.size w w') := by
 have HH := Aside0.mk (show ((prims_Is.f a0_0 a0_1 a0_2 a0_3 l0_4 0 4 false).bind fun t13 => (some (!t13))) = some r from h)
 clear h
 have HF0_4 := Aside0.mk (Kd.F_mono hs0_4 (fun k_ hk_ => (.inl hk_ : P_ k_ ∨ w.heap.size ≤ k_)))
 have HL0_4 := Aside0.mk hc0_4
 clear hs0_4 hc0_4
 have HB := Aside0.mk (Below.refl w.heap.size w)
 have hu57 := Try.underlying57
 go_enter Try.func78, Try.ntmps78
 go_wp2_with (((with_reducible refine gate_dst (N := 1) rfl ?_); (try (refine gate_guard (by rfl) ?_; dsimp only)); refine box_event ?hg (N := 1) ?hd (cs := #[.int .i64 a0_0, .bool a0_1, .int .i64 a0_2, .string a0_3, .slice A0_4 l0_4.length c0_4]) (t := 57) ?hr ?_; (case hd => rfl); (case hg => rfl); (case hr => first | (go_simp; done) | (go_simp; rfl)); intro g1 hg w2 hbox hb); replace hg := Aside0.mk hg; replace hbox := Aside0.mk hbox; refine stop_ ?_)
 refine Stop.go ?_
 replace hg := hg.out
 replace hbox := hbox.out
 replace HF0_4 := Aside0.mk (Kd.F_elderB HF0_4.out g1 (Nat.le_of_eq hg.symm))
 replace HF0_4 := Aside0.mk (Kd.F_mono HF0_4.out (fun k_ hk_ => ⟨hk_.1, hk_.2⟩) : Kd.F k57 _ (fun k_ => (P_ k_ ∨ w.heap.size ≤ k_) ∧ k_ ≠ g1) _ _ _)
 replace HF0_4 := Aside0.mk (Kd.F_below HF0_4.out hb)
 replace HB := Aside0.mk (below_step HB.out hb)
 have BKg1 := Aside0.mk hbox
 clear hg hbox hb
 obtain ⟨j3, j4, j5, j6, j7, j8, j9, ja, jb, jc⟩ := MB.lay5 BKg1.out
 have H := HH.out
 replace H := Option.bind_eq_some_iff.mp H
 obtain ⟨t13, at_, H⟩ := H
 have At14 := Aside0.mk at_
 clear at_
 replace HH := Aside0.mk (show (some (!t13)) = some r from H)
 clear H
 go_wp2_with (((with_reducible refine gate_callee (f := 79) rfl ?_); (try (refine gate_guard (by rfl) ?_; dsimp only)); refine goesL_ (some 4) rfl rfl Try.func79 (by kernel_rfl) rfl #[.agg #[.int .i64 a0_0, .bool a0_1, .int .i64 a0_2, .string a0_3, .slice A0_4 l0_4.length c0_4], .int .i64 0, .int .i64 4, .bool false] rfl (by (try simp only [List.map_toArray, List.map_cons, List.map_nil]); first | done | rfl | (simp only [List.length_drop, List.length_take]; rfl)) ?_; (with_reducible refine (prims_Is.calls (fun k_ => (P_ k_ ∨ w.heap.size ≤ k_) ∧ k_ ≠ g1) a0_0 a0_1 a0_2 a0_3 _ _ l0_4 0 4 false t13 _ (Kd.F_mono (ok := (fun k_ => (P_ k_ ∨ w.heap.size ≤ k_) ∧ k_ ≠ g1)) HF0_4.out (fun k_ hk_ => ⟨hk_.1, hk_.2⟩)) HL0_4.out At14.out).mono ?_); rintro e w15 ⟨rfl, hb⟩; refine ⟨_, rfl, ?_⟩); refine stop_ ?_)
 refine Stop.go ?_
 replace BKg1 := Aside0.mk (blk_below (g := g1) BKg1.out hb)
 replace HB := Aside0.mk (below_step HB.out hb)
 clear hb
 clear j3 j4 j5 j6 j7 j8 j9 ja jb jc
 obtain ⟨jg, jh, ji, jj, jk, jl, jm, jn, jo, jp⟩ := MB.lay5 BKg1.out
 have H := HH.out
 obtain rfl := Option.some.inj H
 clear HH
 go_wp2
 go_ret
 exact ⟨by first | rfl | (simp; done) | (simp [*]; done), HB.out⟩

/-! ### reply_texts: function 52 -/
def reply_texts.l0 : Nat → Int → (List (S57)) → Option (Bool)
 | 0, _, _ => none
 | k + 1, x1, l0 => if x1 < (l0.length : Int) then (if 0 ≤ x1 then ((reply_texts_1.f ((rd_T57 l0 x1).f0) ((rd_T57 l0 x1).f1) ((rd_T57 l0 x1).f2) ((rd_T57 l0 x1).f3) ((rd_T57 l0 x1).f4)).bind fun t10 => (if t10 = true then (some (!(decide (x1 ≥ 0)))) else ((reply_texts.l0 k (wrap64 (x1 + 1)) l0)))) else (none)) else (some true)
def reply_texts.f (k : Nat) (l0 : List (S57)) : Option (Bool) := (reply_texts.l0 k 0 l0)
theorem reply_texts.mono_l : ∀ k, (∀ y0 y1, LeO (reply_texts.l0 k y0 y1) (reply_texts.l0 (k + 1) y0 y1))
 | 0 => fun _ _ r h => by simp [reply_texts.l0] at h
 | k + 1 => by
  have ih0 := reply_texts.mono_l k
  ·intro y0 y1
   unfold reply_texts.l0
   repeat' first
   | (with_reducible exact ih0 _ _)
   | (with_reducible exact LeO.refl _)
   | (with_reducible exact LeO.none _)
   | (with_reducible refine LeO.ite ?_ ?_)
   | (with_reducible refine LeO.bind ?_ (fun _ => ?_))
theorem reply_texts.mono : ∀ a0_ k, LeO (reply_texts.f k a0_) (reply_texts.f (k + 1) a0_) := by
 intro a0_ k
 have ih0 := reply_texts.mono_l k
 unfold reply_texts.f
 repeat' first
   | (with_reducible exact ih0 _ _)
   | (with_reducible exact LeO.refl _)
   | (with_reducible exact LeO.none _)
   | (with_reducible refine LeO.ite ?_ ?_)
   | (with_reducible refine LeO.bind ?_ (fun _ => ?_))
set_option maxHeartbeats 8000000 in
set_option maxRecDepth 100000 in
theorem reply_texts.calls (k : Nat) (P_ : Nat → Prop) (A0 : Option Addr) (c0 : Nat) (l0 : List (S57)) (r : Bool) (w : World) (hs0 : Kd.F k57 w P_ A0 l0.length l0) (hc0 : l0.length ≤ c0) (h : reply_texts.f k l0 = some r) :
  Calls Try.prog 52 #[.slice A0 l0.length c0] w (fun e w' => e = .returned (.bool r) ∧ Below w.heap.size w w') := by
 have HH := Aside0.mk (show ((reply_texts.l0 k 0 l0)) = some r from h)
 clear h
 have HF0 := Aside0.mk (Kd.F_mono hs0 (fun k_ hk_ => (.inl hk_ : P_ k_ ∨ w.heap.size ≤ k_)))
 clear hs0 hc0
 have HB := Aside0.mk (Below.refl w.heap.size w)
 go_enter Try.func52, Try.ntmps52
 go_wp2_with (((with_reducible refine gate_callee (f := 77) rfl ?_); (try (refine gate_guard (by rfl) ?_; dsimp only)); refine goesL_ (some 4) rfl rfl Try.func77 (by kernel_rfl) rfl #[.slice A0 l0.length c0, .func (.func 78) #[] #[]] rfl (by (try simp only [List.map_toArray, List.map_cons, List.map_nil]); first | done | rfl) ?_); refine stop_ ?_)
 refine Stop.go ?_
 go_enter Try.func77, Try.ntmps77
 go_wp2_with (((with_reducible refine gate_callee (f := 98) rfl ?_); (try (refine gate_guard (by rfl) ?_; dsimp only)); refine goesL_ (some 7) rfl rfl Try.func98 (by kernel_rfl) rfl #[.slice A0 l0.length c0, .func (.func 78) #[] #[]] rfl (by (try simp only [List.map_toArray, List.map_cons, List.map_nil]); first | done | rfl) ?_); refine stop_ ?_)
 refine Stop.go ?_
 go_enter Try.func98, Try.ntmps98
 go_wp2
 go_loopg [8] k (fun kq u8 w' => ∃ (x1 : Int), u8 = .int .i64 x1 ∧ Aside0 ((reply_texts.l0 kq x1 l0) = some r) ∧ Aside0 (kq ≤ k) ∧ Aside0 (Kd.F k57 w' (fun k_ => (P_ k_ ∨ w.heap.size ≤ k_)) A0 l0.length l0) ∧ Aside0 (Below w.heap.size w w'))
 case atStart => exact ⟨0, (by first | rfl | (simp; done) | (simp [*]; done)), HH, ⟨Nat.le_refl _⟩, ⟨(Kd.F_mono (ok := (fun k_ => (P_ k_ ∨ w.heap.size ≤ k_))) HF0.out (fun k_ hk_ => hk_))⟩, ⟨HB.out⟩⟩
 case round =>
  clear HH
  clear HF0 HB
  obtain ⟨x1, rfl, HA, HK0, HF0, HB⟩ := hrel
  obtain ⟨w3, rfl⟩ : ∃ wo_ : World, wo_ = wr := ⟨_, rfl⟩
  cases gk with
  | zero => exact absurd HA.out (by simp [reply_texts.l0])
  | succ k2 =>
   have H := HA.out
   clear HA
   simp only [reply_texts.l0] at H
   have HH := Aside0.mk H
   clear H
   by_cases c4 : x1 < (l0.length : Int)
   ·replace HH := MW.hpos HH c4
    have hk5 : (x1 < (l0.length : Int)) = True := eq_true c4
    have hk6 : decide (x1 < (l0.length : Int)) = true := decide_eq_true c4
    clear c4
    by_cases c7 : 0 ≤ x1
    ·replace HH := MW.hpos HH c7
     have hk8 : decide (0 ≤ x1) = true := decide_eq_true c7
     clear c7
     have p9 : 0 ≤ (x1 : Int) := of_decide_eq_true (by first | (with_reducible assumption) | assumption)
     have q9 : x1 < (l0.length : Int) := of_decide_eq_true (by first | (with_reducible assumption) | assumption)
     obtain ⟨ad9, A9_4, c9_4, e9, hx9_0, hx9_1, hx9_2, hx9_3, hx9_4, hl9_4, hi9_4⟩ := atF_T57 HF0.out x1 p9 q9
     cases e9
     have HF9_4 := Aside0.mk hi9_4
     have HL9_4 := Aside0.mk hl9_4
     clear hi9_4 hl9_4
     replace p9 := eq_true p9
     replace q9 := eq_true q9
     have H := HH.out
     replace H := Option.bind_eq_some_iff.mp H
     obtain ⟨t10, at_, H⟩ := H
     have At11 := Aside0.mk at_
     clear at_
     (try dsimp only at H)
     replace HH := Aside0.mk H
     clear H
     go_wp2_with (((with_reducible refine gate_dst (N := 16) rfl ?_); (try (refine gate_guard (by rfl) ?_; dsimp only)); refine MW.goesV_ (some 16) rfl rfl Try.func78 (by kernel_rfl) rfl #[.agg #[.int .i64 ((rd_T57 l0 x1).f0), .bool ((rd_T57 l0 x1).f1), .int .i64 ((rd_T57 l0 x1).f2), .string ((rd_T57 l0 x1).f3), .slice A9_4 ((rd_T57 l0 x1).f4).length c9_4]] rfl #[] rfl (by (try simp only [List.map_toArray, List.map_cons, List.map_nil, List.append_toArray, List.cons_append, List.nil_append, List.append_nil]); first | done | rfl | (simp only [List.length_drop, List.length_take]; rfl)) ?_; (with_reducible refine (reply_texts_1.calls (fun k_ => (P_ k_ ∨ w.heap.size ≤ k_)) ((rd_T57 l0 x1).f0) ((rd_T57 l0 x1).f1) ((rd_T57 l0 x1).f2) ((rd_T57 l0 x1).f3) _ _ ((rd_T57 l0 x1).f4) t10 _ (Kd.F_mono (ok := (fun k_ => (P_ k_ ∨ w.heap.size ≤ k_))) HF9_4.out (fun k_ hk_ => hk_)) HL9_4.out At11.out).mono ?_); rintro e w12 ⟨rfl, hb⟩; refine ⟨_, rfl, ?_⟩); refine stop_ ?_)
     refine Stop.go ?_
     replace HF0 := Aside0.mk (Kd.F_below HF0.out hb)
     replace HB := Aside0.mk (below_step HB.out hb)
     clear hb
     clear hx9_0 hx9_1 hx9_2 hx9_3 hx9_4 p9 q9
     by_cases c13 : t10 = true
     ·replace HH := MW.hpos HH c13
      subst c13
      go_wp2
      go_ret
      refine ⟨_, rfl, ?_⟩
      go_wp2
      go_ret
      refine ⟨_, rfl, ?_⟩
      have H := HH.out
      obtain rfl := Option.some.inj H
      clear HH
      go_wp2
      go_ret
      exact ⟨by first | rfl | (simp; done) | (simp [*]; done), HB.out⟩
     replace HH := MW.hneg HH c13
     replace c13 := Bool.eq_false_iff.mpr c13
     subst c13
     go_wp2
     go_roundg k2
     case measure => have := HK0.out; omega
     case rel => exact ⟨wrap64 (x1 + 1), (by first | rfl | (simp; done) | (simp [*]; done)), HH, ⟨by have := HK0.out; omega⟩, ⟨(Kd.F_mono (ok := (fun k_ => (P_ k_ ∨ w.heap.size ≤ k_))) HF0.out (fun k_ hk_ => hk_))⟩, ⟨HB.out⟩⟩
    exact absurd HH.out (by rw [if_neg c7]; simp)
   replace HH := MW.hneg HH c4
   have hk15 : (x1 < (l0.length : Int)) = False := eq_false c4
   have hk16 : decide (x1 < (l0.length : Int)) = false := decide_eq_false c4
   clear c4
   go_wp2
   go_ret
   refine ⟨_, rfl, ?_⟩
   go_wp2
   go_ret
   refine ⟨_, rfl, ?_⟩
   have H := HH.out
   obtain rfl := Option.some.inj H
   clear HH
   go_wp2
   go_ret
   exact ⟨by first | rfl | (simp; done) | (simp [*]; done), HB.out⟩

/-! ### slices_Equal_string_string: function 57 -/
def slices_Equal_string_string.l0 : Nat → Int → (List ByteArray) → (List ByteArray) → Option (Bool)
 | 0, _, _, _ => none
 | k + 1, x5, l0, l1 => if x5 < (l0.length : Int) then (if 0 ≤ x5 then (if x5 < (l1.length : Int) then (if (rdOf ByteArray.empty l0 x5).toList = (rdOf ByteArray.empty l1 x5).toList then ((slices_Equal_string_string.l0 k (wrap64 (x5 + 1)) l0 l1)) else (some false)) else (none)) else (none)) else (some true)
def slices_Equal_string_string.f (k : Nat) (l0 : List ByteArray) (l1 : List ByteArray) : Option (Bool) := if (l0.length : Int) = (l1.length : Int) then ((slices_Equal_string_string.l0 k 0 l0 l1)) else (some false)
theorem slices_Equal_string_string.mono_l : ∀ k, (∀ y0 y1 y2, LeO (slices_Equal_string_string.l0 k y0 y1 y2) (slices_Equal_string_string.l0 (k + 1) y0 y1 y2))
 | 0 => fun _ _ _ r h => by simp [slices_Equal_string_string.l0] at h
 | k + 1 => by
  have ih0 := slices_Equal_string_string.mono_l k
  ·intro y0 y1 y2
   unfold slices_Equal_string_string.l0
   repeat' first
   | (with_reducible exact ih0 _ _ _)
   | (with_reducible exact LeO.refl _)
   | (with_reducible exact LeO.none _)
   | (with_reducible refine LeO.ite ?_ ?_)
   | (with_reducible refine LeO.bind ?_ (fun _ => ?_))
theorem slices_Equal_string_string.mono : ∀ a0_ a1_ k, LeO (slices_Equal_string_string.f k a0_ a1_) (slices_Equal_string_string.f (k + 1) a0_ a1_) := by
 intro a0_ a1_ k
 have ih0 := slices_Equal_string_string.mono_l k
 unfold slices_Equal_string_string.f
 repeat' first
   | (with_reducible exact ih0 _ _ _)
   | (with_reducible exact LeO.refl _)
   | (with_reducible exact LeO.none _)
   | (with_reducible refine LeO.ite ?_ ?_)
   | (with_reducible refine LeO.bind ?_ (fun _ => ?_))
set_option maxHeartbeats 8000000 in
set_option maxRecDepth 100000 in
theorem slices_Equal_string_string.calls (k : Nat) (P_ : Nat → Prop) (A0 : Option Addr) (c0 : Nat) (l0 : List ByteArray) (A1 : Option Addr) (c1 : Nat) (l1 : List ByteArray) (r : Bool) (w : World) (hs0 : Kd.F Kd.string w P_ A0 l0.length l0) (hc0 : l0.length ≤ c0) (hs1 : Kd.F Kd.string w P_ A1 l1.length l1) (hc1 : l1.length ≤ c1) (h : slices_Equal_string_string.f k l0 l1 = some r) :
  Calls Try.prog 57 #[.slice A0 l0.length c0, .slice A1 l1.length c1] w (fun e w' => e = .returned (.bool r) ∧ Drawn0 w w') := by
 have HH := Aside0.mk (show (if (l0.length : Int) = (l1.length : Int) then ((slices_Equal_string_string.l0 k 0 l0 l1)) else (some false)) = some r from h)
 clear h
 have HF0 := Aside0.mk (Kd.F_mono hs0 (fun k_ hk_ => (.inl hk_ : P_ k_ ∨ w.heap.size ≤ k_)))
 clear hs0 hc0
 have HF1 := Aside0.mk (Kd.F_mono hs1 (fun k_ hk_ => (.inl hk_ : P_ k_ ∨ w.heap.size ≤ k_)))
 clear hs1 hc1
 go_enter Try.func57, Try.ntmps57
 by_cases c1 : (l0.length : Int) = (l1.length : Int)
 ·replace HH := MW.hpos HH c1
  have hk2 : ((l0.length : Int) == (l1.length : Int)) = true := beq_iff_eq.mpr c1
  have hk3 : ((l0.length : Int) != (l1.length : Int)) = false := bne_eq_false_iff_eq.mpr c1
  have hk4 : (l0.length == l1.length) = true := by first | simpa using c1 | (simp at c1 ⊢; omega)
  clear c1
  go_wp2
  go_loopg [13] k (fun kq u13 w' => ∃ (x5 : Int), u13 = .int .i64 x5 ∧ Aside0 ((slices_Equal_string_string.l0 kq x5 l0 l1) = some r) ∧ Aside0 (kq ≤ k) ∧ Drawn0 w w')
  case atStart => exact ⟨0, (by first | rfl | (simp; done) | (simp [*]; done)), HH, ⟨Nat.le_refl _⟩, by repeat (first | exact Drawn0.refl _ | apply Drawn0.step)⟩
  case round =>
   clear hk2
   clear hk3
   clear hk4
   clear HH
   obtain ⟨x5, rfl, HA, HK0, ⟨m0_, rfl⟩⟩ := hrel
   cases gk with
   | zero => exact absurd HA.out (by simp [slices_Equal_string_string.l0])
   | succ k6 =>
    have H := HA.out
    clear HA
    simp only [slices_Equal_string_string.l0] at H
    have HH := Aside0.mk H
    clear H
    by_cases c8 : x5 < (l0.length : Int)
    ·replace HH := MW.hpos HH c8
     have hk9 : (x5 < (l0.length : Int)) = True := eq_true c8
     have hk10 : decide (x5 < (l0.length : Int)) = true := decide_eq_true c8
     clear c8
     by_cases c11 : 0 ≤ x5
     ·replace HH := MW.hpos HH c11
      have hk12 : decide (0 ≤ x5) = true := decide_eq_true c11
      clear c11
      have p13 : 0 ≤ (x5 : Int) := of_decide_eq_true (by first | (with_reducible assumption) | assumption)
      have q13 : x5 < (l0.length : Int) := of_decide_eq_true (by first | (with_reducible assumption) | assumption)
      obtain ⟨ad13, e13, hx13_0⟩ := Kd.at_string (Kd.F_now HF0.out) x5 p13 q13
      cases e13
      replace p13 := eq_true p13
      replace q13 := eq_true q13
      by_cases c14 : x5 < (l1.length : Int)
      ·replace HH := MW.hpos HH c14
       have hk15 : (x5 < (l1.length : Int)) = True := eq_true c14
       have hk16 : decide (x5 < (l1.length : Int)) = true := decide_eq_true c14
       clear c14
       have p17 : 0 ≤ (x5 : Int) := of_decide_eq_true (by first | (with_reducible assumption) | assumption)
       have q17 : x5 < (l1.length : Int) := of_decide_eq_true (by first | (with_reducible assumption) | assumption)
       obtain ⟨ad17, e17, hx17_0⟩ := Kd.at_string (Kd.F_now HF1.out) x5 p17 q17
       cases e17
       replace p17 := eq_true p17
       replace q17 := eq_true q17
       by_cases c18 : (rdOf ByteArray.empty l0 x5).toList = (rdOf ByteArray.empty l1 x5).toList
       ·replace HH := MW.hpos HH c18
        have hk19 : ((rdOf ByteArray.empty l0 x5).toList == (rdOf ByteArray.empty l1 x5).toList) = true := beq_iff_eq.mpr c18
        have hk20 : ((rdOf ByteArray.empty l0 x5).toList != (rdOf ByteArray.empty l1 x5).toList) = false := bne_eq_false_iff_eq.mpr c18
        clear c18
        go_wp2
        go_quiet (fail)
        go_wp2
        go_roundg k6
        case measure => have := HK0.out; omega
        case rel => exact ⟨wrap64 (x5 + 1), (by first | rfl | (simp; done) | (simp [*]; done)), HH, ⟨by have := HK0.out; omega⟩, by repeat (first | exact Drawn0.refl _ | apply Drawn0.step)⟩
       replace HH := MW.hneg HH c18
       have hk21 : ((rdOf ByteArray.empty l0 x5).toList == (rdOf ByteArray.empty l1 x5).toList) = false := beq_eq_false_iff_ne.mpr c18
       have hk22 : ((rdOf ByteArray.empty l0 x5).toList != (rdOf ByteArray.empty l1 x5).toList) = true := bne_iff_ne.mpr c18
       clear c18
       have H := HH.out
       obtain rfl := Option.some.inj H
       clear HH
       go_wp2
       go_quiet (fail)
       go_wp2
       go_ret
       exact ⟨by first | rfl | (simp; done) | (simp [*]; done), by repeat (first | exact Drawn0.refl _ | apply Drawn0.step)⟩
      exact absurd HH.out (by rw [if_neg c14]; simp)
     exact absurd HH.out (by rw [if_neg c11]; simp)
    replace HH := MW.hneg HH c8
    have hk26 : (x5 < (l0.length : Int)) = False := eq_false c8
    have hk27 : decide (x5 < (l0.length : Int)) = false := decide_eq_false c8
    clear c8
    have H := HH.out
    obtain rfl := Option.some.inj H
    clear HH
    go_wp2
    go_ret
    exact ⟨by first | rfl | (simp; done) | (simp [*]; done), by repeat (first | exact Drawn0.refl _ | apply Drawn0.step)⟩
 replace HH := MW.hneg HH c1
 have hk28 : ((l0.length : Int) == (l1.length : Int)) = false := beq_eq_false_iff_ne.mpr c1
 have hk29 : ((l0.length : Int) != (l1.length : Int)) = true := bne_iff_ne.mpr c1
 have hk30 : (l0.length == l1.length) = false := by first | simpa using c1 | (simp at c1 ⊢; omega)
 clear c1
 have H := HH.out
 obtain rfl := Option.some.inj H
 clear HH
 go_wp2
 go_ret
 exact ⟨by first | rfl | (simp; done) | (simp [*]; done), by repeat (first | exact Drawn0.refl _ | apply Drawn0.step)⟩

/-! ### reply_same: function 36 -/
def reply_same.f (k : Nat) (a0_0 : ByteArray) (l0_1 : List ByteArray) (a1_0 : ByteArray) (l1_1 : List ByteArray) : Option (Bool) := if a0_0.toList = a1_0.toList then ((slices_Equal_string_string.f k l0_1 l1_1).bind fun t20 => (some t20)) else (some false)
theorem reply_same.mono : ∀ a0_ a1_ a2_ a3_ k, LeO (reply_same.f k a0_ a1_ a2_ a3_) (reply_same.f (k + 1) a0_ a1_ a2_ a3_) := by
 intro a0_ a1_ a2_ a3_ k
 unfold reply_same.f
 repeat' first
   | (with_reducible exact slices_Equal_string_string.mono _ _ _)
   | (with_reducible exact LeO.refl _)
   | (with_reducible exact LeO.none _)
   | (with_reducible refine LeO.ite ?_ ?_)
   | (with_reducible refine LeO.bind ?_ (fun _ => ?_))
set_option maxHeartbeats 8000000 in
set_option maxRecDepth 100000 in
theorem reply_same.calls (k : Nat) (P_ : Nat → Prop) (a0_0 : ByteArray) (A0_1 : Option Addr) (c0_1 : Nat) (l0_1 : List ByteArray) (a1_0 : ByteArray) (A1_1 : Option Addr) (c1_1 : Nat) (l1_1 : List ByteArray) (r : Bool) (w : World) (hs0_1 : Kd.F Kd.string w P_ A0_1 l0_1.length l0_1) (hc0_1 : l0_1.length ≤ c0_1) (hs1_1 : Kd.F Kd.string w P_ A1_1 l1_1.length l1_1) (hc1_1 : l1_1.length ≤ c1_1) (h : reply_same.f k a0_0 l0_1 a1_0 l1_1 = some r) :
  Calls Try.prog 36 #[.agg #[.string a0_0, .slice A0_1 l0_1.length c0_1], .agg #[.string a1_0, .slice A1_1 l1_1.length c1_1]] w (fun e w' => e = .returned (.bool r) ∧ Below w.heap.size w w') := by
 have HH := Aside0.mk (show (if a0_0.toList = a1_0.toList then ((slices_Equal_string_string.f k l0_1 l1_1).bind fun t20 => (some t20)) else (some false)) = some r from h)
 clear h
 have HF0_1 := Aside0.mk (Kd.F_mono hs0_1 (fun k_ hk_ => (.inl hk_ : P_ k_ ∨ w.heap.size ≤ k_)))
 have HL0_1 := Aside0.mk hc0_1
 clear hs0_1 hc0_1
 have HF1_1 := Aside0.mk (Kd.F_mono hs1_1 (fun k_ hk_ => (.inl hk_ : P_ k_ ∨ w.heap.size ≤ k_)))
 have HL1_1 := Aside0.mk hc1_1
 clear hs1_1 hc1_1
 have HB := Aside0.mk (Below.refl w.heap.size w)
 have hu46 := Try.underlying46
 go_enter Try.func36, Try.ntmps36
 go_wp2_with (((with_reducible refine gate_dst (N := 2) rfl ?_); (try (refine gate_guard (by rfl) ?_; dsimp only)); refine box_event ?hg (N := 2) ?hd (cs := #[.string a0_0, .slice A0_1 l0_1.length c0_1]) (t := 46) ?hr ?_; (case hd => rfl); (case hg => rfl); (case hr => first | (go_simp; done) | (go_simp; rfl)); intro g1 hg w2 hbox hb); replace hg := Aside0.mk hg; replace hbox := Aside0.mk hbox; refine stop_ ?_)
 refine Stop.go ?_
 replace hg := hg.out
 replace hbox := hbox.out
 replace HF0_1 := Aside0.mk (Kd.F_elderB HF0_1.out g1 (Nat.le_of_eq hg.symm))
 replace HF0_1 := Aside0.mk (Kd.F_mono HF0_1.out (fun k_ hk_ => ⟨hk_.1, hk_.2⟩) : Kd.F Kd.string _ (fun k_ => (P_ k_ ∨ w.heap.size ≤ k_) ∧ k_ ≠ g1) _ _ _)
 replace HF1_1 := Aside0.mk (Kd.F_elderB HF1_1.out g1 (Nat.le_of_eq hg.symm))
 replace HF1_1 := Aside0.mk (Kd.F_mono HF1_1.out (fun k_ hk_ => ⟨hk_.1, hk_.2⟩) : Kd.F Kd.string _ (fun k_ => (P_ k_ ∨ w.heap.size ≤ k_) ∧ k_ ≠ g1) _ _ _)
 replace HF0_1 := Aside0.mk (Kd.F_below HF0_1.out hb)
 replace HF1_1 := Aside0.mk (Kd.F_below HF1_1.out hb)
 replace HB := Aside0.mk (below_step HB.out hb)
 have BKg1 := Aside0.mk hbox
 clear hg hbox hb
 obtain ⟨j3, j4, j5, j6⟩ := MB.lay2 BKg1.out
 go_wp2_with (((with_reducible refine gate_dst (N := 3) rfl ?_); (try (refine gate_guard (by rfl) ?_; dsimp only)); refine box_event ?hg (N := 3) ?hd (cs := #[.string a1_0, .slice A1_1 l1_1.length c1_1]) (t := 46) ?hr ?_; (case hd => rfl); (case hg => rfl); (case hr => first | (go_simp; done) | (go_simp; rfl)); intro g7 hg w8 hbox hb); replace hg := Aside0.mk hg; replace hbox := Aside0.mk hbox; refine stop_ ?_)
 refine Stop.go ?_
 replace hg := hg.out
 replace hbox := hbox.out
 replace HF0_1 := Aside0.mk (Kd.F_elderB HF0_1.out g7 (Nat.le_of_eq hg.symm))
 replace HF0_1 := Aside0.mk (Kd.F_mono HF0_1.out (fun k_ hk_ => ⟨hk_.1.1, hk_.1.2, hk_.2⟩) : Kd.F Kd.string _ (fun k_ => (P_ k_ ∨ w.heap.size ≤ k_) ∧ k_ ≠ g1 ∧ k_ ≠ g7) _ _ _)
 replace HF1_1 := Aside0.mk (Kd.F_elderB HF1_1.out g7 (Nat.le_of_eq hg.symm))
 replace HF1_1 := Aside0.mk (Kd.F_mono HF1_1.out (fun k_ hk_ => ⟨hk_.1.1, hk_.1.2, hk_.2⟩) : Kd.F Kd.string _ (fun k_ => (P_ k_ ∨ w.heap.size ≤ k_) ∧ k_ ≠ g1 ∧ k_ ≠ g7) _ _ _)
 replace HF0_1 := Aside0.mk (Kd.F_below HF0_1.out hb)
 replace HF1_1 := Aside0.mk (Kd.F_below HF1_1.out hb)
 replace BKg1 := Aside0.mk (blk_below (g := g1) BKg1.out hb)
 replace HB := Aside0.mk (below_step HB.out hb)
 have BKg7 := Aside0.mk hbox
 clear hg hbox hb
 clear j3 j4 j5 j6
 obtain ⟨j9, ja, jb, jc⟩ := MB.lay2 BKg1.out
 obtain ⟨jd, je, jf, jg⟩ := MB.lay2 BKg7.out
 by_cases c17 : a0_0.toList = a1_0.toList
 ·replace HH := MW.hpos HH c17
  have hk18 : (a0_0.toList == a1_0.toList) = true := beq_iff_eq.mpr c17
  have hk19 : (a0_0.toList != a1_0.toList) = false := bne_eq_false_iff_eq.mpr c17
  clear c17
  have H := HH.out
  replace H := Option.bind_eq_some_iff.mp H
  obtain ⟨t20, at_, H⟩ := H
  have At21 := Aside0.mk at_
  clear at_
  replace HH := Aside0.mk (show (some t20) = some r from H)
  clear H
  go_wp2_with (((with_reducible refine gate_callee (f := 57) rfl ?_); (try (refine gate_guard (by rfl) ?_; dsimp only)); refine goesL_ (some 15) rfl rfl Try.func57 (by kernel_rfl) rfl #[.slice A0_1 l0_1.length c0_1, .slice A1_1 l1_1.length c1_1] rfl (by (try simp only [List.map_toArray, List.map_cons, List.map_nil]); first | done | rfl | (simp only [List.length_drop, List.length_take]; rfl)) ?_; (with_reducible refine (slices_Equal_string_string.calls k (fun k_ => (P_ k_ ∨ w.heap.size ≤ k_) ∧ k_ ≠ g1 ∧ k_ ≠ g7) _ _ l0_1 _ _ l1_1 t20 _ (Kd.F_mono (ok := (fun k_ => (P_ k_ ∨ w.heap.size ≤ k_) ∧ k_ ≠ g1 ∧ k_ ≠ g7)) HF0_1.out (fun k_ hk_ => ⟨hk_.1, hk_.2.1, hk_.2.2⟩)) HL0_1.out (Kd.F_mono (ok := (fun k_ => (P_ k_ ∨ w.heap.size ≤ k_) ∧ k_ ≠ g1 ∧ k_ ≠ g7)) HF1_1.out (fun k_ hk_ => ⟨hk_.1, hk_.2.1, hk_.2.2⟩)) HL1_1.out At21.out).mono ?_); rintro e w' ⟨rfl, ⟨nd, rfl⟩⟩; refine ⟨_, rfl, ?_⟩); refine stop_ ?_)
  refine Stop.go ?_
  have H := HH.out
  obtain rfl := Option.some.inj H
  clear HH
  go_wp2
  go_ret
  exact ⟨by first | rfl | (simp; done) | (simp [*]; done), (by repeat (first | (with_reducible first | exact HB.out | apply below_alloc | apply pw_below_drewN | apply below_drew1) | exact HB.out))⟩
 replace HH := MW.hneg HH c17
 have hk23 : (a0_0.toList == a1_0.toList) = false := beq_eq_false_iff_ne.mpr c17
 have hk24 : (a0_0.toList != a1_0.toList) = true := bne_iff_ne.mpr c17
 clear c17
 have H := HH.out
 obtain rfl := Option.some.inj H
 clear HH
 go_wp2
 go_ret
 exact ⟨by first | rfl | (simp; done) | (simp [*]; done), HB.out⟩

/-! ### reply_Result: function 19 -/
def reply_Result.f (a0 : Int) (a1 : Int) (a2 : Int) (a3 : ByteArray) : Option (Int × Int × Bool × Int × ByteArray × ByteArray × ByteArray × (List (S46))) := some (a0, a1, false, a2, (⟨#[]⟩ : ByteArray), a3, (⟨#[]⟩ : ByteArray), ([] : List (S46)))
set_option maxHeartbeats 8000000 in
set_option maxRecDepth 100000 in
theorem reply_Result.calls (a0 : Int) (a1 : Int) (a2 : Int) (a3 : ByteArray) (r1 : Int) (r2 : Int) (r3 : Bool) (r4 : Int) (r5 : ByteArray) (r6 : ByteArray) (r7 : ByteArray) (r8 : List (S46)) (w : World) (h : reply_Result.f a0 a1 a2 a3 = some (r1, r2, r3, r4, r5, r6, r7, r8)) :
  Calls Try.prog 19 #[.int .i64 a0, .int .i64 a1, .int .i64 a2, .string a3] w (fun e w' => ∃ v7_ : Value, e = .returned (.agg #[.int .i64 r1, .int .i64 r2, .bool r3, .int .i64 r4, .string r5, .string r6, .string r7, v7_]) ∧ Kd.N k46 46 w' w.heap.size (fun k_ => w.heap.size ≤ k_) v7_ r8 ∧ Below w.heap.size w w') := by
 have HH := Aside0.mk (show (some (a0, a1, false, a2, (⟨#[]⟩ : ByteArray), a3, (⟨#[]⟩ : ByteArray), ([] : List (S46)))) = some (r1, r2, r3, r4, r5, r6, r7, r8) from h)
 clear h
 have HB := Aside0.mk (Below.refl w.heap.size w)
 have hu27 := Try.underlying27
 go_enter Try.func19, Try.ntmps19
 go_wp2_with (((with_reducible refine gate_dst (N := 8) rfl ?_); (try (refine gate_guard (by rfl) ?_; dsimp only)); refine box_event ?hg (N := 8) ?hd (cs := #[.int .i64 0, .int .i64 0, .bool false, .int .i64 0, .string (⟨#[]⟩ : ByteArray), .string (⟨#[]⟩ : ByteArray), .string (⟨#[]⟩ : ByteArray), .slice none 0 0]) (t := 27) ?hr ?_; (case hd => rfl); (case hg => rfl); (case hr => first | (go_simp; done) | (go_simp; rfl)); intro g1 hg w2 hbox hb); replace hg := Aside0.mk hg; replace hbox := Aside0.mk hbox; refine stop_ ?_)
 refine Stop.go ?_
 replace hg := hg.out
 replace hbox := hbox.out
 have GEg1 := Aside0.mk (by rw [hg]; exact (below_size HB.out) : w.heap.size ≤ g1)
 replace HB := Aside0.mk (below_step HB.out hb)
 have BKg1 := Aside0.mk hbox
 clear hg hbox hb
 obtain ⟨j3, j4, j5, j6, j7, j8, j9, ja, jb, jc, jd, je, jf, jg, jh, ji⟩ := MB.lay8 BKg1.out
 go_wp2_with (((with_reducible refine gate_store (t := 27) (p := 8) rfl ?_); (try (refine gate_guard (by rfl) ?_; dsimp only)); refine MW.ev_store #[.int .i64 a0, .int .i64 a1, .bool false, .int .i64 a2, .string (⟨#[]⟩ : ByteArray), .string a3, .string (⟨#[]⟩ : ByteArray), .slice none 0 0] rfl rfl rfl rfl BKg1.out [.int .i64 a0, .int .i64 a1, .bool false, .int .i64 a2, .string (⟨#[]⟩ : ByteArray), .string a3, .string (⟨#[]⟩ : ByteArray), .slice none 0 0] rfl (by kernel_rfl) (by simp) (by simp [Value.oneCell']) rfl ?_; intro w19 hbk hg); replace hbk := Aside0.mk hbk; refine stop_ ?_)
 refine Stop.go ?_
 replace hbk := hbk.out
 replace HB := Aside0.mk (Below.grown HB.out hg (below_size HB.out) (fun k_ hk_ => by injection hk_ with hk_; rw [← hk_]; exact GEg1.out))
 replace BKg1 := Aside0.mk hbk
 clear hg hbk
 clear j3 j4 j5 j6 j7 j8 j9 ja jb jc jd je jf jg jh ji
 obtain ⟨jk, jl, jm, jn, jo, jp, jq, jr, js, jt, ju, jv, jw, jx, jy, jz⟩ := MB.lay8 BKg1.out
 have H := HH.out
 simp only [Option.some.injEq, Prod.mk.injEq] at H
 obtain ⟨rfl, rfl, rfl, rfl, rfl, rfl, rfl, rfl⟩ := H
 clear HH
 go_wp2
 refine bodyPost_ret (MW.results_c rfl _ _ g1 27 #[.int .i64 a0, .int .i64 a1, .bool false, .int .i64 a2, .string (⟨#[]⟩ : ByteArray), .string a3, .string (⟨#[]⟩ : ByteArray), .slice none 0 0] (0, 0) _ rfl BKg1.out Try.underlying27 rfl (by kernel_rfl)) rfl ?_
 exact ⟨_, by first | rfl | (simp; done) | (simp [*]; done), (Kd.N_nil _ _ _ _ _), HB.out⟩

/-! ### toponymlaw27_few: function 9 -/
mutual
def toponymlaw27_few.l0 : Nat → Int → (List (S46)) → Option (Bool)
 | 0, _, _ => none
 | k + 1, x39, l0_7 => if x39 < (l0_7.length : Int) then (if 0 ≤ x39 then (if (((rd_T46 l0_7 x39).f1).length : Int) > 20 then (some false) else (if (((rd_T46 l0_7 x39).f0).size : Int) > 1000 then (some false) else ((toponymlaw27_few.l1 k 0 l0_7 x39)))) else (none)) else (some true)
def toponymlaw27_few.l1 : Nat → Int → (List (S46)) → Int → Option (Bool)
 | 0, _, _, _ => none
 | k + 1, x74, l0_7, x39 => if 0 ≤ x39 then (if x39 < (l0_7.length : Int) then (if x74 < (((rd_T46 l0_7 x39).f1).length : Int) then (if 0 ≤ x74 then (if ((rdOf ByteArray.empty ((rd_T46 l0_7 x39).f1) x74).size : Int) > 2000 then (some false) else ((toponymlaw27_few.l1 k (wrap64 (x74 + 1)) l0_7 x39))) else (none)) else ((toponymlaw27_few.l0 k (wrap64 (x39 + 1)) l0_7))) else (none)) else (none)
end
def toponymlaw27_few.f (k : Nat) (a0_0 : Int) (a0_1 : Int) (a0_2 : Bool) (a0_3 : Int) (a0_4 : ByteArray) (a0_5 : ByteArray) (a0_6 : ByteArray) (l0_7 : List (S46)) : Option (Bool) := if (l0_7.length : Int) > 40 then (some false) else (if (a0_6.size : Int) > 5000 then (some false) else (if (a0_4.size : Int) > 5000 then (some false) else (if (a0_5.size : Int) > 5000 then (some false) else ((toponymlaw27_few.l0 k 0 l0_7)))))
theorem toponymlaw27_few.mono_l : ∀ k, (∀ y0 y1, LeO (toponymlaw27_few.l0 k y0 y1) (toponymlaw27_few.l0 (k + 1) y0 y1)) ∧ (∀ y0 y1 y2, LeO (toponymlaw27_few.l1 k y0 y1 y2) (toponymlaw27_few.l1 (k + 1) y0 y1 y2))
 | 0 => ⟨fun _ _ r h => by simp [toponymlaw27_few.l0] at h, fun _ _ _ r h => by simp [toponymlaw27_few.l1] at h⟩
 | k + 1 => by
  obtain ⟨ih0, ih1⟩ := toponymlaw27_few.mono_l k
  refine ⟨?_, ?_⟩
  ·intro y0 y1
   unfold toponymlaw27_few.l0
   repeat' first
   | (with_reducible exact ih0 _ _)
   | (with_reducible exact ih1 _ _ _)
   | (with_reducible exact LeO.refl _)
   | (with_reducible exact LeO.none _)
   | (with_reducible refine LeO.ite ?_ ?_)
   | (with_reducible refine LeO.bind ?_ (fun _ => ?_))
  intro y0 y1 y2
  unfold toponymlaw27_few.l1
  repeat' first
  | (with_reducible exact ih0 _ _)
  | (with_reducible exact ih1 _ _ _)
  | (with_reducible exact LeO.refl _)
  | (with_reducible exact LeO.none _)
  | (with_reducible refine LeO.ite ?_ ?_)
  | (with_reducible refine LeO.bind ?_ (fun _ => ?_))
theorem toponymlaw27_few.mono : ∀ a0_ a1_ a2_ a3_ a4_ a5_ a6_ a7_ k, LeO (toponymlaw27_few.f k a0_ a1_ a2_ a3_ a4_ a5_ a6_ a7_) (toponymlaw27_few.f (k + 1) a0_ a1_ a2_ a3_ a4_ a5_ a6_ a7_) := by
 intro a0_ a1_ a2_ a3_ a4_ a5_ a6_ a7_ k
 obtain ⟨ih0, ih1⟩ := toponymlaw27_few.mono_l k
 unfold toponymlaw27_few.f
 repeat' first
   | (with_reducible exact ih0 _ _)
   | (with_reducible exact ih1 _ _ _)
   | (with_reducible exact LeO.refl _)
   | (with_reducible exact LeO.none _)
   | (with_reducible refine LeO.ite ?_ ?_)
   | (with_reducible refine LeO.bind ?_ (fun _ => ?_))
set_option maxHeartbeats 8000000 in
set_option maxRecDepth 100000 in
theorem toponymlaw27_few.calls (k : Nat) (P_ : Nat → Prop) (a0_0 : Int) (a0_1 : Int) (a0_2 : Bool) (a0_3 : Int) (a0_4 : ByteArray) (a0_5 : ByteArray) (a0_6 : ByteArray) (A0_7 : Option Addr) (c0_7 : Nat) (l0_7 : List (S46)) (r : Bool) (w : World) (hs0_7 : Kd.F k46 w P_ A0_7 l0_7.length l0_7) (hc0_7 : l0_7.length ≤ c0_7) (h : toponymlaw27_few.f k a0_0 a0_1 a0_2 a0_3 a0_4 a0_5 a0_6 l0_7 = some r) :
  Calls Try.prog 9 #[.agg #[.int .i64 a0_0, .int .i64 a0_1, .bool a0_2, .int .i64 a0_3, .string a0_4, .string a0_5, .string a0_6, .slice A0_7 l0_7.length c0_7]] w (fun e w' => e = .returned (.bool r) ∧ Below w.heap.size w w') := by
 have HH := Aside0.mk (show (if (l0_7.length : Int) > 40 then (some false) else (if (a0_6.size : Int) > 5000 then (some false) else (if (a0_4.size : Int) > 5000 then (some false) else (if (a0_5.size : Int) > 5000 then (some false) else ((toponymlaw27_few.l0 k 0 l0_7)))))) = some r from h)
 clear h
 have HF0_7 := Aside0.mk (Kd.F_mono hs0_7 (fun k_ hk_ => (.inl hk_ : P_ k_ ∨ w.heap.size ≤ k_)))
 clear hs0_7 hc0_7
 have HB := Aside0.mk (Below.refl w.heap.size w)
 have hu27 := Try.underlying27
 go_enter Try.func9, Try.ntmps9
 go_wp2_with (((with_reducible refine gate_dst (N := 1) rfl ?_); (try (refine gate_guard (by rfl) ?_; dsimp only)); refine box_event ?hg (N := 1) ?hd (cs := #[.int .i64 a0_0, .int .i64 a0_1, .bool a0_2, .int .i64 a0_3, .string a0_4, .string a0_5, .string a0_6, .slice A0_7 l0_7.length c0_7]) (t := 27) ?hr ?_; (case hd => rfl); (case hg => rfl); (case hr => first | (go_simp; done) | (go_simp; rfl)); intro g1 hg w2 hbox hb); replace hg := Aside0.mk hg; replace hbox := Aside0.mk hbox; refine stop_ ?_)
 refine Stop.go ?_
 replace hg := hg.out
 replace hbox := hbox.out
 replace HF0_7 := Aside0.mk (Kd.F_elderB HF0_7.out g1 (Nat.le_of_eq hg.symm))
 replace HF0_7 := Aside0.mk (Kd.F_mono HF0_7.out (fun k_ hk_ => ⟨hk_.1, hk_.2⟩) : Kd.F k46 _ (fun k_ => (P_ k_ ∨ w.heap.size ≤ k_) ∧ k_ ≠ g1) _ _ _)
 replace HF0_7 := Aside0.mk (Kd.F_below HF0_7.out hb)
 replace HB := Aside0.mk (below_step HB.out hb)
 have BKg1 := Aside0.mk hbox
 clear hg hbox hb
 obtain ⟨j3, j4, j5, j6, j7, j8, j9, ja, jb, jc, jd, je, jf, jg, jh, ji⟩ := MB.lay8 BKg1.out
 by_cases c19 : (l0_7.length : Int) > 40
 ·replace HH := MW.hpos HH c19
  have hk20 : decide (40 < (l0_7.length : Int)) = true := decide_eq_true c19
  have hk21 : decide (40 < l0_7.length) = true := decide_eq_true (by omega)
  clear c19
  have H := HH.out
  obtain rfl := Option.some.inj H
  clear HH
  go_wp2
  go_ret
  exact ⟨by first | rfl | (simp; done) | (simp [*]; done), HB.out⟩
 replace HH := MW.hneg HH c19
 have hk22 : decide (40 < (l0_7.length : Int)) = false := decide_eq_false c19
 have hk23 : decide (40 < l0_7.length) = false := decide_eq_false (by omega)
 clear c19
 by_cases c24 : (a0_6.size : Int) > 5000
 ·replace HH := MW.hpos HH c24
  have hk25 : decide (5000 < (a0_6.size : Int)) = true := decide_eq_true c24
  have hk26 : decide (5000 < a0_6.size) = true := decide_eq_true (by omega)
  clear c24
  have H := HH.out
  obtain rfl := Option.some.inj H
  clear HH
  go_wp2
  go_ret
  exact ⟨by first | rfl | (simp; done) | (simp [*]; done), HB.out⟩
 replace HH := MW.hneg HH c24
 have hk27 : decide (5000 < (a0_6.size : Int)) = false := decide_eq_false c24
 have hk28 : decide (5000 < a0_6.size) = false := decide_eq_false (by omega)
 clear c24
 by_cases c29 : (a0_4.size : Int) > 5000
 ·replace HH := MW.hpos HH c29
  have hk30 : decide (5000 < (a0_4.size : Int)) = true := decide_eq_true c29
  have hk31 : decide (5000 < a0_4.size) = true := decide_eq_true (by omega)
  clear c29
  have H := HH.out
  obtain rfl := Option.some.inj H
  clear HH
  go_wp2
  go_ret
  exact ⟨by first | rfl | (simp; done) | (simp [*]; done), HB.out⟩
 replace HH := MW.hneg HH c29
 have hk32 : decide (5000 < (a0_4.size : Int)) = false := decide_eq_false c29
 have hk33 : decide (5000 < a0_4.size) = false := decide_eq_false (by omega)
 clear c29
 by_cases c34 : (a0_5.size : Int) > 5000
 ·replace HH := MW.hpos HH c34
  have hk35 : decide (5000 < (a0_5.size : Int)) = true := decide_eq_true c34
  have hk36 : decide (5000 < a0_5.size) = true := decide_eq_true (by omega)
  clear c34
  have H := HH.out
  obtain rfl := Option.some.inj H
  clear HH
  go_wp2
  go_ret
  exact ⟨by first | rfl | (simp; done) | (simp [*]; done), HB.out⟩
 replace HH := MW.hneg HH c34
 have hk37 : decide (5000 < (a0_5.size : Int)) = false := decide_eq_false c34
 have hk38 : decide (5000 < a0_5.size) = false := decide_eq_false (by omega)
 clear c34
 go_wp2
 go_loopg [3] k (fun kq u3 w' => ∃ (x39 : Int), u3 = .int .i64 x39 ∧ Aside0 ((toponymlaw27_few.l0 kq x39 l0_7) = some r) ∧ Aside0 (kq ≤ k) ∧ Aside0 (Kd.F k46 w' (fun k_ => (P_ k_ ∨ w.heap.size ≤ k_) ∧ k_ ≠ g1) A0_7 l0_7.length l0_7) ∧ Aside0 (w'.heap[g1]? = some (.cells #[.int .i64 a0_0, .int .i64 a0_1, .bool a0_2, .int .i64 a0_3, .string a0_4, .string a0_5, .string a0_6, .slice A0_7 l0_7.length c0_7] 27 (0, 0))) ∧ Aside0 (Below w.heap.size w w'))
 case atStart => exact ⟨0, (by first | rfl | (simp; done) | (simp [*]; done)), HH, ⟨Nat.le_refl _⟩, ⟨(Kd.F_mono (ok := (fun k_ => (P_ k_ ∨ w.heap.size ≤ k_) ∧ k_ ≠ g1)) HF0_7.out (fun k_ hk_ => ⟨hk_.1, hk_.2⟩))⟩, ⟨BKg1.out⟩, ⟨HB.out⟩⟩
 case round =>
  clear j3 j4 j5 j6 j7 j8 j9 ja jb jc jd je jf jg jh ji
  clear hk22
  clear hk23
  clear hk27
  clear hk28
  clear hk32
  clear hk33
  clear hk37
  clear hk38
  clear HH
  clear HF0_7 BKg1 HB
  obtain ⟨x39, rfl, HA, HK0, HF0_7, BKg1, HB⟩ := hrel
  obtain ⟨w41, rfl⟩ : ∃ wo_ : World, wo_ = wr := ⟨_, rfl⟩
  cases gk with
  | zero => exact absurd HA.out (by simp [toponymlaw27_few.l0])
  | succ k40 =>
   have H := HA.out
   clear HA
   simp only [toponymlaw27_few.l0] at H
   have HH := Aside0.mk H
   clear H
   obtain ⟨jG, jH, jI, jJ, jK, jL, jM, jN, jO, jP, jQ, jR, jS, jT, jU, jV⟩ := MB.lay8 BKg1.out
   by_cases c58 : x39 < (l0_7.length : Int)
   ·replace HH := MW.hpos HH c58
    have hk59 : (x39 < (l0_7.length : Int)) = True := eq_true c58
    have hk60 : decide (x39 < (l0_7.length : Int)) = true := decide_eq_true c58
    clear c58
    by_cases c61 : 0 ≤ x39
    ·replace HH := MW.hpos HH c61
     have hk62 : decide (0 ≤ x39) = true := decide_eq_true c61
     clear c61
     have p63 : 0 ≤ (x39 : Int) := of_decide_eq_true (by first | (with_reducible assumption) | assumption)
     have q63 : x39 < (l0_7.length : Int) := of_decide_eq_true (by first | (with_reducible assumption) | assumption)
     obtain ⟨ad63, A63_1, c63_1, e63, hx63_0, hx63_1, hl63_1, hi63_1⟩ := atF_T46 HF0_7.out x39 p63 q63
     cases e63
     have HF63_1 := Aside0.mk hi63_1
     clear hi63_1 hl63_1
     replace p63 := eq_true p63
     replace q63 := eq_true q63
     by_cases c64 : (((rd_T46 l0_7 x39).f1).length : Int) > 20
     ·replace HH := MW.hpos HH c64
      have hk65 : decide (20 < (((rd_T46 l0_7 x39).f1).length : Int)) = true := decide_eq_true c64
      have hk66 : decide (20 < ((rd_T46 l0_7 x39).f1).length) = true := decide_eq_true (by omega)
      clear c64
      have H := HH.out
      obtain rfl := Option.some.inj H
      clear HH
      go_wp2
      go_ret
      exact ⟨by first | rfl | (simp; done) | (simp [*]; done), HB.out⟩
     replace HH := MW.hneg HH c64
     have hk67 : decide (20 < (((rd_T46 l0_7 x39).f1).length : Int)) = false := decide_eq_false c64
     have hk68 : decide (20 < ((rd_T46 l0_7 x39).f1).length) = false := decide_eq_false (by omega)
     clear c64
     by_cases c69 : (((rd_T46 l0_7 x39).f0).size : Int) > 1000
     ·replace HH := MW.hpos HH c69
      have hk70 : decide (1000 < (((rd_T46 l0_7 x39).f0).size : Int)) = true := decide_eq_true c69
      have hk71 : decide (1000 < ((rd_T46 l0_7 x39).f0).size) = true := decide_eq_true (by omega)
      clear c69
      have H := HH.out
      obtain rfl := Option.some.inj H
      clear HH
      go_wp2
      go_ret
      exact ⟨by first | rfl | (simp; done) | (simp [*]; done), HB.out⟩
     replace HH := MW.hneg HH c69
     have hk72 : decide (1000 < (((rd_T46 l0_7 x39).f0).size : Int)) = false := decide_eq_false c69
     have hk73 : decide (1000 < ((rd_T46 l0_7 x39).f0).size) = false := decide_eq_false (by omega)
     clear c69
     go_wp2
     go_loopg [4] k40 (fun kq u4 w' => ∃ (x74 : Int), u4 = .int .i64 x74 ∧ Aside0 ((toponymlaw27_few.l1 kq x74 l0_7 x39) = some r) ∧ Aside0 (kq ≤ k40) ∧ Aside0 (Kd.F k46 w' (fun k_ => (P_ k_ ∨ w.heap.size ≤ k_) ∧ k_ ≠ g1) (some ad63) l0_7.length l0_7) ∧ Aside0 (Kd.F Kd.string w' (fun k_ => (P_ k_ ∨ w.heap.size ≤ k_) ∧ k_ ≠ g1) A63_1 ((rd_T46 l0_7 x39).f1).length ((rd_T46 l0_7 x39).f1)) ∧ Aside0 (w'.heap[g1]? = some (.cells #[.int .i64 a0_0, .int .i64 a0_1, .bool a0_2, .int .i64 a0_3, .string a0_4, .string a0_5, .string a0_6, .slice (some ad63) l0_7.length c0_7] 27 (0, 0))) ∧ Aside0 (Below w.heap.size w w'))
     case atStart => exact ⟨0, (by first | rfl | (simp; done) | (simp [*]; done)), HH, ⟨Nat.le_refl _⟩, ⟨(Kd.F_mono (ok := (fun k_ => (P_ k_ ∨ w.heap.size ≤ k_) ∧ k_ ≠ g1)) HF0_7.out (fun k_ hk_ => ⟨hk_.1, hk_.2⟩))⟩, ⟨(Kd.F_mono (ok := (fun k_ => (P_ k_ ∨ w.heap.size ≤ k_) ∧ k_ ≠ g1)) HF63_1.out (fun k_ hk_ => ⟨hk_.1, hk_.2⟩))⟩, ⟨BKg1.out⟩, ⟨HB.out⟩⟩
     case round =>
      clear jG jH jI jJ jK jL jM jN jO jP jQ jR jS jT jU jV hx63_0 hx63_1 p63 q63
      clear hk59
      clear hk60
      clear hk62
      clear hk67
      clear hk68
      clear hk72
      clear hk73
      clear HH
      clear HF0_7 HF63_1 BKg1 HB
      obtain ⟨x74, rfl, HA, HK1, HF0_7, HF63_1, BKg1, HB⟩ := hrel
      obtain ⟨w76, rfl⟩ : ∃ wo_ : World, wo_ = wr := ⟨_, rfl⟩
      cases gk with
      | zero => exact absurd HA.out (by simp [toponymlaw27_few.l1])
      | succ k75 =>
       have H := HA.out
       clear HA
       simp only [toponymlaw27_few.l1] at H
       have HH := Aside0.mk H
       clear H
       obtain ⟨j1f, j1g, j1h, j1i, j1j, j1k, j1l, j1m, j1n, j1o, j1p, j1q, j1r, j1s, j1t, j1u⟩ := MB.lay8 BKg1.out
       by_cases c93 : 0 ≤ x39
       ·replace HH := MW.hpos HH c93
        have hk94 : decide (0 ≤ x39) = true := decide_eq_true c93
        clear c93
        by_cases c95 : x39 < (l0_7.length : Int)
        ·replace HH := MW.hpos HH c95
         have hk96 : (x39 < (l0_7.length : Int)) = True := eq_true c95
         have hk97 : decide (x39 < (l0_7.length : Int)) = true := decide_eq_true c95
         clear c95
         have p98 : 0 ≤ (x39 : Int) := of_decide_eq_true (by first | (with_reducible assumption) | assumption)
         have q98 : x39 < (l0_7.length : Int) := of_decide_eq_true (by first | (with_reducible assumption) | assumption)
         obtain ⟨ad98, A98_1, c98_1, e98, hx98_0, hx98_1, hl98_1, hi98_1⟩ := atF_T46 HF0_7.out x39 p98 q98
         cases e98
         have HF98_1 := Aside0.mk hi98_1
         clear hi98_1 hl98_1
         replace p98 := eq_true p98
         replace q98 := eq_true q98
         by_cases c99 : x74 < (((rd_T46 l0_7 x39).f1).length : Int)
         ·replace HH := MW.hpos HH c99
          have hk100 : (x74 < (((rd_T46 l0_7 x39).f1).length : Int)) = True := eq_true c99
          have hk101 : decide (x74 < (((rd_T46 l0_7 x39).f1).length : Int)) = true := decide_eq_true c99
          clear c99
          by_cases c102 : 0 ≤ x74
          ·replace HH := MW.hpos HH c102
           have hk103 : decide (0 ≤ x74) = true := decide_eq_true c102
           clear c102
           have p104 : 0 ≤ (x74 : Int) := of_decide_eq_true (by first | (with_reducible assumption) | assumption)
           have q104 : x74 < (((rd_T46 l0_7 x39).f1).length : Int) := of_decide_eq_true (by first | (with_reducible assumption) | assumption)
           obtain ⟨ad104, e104, hx104_0⟩ := Kd.at_string (Kd.F_now HF98_1.out) x74 p104 q104
           cases e104
           replace p104 := eq_true p104
           replace q104 := eq_true q104
           by_cases c105 : ((rdOf ByteArray.empty ((rd_T46 l0_7 x39).f1) x74).size : Int) > 2000
           ·replace HH := MW.hpos HH c105
            have hk106 : decide (2000 < ((rdOf ByteArray.empty ((rd_T46 l0_7 x39).f1) x74).size : Int)) = true := decide_eq_true c105
            have hk107 : decide (2000 < (rdOf ByteArray.empty ((rd_T46 l0_7 x39).f1) x74).size) = true := decide_eq_true (by omega)
            clear c105
            have H := HH.out
            obtain rfl := Option.some.inj H
            clear HH
            go_wp2
            go_ret
            exact ⟨by first | rfl | (simp; done) | (simp [*]; done), HB.out⟩
           replace HH := MW.hneg HH c105
           have hk108 : decide (2000 < ((rdOf ByteArray.empty ((rd_T46 l0_7 x39).f1) x74).size : Int)) = false := decide_eq_false c105
           have hk109 : decide (2000 < (rdOf ByteArray.empty ((rd_T46 l0_7 x39).f1) x74).size) = false := decide_eq_false (by omega)
           clear c105
           go_wp2
           go_roundg k75
           case measure => have := HK0.out; have := HK1.out; omega
           case rel => exact ⟨wrap64 (x74 + 1), (by first | rfl | (simp; done) | (simp [*]; done)), HH, ⟨by have := HK0.out; have := HK1.out; omega⟩, ⟨(Kd.F_mono (ok := (fun k_ => (P_ k_ ∨ w.heap.size ≤ k_) ∧ k_ ≠ g1)) HF0_7.out (fun k_ hk_ => ⟨hk_.1, hk_.2⟩))⟩, ⟨(Kd.F_mono (ok := (fun k_ => (P_ k_ ∨ w.heap.size ≤ k_) ∧ k_ ≠ g1)) HF63_1.out (fun k_ hk_ => ⟨hk_.1, hk_.2⟩))⟩, ⟨BKg1.out⟩, ⟨HB.out⟩⟩
          exact absurd HH.out (by rw [if_neg c102]; simp)
         replace HH := MW.hneg HH c99
         have hk111 : (x74 < (((rd_T46 l0_7 x39).f1).length : Int)) = False := eq_false c99
         have hk112 : decide (x74 < (((rd_T46 l0_7 x39).f1).length : Int)) = false := decide_eq_false c99
         clear c99
         go_wp2
         go_roundg k75
         case measure => have := HK0.out; have := HK1.out; omega
         case rel => exact ⟨wrap64 (x39 + 1), (by first | rfl | (simp; done) | (simp [*]; done)), HH, ⟨by have := HK0.out; have := HK1.out; omega⟩, ⟨(Kd.F_mono (ok := (fun k_ => (P_ k_ ∨ w.heap.size ≤ k_) ∧ k_ ≠ g1)) HF0_7.out (fun k_ hk_ => ⟨hk_.1, hk_.2⟩))⟩, ⟨BKg1.out⟩, ⟨HB.out⟩⟩
        exact absurd HH.out (by rw [if_neg c95]; simp)
       exact absurd HH.out (by rw [if_neg c93]; simp)
    exact absurd HH.out (by rw [if_neg c61]; simp)
   replace HH := MW.hneg HH c58
   have hk117 : (x39 < (l0_7.length : Int)) = False := eq_false c58
   have hk118 : decide (x39 < (l0_7.length : Int)) = false := decide_eq_false c58
   clear c58
   have H := HH.out
   obtain rfl := Option.some.inj H
   clear HH
   go_wp2
   go_ret
   exact ⟨by first | rfl | (simp; done) | (simp [*]; done), HB.out⟩
end Go.Proofs.Ytdjkemhmhkpmkaa.GA
