import Derived.Test.YtdjkemhmhkpmkaaGA0
import Derived.Test.YtdjkemhmhkpmkaaGM1
import Derived.Test.YtdjkemhmhkpmkaaMX
namespace Go.Proofs.Ytdjkemhmhkpmkaa.GA
open Go.RowKit Go.Proofs.Ytdjkemhmhkpmkaa Go.Proofs.Ytdjkemhmhkpmkaa.MW Go.Proofs.YtdjkemhmhkpmkaaW.PrintWords Go.Proofs.YtdjkemhmhkpmkaaW.PrintLast Go.Proofs.YtdjkemhmhkpmkaaW.PrintMore
attribute [local go_sem] max2_int min2_int max_two min_two
set_option linter.unusedVariables false
set_option linter.unusedSimpArgs false
/-! ### toponymref26_SameValues: function 34 -/
def toponymref26_SameValues.l0 : Nat → Int → (List (S46)) → (List (S46)) → Option (Bool)
 | 0, _, _, _ => none
 | k + 1, x5, l0, l1 => if x5 < (l0.length : Int) then (if 0 ≤ x5 then (if x5 < (l1.length : Int) then (if ((rd_T46 l0 x5).f0).toList = ((rd_T46 l1 x5).f0).toList then ((toponymref16_SameTexts.f k ((rd_T46 l0 x5).f1) ((rd_T46 l1 x5).f1)).bind fun t22 => (if t22 = true then ((toponymref26_SameValues.l0 k (wrap64 (x5 + 1)) l0 l1)) else (some false))) else (some false)) else (none)) else (none)) else (some true)
def toponymref26_SameValues.f (k : Nat) (l0 : List (S46)) (l1 : List (S46)) : Option (Bool) := if (l0.length : Int) = (l1.length : Int) then ((toponymref26_SameValues.l0 k 0 l0 l1)) else (some false)
theorem toponymref26_SameValues.mono_l : ∀ k, (∀ y0 y1 y2, LeO (toponymref26_SameValues.l0 k y0 y1 y2) (toponymref26_SameValues.l0 (k + 1) y0 y1 y2))
 | 0 => fun _ _ _ r h => by simp [toponymref26_SameValues.l0] at h
 | k + 1 => by
  have ih0 := toponymref26_SameValues.mono_l k
  ·intro y0 y1 y2
   unfold toponymref26_SameValues.l0
   repeat' first
   | (with_reducible exact ih0 _ _ _)
   | (with_reducible exact toponymref16_SameTexts.mono _ _ _)
   | (with_reducible exact LeO.refl _)
   | (with_reducible exact LeO.none _)
   | (with_reducible refine LeO.ite ?_ ?_)
   | (with_reducible refine LeO.bind ?_ (fun _ => ?_))
theorem toponymref26_SameValues.mono : ∀ a0_ a1_ k, LeO (toponymref26_SameValues.f k a0_ a1_) (toponymref26_SameValues.f (k + 1) a0_ a1_) := by
 intro a0_ a1_ k
 have ih0 := toponymref26_SameValues.mono_l k
 unfold toponymref26_SameValues.f
 repeat' first
   | (with_reducible exact ih0 _ _ _)
   | (with_reducible exact toponymref16_SameTexts.mono _ _ _)
   | (with_reducible exact LeO.refl _)
   | (with_reducible exact LeO.none _)
   | (with_reducible refine LeO.ite ?_ ?_)
   | (with_reducible refine LeO.bind ?_ (fun _ => ?_))
set_option maxHeartbeats 8000000 in
set_option maxRecDepth 100000 in
theorem toponymref26_SameValues.calls (k : Nat) (P_ : Nat → Prop) (A0 : Option Addr) (c0 : Nat) (l0 : List (S46)) (A1 : Option Addr) (c1 : Nat) (l1 : List (S46)) (r : Bool) (w : World) (hs0 : Kd.F k46 w P_ A0 l0.length l0) (hc0 : l0.length ≤ c0) (hs1 : Kd.F k46 w P_ A1 l1.length l1) (hc1 : l1.length ≤ c1) (h : toponymref26_SameValues.f k l0 l1 = some r) :
  Calls Try.prog 34 #[.slice A0 l0.length c0, .slice A1 l1.length c1] w (fun e w' => e = .returned (.bool r) ∧ Below w.heap.size w w') := by
 have HH := Aside0.mk (show (if (l0.length : Int) = (l1.length : Int) then ((toponymref26_SameValues.l0 k 0 l0 l1)) else (some false)) = some r from h)
 clear h
 have HF0 := zfp hs0
 clear hs0 hc0
 have HF1 := zfp hs1
 clear hs1 hc1
 have HB := Aside0.mk (Below.refl w.heap.size w)
 go_enter Try.func34, Try.ntmps34
 by_cases c1 : (l0.length : Int) = (l1.length : Int)
 ·replace HH := MW.hpos HH c1
  have hk2 : ((l0.length : Int) == (l1.length : Int)) = true := beq_iff_eq.mpr c1
  have hk3 : ((l0.length : Int) != (l1.length : Int)) = false := bne_eq_false_iff_eq.mpr c1
  have hk4 : (l0.length == l1.length) = true := by first | simpa using c1 | (simp at c1 ⊢; omega)
  clear c1
  go_wp2
  go_loopg [5] k (fun kq u5 w' => ∃ (x5 : Int), u5 = .int .i64 x5 ∧ Aside0 ((toponymref26_SameValues.l0 kq x5 l0 l1) = some r) ∧ Aside0 (kq ≤ k) ∧ Aside0 (Kd.F k46 w' (fun k_ => (P_ k_ ∨ w.heap.size ≤ k_)) A0 l0.length l0) ∧ Aside0 (Kd.F k46 w' (fun k_ => (P_ k_ ∨ w.heap.size ≤ k_)) A1 l1.length l1) ∧ Aside0 (Below w.heap.size w w'))
  case atStart => exact ⟨0, (by first | rfl | (simp; done) | (simp [*]; done)), HH, ⟨Nat.le_refl _⟩, ⟨(Kd.F_mono (ok := (fun k_ => (P_ k_ ∨ w.heap.size ≤ k_))) HF0.out (fun k_ hk_ => hk_))⟩, ⟨(Kd.F_mono (ok := (fun k_ => (P_ k_ ∨ w.heap.size ≤ k_))) HF1.out (fun k_ hk_ => hk_))⟩, ⟨HB.out⟩⟩
  case round =>
   clear hk2
   clear hk3
   clear hk4
   clear HH
   clear HF0 HF1 HB
   obtain ⟨x5, rfl, HA, HK0, HF0, HF1, HB⟩ := hrel
   obtain ⟨w7, rfl⟩ : ∃ wo_ : World, wo_ = wr := ⟨_, rfl⟩
   cases gk with
   | zero => exact absurd HA.out (by simp [toponymref26_SameValues.l0])
   | succ k6 =>
    have H := HA.out
    clear HA
    simp only [toponymref26_SameValues.l0] at H
    have HH := Aside0.mk H
    clear H
    replace HH := zqt HH
    rcases HH with ⟨HH, hk9, hk10⟩ | ⟨HH, hk31, hk32⟩
    ·go_wp2
     have hwr_ : ∀ n_ : Int, IntKind.i64.wrap n_ = wrap64 n_ := fun n_ => IntWalk.i64_left n_
     refine wp_region_any (by kernel_rfl) ?_
     change wpAny _ _ _ _ 25 #[false, false, false, false, false, false, false, false, false, false, false, false, false, false, false, false, false, false, false, false, false, false, false, false, false] _ w7.drew
     obtain ⟨w11, hw_⟩ : ∃ w_ : World, w_ = w7.drew := ⟨_, rfl⟩
     rw [← hw_]
     have hb : Below w7.heap.size w7 w11 := by rw [hw_]; exact below_drew1 (Below.refl _ _)
     clear hw_
     replace HF0 := zfb HF0.out hb
     replace HF1 := zfb HF1.out hb
     replace HB := zhb HB.out hb
     clear hb
     replace HH := zqdo HH
     obtain ⟨HH, hk13⟩ := HH
     have p14 : 0 ≤ (x5 : Int) := of_decide_eq_true (by first | (with_reducible assumption) | assumption)
     have q14 : x5 < (l0.length : Int) := of_decide_eq_true (by first | (with_reducible assumption) | assumption)
     obtain ⟨ad14, A14_1, c14_1, e14, hx14_0, hx14_1, hl14_1, hi14_1⟩ := atF_T46 HF0.out x5 p14 q14
     cases e14
     have HF14_1 := Aside0.mk hi14_1
     have HL14_1 := Aside0.mk hl14_1
     clear hi14_1 hl14_1
     replace p14 := eq_true p14
     replace q14 := eq_true q14
     replace HH := zqto HH
     obtain ⟨HH, hk16, hk17⟩ := HH
     have p18 : 0 ≤ (x5 : Int) := of_decide_eq_true (by first | (with_reducible assumption) | assumption)
     have q18 : x5 < (l1.length : Int) := of_decide_eq_true (by first | (with_reducible assumption) | assumption)
     obtain ⟨ad18, A18_1, c18_1, e18, hx18_0, hx18_1, hl18_1, hi18_1⟩ := atF_T46 HF1.out x5 p18 q18
     cases e18
     have HF18_1 := Aside0.mk hi18_1
     have HL18_1 := Aside0.mk hl18_1
     clear hi18_1 hl18_1
     replace p18 := eq_true p18
     replace q18 := eq_true q18
     refine MW.last_in (ds := [22]) (MW.Cells.cons hx14_0 (MW.Cells.cons hx14_1 (MW.Cells.cons hx18_0 (MW.Cells.cons hx18_1 MW.Cells.nil)))) ?_
     refine MW.last_pure (i := 0) (v := .slice (some ad14) l0.length c0) (listed' := #[true, false, false, false, false, false, false, false, false, false, false, false, false, false, false, false, false, false, false, false, false, false, false, false, false]) (a' := ⟨[_, _, _, _, _, _, _, _, _, _, _, _, _, _, _, _, _, _, _, _, _, _, _, _, _, _, _, _, _, _, _, _, _, _, _, _, _, _, _, _, _, _].toArray, []⟩) rfl (by kernel_rfl) (by kernel_rfl) (by kernel_rfl) (fun _ _ _ h_ => h_) (.inl ⟨(by kernel_rfl), fun _ => (by first | rfl | (go_simp; done) | (go_simp; rfl) | (go_simp; simp only [MW.isEmpty_beq, bne, Bool.not_not]; done))⟩) (by kernel_rfl) rfl ?_
     refine MW.last_pure (i := 1) (v := .int .i64 x5) (listed' := #[true, true, false, false, false, false, false, false, false, false, false, false, false, false, false, false, false, false, false, false, false, false, false, false, false]) (a' := ⟨[_, _, _, _, _, _, _, _, _, _, _, _, _, _, _, _, _, _, _, _, _, _, _, _, _, _, _, _, _, _, _, _, _, _, _, _, _, _, _, _, _, _].toArray, []⟩) rfl (by kernel_rfl) (by kernel_rfl) (by kernel_rfl) (fun _ _ _ h_ => h_) (.inl ⟨(by kernel_rfl), fun _ => (by first | rfl | (go_simp; done) | (go_simp; rfl) | (go_simp; simp only [MW.isEmpty_beq, bne, Bool.not_not]; done))⟩) (by kernel_rfl) rfl ?_
     refine MW.last_pure (i := 2) (v := .pointer (some (ad14.add (x5.toNat * 2)))) (listed' := #[true, true, true, false, false, false, false, false, false, false, false, false, false, false, false, false, false, false, false, false, false, false, false, false, false]) (a' := ⟨[_, _, _, _, _, _, _, _, _, _, _, _, _, _, _, _, _, _, _, _, _, _, _, _, _, _, _, _, _, _, _, _, _, _, _, _, _, _, _, _, _, _].toArray, []⟩) rfl (by kernel_rfl) (by kernel_rfl) (by kernel_rfl) (fun _ _ _ h_ => h_) (.inl ⟨(by kernel_rfl), fun _ => (by first | rfl | (go_simp; done) | (go_simp; rfl) | (go_simp; simp only [MW.isEmpty_beq, bne, Bool.not_not]; done))⟩) (by kernel_rfl) rfl ?_
     refine MW.last_pure (i := 3) (v := .pointer (some (ad14.add (x5.toNat * 2)))) (listed' := #[true, true, true, true, false, false, false, false, false, false, false, false, false, false, false, false, false, false, false, false, false, false, false, false, false]) (a' := ⟨[_, _, _, _, _, _, _, _, _, _, _, _, _, _, _, _, _, _, _, _, _, _, _, _, _, _, _, _, _, _, _, _, _, _, _, _, _, _, _, _, _, _].toArray, []⟩) rfl (by kernel_rfl) (by kernel_rfl) (by kernel_rfl) (fun _ _ _ h_ => h_) (.inl ⟨(by kernel_rfl), fun _ => (by first | rfl | (go_simp; done) | (go_simp; rfl) | (go_simp; simp only [MW.isEmpty_beq, bne, Bool.not_not]; done))⟩) (by kernel_rfl) rfl ?_
     refine MW.last_pure (i := 5) (v := .slice (some ad18) l1.length c1) (listed' := #[true, true, true, true, false, true, false, false, false, false, false, false, false, false, false, false, false, false, false, false, false, false, false, false, false]) (a' := ⟨[_, _, _, _, _, _, _, _, _, _, _, _, _, _, _, _, _, _, _, _, _, _, _, _, _, _, _, _, _, _, _, _, _, _, _, _, _, _, _, _, _, _].toArray, []⟩) rfl (by kernel_rfl) (by kernel_rfl) (by kernel_rfl) (fun _ _ _ h_ => h_) (.inl ⟨(by kernel_rfl), fun _ => (by first | rfl | (go_simp; done) | (go_simp; rfl) | (go_simp; simp only [MW.isEmpty_beq, bne, Bool.not_not]; done))⟩) (by kernel_rfl) rfl ?_
     refine MW.last_pure (i := 6) (v := .int .i64 x5) (listed' := #[true, true, true, true, false, true, true, false, false, false, false, false, false, false, false, false, false, false, false, false, false, false, false, false, false]) (a' := ⟨[_, _, _, _, _, _, _, _, _, _, _, _, _, _, _, _, _, _, _, _, _, _, _, _, _, _, _, _, _, _, _, _, _, _, _, _, _, _, _, _, _, _].toArray, []⟩) rfl (by kernel_rfl) (by kernel_rfl) (by kernel_rfl) (fun _ _ _ h_ => h_) (.inl ⟨(by kernel_rfl), fun _ => (by first | rfl | (go_simp; done) | (go_simp; rfl) | (go_simp; simp only [MW.isEmpty_beq, bne, Bool.not_not]; done))⟩) (by kernel_rfl) rfl ?_
     refine MW.last_pure (i := 7) (v := .pointer (some (ad18.add (x5.toNat * 2)))) (listed' := #[true, true, true, true, false, true, true, true, false, false, false, false, false, false, false, false, false, false, false, false, false, false, false, false, false]) (a' := ⟨[_, _, _, _, _, _, _, _, _, _, _, _, _, _, _, _, _, _, _, _, _, _, _, _, _, _, _, _, _, _, _, _, _, _, _, _, _, _, _, _, _, _].toArray, []⟩) rfl (by kernel_rfl) (by kernel_rfl) (by kernel_rfl) (fun _ _ _ h_ => h_) (.inl ⟨(by kernel_rfl), fun _ => (by first | rfl | (go_simp; done) | (go_simp; rfl) | (go_simp; simp only [MW.isEmpty_beq, bne, Bool.not_not]; done))⟩) (by kernel_rfl) rfl ?_
     refine MW.last_pure (i := 8) (v := .pointer (some (ad18.add (x5.toNat * 2)))) (listed' := #[true, true, true, true, false, true, true, true, true, false, false, false, false, false, false, false, false, false, false, false, false, false, false, false, false]) (a' := ⟨[_, _, _, _, _, _, _, _, _, _, _, _, _, _, _, _, _, _, _, _, _, _, _, _, _, _, _, _, _, _, _, _, _, _, _, _, _, _, _, _, _, _].toArray, []⟩) rfl (by kernel_rfl) (by kernel_rfl) (by kernel_rfl) (fun _ _ _ h_ => h_) (.inl ⟨(by kernel_rfl), fun _ => (by first | rfl | (go_simp; done) | (go_simp; rfl) | (go_simp; simp only [MW.isEmpty_beq, bne, Bool.not_not]; done))⟩) (by kernel_rfl) rfl ?_
     refine MW.last_take (i := 4) (v := .string ((rd_T46 l0 x5).f0)) (listed' := #[true, true, true, true, true, true, true, true, true, false, false, false, false, false, false, false, false, false, false, false, false, false, false, false, false]) (a' := ⟨[_, _, _, _, _, _, _, _, _, _, _, _, _, _, _, _, _, _, _, _, _, _, _, _, _, _, _, _, _, _, _, _, _, _, _, _, _, _, _, _, _, _].toArray, []⟩) rfl (by kernel_rfl) (by kernel_rfl) (by kernel_rfl) (by kernel_rfl) (by kernel_rfl) (fun _ _ _ h_ => h_) (by kernel_rfl) (fun w_ hS_ => ?go) (MW.Cells.cons hx14_0 (MW.Cells.cons hx14_1 (MW.Cells.cons hx18_0 (MW.Cells.cons hx18_1 MW.Cells.nil)))) (by kernel_rfl) rfl ?_
     case go => obtain ⟨hs0_, _, _, _, _⟩ := hS_; first | (go_simp; done) | (go_simp; rfl)
     refine MW.last_take (i := 9) (v := .string ((rd_T46 l1 x5).f0)) (listed' := #[true, true, true, true, true, true, true, true, true, true, false, false, false, false, false, false, false, false, false, false, false, false, false, false, false]) (a' := ⟨[_, _, _, _, _, _, _, _, _, _, _, _, _, _, _, _, _, _, _, _, _, _, _, _, _, _, _, _, _, _, _, _, _, _, _, _, _, _, _, _, _, _].toArray, []⟩) rfl (by kernel_rfl) (by kernel_rfl) (by kernel_rfl) (by kernel_rfl) (by kernel_rfl) (fun _ _ _ h_ => h_) (by kernel_rfl) (fun w_ hS_ => ?go) (MW.Cells.cons hx14_0 (MW.Cells.cons hx14_1 (MW.Cells.cons hx18_0 (MW.Cells.cons hx18_1 MW.Cells.nil)))) (by kernel_rfl) rfl ?_
     case go => obtain ⟨_, _, hs2_, _, _⟩ := hS_; first | (go_simp; done) | (go_simp; rfl)
     refine MW.last_pure (i := 10) (v := .bool (((rd_T46 l0 x5).f0).toList != ((rd_T46 l1 x5).f0).toList)) (listed' := #[true, true, true, true, true, true, true, true, true, true, true, false, false, false, false, false, false, false, false, false, false, false, false, false, false]) (a' := ⟨[_, _, _, _, _, _, _, _, _, _, _, _, _, _, _, _, _, _, _, _, _, _, _, _, _, _, _, _, _, _, _, _, _, _, _, _, _, _, _, _, _, _].toArray, []⟩) rfl (by kernel_rfl) (by kernel_rfl) (by kernel_rfl) (fun _ _ _ h_ => h_) (.inl ⟨(by kernel_rfl), fun _ => (by first | rfl | (go_simp; done) | (go_simp; rfl) | (go_simp; simp only [MW.isEmpty_beq, bne, Bool.not_not]; done))⟩) (by kernel_rfl) rfl ?_
     refine MW.last_pure (i := 11) (v := .bool (((rd_T46 l0 x5).f0).toList != ((rd_T46 l1 x5).f0).toList)) (listed' := #[true, true, true, true, true, true, true, true, true, true, true, true, false, false, false, false, false, false, false, false, false, false, false, false, false]) (a' := ⟨[_, _, _, _, _, _, _, _, _, _, _, _, _, _, _, _, _, _, _, _, _, _, _, _, _, _, _, _, _, _, _, _, _, _, _, _, _, _, _, _, _, _].toArray, []⟩) rfl (by kernel_rfl) (by kernel_rfl) (by kernel_rfl) (fun _ _ _ h_ => h_) (.inl ⟨(by kernel_rfl), fun _ => (by first | rfl | (go_simp; done) | (go_simp; rfl) | (go_simp; simp only [MW.isEmpty_beq, bne, Bool.not_not]; done))⟩) (by kernel_rfl) rfl ?_
     replace HH := zqe HH
     rcases HH with ⟨HH, hk20, hk21⟩ | ⟨HH, hk26, hk27⟩
     ·(try simp only [hk20, Bool.not_true, Bool.not_false])
      (try simp only [hk21, Bool.not_true, Bool.not_false])
      refine MW.last_pure (i := 12) (v := .slice (some ad14) l0.length c0) (listed' := #[true, true, true, true, true, true, true, true, true, true, true, true, true, false, false, false, false, false, false, false, false, false, false, false, false]) (a' := ⟨[_, _, _, _, _, _, _, _, _, _, _, _, _, _, _, _, _, _, _, _, _, _, _, _, _, _, _, _, _, _, _, _, _, _, _, _, _, _, _, _, _, _].toArray, []⟩) rfl (by kernel_rfl) (by kernel_rfl) (by kernel_rfl) (fun _ _ _ h_ => h_) (.inl ⟨(by kernel_rfl), fun _ => (by first | rfl | (go_simp; done) | (go_simp; rfl) | (go_simp; simp only [MW.isEmpty_beq, bne, Bool.not_not]; done))⟩) (by kernel_rfl) rfl ?_
      refine MW.last_pure (i := 13) (v := .int .i64 x5) (listed' := #[true, true, true, true, true, true, true, true, true, true, true, true, true, true, false, false, false, false, false, false, false, false, false, false, false]) (a' := ⟨[_, _, _, _, _, _, _, _, _, _, _, _, _, _, _, _, _, _, _, _, _, _, _, _, _, _, _, _, _, _, _, _, _, _, _, _, _, _, _, _, _, _].toArray, []⟩) rfl (by kernel_rfl) (by kernel_rfl) (by kernel_rfl) (fun _ _ _ h_ => h_) (.inl ⟨(by kernel_rfl), fun _ => (by first | rfl | (go_simp; done) | (go_simp; rfl) | (go_simp; simp only [MW.isEmpty_beq, bne, Bool.not_not]; done))⟩) (by kernel_rfl) rfl ?_
      refine MW.last_pure (i := 14) (v := .pointer (some (ad14.add (x5.toNat * 2)))) (listed' := #[true, true, true, true, true, true, true, true, true, true, true, true, true, true, true, false, false, false, false, false, false, false, false, false, false]) (a' := ⟨[_, _, _, _, _, _, _, _, _, _, _, _, _, _, _, _, _, _, _, _, _, _, _, _, _, _, _, _, _, _, _, _, _, _, _, _, _, _, _, _, _, _].toArray, []⟩) rfl (by kernel_rfl) (by kernel_rfl) (by kernel_rfl) (fun _ _ _ h_ => h_) (.inl ⟨(by kernel_rfl), fun _ => (by first | rfl | (go_simp; done) | (go_simp; rfl) | (go_simp; simp only [MW.isEmpty_beq, bne, Bool.not_not]; done))⟩) (by kernel_rfl) rfl ?_
      refine MW.last_pure (i := 15) (v := .pointer (some ⟨(ad14.add (x5.toNat * 2)).block, (ad14.add (x5.toNat * 2)).off + 1, none⟩)) (listed' := #[true, true, true, true, true, true, true, true, true, true, true, true, true, true, true, true, false, false, false, false, false, false, false, false, false]) (a' := ⟨[_, _, _, _, _, _, _, _, _, _, _, _, _, _, _, _, _, _, _, _, _, _, _, _, _, _, _, _, _, _, _, _, _, _, _, _, _, _, _, _, _, _].toArray, []⟩) rfl (by kernel_rfl) (by kernel_rfl) (by kernel_rfl) (fun _ _ _ h_ => h_) (.inl ⟨(by kernel_rfl), fun _ => (by first | rfl | (go_simp; done) | (go_simp; rfl) | (go_simp; simp only [MW.isEmpty_beq, bne, Bool.not_not]; done))⟩) (by kernel_rfl) rfl ?_
      refine MW.last_pure (i := 17) (v := .slice (some ad18) l1.length c1) (listed' := #[true, true, true, true, true, true, true, true, true, true, true, true, true, true, true, true, false, true, false, false, false, false, false, false, false]) (a' := ⟨[_, _, _, _, _, _, _, _, _, _, _, _, _, _, _, _, _, _, _, _, _, _, _, _, _, _, _, _, _, _, _, _, _, _, _, _, _, _, _, _, _, _].toArray, []⟩) rfl (by kernel_rfl) (by kernel_rfl) (by kernel_rfl) (fun _ _ _ h_ => h_) (.inl ⟨(by kernel_rfl), fun _ => (by first | rfl | (go_simp; done) | (go_simp; rfl) | (go_simp; simp only [MW.isEmpty_beq, bne, Bool.not_not]; done))⟩) (by kernel_rfl) rfl ?_
      refine MW.last_pure (i := 18) (v := .int .i64 x5) (listed' := #[true, true, true, true, true, true, true, true, true, true, true, true, true, true, true, true, false, true, true, false, false, false, false, false, false]) (a' := ⟨[_, _, _, _, _, _, _, _, _, _, _, _, _, _, _, _, _, _, _, _, _, _, _, _, _, _, _, _, _, _, _, _, _, _, _, _, _, _, _, _, _, _].toArray, []⟩) rfl (by kernel_rfl) (by kernel_rfl) (by kernel_rfl) (fun _ _ _ h_ => h_) (.inl ⟨(by kernel_rfl), fun _ => (by first | rfl | (go_simp; done) | (go_simp; rfl) | (go_simp; simp only [MW.isEmpty_beq, bne, Bool.not_not]; done))⟩) (by kernel_rfl) rfl ?_
      refine MW.last_pure (i := 19) (v := .pointer (some (ad18.add (x5.toNat * 2)))) (listed' := #[true, true, true, true, true, true, true, true, true, true, true, true, true, true, true, true, false, true, true, true, false, false, false, false, false]) (a' := ⟨[_, _, _, _, _, _, _, _, _, _, _, _, _, _, _, _, _, _, _, _, _, _, _, _, _, _, _, _, _, _, _, _, _, _, _, _, _, _, _, _, _, _].toArray, []⟩) rfl (by kernel_rfl) (by kernel_rfl) (by kernel_rfl) (fun _ _ _ h_ => h_) (.inl ⟨(by kernel_rfl), fun _ => (by first | rfl | (go_simp; done) | (go_simp; rfl) | (go_simp; simp only [MW.isEmpty_beq, bne, Bool.not_not]; done))⟩) (by kernel_rfl) rfl ?_
      refine MW.last_pure (i := 20) (v := .pointer (some ⟨(ad18.add (x5.toNat * 2)).block, (ad18.add (x5.toNat * 2)).off + 1, none⟩)) (listed' := #[true, true, true, true, true, true, true, true, true, true, true, true, true, true, true, true, false, true, true, true, true, false, false, false, false]) (a' := ⟨[_, _, _, _, _, _, _, _, _, _, _, _, _, _, _, _, _, _, _, _, _, _, _, _, _, _, _, _, _, _, _, _, _, _, _, _, _, _, _, _, _, _].toArray, []⟩) rfl (by kernel_rfl) (by kernel_rfl) (by kernel_rfl) (fun _ _ _ h_ => h_) (.inl ⟨(by kernel_rfl), fun _ => (by first | rfl | (go_simp; done) | (go_simp; rfl) | (go_simp; simp only [MW.isEmpty_beq, bne, Bool.not_not]; done))⟩) (by kernel_rfl) rfl ?_
      refine MW.last_take (i := 16) (v := .slice A14_1 ((rd_T46 l0 x5).f1).length c14_1) (listed' := #[true, true, true, true, true, true, true, true, true, true, true, true, true, true, true, true, true, true, true, true, true, false, false, false, false]) (a' := ⟨[_, _, _, _, _, _, _, _, _, _, _, _, _, _, _, _, _, _, _, _, _, _, _, _, _, _, _, _, _, _, _, _, _, _, _, _, _, _, _, _, _, _].toArray, []⟩) rfl (by kernel_rfl) (by kernel_rfl) (by kernel_rfl) (by kernel_rfl) (by kernel_rfl) (fun _ _ _ h_ => h_) (by kernel_rfl) (fun w_ hS_ => ?go) (MW.Cells.cons hx14_0 (MW.Cells.cons hx14_1 (MW.Cells.cons hx18_0 (MW.Cells.cons hx18_1 MW.Cells.nil)))) (by kernel_rfl) rfl ?_
      case go => obtain ⟨_, hs1_, _, _, _⟩ := hS_; first | (go_simp; done) | (go_simp; rfl)
      refine MW.last_take (i := 21) (v := .slice A18_1 ((rd_T46 l1 x5).f1).length c18_1) (listed' := #[true, true, true, true, true, true, true, true, true, true, true, true, true, true, true, true, true, true, true, true, true, true, false, false, false]) (a' := ⟨[_, _, _, _, _, _, _, _, _, _, _, _, _, _, _, _, _, _, _, _, _, _, _, _, _, _, _, _, _, _, _, _, _, _, _, _, _, _, _, _, _, _].toArray, []⟩) rfl (by kernel_rfl) (by kernel_rfl) (by kernel_rfl) (by kernel_rfl) (by kernel_rfl) (fun _ _ _ h_ => h_) (by kernel_rfl) (fun w_ hS_ => ?go) (MW.Cells.cons hx14_0 (MW.Cells.cons hx14_1 (MW.Cells.cons hx18_0 (MW.Cells.cons hx18_1 MW.Cells.nil)))) (by kernel_rfl) rfl ?_
      case go => obtain ⟨_, _, _, hs3_, _⟩ := hS_; first | (go_simp; done) | (go_simp; rfl)
      refine MW.last_fin (i := 22) (listed' := #[true, true, true, true, true, true, true, true, true, true, true, true, true, true, true, true, true, true, true, true, true, true, true, false, false]) rfl (by kernel_rfl) (by kernel_rfl) (by kernel_rfl) ?_
      replace HH := zd HH
      obtain ⟨t22, At23, HH⟩ := HH
      go_wp2_with ((with_reducible refine gc 14 rfl ?_); refine zc 14 (some 39) Try.func14 #[.slice A14_1 ((rd_T46 l0 x5).f1).length c14_1, .slice A18_1 ((rd_T46 l1 x5).f1).length c18_1] (h := ?_); (with_reducible refine (toponymref16_SameTexts.calls k6 (fun k_ => (P_ k_ ∨ w.heap.size ≤ k_)) _ _ ((rd_T46 l0 x5).f1) _ _ ((rd_T46 l1 x5).f1) t22 _ (Kd.F_mono (ok := (fun k_ => (P_ k_ ∨ w.heap.size ≤ k_))) HF14_1.out (fun k_ hk_ => hk_)) HL14_1.out (Kd.F_mono (ok := (fun k_ => (P_ k_ ∨ w.heap.size ≤ k_))) HF18_1.out (fun k_ hk_ => hk_)) HL18_1.out At23.out).mono ?_); rintro e w' ⟨rfl, ⟨nd, rfl⟩⟩; refine ⟨_, rfl, ?_⟩)
      refine Stop.go ?_
      refine wpList_nil ?_
      change wpAnyLast _ _ _ _ _ _ 2 #[true, true, true, true, true, true, true, true, true, true, true, true, true, true, true, true, true, true, true, true, true, true, true, false, false] ⟨[_, _, _, _, _, _, _, _, _, _, _, _, _, _, _, _, _, _, _, _, _, _, _, _, _, _, _, _, _, _, _, _, _, _, _, _, _, _, _, _, _, _].toArray, []⟩ _
      refine MW.last_pure (i := 23) (v := .bool (!t22)) (listed' := #[true, true, true, true, true, true, true, true, true, true, true, true, true, true, true, true, true, true, true, true, true, true, true, true, false]) (a' := ⟨[_, _, _, _, _, _, _, _, _, _, _, _, _, _, _, _, _, _, _, _, _, _, _, _, _, _, _, _, _, _, _, _, _, _, _, _, _, _, _, _, _, _].toArray, []⟩) rfl (by kernel_rfl) (by kernel_rfl) (by kernel_rfl) (fun _ _ _ h_ => h_) (.inl ⟨(by kernel_rfl), fun _ => (by first | rfl | (go_simp; done) | (go_simp; rfl) | (go_simp; simp only [MW.isEmpty_beq, bne, Bool.not_not]; done))⟩) (by kernel_rfl) rfl ?_
      refine MW.last_pure (i := 24) (v := .bool (!t22)) (listed' := #[true, true, true, true, true, true, true, true, true, true, true, true, true, true, true, true, true, true, true, true, true, true, true, true, true]) (a' := ⟨[_, _, _, _, _, _, _, _, _, _, _, _, _, _, _, _, _, _, _, _, _, _, _, _, _, _, _, _, _, _, _, _, _, _, _, _, _, _, _, _, _, _].toArray, []⟩) rfl (by kernel_rfl) (by kernel_rfl) (by kernel_rfl) (fun _ _ _ h_ => h_) (.inl ⟨(by kernel_rfl), fun _ => (by first | rfl | (go_simp; done) | (go_simp; rfl) | (go_simp; simp only [MW.isEmpty_beq, bne, Bool.not_not]; done))⟩) (by kernel_rfl) rfl ?_
      refine MW.last_done (by kernel_rfl) ?_ _
      clear hwr_
      by_cases c25 : t22 = true
      ·replace HH := MW.hpos HH c25
       subst c25
       go_wp2
       go_roundg k6
       case measure => have := HK0.out; omega
       case rel => exact ⟨wrap64 (x5 + 1), (by first | rfl | (simp; done) | (simp [*]; done)), HH, ⟨by have := HK0.out; omega⟩, ⟨(Kd.F_mono (ok := (fun k_ => (P_ k_ ∨ w.heap.size ≤ k_))) (by (with_reducible repeat (first | apply Kd.F_alloc | apply Kd.F_drewN | apply Kd.F_drew)); exact HF0.out) (fun k_ hk_ => hk_))⟩, ⟨(Kd.F_mono (ok := (fun k_ => (P_ k_ ∨ w.heap.size ≤ k_))) (by (with_reducible repeat (first | apply Kd.F_alloc | apply Kd.F_drewN | apply Kd.F_drew)); exact HF1.out) (fun k_ hk_ => hk_))⟩, ⟨(by repeat (first | (with_reducible first | exact HB.out | apply below_alloc | apply pw_below_drewN | apply below_drew1) | exact HB.out))⟩⟩
      replace HH := MW.hneg HH c25
      replace c25 := Bool.eq_false_iff.mpr c25
      subst c25
      have H := HH.out
      obtain rfl := Option.some.inj H
      clear HH
      go_wp2
      go_ret
      exact ⟨by first | rfl | (simp; done) | (simp [*]; done), (by repeat (first | (with_reducible first | exact HB.out | apply below_alloc | apply pw_below_drewN | apply below_drew1) | exact HB.out))⟩
     (try simp only [hk26, Bool.not_true, Bool.not_false])
     (try simp only [hk27, Bool.not_true, Bool.not_false])
     refine MW.last_pure (i := 12) (v := undef) (listed' := #[true, true, true, true, true, true, true, true, true, true, true, true, true, false, false, false, false, false, false, false, false, false, false, false, false]) (a' := ⟨[_, _, _, _, _, _, _, _, _, _, _, _, _, _, _, _, _, _, _, _, _, _, _, _, _, _, _, _, _, _, _, _, _, _, _, _, _, _, _, _, _, _].toArray, []⟩) rfl (by kernel_rfl) (by kernel_rfl) (by kernel_rfl) (fun _ _ _ h_ => h_) (.inr ⟨(by kernel_rfl), rfl⟩) (by kernel_rfl) rfl ?_
     refine MW.last_pure (i := 13) (v := undef) (listed' := #[true, true, true, true, true, true, true, true, true, true, true, true, true, true, false, false, false, false, false, false, false, false, false, false, false]) (a' := ⟨[_, _, _, _, _, _, _, _, _, _, _, _, _, _, _, _, _, _, _, _, _, _, _, _, _, _, _, _, _, _, _, _, _, _, _, _, _, _, _, _, _, _].toArray, []⟩) rfl (by kernel_rfl) (by kernel_rfl) (by kernel_rfl) (fun _ _ _ h_ => h_) (.inr ⟨(by kernel_rfl), rfl⟩) (by kernel_rfl) rfl ?_
     refine MW.last_pure (i := 14) (v := undef) (listed' := #[true, true, true, true, true, true, true, true, true, true, true, true, true, true, true, false, false, false, false, false, false, false, false, false, false]) (a' := ⟨[_, _, _, _, _, _, _, _, _, _, _, _, _, _, _, _, _, _, _, _, _, _, _, _, _, _, _, _, _, _, _, _, _, _, _, _, _, _, _, _, _, _].toArray, []⟩) rfl (by kernel_rfl) (by kernel_rfl) (by kernel_rfl) (fun _ _ _ h_ => h_) (.inr ⟨(by kernel_rfl), rfl⟩) (by kernel_rfl) rfl ?_
     refine MW.last_pure (i := 15) (v := undef) (listed' := #[true, true, true, true, true, true, true, true, true, true, true, true, true, true, true, true, false, false, false, false, false, false, false, false, false]) (a' := ⟨[_, _, _, _, _, _, _, _, _, _, _, _, _, _, _, _, _, _, _, _, _, _, _, _, _, _, _, _, _, _, _, _, _, _, _, _, _, _, _, _, _, _].toArray, []⟩) rfl (by kernel_rfl) (by kernel_rfl) (by kernel_rfl) (fun _ _ _ h_ => h_) (.inr ⟨(by kernel_rfl), rfl⟩) (by kernel_rfl) rfl ?_
     refine MW.last_pure (i := 16) (v := undef) (listed' := #[true, true, true, true, true, true, true, true, true, true, true, true, true, true, true, true, true, false, false, false, false, false, false, false, false]) (a' := ⟨[_, _, _, _, _, _, _, _, _, _, _, _, _, _, _, _, _, _, _, _, _, _, _, _, _, _, _, _, _, _, _, _, _, _, _, _, _, _, _, _, _, _].toArray, []⟩) rfl (by kernel_rfl) (by kernel_rfl) (by kernel_rfl) (fun _ _ _ h_ => h_) (.inr ⟨(by kernel_rfl), rfl⟩) (by kernel_rfl) rfl ?_
     refine MW.last_pure (i := 17) (v := undef) (listed' := #[true, true, true, true, true, true, true, true, true, true, true, true, true, true, true, true, true, true, false, false, false, false, false, false, false]) (a' := ⟨[_, _, _, _, _, _, _, _, _, _, _, _, _, _, _, _, _, _, _, _, _, _, _, _, _, _, _, _, _, _, _, _, _, _, _, _, _, _, _, _, _, _].toArray, []⟩) rfl (by kernel_rfl) (by kernel_rfl) (by kernel_rfl) (fun _ _ _ h_ => h_) (.inr ⟨(by kernel_rfl), rfl⟩) (by kernel_rfl) rfl ?_
     refine MW.last_pure (i := 18) (v := undef) (listed' := #[true, true, true, true, true, true, true, true, true, true, true, true, true, true, true, true, true, true, true, false, false, false, false, false, false]) (a' := ⟨[_, _, _, _, _, _, _, _, _, _, _, _, _, _, _, _, _, _, _, _, _, _, _, _, _, _, _, _, _, _, _, _, _, _, _, _, _, _, _, _, _, _].toArray, []⟩) rfl (by kernel_rfl) (by kernel_rfl) (by kernel_rfl) (fun _ _ _ h_ => h_) (.inr ⟨(by kernel_rfl), rfl⟩) (by kernel_rfl) rfl ?_
     refine MW.last_pure (i := 19) (v := undef) (listed' := #[true, true, true, true, true, true, true, true, true, true, true, true, true, true, true, true, true, true, true, true, false, false, false, false, false]) (a' := ⟨[_, _, _, _, _, _, _, _, _, _, _, _, _, _, _, _, _, _, _, _, _, _, _, _, _, _, _, _, _, _, _, _, _, _, _, _, _, _, _, _, _, _].toArray, []⟩) rfl (by kernel_rfl) (by kernel_rfl) (by kernel_rfl) (fun _ _ _ h_ => h_) (.inr ⟨(by kernel_rfl), rfl⟩) (by kernel_rfl) rfl ?_
     refine MW.last_pure (i := 20) (v := undef) (listed' := #[true, true, true, true, true, true, true, true, true, true, true, true, true, true, true, true, true, true, true, true, true, false, false, false, false]) (a' := ⟨[_, _, _, _, _, _, _, _, _, _, _, _, _, _, _, _, _, _, _, _, _, _, _, _, _, _, _, _, _, _, _, _, _, _, _, _, _, _, _, _, _, _].toArray, []⟩) rfl (by kernel_rfl) (by kernel_rfl) (by kernel_rfl) (fun _ _ _ h_ => h_) (.inr ⟨(by kernel_rfl), rfl⟩) (by kernel_rfl) rfl ?_
     refine MW.last_pure (i := 21) (v := undef) (listed' := #[true, true, true, true, true, true, true, true, true, true, true, true, true, true, true, true, true, true, true, true, true, true, false, false, false]) (a' := ⟨[_, _, _, _, _, _, _, _, _, _, _, _, _, _, _, _, _, _, _, _, _, _, _, _, _, _, _, _, _, _, _, _, _, _, _, _, _, _, _, _, _, _].toArray, []⟩) rfl (by kernel_rfl) (by kernel_rfl) (by kernel_rfl) (fun _ _ _ h_ => h_) (.inr ⟨(by kernel_rfl), rfl⟩) (by kernel_rfl) rfl ?_
     refine MW.last_pure (i := 22) (v := undef) (listed' := #[true, true, true, true, true, true, true, true, true, true, true, true, true, true, true, true, true, true, true, true, true, true, true, false, false]) (a' := ⟨[_, _, _, _, _, _, _, _, _, _, _, _, _, _, _, _, _, _, _, _, _, _, _, _, _, _, _, _, _, _, _, _, _, _, _, _, _, _, _, _, _, _].toArray, []⟩) rfl (by kernel_rfl) (by kernel_rfl) (by kernel_rfl) (fun _ _ _ h_ => h_) (.inr ⟨(by kernel_rfl), rfl⟩) (by kernel_rfl) rfl ?_
     refine MW.last_pure (i := 23) (v := undef) (listed' := #[true, true, true, true, true, true, true, true, true, true, true, true, true, true, true, true, true, true, true, true, true, true, true, true, false]) (a' := ⟨[_, _, _, _, _, _, _, _, _, _, _, _, _, _, _, _, _, _, _, _, _, _, _, _, _, _, _, _, _, _, _, _, _, _, _, _, _, _, _, _, _, _].toArray, []⟩) rfl (by kernel_rfl) (by kernel_rfl) (by kernel_rfl) (fun _ _ _ h_ => h_) (.inr ⟨(by kernel_rfl), rfl⟩) (by kernel_rfl) rfl ?_
     refine MW.last_pure (i := 24) (v := .bool true) (listed' := #[true, true, true, true, true, true, true, true, true, true, true, true, true, true, true, true, true, true, true, true, true, true, true, true, true]) (a' := ⟨[_, _, _, _, _, _, _, _, _, _, _, _, _, _, _, _, _, _, _, _, _, _, _, _, _, _, _, _, _, _, _, _, _, _, _, _, _, _, _, _, _, _].toArray, []⟩) rfl (by kernel_rfl) (by kernel_rfl) (by kernel_rfl) (fun _ _ _ h_ => h_) (.inl ⟨(by kernel_rfl), fun _ => (by first | rfl | (go_simp; done) | (go_simp; rfl) | (go_simp; simp only [MW.isEmpty_beq, bne, Bool.not_not]; done))⟩) (by kernel_rfl) rfl ?_
     refine MW.last_done (by kernel_rfl) ?_ _
     clear hwr_
     have H := HH.out
     obtain rfl := Option.some.inj H
     clear HH
     go_wp2
     go_ret
     exact ⟨by first | rfl | (simp; done) | (simp [*]; done), HB.out⟩
    have H := HH.out
    obtain rfl := Option.some.inj H
    clear HH
    go_wp2
    go_ret
    exact ⟨by first | rfl | (simp; done) | (simp [*]; done), HB.out⟩
 replace HH := MW.hneg HH c1
 have hk33 : ((l0.length : Int) == (l1.length : Int)) = false := beq_eq_false_iff_ne.mpr c1
 have hk34 : ((l0.length : Int) != (l1.length : Int)) = true := bne_iff_ne.mpr c1
 have hk35 : (l0.length == l1.length) = false := by first | simpa using c1 | (simp at c1 ⊢; omega)
 clear c1
 have H := HH.out
 obtain rfl := Option.some.inj H
 clear HH
 go_wp2
 go_ret
 exact ⟨by first | rfl | (simp; done) | (simp [*]; done), HB.out⟩
end Go.Proofs.Ytdjkemhmhkpmkaa.GA
