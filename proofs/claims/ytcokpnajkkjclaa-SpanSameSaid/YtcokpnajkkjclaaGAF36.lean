import Derived.Test.YtcokpnajkkjclaaGA0
import Derived.Test.YtcokpnajkkjclaaGM1
import Derived.Test.YtcokpnajkkjclaaMQ
namespace Go.Proofs.Ytcokpnajkkjclaa.GA
open Go.RowKit Go.Proofs.Ytcokpnajkkjclaa Go.Proofs.Ytcokpnajkkjclaa.MW Go.Proofs.YtcokpnajkkjclaaW.PrintWords Go.Proofs.YtcokpnajkkjclaaW.PrintLast Go.Proofs.YtcokpnajkkjclaaW.PrintMore
attribute [local go_sem] max2_int min2_int max_two min_two
set_option linter.unusedVariables false
set_option linter.unusedSimpArgs false
/-! ### slices_insertionSortOrdered_rune: function 36 -/
mutual
def slices_insertionSortOrdered_rune.l0 : Nat → Int → (List Int) → Int → Int → (List Int) → Option (List Int)
  | 0, _, _, _, _, _ => none
  | k + 1, x1, x2, a1, a2, l0 => if x1 < a2 then ((slices_insertionSortOrdered_rune.l1 k x1 x2 a1 a2 l0 x1)) else (some x2)
def slices_insertionSortOrdered_rune.l1 : Nat → Int → (List Int) → Int → Int → (List Int) → Int → Option (List Int)
  | 0, _, _, _, _, _, _ => none
  | k + 1, x8, x9, a1, a2, l0, x1 => if x8 > a1 then (if 0 ≤ x8 then (if x8 < (l0.length : Int) then (if 0 ≤ (wrap64 (x8 - 1)) then (if (wrap64 (x8 - 1)) < (l0.length : Int) then ((cmp_Less_rune.f (rd x9 x8) (rd x9 (wrap64 (x8 - 1)))).bind fun t26 => (if t26 = true then ((some (List.set x9 x8.toNat (rd x9 (wrap64 (x8 - 1))) : List Int)).bind fun y33 => ((some (List.set y33 (wrap64 (x8 - 1)).toNat (rd x9 x8) : List Int)).bind fun y37 => ((slices_insertionSortOrdered_rune.l1 k (wrap64 (x8 - 1)) y37 a1 a2 l0 x1)))) else ((slices_insertionSortOrdered_rune.l0 k (wrap64 (x1 + 1)) x9 a1 a2 l0)))) else (none)) else (none)) else (none)) else (none)) else ((slices_insertionSortOrdered_rune.l0 k (wrap64 (x1 + 1)) x9 a1 a2 l0))
end
def slices_insertionSortOrdered_rune.f (k : Nat) (l0 : List Int) (a1 : Int) (a2 : Int) : Option (List Int) := (slices_insertionSortOrdered_rune.l0 k (wrap64 (a1 + 1)) l0 a1 a2 l0)
theorem slices_insertionSortOrdered_rune.mono_l : ∀ k, (∀ y0 y1 y2 y3 y4, LeO (slices_insertionSortOrdered_rune.l0 k y0 y1 y2 y3 y4) (slices_insertionSortOrdered_rune.l0 (k + 1) y0 y1 y2 y3 y4)) ∧ (∀ y0 y1 y2 y3 y4 y5, LeO (slices_insertionSortOrdered_rune.l1 k y0 y1 y2 y3 y4 y5) (slices_insertionSortOrdered_rune.l1 (k + 1) y0 y1 y2 y3 y4 y5))
  | 0 => ⟨fun _ _ _ _ _ r h => by simp [slices_insertionSortOrdered_rune.l0] at h, fun _ _ _ _ _ _ r h => by simp [slices_insertionSortOrdered_rune.l1] at h⟩
  | k + 1 => by
    obtain ⟨ih0, ih1⟩ := slices_insertionSortOrdered_rune.mono_l k
    refine ⟨?_, ?_⟩
    · intro y0 y1 y2 y3 y4
      unfold slices_insertionSortOrdered_rune.l0
      repeat' first
      | (with_reducible exact ih0 _ _ _ _ _)
      | (with_reducible exact ih1 _ _ _ _ _ _)
      | (with_reducible exact LeO.refl _)
      | (with_reducible exact LeO.none _)
      | (with_reducible refine LeO.ite ?_ ?_)
      | (with_reducible refine LeO.bind ?_ (fun _ => ?_))
      | exact ih0 _ _ _ _ _
      | exact ih1 _ _ _ _ _ _
      | exact LeO.none _
      | refine LeO.ite ?_ ?_
      | refine LeO.bind ?_ (fun _ => ?_)
    · intro y0 y1 y2 y3 y4 y5
      unfold slices_insertionSortOrdered_rune.l1
      repeat' first
      | (with_reducible exact ih0 _ _ _ _ _)
      | (with_reducible exact ih1 _ _ _ _ _ _)
      | (with_reducible exact LeO.refl _)
      | (with_reducible exact LeO.none _)
      | (with_reducible refine LeO.ite ?_ ?_)
      | (with_reducible refine LeO.bind ?_ (fun _ => ?_))
      | exact ih0 _ _ _ _ _
      | exact ih1 _ _ _ _ _ _
      | exact LeO.none _
      | refine LeO.ite ?_ ?_
      | refine LeO.bind ?_ (fun _ => ?_)
theorem slices_insertionSortOrdered_rune.mono : ∀ a0_ a1_ a2_ k, LeO (slices_insertionSortOrdered_rune.f k a0_ a1_ a2_) (slices_insertionSortOrdered_rune.f (k + 1) a0_ a1_ a2_) := by
  intro a0_ a1_ a2_ k
  obtain ⟨ih0, ih1⟩ := slices_insertionSortOrdered_rune.mono_l k
  unfold slices_insertionSortOrdered_rune.f
  repeat' first
      | (with_reducible exact ih0 _ _ _ _ _)
      | (with_reducible exact ih1 _ _ _ _ _ _)
      | (with_reducible exact LeO.refl _)
      | (with_reducible exact LeO.none _)
      | (with_reducible refine LeO.ite ?_ ?_)
      | (with_reducible refine LeO.bind ?_ (fun _ => ?_))
      | exact ih0 _ _ _ _ _
      | exact ih1 _ _ _ _ _ _
      | exact LeO.none _
      | refine LeO.ite ?_ ?_
      | refine LeO.bind ?_ (fun _ => ?_)
set_option maxHeartbeats 8000000 in
set_option maxRecDepth 100000 in
theorem slices_insertionSortOrdered_rune.calls (k : Nat) (B_ : Nat) (A0 : Option Addr) (c0 : Nat) (l0 : List Int) (a1 : Int) (a2 : Int) (r : List Int) (w : World) (hB0 : B_ ≤ w.heap.size) (hn0 : Kd.N (Kd.int .i32) 21 w B_ (fun k_ => some k_ = ((.slice A0 l0.length c0) : Value).ownBlock) (.slice A0 l0.length c0) l0) (h : slices_insertionSortOrdered_rune.f k l0 a1 a2 = some r) :
    Calls Try.prog 36 #[(.slice A0 l0.length c0), .int .i64 a1, .int .i64 a2] w (fun e w' => e = .returned (.tuple #[]) ∧ Kd.N (Kd.int .i32) 21 w' B_ (fun k_ => some k_ = ((.slice A0 l0.length c0) : Value).ownBlock ∨ w.heap.size ≤ k_) (.slice A0 l0.length c0) r ∧ (∀ k_ : Nat, some k_ ≠ ((.slice A0 l0.length c0) : Value).ownBlock → k_ < w.heap.size → w'.heap[k_]? = w.heap[k_]?) ∧ Below B_ w w') := by
  unfold slices_insertionSortOrdered_rune.f at h
  have HH := Aside0.mk h
  clear h
  obtain ⟨P0_, HPO⟩ : ∃ P0_ : Nat → Prop, P0_ = (fun k_ => some k_ ≠ ((.slice A0 l0.length c0) : Value).ownBlock) := ⟨_, rfl⟩
  have HFfr := Aside0.mk (MB.frK_new w (fun k_ hk_ => by rw [HPO] at hk_; exact ⟨trivial, hk_⟩) : Kd.F (MB.frK w P0_) w (fun k_ => True ∧ some k_ ≠ ((.slice A0 l0.length c0) : Value).ownBlock) (some ⟨0, 0, none⟩) [()].length [()])
  replace HPO := Aside0.mk HPO
  have hB_ := Aside0.mk hB0
  have HN0 := Aside0.mk (Kd.N_mono hn0 (fun k_ hk_ => ⟨trivial, .inl hk_⟩) : Kd.N (Kd.int .i32) 21 w B_ (fun k_ => True ∧ (some k_ = ((.slice A0 l0.length c0) : Value).ownBlock ∨ w.heap.size ≤ k_)) (.slice A0 l0.length c0) l0)
  clear hn0
  have HB := Aside0.mk (Below.refl B_ w)
  go_enter Try.func36, Try.ntmps36
  go_wp2
  go_loopg [6] k (fun kq u6 w' => ∃ (x1 : Int) (x2 : List Int), u6 = .int .i64 x1 ∧ Aside0 ((slices_insertionSortOrdered_rune.l0 kq x1 x2 a1 a2 l0) = some r) ∧ Aside0 (kq ≤ k) ∧ Aside0 (Kd.F (MB.frK w P0_) w' (fun k_ => True ∧ some k_ ≠ ((.slice A0 l0.length c0) : Value).ownBlock) (some ⟨0, 0, none⟩) [()].length [()]) ∧ Aside0 (Kd.N (Kd.int .i32) 21 w' B_ (fun k_ => True ∧ (some k_ = ((.slice A0 l0.length c0) : Value).ownBlock ∨ w.heap.size ≤ k_)) (.slice A0 l0.length c0) x2) ∧ Aside0 (Below B_ w w'))
  case atStart => exact ⟨wrap64 (a1 + 1), l0, (by first | rfl | (simp; done) | (simp [*]; done)), HH, ⟨Nat.le_refl _⟩, ⟨(Kd.F_mono (ok := (fun k_ => True ∧ some k_ ≠ ((.slice A0 l0.length c0) : Value).ownBlock)) HFfr.out (fun k_ hk_ => hk_))⟩, ⟨(Kd.N_mono (ok := (fun k_ => True ∧ (some k_ = ((.slice A0 l0.length c0) : Value).ownBlock ∨ w.heap.size ≤ k_))) HN0.out (fun k_ hk_ => hk_))⟩, ⟨HB.out⟩⟩
  case round =>
    clear HH
    clear HFfr HN0 HB
    obtain ⟨x1, x2, rfl, HA, HK0, HFfr, HN0, HB⟩ := hrel
    obtain ⟨w4, rfl⟩ : ∃ wo_ : World, wo_ = wr := ⟨_, rfl⟩
    cases gk with
    | zero => exact absurd HA.out (by simp [slices_insertionSortOrdered_rune.l0])
    | succ k3 =>
      have H := HA.out
      clear HA
      simp only [slices_insertionSortOrdered_rune.l0] at H
      have HH := Aside0.mk H
      clear H
      replace HH := zqt HH
      rcases HH with ⟨HH, hk6, hk7⟩ | ⟨HH, hk49, hk50⟩
      · go_wp2
        go_loopg [7] k3 (fun kq u7 w' => ∃ (x8 : Int) (x9 : List Int), u7 = .int .i64 x8 ∧ Aside0 ((slices_insertionSortOrdered_rune.l1 kq x8 x9 a1 a2 l0 x1) = some r) ∧ Aside0 (kq ≤ k3) ∧ Aside0 (Kd.F (MB.frK w P0_) w' (fun k_ => True ∧ some k_ ≠ ((.slice A0 l0.length c0) : Value).ownBlock) (some ⟨0, 0, none⟩) [()].length [()]) ∧ Aside0 (Kd.N (Kd.int .i32) 21 w' B_ (fun k_ => True ∧ (some k_ = ((.slice A0 l0.length c0) : Value).ownBlock ∨ w.heap.size ≤ k_)) (.slice A0 l0.length c0) x9) ∧ Aside0 (Below B_ w w'))
        case atStart => exact ⟨x1, x2, (by first | rfl | (simp; done) | (simp [*]; done)), HH, ⟨Nat.le_refl _⟩, ⟨(Kd.F_mono (ok := (fun k_ => True ∧ some k_ ≠ ((.slice A0 l0.length c0) : Value).ownBlock)) HFfr.out (fun k_ hk_ => hk_))⟩, ⟨(Kd.N_mono (ok := (fun k_ => True ∧ (some k_ = ((.slice A0 l0.length c0) : Value).ownBlock ∨ w.heap.size ≤ k_))) HN0.out (fun k_ hk_ => hk_))⟩, ⟨HB.out⟩⟩
        case round =>
          clear hk6
          clear hk7
          clear HH
          clear HFfr HN0 HB
          obtain ⟨x8, x9, rfl, HA, HK1, HFfr, HN0, HB⟩ := hrel
          obtain ⟨w11, rfl⟩ : ∃ wo_ : World, wo_ = wr := ⟨_, rfl⟩
          cases gk with
          | zero => exact absurd HA.out (by simp [slices_insertionSortOrdered_rune.l1])
          | succ k10 =>
            have H := HA.out
            clear HA
            simp only [slices_insertionSortOrdered_rune.l1] at H
            have HH := Aside0.mk H
            clear H
            replace HH := zqg HH
            rcases HH with ⟨HH, hk13⟩ | ⟨HH, hk47⟩
            · replace HH := zqdo HH
              obtain ⟨HH, hk15⟩ := HH
              replace HH := zqto HH
              obtain ⟨HH, hk17, hk18⟩ := HH
              have p19 : 0 ≤ (x8 : Int) := of_decide_eq_true (by first | (with_reducible assumption) | assumption)
              have q19 : x8 < (l0.length : Int) := of_decide_eq_true (by first | (with_reducible assumption) | assumption)
              obtain ⟨ad19, e19, hx19_0⟩ := Kd.at_int (Kd.F_now (Kd.N_F HN0.out)) x8 p19 q19
              cases e19
              replace p19 := eq_true p19
              replace q19 := eq_true q19
              replace HH := zqdo HH
              obtain ⟨HH, hk21⟩ := HH
              replace HH := zqto HH
              obtain ⟨HH, hk23, hk24⟩ := HH
              have p25 : 0 ≤ ((wrap64 (x8 - 1)) : Int) := of_decide_eq_true (by first | (with_reducible assumption) | assumption)
              have q25 : (wrap64 (x8 - 1)) < (l0.length : Int) := of_decide_eq_true (by first | (with_reducible assumption) | assumption)
              obtain ⟨ad25, e25, hx25_0⟩ := Kd.at_int (Kd.F_now (Kd.N_F HN0.out)) (wrap64 (x8 - 1)) p25 q25
              cases e25
              replace p25 := eq_true p25
              replace q25 := eq_true q25
              replace HH := zd HH
              obtain ⟨t26, At27, HH⟩ := HH
              by_cases c28 : t26 = true
              · replace HH := MW.hpos HH c28
                subst c28
                go_wp2
                go_quiet ((first | (go_at_call 42; first | exact Calls.quiet_of (MW.drawn (cmp_Less_rune.calls  (rd x9 x8) (rd x9 (wrap64 (x8 - 1))) true _  At27.out)) | exact MW.quiet_far (MW.drawn (cmp_Less_rune.calls  (rd x9 x8) (rd x9 (wrap64 (x8 - 1))) true _  At27.out)))))
                go_wp2
                refine MW.name_world (W0 := w11) (by repeat (first | exact Drawn0.refl _ | apply Drawn0.step)) ?_
                intro w29 hb
                replace HFfr := zfb HFfr.out hb
                replace HN0 := znb HN0.out hb
                replace HB := Aside0.mk (MB.below_stepB hB_.out HB.out hb)
                clear hb
                clear hx19_0 p19 q19 hx25_0 p25 q25
                go_wp2
                have hwr_ : ∀ n_ : Int, IntKind.i64.wrap n_ = wrap64 n_ := fun n_ => IntWalk.i64_left n_
                refine wp_region_any (by kernel_rfl) ?_
                change wpAny _ _ _ _ 18 #[false, false, false, false, false, false, false, false, false, false, false, false, false, false, false, false, false, false] _ w29.drew
                obtain ⟨w30, hw_⟩ : ∃ w_ : World, w_ = w29.drew := ⟨_, rfl⟩
                rw [← hw_]
                have hb : Below w29.heap.size w29 w30 := by rw [hw_]; exact below_drew1 (Below.refl _ _)
                clear hw_
                replace HFfr := zfb HFfr.out hb
                replace HN0 := znb HN0.out hb
                replace HB := Aside0.mk (MB.below_stepB hB_.out HB.out hb)
                clear hb
                refine MW.any_take (i := 0) (v := (.slice (some ad19) l0.length c0)) (listed' := #[true, false, false, false, false, false, false, false, false, false, false, false, false, false, false, false, false, false]) (a' := ⟨[_, _, _, _, _, _, _, _, _, _, _, _, _, _, _, _, _, _, _, _, _, _, _, _, _, _, _, _, _, _, _, _, _, _, _, _, _, _, _, _, _, _, _, _, _, _, _, _, _].toArray, []⟩) rfl (by kernel_rfl) (by kernel_rfl) (by kernel_rfl) (fun _ _ _ h_ => h_) (.inl ⟨(by kernel_rfl), fun _ => (by first | rfl | (go_simp; done) | (go_simp; rfl))⟩) (by kernel_rfl) rfl ?_
                refine MW.any_take (i := 1) (v := .int .i64 x8) (listed' := #[true, true, false, false, false, false, false, false, false, false, false, false, false, false, false, false, false, false]) (a' := ⟨[_, _, _, _, _, _, _, _, _, _, _, _, _, _, _, _, _, _, _, _, _, _, _, _, _, _, _, _, _, _, _, _, _, _, _, _, _, _, _, _, _, _, _, _, _, _, _, _, _].toArray, []⟩) rfl (by kernel_rfl) (by kernel_rfl) (by kernel_rfl) (fun _ _ _ h_ => h_) (.inl ⟨(by kernel_rfl), fun _ => (by first | rfl | (go_simp; done) | (go_simp; rfl))⟩) (by kernel_rfl) rfl ?_
                refine MW.any_take (i := 2) (v := (.slice (some ad19) l0.length c0)) (listed' := #[true, true, true, false, false, false, false, false, false, false, false, false, false, false, false, false, false, false]) (a' := ⟨[_, _, _, _, _, _, _, _, _, _, _, _, _, _, _, _, _, _, _, _, _, _, _, _, _, _, _, _, _, _, _, _, _, _, _, _, _, _, _, _, _, _, _, _, _, _, _, _, _].toArray, []⟩) rfl (by kernel_rfl) (by kernel_rfl) (by kernel_rfl) (fun _ _ _ h_ => h_) (.inl ⟨(by kernel_rfl), fun _ => (by first | rfl | (go_simp; done) | (go_simp; rfl))⟩) (by kernel_rfl) rfl ?_
                refine MW.any_take (i := 3) (v := .int .i64 x8) (listed' := #[true, true, true, true, false, false, false, false, false, false, false, false, false, false, false, false, false, false]) (a' := ⟨[_, _, _, _, _, _, _, _, _, _, _, _, _, _, _, _, _, _, _, _, _, _, _, _, _, _, _, _, _, _, _, _, _, _, _, _, _, _, _, _, _, _, _, _, _, _, _, _, _].toArray, []⟩) rfl (by kernel_rfl) (by kernel_rfl) (by kernel_rfl) (fun _ _ _ h_ => h_) (.inl ⟨(by kernel_rfl), fun _ => (by first | rfl | (go_simp; done) | (go_simp; rfl))⟩) (by kernel_rfl) rfl ?_
                refine MW.any_take (i := 4) (v := .int .i64 (wrap64 (x8 - 1))) (listed' := #[true, true, true, true, true, false, false, false, false, false, false, false, false, false, false, false, false, false]) (a' := ⟨[_, _, _, _, _, _, _, _, _, _, _, _, _, _, _, _, _, _, _, _, _, _, _, _, _, _, _, _, _, _, _, _, _, _, _, _, _, _, _, _, _, _, _, _, _, _, _, _, _].toArray, []⟩) rfl (by kernel_rfl) (by kernel_rfl) (by kernel_rfl) (fun _ _ _ h_ => h_) (.inl ⟨(by kernel_rfl), fun _ => (by first | rfl | (go_simp; done) | (go_simp; rfl))⟩) (by kernel_rfl) rfl ?_
                refine MW.any_take (i := 5) (v := (.slice (some ad19) l0.length c0)) (listed' := #[true, true, true, true, true, true, false, false, false, false, false, false, false, false, false, false, false, false]) (a' := ⟨[_, _, _, _, _, _, _, _, _, _, _, _, _, _, _, _, _, _, _, _, _, _, _, _, _, _, _, _, _, _, _, _, _, _, _, _, _, _, _, _, _, _, _, _, _, _, _, _, _].toArray, []⟩) rfl (by kernel_rfl) (by kernel_rfl) (by kernel_rfl) (fun _ _ _ h_ => h_) (.inl ⟨(by kernel_rfl), fun _ => (by first | rfl | (go_simp; done) | (go_simp; rfl))⟩) (by kernel_rfl) rfl ?_
                refine MW.any_take (i := 6) (v := .int .i64 x8) (listed' := #[true, true, true, true, true, true, true, false, false, false, false, false, false, false, false, false, false, false]) (a' := ⟨[_, _, _, _, _, _, _, _, _, _, _, _, _, _, _, _, _, _, _, _, _, _, _, _, _, _, _, _, _, _, _, _, _, _, _, _, _, _, _, _, _, _, _, _, _, _, _, _, _].toArray, []⟩) rfl (by kernel_rfl) (by kernel_rfl) (by kernel_rfl) (fun _ _ _ h_ => h_) (.inl ⟨(by kernel_rfl), fun _ => (by first | rfl | (go_simp; done) | (go_simp; rfl))⟩) (by kernel_rfl) rfl ?_
                refine MW.any_take (i := 7) (v := .int .i64 (wrap64 (x8 - 1))) (listed' := #[true, true, true, true, true, true, true, true, false, false, false, false, false, false, false, false, false, false]) (a' := ⟨[_, _, _, _, _, _, _, _, _, _, _, _, _, _, _, _, _, _, _, _, _, _, _, _, _, _, _, _, _, _, _, _, _, _, _, _, _, _, _, _, _, _, _, _, _, _, _, _, _].toArray, []⟩) rfl (by kernel_rfl) (by kernel_rfl) (by kernel_rfl) (fun _ _ _ h_ => h_) (.inl ⟨(by kernel_rfl), fun _ => (by first | rfl | (go_simp; done) | (go_simp; rfl))⟩) (by kernel_rfl) rfl ?_
                have p31 : 0 ≤ ((wrap64 (x8 - 1)) : Int) := of_decide_eq_true (by first | (with_reducible assumption) | assumption)
                have q31 : (wrap64 (x8 - 1)) < (l0.length : Int) := of_decide_eq_true (by first | (with_reducible assumption) | assumption)
                obtain ⟨ad31, e31, hx31_0⟩ := Kd.at_int (Kd.F_now (Kd.N_F HN0.out)) (wrap64 (x8 - 1)) p31 q31
                cases e31
                replace p31 := eq_true p31
                replace q31 := eq_true q31
                refine MW.any_take (i := 8) (v := .pointer (some (ad19.add ((wrap64 (x8 - 1)).toNat)))) (listed' := #[true, true, true, true, true, true, true, true, true, false, false, false, false, false, false, false, false, false]) (a' := ⟨[_, _, _, _, _, _, _, _, _, _, _, _, _, _, _, _, _, _, _, _, _, _, _, _, _, _, _, _, _, _, _, _, _, _, _, _, _, _, _, _, _, _, _, _, _, _, _, _, _].toArray, []⟩) rfl (by kernel_rfl) (by kernel_rfl) (by kernel_rfl) (fun _ _ _ h_ => h_) (.inl ⟨(by kernel_rfl), fun _ => (by first | rfl | (go_simp; done) | (go_simp; rfl))⟩) (by kernel_rfl) rfl ?_
                refine MW.any_take (i := 10) (v := (.slice (some ad19) l0.length c0)) (listed' := #[true, true, true, true, true, true, true, true, true, false, true, false, false, false, false, false, false, false]) (a' := ⟨[_, _, _, _, _, _, _, _, _, _, _, _, _, _, _, _, _, _, _, _, _, _, _, _, _, _, _, _, _, _, _, _, _, _, _, _, _, _, _, _, _, _, _, _, _, _, _, _, _].toArray, []⟩) rfl (by kernel_rfl) (by kernel_rfl) (by kernel_rfl) (fun _ _ _ h_ => h_) (.inl ⟨(by kernel_rfl), fun _ => (by first | rfl | (go_simp; done) | (go_simp; rfl))⟩) (by kernel_rfl) rfl ?_
                refine MW.any_take (i := 11) (v := .int .i64 x8) (listed' := #[true, true, true, true, true, true, true, true, true, false, true, true, false, false, false, false, false, false]) (a' := ⟨[_, _, _, _, _, _, _, _, _, _, _, _, _, _, _, _, _, _, _, _, _, _, _, _, _, _, _, _, _, _, _, _, _, _, _, _, _, _, _, _, _, _, _, _, _, _, _, _, _].toArray, []⟩) rfl (by kernel_rfl) (by kernel_rfl) (by kernel_rfl) (fun _ _ _ h_ => h_) (.inl ⟨(by kernel_rfl), fun _ => (by first | rfl | (go_simp; done) | (go_simp; rfl))⟩) (by kernel_rfl) rfl ?_
                have p32 : 0 ≤ (x8 : Int) := of_decide_eq_true (by first | (with_reducible assumption) | assumption)
                have q32 : x8 < (l0.length : Int) := of_decide_eq_true (by first | (with_reducible assumption) | assumption)
                obtain ⟨ad32, e32, hx32_0⟩ := Kd.at_int (Kd.F_now (Kd.N_F HN0.out)) x8 p32 q32
                cases e32
                replace p32 := eq_true p32
                replace q32 := eq_true q32
                refine MW.any_take (i := 12) (v := .pointer (some (ad19.add (x8.toNat)))) (listed' := #[true, true, true, true, true, true, true, true, true, false, true, true, true, false, false, false, false, false]) (a' := ⟨[_, _, _, _, _, _, _, _, _, _, _, _, _, _, _, _, _, _, _, _, _, _, _, _, _, _, _, _, _, _, _, _, _, _, _, _, _, _, _, _, _, _, _, _, _, _, _, _, _].toArray, []⟩) rfl (by kernel_rfl) (by kernel_rfl) (by kernel_rfl) (fun _ _ _ h_ => h_) (.inl ⟨(by kernel_rfl), fun _ => (by first | rfl | (go_simp; done) | (go_simp; rfl))⟩) (by kernel_rfl) rfl ?_
                refine MW.any_two (i := 9) (j := 13) (vi := .int .i32 (rd x9 (wrap64 (x8 - 1)))) (vj := .int .i32 (rd x9 x8)) #[true, true, true, true, true, true, true, true, true, true, true, true, true, true, false, false, false, false] ⟨[(.slice (some ad19) l0.length c0), (.int .i64 a1), (.int .i64 a2), undef, undef, undef, (.int .i64 x1), (.int .i64 x8), (.int .i64 a1), (.int .i64 (wrap64 (a1 + 1))), (.int .i64 x1), (.int .i64 a2), (.bool true), u13, u14, (.int .i64 x1), (.int .i64 x8), (.int .i64 a1), (.bool true), (.bool true), (.slice (some ad19) l0.length c0), (.int .i64 x8), (.pointer (some (ad19.add (x8.toNat)))), (.int .i32 (rd x9 x8)), (.slice (some ad19) l0.length c0), (.int .i64 x8), (.int .i64 (wrap64 (x8 - 1))), (.pointer (some (ad19.add ((wrap64 (x8 - 1)).toNat)))), (.int .i32 (rd x9 (wrap64 (x8 - 1)))), (.bool true), (.bool true), u31, u32, (.slice (some ad19) l0.length c0), (.int .i64 x8), (.slice (some ad19) l0.length c0), (.int .i64 x8), (.int .i64 (wrap64 (x8 - 1))), (.slice (some ad19) l0.length c0), (.int .i64 x8), (.int .i64 (wrap64 (x8 - 1))), (.pointer (some (ad19.add ((wrap64 (x8 - 1)).toNat)))), (.int .i32 (rd x9 (wrap64 (x8 - 1)))), (.slice (some ad19) l0.length c0), (.int .i64 x8), (.pointer (some (ad19.add (x8.toNat)))), (.int .i32 (rd x9 x8)), u47, u48].toArray, []⟩ (by decide) rfl rfl (by kernel_rfl) (by kernel_rfl) (by kernel_rfl) (by kernel_rfl) (by kernel_rfl) (by first | rfl | (go_simp; done) | (go_simp; rfl)) (by first | rfl | (go_simp; done) | (go_simp; rfl)) (by first | rfl | (go_simp; done) | (go_simp; rfl)) (by first | rfl | (go_simp; done) | (go_simp; rfl)) (by kernel_rfl) (by kernel_rfl) (by kernel_rfl) (by kernel_rfl) (by kernel_rfl) (by kernel_rfl) ?_
                refine MW.any_take (i := 14) (v := .pointer (some (ad19.add (x8.toNat)))) (listed' := #[true, true, true, true, true, true, true, true, true, true, true, true, true, true, true, false, false, false]) (a' := ⟨[_, _, _, _, _, _, _, _, _, _, _, _, _, _, _, _, _, _, _, _, _, _, _, _, _, _, _, _, _, _, _, _, _, _, _, _, _, _, _, _, _, _, _, _, _, _, _, _, _].toArray, []⟩) rfl (by kernel_rfl) (by kernel_rfl) (by kernel_rfl) (fun _ _ _ h_ => h_) (.inl ⟨(by kernel_rfl), fun _ => (by first | rfl | (go_simp; done) | (go_simp; rfl))⟩) (by kernel_rfl) rfl ?_
                refine MW.any_seq 15 3 rfl (by kernel_rfl) ?_
                simp only [List.drop_succ_cons, List.drop_zero]
                clear hwr_
                obtain ⟨y33, hy33⟩ : ∃ y_ : List Int, y_ = (List.set x9 x8.toNat (rd x9 (wrap64 (x8 - 1)))) := ⟨_, rfl⟩
                have H : ((some (List.set y33 (wrap64 (x8 - 1)).toNat (rd x9 x8) : List Int)).bind fun y37 => ((slices_insertionSortOrdered_rune.l1 k10 (wrap64 (x8 - 1)) y37 a1 a2 l0 x1))) = some r := by rw [hy33]; exact HH.out
                replace HH := Aside0.mk H
                clear H
                have NYy33 := Aside0.mk hy33
                clear hy33
                go_wp2_with (((with_reducible refine gate_store (t := 21) (p := 47) rfl ?_); (try (refine gate_guard (by rfl) ?_; dsimp only)); refine MW.ev_set1 (n := l0.length) B_ rfl rfl _ _ _ rfl 21 x8 x9 (rd x9 (wrap64 (x8 - 1))) (fun k_ => True ∧ (some k_ = ((.slice (some ad19) l0.length c0) : Value).ownBlock ∨ w.heap.size ≤ k_)) (by rfl) (by rfl) (by kernel_rfl) HN0.out (of_decide_eq_true (by first | (with_reducible assumption) | assumption)) (of_decide_eq_true (by first | (with_reducible assumption) | assumption)) HB.out ?_; intro w34 hn1 hb1 hg1); refine stop_ ?_)
                refine Stop.go ?_
                replace HFfr := Aside0.mk (Kd.F_grown (ok := (fun k_ => True ∧ some k_ ≠ ((.slice (some ad19) l0.length c0) : Value).ownBlock)) HFfr.out hg1 (fun k_ hk_ => hk_.2))
                replace HB := Aside0.mk hb1
                clear HN0
                have HN35 := Aside0.mk (by rw [NYy33.out]; exact hn1 : Kd.N (Kd.int .i32) 21 w34 B_ (fun k_ => True ∧ (some k_ = ((.slice (some ad19) l0.length c0) : Value).ownBlock ∨ w.heap.size ≤ k_)) (.slice (some ad19) l0.length c0) y33)
                clear hn1 hb1 hg1
                clear hx31_0 p31 q31 hx32_0 p32 q32
                have p36 : 0 ≤ ((wrap64 (x8 - 1)) : Int) := of_decide_eq_true (by first | (with_reducible assumption) | assumption)
                have q36 : (wrap64 (x8 - 1)) < (l0.length : Int) := of_decide_eq_true (by first | (with_reducible assumption) | assumption)
                obtain ⟨ad36, e36, hx36_0⟩ := Kd.at_int (Kd.F_now (Kd.N_F HN35.out)) (wrap64 (x8 - 1)) p36 q36
                cases e36
                replace p36 := eq_true p36
                replace q36 := eq_true q36
                obtain ⟨y37, hy37⟩ : ∃ y_ : List Int, y_ = (List.set y33 (wrap64 (x8 - 1)).toNat (rd x9 x8)) := ⟨_, rfl⟩
                have H : ((slices_insertionSortOrdered_rune.l1 k10 (wrap64 (x8 - 1)) y37 a1 a2 l0 x1)) = some r := by rw [hy37]; exact HH.out
                replace HH := Aside0.mk H
                clear H
                have NYy37 := Aside0.mk hy37
                clear hy37
                go_wp2_with (((with_reducible refine gate_store (t := 21) (p := 48) rfl ?_); (try (refine gate_guard (by rfl) ?_; dsimp only)); refine MW.ev_set1 (n := l0.length) B_ rfl rfl _ _ _ rfl 21 (wrap64 (x8 - 1)) y33 (rd x9 x8) (fun k_ => True ∧ (some k_ = ((.slice (some ad19) l0.length c0) : Value).ownBlock ∨ w.heap.size ≤ k_)) (by rfl) (by rfl) (by kernel_rfl) HN35.out (of_decide_eq_true (by first | (with_reducible assumption) | assumption)) (of_decide_eq_true (by first | (with_reducible assumption) | assumption)) HB.out ?_; intro w38 hn1 hb1 hg1); refine stop_ ?_)
                refine Stop.go ?_
                replace HFfr := Aside0.mk (Kd.F_grown (ok := (fun k_ => True ∧ some k_ ≠ ((.slice (some ad19) l0.length c0) : Value).ownBlock)) HFfr.out hg1 (fun k_ hk_ => hk_.2))
                replace HB := Aside0.mk hb1
                clear HN35
                have HN39 := Aside0.mk (by rw [NYy37.out]; exact hn1 : Kd.N (Kd.int .i32) 21 w38 B_ (fun k_ => True ∧ (some k_ = ((.slice (some ad19) l0.length c0) : Value).ownBlock ∨ w.heap.size ≤ k_)) (.slice (some ad19) l0.length c0) y37)
                clear hn1 hb1 hg1
                clear hx36_0 p36 q36
                go_wp2
                go_roundg k10
                case measure => have := HK0.out; have := HK1.out; omega
                case rel => exact ⟨wrap64 (x8 - 1), y37, (by first | rfl | (simp; done) | (simp [*]; done)), HH, ⟨by have := HK0.out; have := HK1.out; omega⟩, ⟨(Kd.F_mono (ok := (fun k_ => True ∧ some k_ ≠ ((.slice (some ad19) l0.length c0) : Value).ownBlock)) HFfr.out (fun k_ hk_ => hk_))⟩, ⟨(Kd.N_mono (ok := (fun k_ => True ∧ (some k_ = ((.slice (some ad19) l0.length c0) : Value).ownBlock ∨ w.heap.size ≤ k_))) HN39.out (fun k_ hk_ => hk_))⟩, ⟨HB.out⟩⟩
              · replace HH := MW.hneg HH c28
                replace c28 := Bool.eq_false_iff.mpr c28
                subst c28
                go_wp2
                go_quiet ((first | (go_at_call 42; first | exact Calls.quiet_of (MW.drawn (cmp_Less_rune.calls  (rd x9 x8) (rd x9 (wrap64 (x8 - 1))) false _  At27.out)) | exact MW.quiet_far (MW.drawn (cmp_Less_rune.calls  (rd x9 x8) (rd x9 (wrap64 (x8 - 1))) false _  At27.out)))))
                repeat (first | (refine MQ.code_stop (id := 2) ?_) | go_values | go_skip | go_guarded | go_step | go_upon)
                refine Stop.go ?_
                refine MW.name_world (W0 := w11) (by repeat (first | exact Drawn0.refl _ | apply Drawn0.step)) ?_
                intro w40 hb
                replace HFfr := zfb HFfr.out hb
                replace HN0 := znb HN0.out hb
                replace HB := Aside0.mk (MB.below_stepB hB_.out HB.out hb)
                clear hb
                clear hx19_0 p19 q19 hx25_0 p25 q25
                go_wp2
                go_roundg k10
                case measure => have := HK0.out; have := HK1.out; omega
                case rel => exact ⟨wrap64 (x1 + 1), x9, (by first | rfl | (simp; done) | (simp [*]; done)), HH, ⟨by have := HK0.out; have := HK1.out; omega⟩, ⟨(Kd.F_mono (ok := (fun k_ => True ∧ some k_ ≠ ((.slice (some ad19) l0.length c0) : Value).ownBlock)) HFfr.out (fun k_ hk_ => hk_))⟩, ⟨(Kd.N_mono (ok := (fun k_ => True ∧ (some k_ = ((.slice (some ad19) l0.length c0) : Value).ownBlock ∨ w.heap.size ≤ k_))) HN0.out (fun k_ hk_ => hk_))⟩, ⟨HB.out⟩⟩
            · go_wp2
              go_quiet ((first | (go_at_call 42; first | exact Calls.quiet_of (MW.drawn (cmp_Less_rune.calls  (rd x9 x8) (rd x9 (wrap64 (x8 - 1))) t26 _  At27.out)) | exact MW.quiet_far (MW.drawn (cmp_Less_rune.calls  (rd x9 x8) (rd x9 (wrap64 (x8 - 1))) t26 _  At27.out)))))
              repeat (first | (refine MQ.code_stop (id := 2) ?_) | go_values | go_skip | go_guarded | go_step | go_upon)
              refine Stop.go ?_
              refine MW.name_world (W0 := w11) (by repeat (first | exact Drawn0.refl _ | apply Drawn0.step)) ?_
              intro w48 hb
              replace HFfr := zfb HFfr.out hb
              replace HN0 := znb HN0.out hb
              replace HB := Aside0.mk (MB.below_stepB hB_.out HB.out hb)
              clear hb
              go_wp2
              go_roundg k10
              case measure => have := HK0.out; have := HK1.out; omega
              case rel => exact ⟨wrap64 (x1 + 1), x9, (by first | rfl | (simp; done) | (simp [*]; done)), HH, ⟨by have := HK0.out; have := HK1.out; omega⟩, ⟨(Kd.F_mono (ok := (fun k_ => True ∧ some k_ ≠ ((.slice A0 l0.length c0) : Value).ownBlock)) HFfr.out (fun k_ hk_ => hk_))⟩, ⟨(Kd.N_mono (ok := (fun k_ => True ∧ (some k_ = ((.slice A0 l0.length c0) : Value).ownBlock ∨ w.heap.size ≤ k_))) HN0.out (fun k_ hk_ => hk_))⟩, ⟨HB.out⟩⟩
      · have H := HH.out
        obtain rfl := Option.some.inj H
        clear HH
        go_wp2
        (first | go_end0 | ((try simp only [Exit.inBlock, Exit.then]); refine bodyPost_ret (results_none rfl _ _ _) rfl ?_))
        exact ⟨by first | rfl | (simp; done) | (simp [*]; done), (Kd.N_mono (ok := (fun k_ => True ∧ (some k_ = ((.slice A0 l0.length c0) : Value).ownBlock ∨ w.heap.size ≤ k_))) HN0.out (fun k_ hk_ => hk_.2)), (fun k_ hv_ hlt_ => MB.frK_out HFfr.out k_ (by rw [HPO.out]; exact hv_) hlt_), HB.out⟩
end Go.Proofs.Ytcokpnajkkjclaa.GA
