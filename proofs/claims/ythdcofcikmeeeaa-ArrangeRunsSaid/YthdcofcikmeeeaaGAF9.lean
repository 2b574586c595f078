-- written by wip/gen.py, a program of this session
import Derived.Test.YthdcofcikmeeeaaGA0
import Derived.Test.YthdcofcikmeeeaaGAF17
import Derived.Test.YthdcofcikmeeeaaGAF18
namespace Go.Proofs.Ythdcofcikmeeeaa.GA
open Go.RowKit Go.Proofs.Ythdcofcikmeeeaa Go.Proofs.Ythdcofcikmeeeaa.MW Go.Proofs.YthdcofcikmeeeaaW.PrintWords Go.Proofs.YthdcofcikmeeeaaW.PrintLast Go.Proofs.YthdcofcikmeeeaaW.PrintMore
attribute [local go_sem] max2_int min2_int max_two min_two
set_option linter.unusedVariables false
set_option linter.unusedSimpArgs false

/-! ### arrange_Order: function 9 -/
def arrange_Order.l0 : Nat → Int → (List Int) → Option (List Int)
  | 0, _, _ => none
  | k + 1, x5, x6 => if x5 ≥ (x6.length : Int) then (some x6) else (if x5 > 0 then (if 0 ≤ (wrap64 (x5 - 1)) then (if (wrap64 (x5 - 1)) < (x6.length : Int) then (if 0 ≤ x5 then (if x5 < (x6.length : Int) then ((arrange_wrong.f (rd x6 (wrap64 (x5 - 1))) (rd x6 x5)).bind fun t29 => (if t29 = true then ((some (List.set x6 (wrap64 (x5 - 1)).toNat (rd x6 x5) : List Int)).bind fun y36 => ((some (List.set y36 x5.toNat (rd x6 (wrap64 (x5 - 1))) : List Int)).bind fun y40 => ((arrange_Order.l0 k (wrap64 (x5 - 1)) y40)))) else ((arrange_Order.l0 k (wrap64 (x5 + 1)) x6)))) else (none)) else (none)) else (none)) else (none)) else ((arrange_Order.l0 k (wrap64 (x5 + 1)) x6)))
def arrange_Order.f (k : Nat) (l0 : List Int) : Option (List Int) := (Clone_17.f l0).bind fun t1 => ((arrange_Order.l0 k 1 t1))
theorem arrange_Order.mono_l : ∀ k, (∀ y0 y1, LeO (arrange_Order.l0 k y0 y1) (arrange_Order.l0 (k + 1) y0 y1))
  | 0 => fun _ _ r h => by simp [arrange_Order.l0] at h
  | k + 1 => by
    have ih0 := arrange_Order.mono_l k
    · intro y0 y1
      unfold arrange_Order.l0
      repeat' first
      | (with_reducible exact ih0 _ _)
      | (with_reducible exact LeO.refl _)
      | (with_reducible exact LeO.none _)
      | (with_reducible refine LeO.ite ?_ ?_)
      | (with_reducible refine LeO.bind ?_ (fun _ => ?_))
      | exact ih0 _ _
      | exact LeO.none _
      | refine LeO.ite ?_ ?_
      | refine LeO.bind ?_ (fun _ => ?_)
theorem arrange_Order.mono : ∀ a0_ k, LeO (arrange_Order.f k a0_) (arrange_Order.f (k + 1) a0_) := by
  intro a0_ k
  have ih0 := arrange_Order.mono_l k
  unfold arrange_Order.f
  repeat' first
      | (with_reducible exact ih0 _ _)
      | (with_reducible exact LeO.refl _)
      | (with_reducible exact LeO.none _)
      | (with_reducible refine LeO.ite ?_ ?_)
      | (with_reducible refine LeO.bind ?_ (fun _ => ?_))
      | exact ih0 _ _
      | exact LeO.none _
      | refine LeO.ite ?_ ?_
      | refine LeO.bind ?_ (fun _ => ?_)
set_option maxHeartbeats 8000000 in
set_option maxRecDepth 100000 in
theorem arrange_Order.calls (k : Nat) (P_ : Nat → Prop) (A0 : Option Addr) (c0 : Nat) (l0 : List Int) (r : List Int) (w : World) (hs0 : Kd.F (Kd.int .i32) w P_ A0 l0.length l0) (hc0 : l0.length ≤ c0) (h : arrange_Order.f k l0 = some r) :
    Calls Try.prog 9 #[.slice A0 l0.length c0] w (fun e w' => ∃ v0_ : Value, e = .returned (v0_) ∧ Kd.N (Kd.int .i32) 21 w' w.heap.size (fun k_ => P_ k_ ∨ w.heap.size ≤ k_) v0_ r ∧ Below w.heap.size w w') := by
  have HH := Aside0.mk (show ((Clone_17.f l0).bind fun t1 => ((arrange_Order.l0 k 1 t1))) = some r from h)
  clear h
  have HF0 := Aside0.mk (Kd.F_mono hs0 (fun k_ hk_ => (.inl hk_ : P_ k_ ∨ w.heap.size ≤ k_)))
  have HL0 := Aside0.mk hc0
  clear hs0 hc0
  have HB := Aside0.mk (Below.refl w.heap.size w)
  go_enter Try.func9, Try.ntmps9
  have H := HH.out
  replace H := Option.bind_eq_some_iff.mp H
  obtain ⟨t1, at_, H⟩ := H
  have At2 := Aside0.mk at_
  clear at_
  replace HH := Aside0.mk (show ((arrange_Order.l0 k 1 t1)) = some r from H)
  clear H
  (try go_wp2)
  refine MW.scope_labs ?_
  go_wp2_with (((with_reducible refine gate_callee (f := 17) rfl ?_); (try (refine gate_guard (by rfl) ?_; dsimp only)); refine goesL_ (some 6) rfl rfl Try.func17 (by kernel_rfl) rfl #[.slice A0 l0.length c0] rfl (by (try simp only [List.map_toArray, List.map_cons, List.map_nil]); first | done | rfl | (simp only [List.length_drop, List.length_take]; rfl)) ?_; (with_reducible refine (Clone_17.calls (fun k_ => (P_ k_ ∨ w.heap.size ≤ k_)) _ _ l0 t1 _ (Kd.F_mono (ok := (fun k_ => (P_ k_ ∨ w.heap.size ≤ k_))) HF0.out (fun k_ hk_ => hk_)) HL0.out At2.out).mono ?_); rintro e w3 ⟨v4, rfl, hn4, hb⟩; refine ⟨_, rfl, ?_⟩); refine stop_ ?_)
  refine Stop.go ?_
  have hba := Kd.N_base hn4
  have HN4 := Aside0.mk (Kd.N_mono (Kd.N_lower hn4 (below_size HB.out)) (fun k_ hk_ => hk_.elim (fun h_ => h_) (fun h_ => .inr (Nat.le_trans (below_size HB.out) h_))) : Kd.N (Kd.int .i32) 21 w3 w.heap.size (fun k_ => (P_ k_ ∨ w.heap.size ≤ k_)) v4 t1)
  replace HF0 := Aside0.mk (Kd.F_mono (Kd.F_elder' (ok := (fun k_ => (P_ k_ ∨ w.heap.size ≤ k_))) HF0.out hba hb) (fun k_ hk_ => ⟨hk_.1, hk_.2⟩) : Kd.F (Kd.int .i32) _ (fun k_ => (P_ k_ ∨ w.heap.size ≤ k_) ∧ some k_ ≠ (v4 : Value).ownBlock) _ _ _)
  replace HB := Aside0.mk (below_step HB.out hb)
  clear hn4 hba hb
  go_wp2
  refine MW.lab_loop 0 (by assumption) (by kernel_rfl) (fun kq a_ w' => ∃ (u2 u4 u7 u8 u9 u10 u11 u12 u13 u14 u15 u16 u17 u18 u19 u20 u21 u22 u23 u24 u25 u26 u27 u28 u29 u30 u31 u32 u33 u34 u35 u36 u37 u38 u39 u40 u41 u42 u43 u44 u45 : Value), (∃ (x5 : Int) (x6 : List Int), u4 = .int .i64 x5 ∧ Aside0 ((arrange_Order.l0 kq x5 x6) = some r) ∧ Aside0 (kq ≤ k) ∧ Aside0 (Kd.N (Kd.int .i32) 21 w' w.heap.size (fun k_ => (P_ k_ ∨ w.heap.size ≤ k_)) v4 x6) ∧ Aside0 (Below w.heap.size w w')) ∧ a_ = ⟨[(.slice A0 l0.length c0), undef, u2, v4, u4, (.slice A0 l0.length c0), v4, u7, u8, u9, u10, u11, u12, u13, u14, u15, u16, u17, u18, u19, u20, u21, u22, u23, u24, u25, u26, u27, u28, u29, u30, u31, u32, u33, u34, u35, u36, u37, u38, u39, u40, u41, u42, u43, u44, u45].toArray, []⟩) k ?atStart ?round
  case atStart => (repeat apply Exists.intro); refine ⟨?_, rfl⟩; exact ⟨1, t1, (by first | rfl | (simp; done) | (simp [*]; done)), HH, ⟨Nat.le_refl _⟩, ⟨(Kd.N_mono (ok := (fun k_ => (P_ k_ ∨ w.heap.size ≤ k_))) HN4.out (fun k_ hk_ => hk_))⟩, ⟨HB.out⟩⟩
  case round =>
    intro gk _ wr hinv
    obtain ⟨u2, u4, u7, u8, u9, u10, u11, u12, u13, u14, u15, u16, u17, u18, u19, u20, u21, u22, u23, u24, u25, u26, u27, u28, u29, u30, u31, u32, u33, u34, u35, u36, u37, u38, u39, u40, u41, u42, u43, u44, u45, hrel, rfl⟩ := hinv
    intro _ _ _ hKq0
    clear HH
    clear HF0 HN4 HB
    obtain ⟨x5, x6, rfl, HA, HK0, HN4, HB⟩ := hrel
    obtain ⟨w8, rfl⟩ : ∃ wo_ : World, wo_ = wr := ⟨_, rfl⟩
    cases gk with
    | zero => exact absurd HA.out (by simp [arrange_Order.l0])
    | succ k9 =>
      have H := HA.out
      clear HA
      simp only [arrange_Order.l0] at H
      have HH := Aside0.mk H
      clear H
      obtain ⟨A10, cp11, he_⟩ := Kd.N_slice HN4.out
      subst he_
      by_cases c12 : x5 ≥ (x6.length : Int)
      · have H := HH.out
        rw [if_pos c12] at H
        replace HH := Aside0.mk H
        clear H
        have hk13 : decide ((x6.length : Int) ≤ x5) = true := decide_eq_true c12
        clear c12
        have H := HH.out
        obtain rfl := Option.some.inj H
        clear HH
        go_wp2
        (try simp only [MW.backTo_ret, MW.labs_ret])
        go_ret
        exact ⟨_, by first | rfl | (simp; done) | (simp [*]; done), (Kd.N_mono (ok := (fun k_ => (P_ k_ ∨ w.heap.size ≤ k_))) HN4.out (fun k_ hk_ => hk_)), HB.out⟩
      · have H := HH.out
        rw [if_neg c12] at H
        replace HH := Aside0.mk H
        clear H
        have hk14 : decide ((x6.length : Int) ≤ x5) = false := decide_eq_false c12
        clear c12
        by_cases c15 : x5 > 0
        · have H := HH.out
          rw [if_pos c15] at H
          replace HH := Aside0.mk H
          clear H
          have hk16 : decide (0 < x5) = true := decide_eq_true c15
          clear c15
          by_cases c17 : 0 ≤ (wrap64 (x5 - 1))
          · have H := HH.out
            rw [if_pos c17] at H
            replace HH := Aside0.mk H
            clear H
            have hk18 : decide (0 ≤ (wrap64 (x5 - 1))) = true := decide_eq_true c17
            clear c17
            by_cases c19 : (wrap64 (x5 - 1)) < (x6.length : Int)
            · have H := HH.out
              rw [if_pos c19] at H
              replace HH := Aside0.mk H
              clear H
              have hk20 : ((wrap64 (x5 - 1)) < (x6.length : Int)) = True := eq_true c19
              have hk21 : decide ((wrap64 (x5 - 1)) < (x6.length : Int)) = true := decide_eq_true c19
              clear c19
              have p22 : 0 ≤ ((wrap64 (x5 - 1)) : Int) := of_decide_eq_true (by first | (with_reducible assumption) | assumption)
              have q22 : (wrap64 (x5 - 1)) < (x6.length : Int) := of_decide_eq_true (by first | (with_reducible assumption) | assumption)
              obtain ⟨ad22, e22, hx22_0⟩ := Kd.at_int (Kd.F_now (Kd.N_F HN4.out)) (wrap64 (x5 - 1)) p22 q22
              cases e22
              replace p22 := eq_true p22
              replace q22 := eq_true q22
              by_cases c23 : 0 ≤ x5
              · have H := HH.out
                rw [if_pos c23] at H
                replace HH := Aside0.mk H
                clear H
                have hk24 : decide (0 ≤ x5) = true := decide_eq_true c23
                clear c23
                by_cases c25 : x5 < (x6.length : Int)
                · have H := HH.out
                  rw [if_pos c25] at H
                  replace HH := Aside0.mk H
                  clear H
                  have hk26 : (x5 < (x6.length : Int)) = True := eq_true c25
                  have hk27 : decide (x5 < (x6.length : Int)) = true := decide_eq_true c25
                  clear c25
                  have p28 : 0 ≤ (x5 : Int) := of_decide_eq_true (by first | (with_reducible assumption) | assumption)
                  have q28 : x5 < (x6.length : Int) := of_decide_eq_true (by first | (with_reducible assumption) | assumption)
                  obtain ⟨ad28, e28, hx28_0⟩ := Kd.at_int (Kd.F_now (Kd.N_F HN4.out)) x5 p28 q28
                  cases e28
                  replace p28 := eq_true p28
                  replace q28 := eq_true q28
                  have H := HH.out
                  replace H := Option.bind_eq_some_iff.mp H
                  obtain ⟨t29, at_, H⟩ := H
                  have At30 := Aside0.mk at_
                  clear at_
                  replace HH := Aside0.mk (show (if t29 = true then ((some (List.set x6 (wrap64 (x5 - 1)).toNat (rd x6 x5) : List Int)).bind fun y36 => ((some (List.set y36 x5.toNat (rd x6 (wrap64 (x5 - 1))) : List Int)).bind fun y40 => ((arrange_Order.l0 k9 (wrap64 (x5 - 1)) y40)))) else ((arrange_Order.l0 k9 (wrap64 (x5 + 1)) x6))) = some r from H)
                  clear H
                  by_cases c31 : t29 = true
                  · have H := HH.out
                    rw [if_pos c31] at H
                    replace HH := Aside0.mk H
                    clear H
                    subst c31
                    go_wp2
                    go_quiet ((first | (go_at_call 18; first | exact Calls.quiet_of (MW.drawn (arrange_wrong.calls  (rd x6 (wrap64 (x5 - 1))) (rd x6 x5) true _  At30.out)) | exact MW.quiet_far (MW.drawn (arrange_wrong.calls  (rd x6 (wrap64 (x5 - 1))) (rd x6 x5) true _  At30.out)))))
                    go_wp2
                    refine MW.name_world (W0 := w8) (by repeat (first | exact Drawn0.refl _ | apply Drawn0.step)) ?_
                    intro w32 hb
                    replace HN4 := Aside0.mk (Kd.N_below HN4.out hb)
                    replace HB := Aside0.mk (below_step HB.out hb)
                    clear hb
                    clear hx22_0 p22 q22 hx28_0 p28 q28
                    go_wp2
                    have hwr_ : ∀ n_ : Int, IntKind.i64.wrap n_ = wrap64 n_ := fun n_ => IntWalk.i64_left n_
                    refine wp_region_any (by kernel_rfl) ?_
                    change wpAny _ _ _ _ 18 #[false, false, false, false, false, false, false, false, false, false, false, false, false, false, false, false, false, false] _ w32.drew
                    obtain ⟨w33, hw_⟩ : ∃ w_ : World, w_ = w32.drew := ⟨_, rfl⟩
                    rw [← hw_]
                    have hb : Below w32.heap.size w32 w33 := by rw [hw_]; exact below_drew1 (Below.refl _ _)
                    clear hw_
                    replace HN4 := Aside0.mk (Kd.N_below HN4.out hb)
                    replace HB := Aside0.mk (below_step HB.out hb)
                    clear hb
                    refine MW.any_take (i := 0) (v := (.slice (some ad22) x6.length cp11)) (listed' := #[true, false, false, false, false, false, false, false, false, false, false, false, false, false, false, false, false, false]) (a' := ⟨[(.slice A0 l0.length c0), undef, u2, (.slice (some ad22) x6.length cp11), (.int .i64 x5), (.slice A0 l0.length c0), (.slice (some ad22) x6.length cp11), (.int .i64 x5), (.slice (some ad22) x6.length cp11), (.int .i64 (x6.length : Int)), (.bool false), u11, (.int .i64 x5), (.bool true), (.bool true), (.slice (some ad22) x6.length cp11), (.int .i64 x5), (.int .i64 (wrap64 (x5 - 1))), (.pointer (some (ad22.add ((wrap64 (x5 - 1)).toNat)))), (.int .i32 (rd x6 (wrap64 (x5 - 1)))), (.slice (some ad22) x6.length cp11), (.int .i64 x5), (.pointer (some (ad22.add (x5.toNat)))), (.int .i32 (rd x6 x5)), (.bool true), (.bool true), (.slice (some ad22) x6.length cp11), u27, u28, u29, u30, u31, u32, u33, u34, u35, u36, u37, u38, u39, u40, u41, u42, u43, u44, u45].toArray, []⟩) rfl (by kernel_rfl) (by kernel_rfl) (by kernel_rfl) (fun _ _ _ h_ => h_) (.inl ⟨(by kernel_rfl), fun _ => (by first | rfl | (go_simp; done) | (go_simp; rfl))⟩) (by kernel_rfl) (by kernel_rfl) ?_
                    refine MW.any_take (i := 1) (v := .int .i64 x5) (listed' := #[true, true, false, false, false, false, false, false, false, false, false, false, false, false, false, false, false, false]) (a' := ⟨[(.slice A0 l0.length c0), undef, u2, (.slice (some ad22) x6.length cp11), (.int .i64 x5), (.slice A0 l0.length c0), (.slice (some ad22) x6.length cp11), (.int .i64 x5), (.slice (some ad22) x6.length cp11), (.int .i64 (x6.length : Int)), (.bool false), u11, (.int .i64 x5), (.bool true), (.bool true), (.slice (some ad22) x6.length cp11), (.int .i64 x5), (.int .i64 (wrap64 (x5 - 1))), (.pointer (some (ad22.add ((wrap64 (x5 - 1)).toNat)))), (.int .i32 (rd x6 (wrap64 (x5 - 1)))), (.slice (some ad22) x6.length cp11), (.int .i64 x5), (.pointer (some (ad22.add (x5.toNat)))), (.int .i32 (rd x6 x5)), (.bool true), (.bool true), (.slice (some ad22) x6.length cp11), (.int .i64 x5), u28, u29, u30, u31, u32, u33, u34, u35, u36, u37, u38, u39, u40, u41, u42, u43, u44, u45].toArray, []⟩) rfl (by kernel_rfl) (by kernel_rfl) (by kernel_rfl) (fun _ _ _ h_ => h_) (.inl ⟨(by kernel_rfl), fun _ => (by first | rfl | (go_simp; done) | (go_simp; rfl))⟩) (by kernel_rfl) (by kernel_rfl) ?_
                    refine MW.any_take (i := 2) (v := .int .i64 (wrap64 (x5 - 1))) (listed' := #[true, true, true, false, false, false, false, false, false, false, false, false, false, false, false, false, false, false]) (a' := ⟨[(.slice A0 l0.length c0), undef, u2, (.slice (some ad22) x6.length cp11), (.int .i64 x5), (.slice A0 l0.length c0), (.slice (some ad22) x6.length cp11), (.int .i64 x5), (.slice (some ad22) x6.length cp11), (.int .i64 (x6.length : Int)), (.bool false), u11, (.int .i64 x5), (.bool true), (.bool true), (.slice (some ad22) x6.length cp11), (.int .i64 x5), (.int .i64 (wrap64 (x5 - 1))), (.pointer (some (ad22.add ((wrap64 (x5 - 1)).toNat)))), (.int .i32 (rd x6 (wrap64 (x5 - 1)))), (.slice (some ad22) x6.length cp11), (.int .i64 x5), (.pointer (some (ad22.add (x5.toNat)))), (.int .i32 (rd x6 x5)), (.bool true), (.bool true), (.slice (some ad22) x6.length cp11), (.int .i64 x5), (.int .i64 (wrap64 (x5 - 1))), u29, u30, u31, u32, u33, u34, u35, u36, u37, u38, u39, u40, u41, u42, u43, u44, u45].toArray, []⟩) rfl (by kernel_rfl) (by kernel_rfl) (by kernel_rfl) (fun _ _ _ h_ => h_) (.inl ⟨(by kernel_rfl), fun _ => (by first | rfl | (go_simp; done) | (go_simp; rfl))⟩) (by kernel_rfl) (by kernel_rfl) ?_
                    refine MW.any_take (i := 3) (v := (.slice (some ad22) x6.length cp11)) (listed' := #[true, true, true, true, false, false, false, false, false, false, false, false, false, false, false, false, false, false]) (a' := ⟨[(.slice A0 l0.length c0), undef, u2, (.slice (some ad22) x6.length cp11), (.int .i64 x5), (.slice A0 l0.length c0), (.slice (some ad22) x6.length cp11), (.int .i64 x5), (.slice (some ad22) x6.length cp11), (.int .i64 (x6.length : Int)), (.bool false), u11, (.int .i64 x5), (.bool true), (.bool true), (.slice (some ad22) x6.length cp11), (.int .i64 x5), (.int .i64 (wrap64 (x5 - 1))), (.pointer (some (ad22.add ((wrap64 (x5 - 1)).toNat)))), (.int .i32 (rd x6 (wrap64 (x5 - 1)))), (.slice (some ad22) x6.length cp11), (.int .i64 x5), (.pointer (some (ad22.add (x5.toNat)))), (.int .i32 (rd x6 x5)), (.bool true), (.bool true), (.slice (some ad22) x6.length cp11), (.int .i64 x5), (.int .i64 (wrap64 (x5 - 1))), (.slice (some ad22) x6.length cp11), u30, u31, u32, u33, u34, u35, u36, u37, u38, u39, u40, u41, u42, u43, u44, u45].toArray, []⟩) rfl (by kernel_rfl) (by kernel_rfl) (by kernel_rfl) (fun _ _ _ h_ => h_) (.inl ⟨(by kernel_rfl), fun _ => (by first | rfl | (go_simp; done) | (go_simp; rfl))⟩) (by kernel_rfl) (by kernel_rfl) ?_
                    refine MW.any_take (i := 4) (v := .int .i64 x5) (listed' := #[true, true, true, true, true, false, false, false, false, false, false, false, false, false, false, false, false, false]) (a' := ⟨[(.slice A0 l0.length c0), undef, u2, (.slice (some ad22) x6.length cp11), (.int .i64 x5), (.slice A0 l0.length c0), (.slice (some ad22) x6.length cp11), (.int .i64 x5), (.slice (some ad22) x6.length cp11), (.int .i64 (x6.length : Int)), (.bool false), u11, (.int .i64 x5), (.bool true), (.bool true), (.slice (some ad22) x6.length cp11), (.int .i64 x5), (.int .i64 (wrap64 (x5 - 1))), (.pointer (some (ad22.add ((wrap64 (x5 - 1)).toNat)))), (.int .i32 (rd x6 (wrap64 (x5 - 1)))), (.slice (some ad22) x6.length cp11), (.int .i64 x5), (.pointer (some (ad22.add (x5.toNat)))), (.int .i32 (rd x6 x5)), (.bool true), (.bool true), (.slice (some ad22) x6.length cp11), (.int .i64 x5), (.int .i64 (wrap64 (x5 - 1))), (.slice (some ad22) x6.length cp11), (.int .i64 x5), u31, u32, u33, u34, u35, u36, u37, u38, u39, u40, u41, u42, u43, u44, u45].toArray, []⟩) rfl (by kernel_rfl) (by kernel_rfl) (by kernel_rfl) (fun _ _ _ h_ => h_) (.inl ⟨(by kernel_rfl), fun _ => (by first | rfl | (go_simp; done) | (go_simp; rfl))⟩) (by kernel_rfl) (by kernel_rfl) ?_
                    refine MW.any_take (i := 5) (v := (.slice (some ad22) x6.length cp11)) (listed' := #[true, true, true, true, true, true, false, false, false, false, false, false, false, false, false, false, false, false]) (a' := ⟨[(.slice A0 l0.length c0), undef, u2, (.slice (some ad22) x6.length cp11), (.int .i64 x5), (.slice A0 l0.length c0), (.slice (some ad22) x6.length cp11), (.int .i64 x5), (.slice (some ad22) x6.length cp11), (.int .i64 (x6.length : Int)), (.bool false), u11, (.int .i64 x5), (.bool true), (.bool true), (.slice (some ad22) x6.length cp11), (.int .i64 x5), (.int .i64 (wrap64 (x5 - 1))), (.pointer (some (ad22.add ((wrap64 (x5 - 1)).toNat)))), (.int .i32 (rd x6 (wrap64 (x5 - 1)))), (.slice (some ad22) x6.length cp11), (.int .i64 x5), (.pointer (some (ad22.add (x5.toNat)))), (.int .i32 (rd x6 x5)), (.bool true), (.bool true), (.slice (some ad22) x6.length cp11), (.int .i64 x5), (.int .i64 (wrap64 (x5 - 1))), (.slice (some ad22) x6.length cp11), (.int .i64 x5), (.slice (some ad22) x6.length cp11), u32, u33, u34, u35, u36, u37, u38, u39, u40, u41, u42, u43, u44, u45].toArray, []⟩) rfl (by kernel_rfl) (by kernel_rfl) (by kernel_rfl) (fun _ _ _ h_ => h_) (.inl ⟨(by kernel_rfl), fun _ => (by first | rfl | (go_simp; done) | (go_simp; rfl))⟩) (by kernel_rfl) (by kernel_rfl) ?_
                    refine MW.any_take (i := 6) (v := .int .i64 x5) (listed' := #[true, true, true, true, true, true, true, false, false, false, false, false, false, false, false, false, false, false]) (a' := ⟨[(.slice A0 l0.length c0), undef, u2, (.slice (some ad22) x6.length cp11), (.int .i64 x5), (.slice A0 l0.length c0), (.slice (some ad22) x6.length cp11), (.int .i64 x5), (.slice (some ad22) x6.length cp11), (.int .i64 (x6.length : Int)), (.bool false), u11, (.int .i64 x5), (.bool true), (.bool true), (.slice (some ad22) x6.length cp11), (.int .i64 x5), (.int .i64 (wrap64 (x5 - 1))), (.pointer (some (ad22.add ((wrap64 (x5 - 1)).toNat)))), (.int .i32 (rd x6 (wrap64 (x5 - 1)))), (.slice (some ad22) x6.length cp11), (.int .i64 x5), (.pointer (some (ad22.add (x5.toNat)))), (.int .i32 (rd x6 x5)), (.bool true), (.bool true), (.slice (some ad22) x6.length cp11), (.int .i64 x5), (.int .i64 (wrap64 (x5 - 1))), (.slice (some ad22) x6.length cp11), (.int .i64 x5), (.slice (some ad22) x6.length cp11), (.int .i64 x5), u33, u34, u35, u36, u37, u38, u39, u40, u41, u42, u43, u44, u45].toArray, []⟩) rfl (by kernel_rfl) (by kernel_rfl) (by kernel_rfl) (fun _ _ _ h_ => h_) (.inl ⟨(by kernel_rfl), fun _ => (by first | rfl | (go_simp; done) | (go_simp; rfl))⟩) (by kernel_rfl) (by kernel_rfl) ?_
                    have p34 : 0 ≤ (x5 : Int) := of_decide_eq_true (by first | (with_reducible assumption) | assumption)
                    have q34 : x5 < (x6.length : Int) := of_decide_eq_true (by first | (with_reducible assumption) | assumption)
                    obtain ⟨ad34, e34, hx34_0⟩ := Kd.at_int (Kd.F_now (Kd.N_F HN4.out)) x5 p34 q34
                    cases e34
                    replace p34 := eq_true p34
                    replace q34 := eq_true q34
                    refine MW.any_take (i := 7) (v := .pointer (some (ad22.add (x5.toNat)))) (listed' := #[true, true, true, true, true, true, true, true, false, false, false, false, false, false, false, false, false, false]) (a' := ⟨[(.slice A0 l0.length c0), undef, u2, (.slice (some ad22) x6.length cp11), (.int .i64 x5), (.slice A0 l0.length c0), (.slice (some ad22) x6.length cp11), (.int .i64 x5), (.slice (some ad22) x6.length cp11), (.int .i64 (x6.length : Int)), (.bool false), u11, (.int .i64 x5), (.bool true), (.bool true), (.slice (some ad22) x6.length cp11), (.int .i64 x5), (.int .i64 (wrap64 (x5 - 1))), (.pointer (some (ad22.add ((wrap64 (x5 - 1)).toNat)))), (.int .i32 (rd x6 (wrap64 (x5 - 1)))), (.slice (some ad22) x6.length cp11), (.int .i64 x5), (.pointer (some (ad22.add (x5.toNat)))), (.int .i32 (rd x6 x5)), (.bool true), (.bool true), (.slice (some ad22) x6.length cp11), (.int .i64 x5), (.int .i64 (wrap64 (x5 - 1))), (.slice (some ad22) x6.length cp11), (.int .i64 x5), (.slice (some ad22) x6.length cp11), (.int .i64 x5), (.pointer (some (ad22.add (x5.toNat)))), u34, u35, u36, u37, u38, u39, u40, u41, u42, u43, u44, u45].toArray, []⟩) rfl (by kernel_rfl) (by kernel_rfl) (by kernel_rfl) (fun _ _ _ h_ => h_) (.inl ⟨(by kernel_rfl), fun _ => (by first | rfl | (go_simp; done) | (go_simp; rfl))⟩) (by kernel_rfl) (by kernel_rfl) ?_
                    refine MW.any_take (i := 9) (v := (.slice (some ad22) x6.length cp11)) (listed' := #[true, true, true, true, true, true, true, true, false, true, false, false, false, false, false, false, false, false]) (a' := ⟨[(.slice A0 l0.length c0), undef, u2, (.slice (some ad22) x6.length cp11), (.int .i64 x5), (.slice A0 l0.length c0), (.slice (some ad22) x6.length cp11), (.int .i64 x5), (.slice (some ad22) x6.length cp11), (.int .i64 (x6.length : Int)), (.bool false), u11, (.int .i64 x5), (.bool true), (.bool true), (.slice (some ad22) x6.length cp11), (.int .i64 x5), (.int .i64 (wrap64 (x5 - 1))), (.pointer (some (ad22.add ((wrap64 (x5 - 1)).toNat)))), (.int .i32 (rd x6 (wrap64 (x5 - 1)))), (.slice (some ad22) x6.length cp11), (.int .i64 x5), (.pointer (some (ad22.add (x5.toNat)))), (.int .i32 (rd x6 x5)), (.bool true), (.bool true), (.slice (some ad22) x6.length cp11), (.int .i64 x5), (.int .i64 (wrap64 (x5 - 1))), (.slice (some ad22) x6.length cp11), (.int .i64 x5), (.slice (some ad22) x6.length cp11), (.int .i64 x5), (.pointer (some (ad22.add (x5.toNat)))), u34, (.slice (some ad22) x6.length cp11), u36, u37, u38, u39, u40, u41, u42, u43, u44, u45].toArray, []⟩) rfl (by kernel_rfl) (by kernel_rfl) (by kernel_rfl) (fun _ _ _ h_ => h_) (.inl ⟨(by kernel_rfl), fun _ => (by first | rfl | (go_simp; done) | (go_simp; rfl))⟩) (by kernel_rfl) (by kernel_rfl) ?_
                    refine MW.any_take (i := 10) (v := .int .i64 x5) (listed' := #[true, true, true, true, true, true, true, true, false, true, true, false, false, false, false, false, false, false]) (a' := ⟨[(.slice A0 l0.length c0), undef, u2, (.slice (some ad22) x6.length cp11), (.int .i64 x5), (.slice A0 l0.length c0), (.slice (some ad22) x6.length cp11), (.int .i64 x5), (.slice (some ad22) x6.length cp11), (.int .i64 (x6.length : Int)), (.bool false), u11, (.int .i64 x5), (.bool true), (.bool true), (.slice (some ad22) x6.length cp11), (.int .i64 x5), (.int .i64 (wrap64 (x5 - 1))), (.pointer (some (ad22.add ((wrap64 (x5 - 1)).toNat)))), (.int .i32 (rd x6 (wrap64 (x5 - 1)))), (.slice (some ad22) x6.length cp11), (.int .i64 x5), (.pointer (some (ad22.add (x5.toNat)))), (.int .i32 (rd x6 x5)), (.bool true), (.bool true), (.slice (some ad22) x6.length cp11), (.int .i64 x5), (.int .i64 (wrap64 (x5 - 1))), (.slice (some ad22) x6.length cp11), (.int .i64 x5), (.slice (some ad22) x6.length cp11), (.int .i64 x5), (.pointer (some (ad22.add (x5.toNat)))), u34, (.slice (some ad22) x6.length cp11), (.int .i64 x5), u37, u38, u39, u40, u41, u42, u43, u44, u45].toArray, []⟩) rfl (by kernel_rfl) (by kernel_rfl) (by kernel_rfl) (fun _ _ _ h_ => h_) (.inl ⟨(by kernel_rfl), fun _ => (by first | rfl | (go_simp; done) | (go_simp; rfl))⟩) (by kernel_rfl) (by kernel_rfl) ?_
                    refine MW.any_take (i := 11) (v := .int .i64 (wrap64 (x5 - 1))) (listed' := #[true, true, true, true, true, true, true, true, false, true, true, true, false, false, false, false, false, false]) (a' := ⟨[(.slice A0 l0.length c0), undef, u2, (.slice (some ad22) x6.length cp11), (.int .i64 x5), (.slice A0 l0.length c0), (.slice (some ad22) x6.length cp11), (.int .i64 x5), (.slice (some ad22) x6.length cp11), (.int .i64 (x6.length : Int)), (.bool false), u11, (.int .i64 x5), (.bool true), (.bool true), (.slice (some ad22) x6.length cp11), (.int .i64 x5), (.int .i64 (wrap64 (x5 - 1))), (.pointer (some (ad22.add ((wrap64 (x5 - 1)).toNat)))), (.int .i32 (rd x6 (wrap64 (x5 - 1)))), (.slice (some ad22) x6.length cp11), (.int .i64 x5), (.pointer (some (ad22.add (x5.toNat)))), (.int .i32 (rd x6 x5)), (.bool true), (.bool true), (.slice (some ad22) x6.length cp11), (.int .i64 x5), (.int .i64 (wrap64 (x5 - 1))), (.slice (some ad22) x6.length cp11), (.int .i64 x5), (.slice (some ad22) x6.length cp11), (.int .i64 x5), (.pointer (some (ad22.add (x5.toNat)))), u34, (.slice (some ad22) x6.length cp11), (.int .i64 x5), (.int .i64 (wrap64 (x5 - 1))), u38, u39, u40, u41, u42, u43, u44, u45].toArray, []⟩) rfl (by kernel_rfl) (by kernel_rfl) (by kernel_rfl) (fun _ _ _ h_ => h_) (.inl ⟨(by kernel_rfl), fun _ => (by first | rfl | (go_simp; done) | (go_simp; rfl))⟩) (by kernel_rfl) (by kernel_rfl) ?_
                    have p35 : 0 ≤ ((wrap64 (x5 - 1)) : Int) := of_decide_eq_true (by first | (with_reducible assumption) | assumption)
                    have q35 : (wrap64 (x5 - 1)) < (x6.length : Int) := of_decide_eq_true (by first | (with_reducible assumption) | assumption)
                    obtain ⟨ad35, e35, hx35_0⟩ := Kd.at_int (Kd.F_now (Kd.N_F HN4.out)) (wrap64 (x5 - 1)) p35 q35
                    cases e35
                    replace p35 := eq_true p35
                    replace q35 := eq_true q35
                    refine MW.any_take (i := 12) (v := .pointer (some (ad22.add ((wrap64 (x5 - 1)).toNat)))) (listed' := #[true, true, true, true, true, true, true, true, false, true, true, true, true, false, false, false, false, false]) (a' := ⟨[(.slice A0 l0.length c0), undef, u2, (.slice (some ad22) x6.length cp11), (.int .i64 x5), (.slice A0 l0.length c0), (.slice (some ad22) x6.length cp11), (.int .i64 x5), (.slice (some ad22) x6.length cp11), (.int .i64 (x6.length : Int)), (.bool false), u11, (.int .i64 x5), (.bool true), (.bool true), (.slice (some ad22) x6.length cp11), (.int .i64 x5), (.int .i64 (wrap64 (x5 - 1))), (.pointer (some (ad22.add ((wrap64 (x5 - 1)).toNat)))), (.int .i32 (rd x6 (wrap64 (x5 - 1)))), (.slice (some ad22) x6.length cp11), (.int .i64 x5), (.pointer (some (ad22.add (x5.toNat)))), (.int .i32 (rd x6 x5)), (.bool true), (.bool true), (.slice (some ad22) x6.length cp11), (.int .i64 x5), (.int .i64 (wrap64 (x5 - 1))), (.slice (some ad22) x6.length cp11), (.int .i64 x5), (.slice (some ad22) x6.length cp11), (.int .i64 x5), (.pointer (some (ad22.add (x5.toNat)))), u34, (.slice (some ad22) x6.length cp11), (.int .i64 x5), (.int .i64 (wrap64 (x5 - 1))), (.pointer (some (ad22.add ((wrap64 (x5 - 1)).toNat)))), u39, u40, u41, u42, u43, u44, u45].toArray, []⟩) rfl (by kernel_rfl) (by kernel_rfl) (by kernel_rfl) (fun _ _ _ h_ => h_) (.inl ⟨(by kernel_rfl), fun _ => (by first | rfl | (go_simp; done) | (go_simp; rfl))⟩) (by kernel_rfl) (by kernel_rfl) ?_
                    refine MW.any_two (i := 8) (j := 13) (vi := .int .i32 (rd x6 x5)) (vj := .int .i32 (rd x6 (wrap64 (x5 - 1)))) #[true, true, true, true, true, true, true, true, true, true, true, true, true, true, false, false, false, false] ⟨[(.slice A0 l0.length c0), undef, u2, (.slice (some ad22) x6.length cp11), (.int .i64 x5), (.slice A0 l0.length c0), (.slice (some ad22) x6.length cp11), (.int .i64 x5), (.slice (some ad22) x6.length cp11), (.int .i64 (x6.length : Int)), (.bool false), u11, (.int .i64 x5), (.bool true), (.bool true), (.slice (some ad22) x6.length cp11), (.int .i64 x5), (.int .i64 (wrap64 (x5 - 1))), (.pointer (some (ad22.add ((wrap64 (x5 - 1)).toNat)))), (.int .i32 (rd x6 (wrap64 (x5 - 1)))), (.slice (some ad22) x6.length cp11), (.int .i64 x5), (.pointer (some (ad22.add (x5.toNat)))), (.int .i32 (rd x6 x5)), (.bool true), (.bool true), (.slice (some ad22) x6.length cp11), (.int .i64 x5), (.int .i64 (wrap64 (x5 - 1))), (.slice (some ad22) x6.length cp11), (.int .i64 x5), (.slice (some ad22) x6.length cp11), (.int .i64 x5), (.pointer (some (ad22.add (x5.toNat)))), (.int .i32 (rd x6 x5)), (.slice (some ad22) x6.length cp11), (.int .i64 x5), (.int .i64 (wrap64 (x5 - 1))), (.pointer (some (ad22.add ((wrap64 (x5 - 1)).toNat)))), (.int .i32 (rd x6 (wrap64 (x5 - 1)))), u40, u41, u42, u43, u44, u45].toArray, []⟩ (by decide) rfl rfl (by kernel_rfl) (by kernel_rfl) (by kernel_rfl) (by kernel_rfl) (by kernel_rfl) (by first | rfl | (go_simp; done) | (go_simp; rfl)) (by first | rfl | (go_simp; done) | (go_simp; rfl)) (by first | rfl | (go_simp; done) | (go_simp; rfl)) (by first | rfl | (go_simp; done) | (go_simp; rfl)) (by kernel_rfl) (by kernel_rfl) (by kernel_rfl) (by kernel_rfl) (by kernel_rfl) (by kernel_rfl) ?_
                    refine MW.any_take (i := 14) (v := .pointer (some (ad22.add ((wrap64 (x5 - 1)).toNat)))) (listed' := #[true, true, true, true, true, true, true, true, true, true, true, true, true, true, true, false, false, false]) (a' := ⟨[(.slice A0 l0.length c0), undef, u2, (.slice (some ad22) x6.length cp11), (.int .i64 x5), (.slice A0 l0.length c0), (.slice (some ad22) x6.length cp11), (.int .i64 x5), (.slice (some ad22) x6.length cp11), (.int .i64 (x6.length : Int)), (.bool false), u11, (.int .i64 x5), (.bool true), (.bool true), (.slice (some ad22) x6.length cp11), (.int .i64 x5), (.int .i64 (wrap64 (x5 - 1))), (.pointer (some (ad22.add ((wrap64 (x5 - 1)).toNat)))), (.int .i32 (rd x6 (wrap64 (x5 - 1)))), (.slice (some ad22) x6.length cp11), (.int .i64 x5), (.pointer (some (ad22.add (x5.toNat)))), (.int .i32 (rd x6 x5)), (.bool true), (.bool true), (.slice (some ad22) x6.length cp11), (.int .i64 x5), (.int .i64 (wrap64 (x5 - 1))), (.slice (some ad22) x6.length cp11), (.int .i64 x5), (.slice (some ad22) x6.length cp11), (.int .i64 x5), (.pointer (some (ad22.add (x5.toNat)))), (.int .i32 (rd x6 x5)), (.slice (some ad22) x6.length cp11), (.int .i64 x5), (.int .i64 (wrap64 (x5 - 1))), (.pointer (some (ad22.add ((wrap64 (x5 - 1)).toNat)))), (.int .i32 (rd x6 (wrap64 (x5 - 1)))), (.pointer (some (ad22.add ((wrap64 (x5 - 1)).toNat)))), u41, u42, u43, u44, u45].toArray, []⟩) rfl (by kernel_rfl) (by kernel_rfl) (by kernel_rfl) (fun _ _ _ h_ => h_) (.inl ⟨(by kernel_rfl), fun _ => (by first | rfl | (go_simp; done) | (go_simp; rfl))⟩) (by kernel_rfl) (by kernel_rfl) ?_
                    refine MW.any_seq 15 3 rfl (by kernel_rfl) ?_
                    simp only [List.drop_succ_cons, List.drop_zero]
                    clear hwr_
                    obtain ⟨y36, hy36⟩ : ∃ y_ : List Int, y_ = (List.set x6 (wrap64 (x5 - 1)).toNat (rd x6 x5)) := ⟨_, rfl⟩
                    have H : ((some (List.set y36 x5.toNat (rd x6 (wrap64 (x5 - 1))) : List Int)).bind fun y40 => ((arrange_Order.l0 k9 (wrap64 (x5 - 1)) y40))) = some r := by rw [hy36]; exact HH.out
                    replace HH := Aside0.mk H
                    clear H
                    have NYy36 := Aside0.mk hy36
                    clear hy36
                    go_wp2_with (((with_reducible refine gate_store (t := 21) (p := 40) rfl ?_); (try (refine gate_guard (by rfl) ?_; dsimp only)); refine MW.ev_set1 (n := x6.length) w.heap.size rfl rfl _ _ _ rfl 21 (wrap64 (x5 - 1)) x6 (rd x6 x5) (fun k_ => (P_ k_ ∨ w.heap.size ≤ k_)) (by rfl) (by rfl) (by kernel_rfl) HN4.out (of_decide_eq_true (by first | (with_reducible assumption) | assumption)) (of_decide_eq_true (by first | (with_reducible assumption) | assumption)) HB.out ?_; intro w37 hn1 hb1 hg1); refine stop_ ?_)
                    refine Stop.go ?_
                    replace HB := Aside0.mk hb1
                    clear HN4
                    have HN38 := Aside0.mk (by rw [NYy36.out]; exact hn1 : Kd.N (Kd.int .i32) 21 w37 w.heap.size (fun k_ => (P_ k_ ∨ w.heap.size ≤ k_)) (.slice (some ad22) x6.length cp11) y36)
                    clear hn1 hb1 hg1
                    clear hx34_0 p34 q34 hx35_0 p35 q35
                    have p39 : 0 ≤ (x5 : Int) := of_decide_eq_true (by first | (with_reducible assumption) | assumption)
                    have q39 : x5 < (x6.length : Int) := of_decide_eq_true (by first | (with_reducible assumption) | assumption)
                    obtain ⟨ad39, e39, hx39_0⟩ := Kd.at_int (Kd.F_now (Kd.N_F HN38.out)) x5 p39 q39
                    cases e39
                    replace p39 := eq_true p39
                    replace q39 := eq_true q39
                    obtain ⟨y40, hy40⟩ : ∃ y_ : List Int, y_ = (List.set y36 x5.toNat (rd x6 (wrap64 (x5 - 1)))) := ⟨_, rfl⟩
                    have H : ((arrange_Order.l0 k9 (wrap64 (x5 - 1)) y40)) = some r := by rw [hy40]; exact HH.out
                    replace HH := Aside0.mk H
                    clear H
                    have NYy40 := Aside0.mk hy40
                    clear hy40
                    go_wp2_with (((with_reducible refine gate_store (t := 21) (p := 41) rfl ?_); (try (refine gate_guard (by rfl) ?_; dsimp only)); refine MW.ev_set1 (n := x6.length) w.heap.size rfl rfl _ _ _ rfl 21 x5 y36 (rd x6 (wrap64 (x5 - 1))) (fun k_ => (P_ k_ ∨ w.heap.size ≤ k_)) (by rfl) (by rfl) (by kernel_rfl) HN38.out (of_decide_eq_true (by first | (with_reducible assumption) | assumption)) (of_decide_eq_true (by first | (with_reducible assumption) | assumption)) HB.out ?_; intro w41 hn1 hb1 hg1); refine stop_ ?_)
                    refine Stop.go ?_
                    replace HB := Aside0.mk hb1
                    clear HN38
                    have HN42 := Aside0.mk (by rw [NYy40.out]; exact hn1 : Kd.N (Kd.int .i32) 21 w41 w.heap.size (fun k_ => (P_ k_ ∨ w.heap.size ≤ k_)) (.slice (some ad22) x6.length cp11) y40)
                    clear hn1 hb1 hg1
                    clear hx39_0 p39 q39
                    go_wp2
                    apply wp_goto
                    refine MW.goto_back (hKq0 _ _ ?_)
                    go_roundg k9
                    case measure => have := HK0.out; omega
                    case rel => exact ⟨wrap64 (x5 - 1), y40, (by first | rfl | (simp; done) | (simp [*]; done)), HH, ⟨by have := HK0.out; omega⟩, ⟨(Kd.N_mono (ok := (fun k_ => (P_ k_ ∨ w.heap.size ≤ k_))) HN42.out (fun k_ hk_ => hk_))⟩, ⟨HB.out⟩⟩
                  · have H := HH.out
                    rw [if_neg c31] at H
                    replace HH := Aside0.mk H
                    clear H
                    replace c31 := Bool.eq_false_iff.mpr c31
                    subst c31
                    go_wp2
                    go_quiet ((first | (go_at_call 18; first | exact Calls.quiet_of (MW.drawn (arrange_wrong.calls  (rd x6 (wrap64 (x5 - 1))) (rd x6 x5) false _  At30.out)) | exact MW.quiet_far (MW.drawn (arrange_wrong.calls  (rd x6 (wrap64 (x5 - 1))) (rd x6 x5) false _  At30.out)))))
                    go_wp2
                    apply wp_goto
                    refine MW.goto_back (hKq0 _ _ ?_)
                    go_roundg k9
                    case measure => have := HK0.out; omega
                    case rel => exact ⟨wrap64 (x5 + 1), x6, (by first | rfl | (simp; done) | (simp [*]; done)), HH, ⟨by have := HK0.out; omega⟩, ⟨(Kd.N_mono (ok := (fun k_ => (P_ k_ ∨ w.heap.size ≤ k_))) (by (with_reducible repeat (first | apply Kd.N_alloc | apply Kd.N_drewN | apply Kd.N_drew)); exact HN4.out) (fun k_ hk_ => hk_))⟩, ⟨(by repeat (first | (with_reducible first | exact HB.out | apply below_alloc | apply pw_below_drewN | apply below_drew1) | exact HB.out))⟩⟩
                · exact absurd HH.out (by rw [if_neg c25]; simp)
              · exact absurd HH.out (by rw [if_neg c23]; simp)
            · exact absurd HH.out (by rw [if_neg c19]; simp)
          · exact absurd HH.out (by rw [if_neg c17]; simp)
        · have H := HH.out
          rw [if_neg c15] at H
          replace HH := Aside0.mk H
          clear H
          have hk49 : decide (0 < x5) = false := decide_eq_false c15
          clear c15
          go_wp2
          go_quiet ((first | (go_at_call 18; first | exact Calls.quiet_of (MW.drawn (arrange_wrong.calls  (rd x6 (wrap64 (x5 - 1))) (rd x6 x5) t29 _  At30.out)) | exact MW.quiet_far (MW.drawn (arrange_wrong.calls  (rd x6 (wrap64 (x5 - 1))) (rd x6 x5) t29 _  At30.out)))))
          go_wp2
          apply wp_goto
          refine MW.goto_back (hKq0 _ _ ?_)
          go_roundg k9
          case measure => have := HK0.out; omega
          case rel => exact ⟨wrap64 (x5 + 1), x6, (by first | rfl | (simp; done) | (simp [*]; done)), HH, ⟨by have := HK0.out; omega⟩, ⟨(Kd.N_mono (ok := (fun k_ => (P_ k_ ∨ w.heap.size ≤ k_))) (by (with_reducible repeat (first | apply Kd.N_alloc | apply Kd.N_drewN | apply Kd.N_drew)); exact HN4.out) (fun k_ hk_ => hk_))⟩, ⟨(by repeat (first | (with_reducible first | exact HB.out | apply below_alloc | apply pw_below_drewN | apply below_drew1) | exact HB.out))⟩⟩

end Go.Proofs.Ythdcofcikmeeeaa.GA
