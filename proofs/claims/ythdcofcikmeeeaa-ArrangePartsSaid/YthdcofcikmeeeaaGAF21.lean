-- written by wip/gen.py, a program of this session
import Derived.Test.YthdcofcikmeeeaaGA0
import Derived.Test.YthdcofcikmeeeaaMX
namespace Go.Proofs.Ythdcofcikmeeeaa.GA
open Go.RowKit Go.Proofs.Ythdcofcikmeeeaa Go.Proofs.Ythdcofcikmeeeaa.MW Go.Proofs.YthdcofcikmeeeaaW.PrintWords Go.Proofs.YthdcofcikmeeeaaW.PrintLast Go.Proofs.YthdcofcikmeeeaaW.PrintMore
attribute [local go_sem] max2_int min2_int max_two min_two
set_option linter.unusedVariables false
set_option linter.unusedSimpArgs false

/-! ### chars_mark: function 21 -/
def chars_mark.f (a0 : Int) : Option (Bool) := (some (if a0 ≥ 768 then (if a0 ≤ 772 then (true) else (if a0 ≥ 774 then ((decide (a0 ≤ 776))) else (false))) else (if a0 ≥ 774 then ((decide (a0 ≤ 776))) else (false)) : Bool)).bind fun b1 => ((some (if b1 = true then (true) else (if a0 ≥ 778 then (if a0 ≤ 780 then (true) else ((a0 == 803))) else ((a0 == 803))) : Bool)).bind fun b15 => (if b15 = true then (some true) else (if a0 ≥ 807 then (if a0 ≤ 808 then (some true) else (if a0 ≥ 12441 then (some (decide (a0 ≤ 12442))) else (some false))) else (if a0 ≥ 12441 then (some (decide (a0 ≤ 12442))) else (some false)))))
set_option maxHeartbeats 8000000 in
set_option maxRecDepth 100000 in
theorem chars_mark.calls (a0 : Int) (r : Bool) (w : World) (h : chars_mark.f a0 = some r) :
    Calls Try.prog 21 #[.int .i32 a0] w (fun e w' => e = .returned (.bool r) ∧ Drawn0 w w') := by
  have HH := Aside0.mk (show ((some (if a0 ≥ 768 then (if a0 ≤ 772 then (true) else (if a0 ≥ 774 then ((decide (a0 ≤ 776))) else (false))) else (if a0 ≥ 774 then ((decide (a0 ≤ 776))) else (false)) : Bool)).bind fun b1 => ((some (if b1 = true then (true) else (if a0 ≥ 778 then (if a0 ≤ 780 then (true) else ((a0 == 803))) else ((a0 == 803))) : Bool)).bind fun b15 => (if b15 = true then (some true) else (if a0 ≥ 807 then (if a0 ≤ 808 then (some true) else (if a0 ≥ 12441 then (some (decide (a0 ≤ 12442))) else (some false))) else (if a0 ≥ 12441 then (some (decide (a0 ≤ 12442))) else (some false)))))) = some r from h)
  clear h
  go_enter Try.func21, Try.ntmps21
  repeat (first | (refine MW.region_stop (id := 1) ?_) | go_values | go_skip | go_guarded | go_step | go_upon)
  refine Stop.go ?_
  (try simp only [List.append_eq, List.cons_append, List.nil_append])
  obtain ⟨E2, hE2⟩ : ∃ e_ : Bool, e_ = (if a0 ≥ 768 then (if a0 ≤ 772 then (true) else (if a0 ≥ 774 then ((decide (a0 ≤ 776))) else (false))) else (if a0 ≥ 774 then ((decide (a0 ≤ 776))) else (false))) := ⟨_, rfl⟩
  replace hE2 := Aside0.mk hE2
  refine MW.list_cut 14 (fun a_ w_ => ∃ (b_ : Bool) (x3_ x4_ x5_ x6_ x7_ x8_ x9_ x10_ x11_ x12_ x13_ x14_ x15_ : Value), b_ = (E2) ∧ a_ = ⟨[(.int .i32 a0), undef, (.bool false), x3_, x4_, x5_, x6_, x7_, x8_, x9_, x10_, x11_, x12_, x13_, x14_, x15_, .bool b_, undef, undef, undef, undef, undef, undef, undef, undef, undef, undef, undef, undef, undef, undef, undef, undef, undef, undef, undef, undef, undef, undef, undef, undef, undef, undef, undef, undef].toArray, []⟩ ∧ w = w_) (fun K_ hK_ => ?seg) (fun a_ w_ hc_ => ?rest)
  case seg =>
    simp only [List.take_succ_cons, List.take_zero]
    by_cases c3 : a0 ≥ 768
    · have hk4 : decide (768 ≤ a0) = true := decide_eq_true c3
      replace c3 := (Stop.go c3 : Stop _ (.mk _))
      by_cases c5 : a0 ≤ 772
      · have hk6 : decide (a0 ≤ 772) = true := decide_eq_true c5
        replace c5 := (Stop.go c5 : Stop _ (.mk _))
        go_wp2
        refine Stop.go ?_
        exact ⟨true, _, _, _, _, _, _, _, _, _, _, _, _, _, Eq.trans (by first | rfl | (rw [if_pos c3.out, if_pos c5.out]; done) | (rw [if_pos c3.out, if_pos c5.out]; rfl) | (simp [*]; done)) hE2.out.symm, rfl, rfl⟩
      · have hk7 : decide (a0 ≤ 772) = false := decide_eq_false c5
        replace c5 := (Stop.go c5 : Stop _ (.mk _))
        by_cases c8 : a0 ≥ 774
        · have hk9 : decide (774 ≤ a0) = true := decide_eq_true c8
          replace c8 := (Stop.go c8 : Stop _ (.mk _))
          go_wp2
          refine Stop.go ?_
          exact ⟨(decide (a0 ≤ 776)), _, _, _, _, _, _, _, _, _, _, _, _, _, Eq.trans (by first | rfl | (rw [if_pos c3.out, if_neg c5.out, if_pos c8.out]; done) | (rw [if_pos c3.out, if_neg c5.out, if_pos c8.out]; rfl) | (simp [*]; done)) hE2.out.symm, rfl, rfl⟩
        · have hk10 : decide (774 ≤ a0) = false := decide_eq_false c8
          replace c8 := (Stop.go c8 : Stop _ (.mk _))
          go_wp2
          refine Stop.go ?_
          exact ⟨false, _, _, _, _, _, _, _, _, _, _, _, _, _, Eq.trans (by first | rfl | (rw [if_pos c3.out, if_neg c5.out, if_neg c8.out]; done) | (rw [if_pos c3.out, if_neg c5.out, if_neg c8.out]; rfl) | (simp [*]; done)) hE2.out.symm, rfl, rfl⟩
    · have hk11 : decide (768 ≤ a0) = false := decide_eq_false c3
      replace c3 := (Stop.go c3 : Stop _ (.mk _))
      by_cases c12 : a0 ≥ 774
      · have hk13 : decide (774 ≤ a0) = true := decide_eq_true c12
        replace c12 := (Stop.go c12 : Stop _ (.mk _))
        go_wp2
        refine Stop.go ?_
        exact ⟨(decide (a0 ≤ 776)), _, _, _, _, _, _, _, _, _, _, _, _, _, Eq.trans (by first | rfl | (rw [if_neg c3.out, if_pos c12.out]; done) | (rw [if_neg c3.out, if_pos c12.out]; rfl) | (simp [*]; done)) hE2.out.symm, rfl, rfl⟩
      · have hk14 : decide (774 ≤ a0) = false := decide_eq_false c12
        replace c12 := (Stop.go c12 : Stop _ (.mk _))
        go_wp2
        refine Stop.go ?_
        exact ⟨false, _, _, _, _, _, _, _, _, _, _, _, _, _, Eq.trans (by first | rfl | (rw [if_neg c3.out, if_neg c12.out]; done) | (rw [if_neg c3.out, if_neg c12.out]; rfl) | (simp [*]; done)) hE2.out.symm, rfl, rfl⟩
  case rest =>
    simp only [List.drop_succ_cons, List.drop_zero]
    obtain ⟨b1, u3, u4, u5, u6, u7, u8, u9, u10, u11, u12, u13, u14, u15, hb_, rfl, rfl⟩ := hc_
    have H : ((some (if b1 = true then (true) else (if a0 ≥ 778 then (if a0 ≤ 780 then (true) else ((a0 == 803))) else ((a0 == 803))) : Bool)).bind fun b15 => (if b15 = true then (some true) else (if a0 ≥ 807 then (if a0 ≤ 808 then (some true) else (if a0 ≥ 12441 then (some (decide (a0 ≤ 12442))) else (some false))) else (if a0 ≥ 12441 then (some (decide (a0 ≤ 12442))) else (some false))))) = some r := by rw [hb_, hE2.out]; exact HH.out
    replace HH := Aside0.mk H
    clear H hb_ hE2
    obtain ⟨E16, hE16⟩ : ∃ e_ : Bool, e_ = (if b1 = true then (true) else (if a0 ≥ 778 then (if a0 ≤ 780 then (true) else ((a0 == 803))) else ((a0 == 803)))) := ⟨_, rfl⟩
    replace hE16 := Aside0.mk hE16
    refine MW.list_cut 12 (fun a_ w_ => ∃ (b_ : Bool) (x3_ x4_ x5_ x6_ x7_ x8_ x9_ x10_ x11_ x12_ x13_ x14_ x15_ x16_ x17_ x18_ x19_ x20_ x21_ x22_ x23_ x24_ x25_ x26_ x27_ : Value), b_ = (E16) ∧ a_ = ⟨[(.int .i32 a0), undef, (.bool false), x3_, x4_, x5_, x6_, x7_, x8_, x9_, x10_, x11_, x12_, x13_, x14_, x15_, x16_, x17_, x18_, x19_, x20_, x21_, x22_, x23_, x24_, x25_, x26_, x27_, .bool b_, undef, undef, undef, undef, undef, undef, undef, undef, undef, undef, undef, undef, undef, undef, undef, undef].toArray, []⟩ ∧ w = w_) (fun K_ hK_ => ?seg) (fun a_ w_ hc_ => ?rest)
    case seg =>
      simp only [List.take_succ_cons, List.take_zero]
      by_cases c17 : b1 = true
      · subst c17
        go_wp2
        refine Stop.go ?_
        exact ⟨true, _, _, _, _, _, _, _, _, _, _, _, _, _, _, _, _, _, _, _, _, _, _, _, _, _, Eq.trans (by first | rfl | (rw []; done) | (rw []; rfl) | (simp [*]; done)) hE16.out.symm, rfl, rfl⟩
      · replace c17 := Bool.eq_false_iff.mpr c17
        subst c17
        by_cases c18 : a0 ≥ 778
        · have hk19 : decide (778 ≤ a0) = true := decide_eq_true c18
          replace c18 := (Stop.go c18 : Stop _ (.mk _))
          by_cases c20 : a0 ≤ 780
          · have hk21 : decide (a0 ≤ 780) = true := decide_eq_true c20
            replace c20 := (Stop.go c20 : Stop _ (.mk _))
            go_wp2
            refine Stop.go ?_
            exact ⟨true, _, _, _, _, _, _, _, _, _, _, _, _, _, _, _, _, _, _, _, _, _, _, _, _, _, Eq.trans (by first | rfl | (rw [if_pos c18.out, if_pos c20.out]; done) | (rw [if_pos c18.out, if_pos c20.out]; rfl) | (simp [*]; done)) hE16.out.symm, rfl, rfl⟩
          · have hk22 : decide (a0 ≤ 780) = false := decide_eq_false c20
            replace c20 := (Stop.go c20 : Stop _ (.mk _))
            go_wp2
            refine Stop.go ?_
            exact ⟨(a0 == 803), _, _, _, _, _, _, _, _, _, _, _, _, _, _, _, _, _, _, _, _, _, _, _, _, _, Eq.trans (by first | rfl | (rw [if_pos c18.out, if_neg c20.out]; done) | (rw [if_pos c18.out, if_neg c20.out]; rfl) | (simp [*]; done)) hE16.out.symm, rfl, rfl⟩
        · have hk23 : decide (778 ≤ a0) = false := decide_eq_false c18
          replace c18 := (Stop.go c18 : Stop _ (.mk _))
          go_wp2
          refine Stop.go ?_
          exact ⟨(a0 == 803), _, _, _, _, _, _, _, _, _, _, _, _, _, _, _, _, _, _, _, _, _, _, _, _, _, Eq.trans (by first | rfl | (rw [if_neg c18.out]; done) | (rw [if_neg c18.out]; rfl) | (simp [*]; done)) hE16.out.symm, rfl, rfl⟩
    case rest =>
      simp only [List.drop_succ_cons, List.drop_zero]
      obtain ⟨b15, u3, u4, u5, u6, u7, u8, u9, u10, u11, u12, u13, u14, u15, u16, u17, u18, u19, u20, u21, u22, u23, u24, u25, u26, u27, hb_, rfl, rfl⟩ := hc_
      have H : (if b15 = true then (some true) else (if a0 ≥ 807 then (if a0 ≤ 808 then (some true) else (if a0 ≥ 12441 then (some (decide (a0 ≤ 12442))) else (some false))) else (if a0 ≥ 12441 then (some (decide (a0 ≤ 12442))) else (some false)))) = some r := by rw [hb_, hE16.out]; exact HH.out
      replace HH := Aside0.mk H
      clear H hb_ hE16
      by_cases c24 : b15 = true
      · have H := HH.out
        rw [if_pos c24] at H
        replace HH := Aside0.mk H
        clear H
        subst c24
        have H := HH.out
        obtain rfl := Option.some.inj H
        clear HH
        go_wp2
        go_ret
        exact ⟨by first | rfl | (simp; done) | (simp [*]; done), by repeat (first | exact Drawn0.refl _ | apply Drawn0.step)⟩
      · have H := HH.out
        rw [if_neg c24] at H
        replace HH := Aside0.mk H
        clear H
        replace c24 := Bool.eq_false_iff.mpr c24
        subst c24
        by_cases c25 : a0 ≥ 807
        · have H := HH.out
          rw [if_pos c25] at H
          replace HH := Aside0.mk H
          clear H
          have hk26 : decide (807 ≤ a0) = true := decide_eq_true c25
          clear c25
          by_cases c27 : a0 ≤ 808
          · have H := HH.out
            rw [if_pos c27] at H
            replace HH := Aside0.mk H
            clear H
            have hk28 : decide (a0 ≤ 808) = true := decide_eq_true c27
            clear c27
            have H := HH.out
            obtain rfl := Option.some.inj H
            clear HH
            go_wp2
            go_ret
            exact ⟨by first | rfl | (simp; done) | (simp [*]; done), by repeat (first | exact Drawn0.refl _ | apply Drawn0.step)⟩
          · have H := HH.out
            rw [if_neg c27] at H
            replace HH := Aside0.mk H
            clear H
            have hk29 : decide (a0 ≤ 808) = false := decide_eq_false c27
            clear c27
            by_cases c30 : a0 ≥ 12441
            · have H := HH.out
              rw [if_pos c30] at H
              replace HH := Aside0.mk H
              clear H
              have hk31 : decide (12441 ≤ a0) = true := decide_eq_true c30
              clear c30
              have H := HH.out
              obtain rfl := Option.some.inj H
              clear HH
              go_wp2
              go_ret
              exact ⟨by first | rfl | (simp; done) | (simp [*]; done), by repeat (first | exact Drawn0.refl _ | apply Drawn0.step)⟩
            · have H := HH.out
              rw [if_neg c30] at H
              replace HH := Aside0.mk H
              clear H
              have hk32 : decide (12441 ≤ a0) = false := decide_eq_false c30
              clear c30
              have H := HH.out
              obtain rfl := Option.some.inj H
              clear HH
              go_wp2
              go_ret
              exact ⟨by first | rfl | (simp; done) | (simp [*]; done), by repeat (first | exact Drawn0.refl _ | apply Drawn0.step)⟩
        · have H := HH.out
          rw [if_neg c25] at H
          replace HH := Aside0.mk H
          clear H
          have hk33 : decide (807 ≤ a0) = false := decide_eq_false c25
          clear c25
          by_cases c34 : a0 ≥ 12441
          · have H := HH.out
            rw [if_pos c34] at H
            replace HH := Aside0.mk H
            clear H
            have hk35 : decide (12441 ≤ a0) = true := decide_eq_true c34
            clear c34
            have H := HH.out
            obtain rfl := Option.some.inj H
            clear HH
            go_wp2
            go_ret
            exact ⟨by first | rfl | (simp; done) | (simp [*]; done), by repeat (first | exact Drawn0.refl _ | apply Drawn0.step)⟩
          · have H := HH.out
            rw [if_neg c34] at H
            replace HH := Aside0.mk H
            clear H
            have hk36 : decide (12441 ≤ a0) = false := decide_eq_false c34
            clear c34
            have H := HH.out
            obtain rfl := Option.some.inj H
            clear HH
            go_wp2
            go_ret
            exact ⟨by first | rfl | (simp; done) | (simp [*]; done), by repeat (first | exact Drawn0.refl _ | apply Drawn0.step)⟩

end Go.Proofs.Ythdcofcikmeeeaa.GA
