import Derived.Test.YtdjkemhmhkpmkaaGA0
import Derived.Test.YtdjkemhmhkpmkaaGM1
namespace Go.Proofs.Ytdjkemhmhkpmkaa.GA
open Go.RowKit Go.Proofs.Ytdjkemhmhkpmkaa Go.Proofs.Ytdjkemhmhkpmkaa.MW Go.Proofs.YtdjkemhmhkpmkaaW.PrintWords Go.Proofs.YtdjkemhmhkpmkaaW.PrintLast Go.Proofs.YtdjkemhmhkpmkaaW.PrintMore
attribute [local go_sem] max2_int min2_int max_two min_two
set_option linter.unusedVariables false
set_option linter.unusedSimpArgs false
/-! ### reply_Check: function 10 -/
def reply_Check.l0 : Nat → Int → (List (S46)) → Option (Int)
 | 0, _, _ => none
 | k + 1, x43, l0_7 => if x43 < (l0_7.length : Int) then (if 0 ≤ x43 then ((reply_wrong.f k ((rd_T46 l0_7 x43).f0) ((rd_T46 l0_7 x43).f1)).bind fun t68 => (if t68 = true then (some 270) else ((reply_Check.l0 k (wrap64 (x43 + 1)) l0_7)))) else (none)) else (some 0)
def reply_Check.f (k : Nat) (a0_0 : Int) (a0_1 : Int) (a0_2 : Bool) (a0_3 : Int) (a0_4 : ByteArray) (a0_5 : ByteArray) (a0_6 : ByteArray) (l0_7 : List (S46)) : Option (Int) := if a0_0 ≥ 0 then (if a0_2 = true then (if a0_0 ≤ 2147483647 then (if a0_1 = 3 then (if a0_3 = 0 then (if a0_4.size + a0_5.size ≤ 9223372036854775807 then (if (a0_4 ++ a0_5).toList = ([] : List UInt8) then (if (a0_6.size : Int) ≤ 3000 then (if (l0_7.length : Int) ≤ 24 then ((reply_Check.l0 k 0 l0_7)) else (some 270)) else (some 270)) else (some 270)) else (none)) else (some 270)) else (some 270)) else (some 270)) else (if a0_0 ≤ 2147483647 then ((reply_tag.f a0_1).bind fun t105 => (if t105 > 0 then (if a0_3 ≥ 0 then (if a0_3 ≤ 127 then (if (a0_4.size : Int) ≤ 3000 then (if (a0_5.size : Int) ≤ 200 then (if (l0_7.length : Int) = 0 then (if a0_6.toList = ([] : List UInt8) then (some 0) else (if a0_1 = 10 then (if (a0_6.size : Int) ≤ 100 then (some 0) else (some 270)) else (some 270))) else (some 270)) else (some 270)) else (some 270)) else (some 270)) else (some 270)) else (some 270))) else (some 270))) else (if a0_2 = true then (some 270) else (some 270))
theorem reply_Check.mono_l : ∀ k, (∀ y0 y1, LeO (reply_Check.l0 k y0 y1) (reply_Check.l0 (k + 1) y0 y1))
 | 0 => fun _ _ r h => by simp [reply_Check.l0] at h
 | k + 1 => by
  have ih0 := reply_Check.mono_l k
  ·intro y0 y1
   unfold reply_Check.l0
   repeat' first
   | (with_reducible exact ih0 _ _)
   | (with_reducible exact reply_wrong.mono _ _ _)
   | (with_reducible exact LeO.refl _)
   | (with_reducible exact LeO.none _)
   | (with_reducible refine LeO.ite ?_ ?_)
   | (with_reducible refine LeO.bind ?_ (fun _ => ?_))
theorem reply_Check.mono : ∀ a0_ a1_ a2_ a3_ a4_ a5_ a6_ a7_ k, LeO (reply_Check.f k a0_ a1_ a2_ a3_ a4_ a5_ a6_ a7_) (reply_Check.f (k + 1) a0_ a1_ a2_ a3_ a4_ a5_ a6_ a7_) := by
 intro a0_ a1_ a2_ a3_ a4_ a5_ a6_ a7_ k
 have ih0 := reply_Check.mono_l k
 unfold reply_Check.f
 repeat' first
   | (with_reducible exact ih0 _ _)
   | (with_reducible exact reply_wrong.mono _ _ _)
   | (with_reducible exact LeO.refl _)
   | (with_reducible exact LeO.none _)
   | (with_reducible refine LeO.ite ?_ ?_)
   | (with_reducible refine LeO.bind ?_ (fun _ => ?_))
set_option maxHeartbeats 8000000 in
set_option maxRecDepth 100000 in
theorem reply_Check.calls (k : Nat) (P_ : Nat → Prop) (a0_0 : Int) (a0_1 : Int) (a0_2 : Bool) (a0_3 : Int) (a0_4 : ByteArray) (a0_5 : ByteArray) (a0_6 : ByteArray) (A0_7 : Option Addr) (c0_7 : Nat) (l0_7 : List (S46)) (r : Int) (w : World) (hs0_7 : Kd.F k46 w P_ A0_7 l0_7.length l0_7) (hc0_7 : l0_7.length ≤ c0_7) (h : reply_Check.f k a0_0 a0_1 a0_2 a0_3 a0_4 a0_5 a0_6 l0_7 = some r) :
  Calls Try.prog 10 #[.agg #[.int .i64 a0_0, .int .i64 a0_1, .bool a0_2, .int .i64 a0_3, .string a0_4, .string a0_5, .string a0_6, .slice A0_7 l0_7.length c0_7]] w (fun e w' => e = .returned (.int .i64 r) ∧ Below w.heap.size w w') := by
 have HH := Aside0.mk (show (if a0_0 ≥ 0 then (if a0_2 = true then (if a0_0 ≤ 2147483647 then (if a0_1 = 3 then (if a0_3 = 0 then (if a0_4.size + a0_5.size ≤ 9223372036854775807 then (if (a0_4 ++ a0_5).toList = ([] : List UInt8) then (if (a0_6.size : Int) ≤ 3000 then (if (l0_7.length : Int) ≤ 24 then ((reply_Check.l0 k 0 l0_7)) else (some 270)) else (some 270)) else (some 270)) else (none)) else (some 270)) else (some 270)) else (some 270)) else (if a0_0 ≤ 2147483647 then ((reply_tag.f a0_1).bind fun t105 => (if t105 > 0 then (if a0_3 ≥ 0 then (if a0_3 ≤ 127 then (if (a0_4.size : Int) ≤ 3000 then (if (a0_5.size : Int) ≤ 200 then (if (l0_7.length : Int) = 0 then (if a0_6.toList = ([] : List UInt8) then (some 0) else (if a0_1 = 10 then (if (a0_6.size : Int) ≤ 100 then (some 0) else (some 270)) else (some 270))) else (some 270)) else (some 270)) else (some 270)) else (some 270)) else (some 270)) else (some 270))) else (some 270))) else (if a0_2 = true then (some 270) else (some 270))) = some r from h)
 clear h
 have HF0_7 := Aside0.mk (Kd.F_mono hs0_7 (fun k_ hk_ => (.inl hk_ : P_ k_ ∨ w.heap.size ≤ k_)))
 clear hs0_7 hc0_7
 have HB := Aside0.mk (Below.refl w.heap.size w)
 have hu27 := Try.underlying27
 go_enter Try.func10, Try.ntmps10
 go_wp2_with (((with_reducible refine gate_dst (N := 1) rfl ?_); (try (refine gate_guard (by rfl) ?_; dsimp only)); refine box_event ?hg (N := 1) ?hd (cs := #[.int .i64 a0_0, .int .i64 a0_1, .bool a0_2, .int .i64 a0_3, .string a0_4, .string a0_5, .string a0_6, .slice A0_7 l0_7.length c0_7]) (t := 27) ?hr ?_; (case hd => rfl); (case hg => rfl); (case hr => first | (go_simp; done) | (go_simp; rfl)); intro g1 hg w2 hbox hb); replace hg := Aside0.mk hg; replace hbox := Aside0.mk hbox; refine stop_ ?_)
 refine Stop.go ?_
 replace hg := hg.out
 replace hbox := hbox.out
 replace HF0_7 := Aside0.mk (Kd.F_elderB HF0_7.out g1 (Nat.le_of_eq hg.symm))
 replace HF0_7 := Aside0.mk (Kd.F_mono HF0_7.out (fun k_ hk_ => ⟨hk_.1, hk_.2⟩) : Kd.F k46 _ (fun k_ => (P_ k_ ∨ w.heap.size ≤ k_) ∧ k_ ≠ g1) _ _ _)
 replace HF0_7 := Aside0.mk (Kd.F_below HF0_7.out hb)
 replace HB := Aside0.mk (below_step HB.out hb)
 have BKg1 := Aside0.mk hbox
 clear hg hbox hb
 obtain ⟨j3, j4, j5, j6, j7, j8, j9, ja, jb, jc, jd, je, jf, jg, jh, ji⟩ := MB.lay8 BKg1.out
 by_cases c19 : a0_0 ≥ 0
 ·replace HH := MW.hpos HH c19
  have hk20 : decide (0 ≤ a0_0) = true := decide_eq_true c19
  clear c19
  by_cases c21 : a0_2 = true
  ·replace HH := MW.hpos HH c21
   subst c21
   by_cases c22 : a0_0 ≤ 2147483647
   ·replace HH := MW.hpos HH c22
    have hk23 : decide (a0_0 ≤ 2147483647) = true := decide_eq_true c22
    clear c22
    by_cases c24 : a0_1 = 3
    ·replace HH := MW.hpos HH c24
     have hk25 : (a0_1 == 3) = true := beq_iff_eq.mpr c24
     have hk26 : (a0_1 != 3) = false := bne_eq_false_iff_eq.mpr c24
     clear c24
     by_cases c27 : a0_3 = 0
     ·replace HH := MW.hpos HH c27
      have hk28 : (a0_3 == 0) = true := beq_iff_eq.mpr c27
      have hk29 : (a0_3 != 0) = false := bne_eq_false_iff_eq.mpr c27
      clear c27
      by_cases c30 : a0_4.size + a0_5.size ≤ 9223372036854775807
      ·replace HH := MW.hpos HH c30
       have hk31 : (9223372036854775807 < a0_4.size + a0_5.size) = False := eq_false (Nat.not_lt.2 c30)
       have hk32 : (a0_4.size + a0_5.size ≤ 9223372036854775807) = True := eq_true c30
       have hk33 : decide (a0_4.size + a0_5.size ≤ 9223372036854775807) = true := decide_eq_true c30
       clear c30
       by_cases c34 : (a0_4 ++ a0_5).toList = ([] : List UInt8)
       ·replace HH := MW.hpos HH c34
        have hk35 : ((a0_4 ++ a0_5).toList == ([] : List UInt8)) = true := beq_iff_eq.mpr c34
        have hk36 : ((a0_4 ++ a0_5).toList != ([] : List UInt8)) = false := bne_eq_false_iff_eq.mpr c34
        clear c34
        by_cases c37 : (a0_6.size : Int) ≤ 3000
        ·replace HH := MW.hpos HH c37
         have hk38 : decide ((a0_6.size : Int) ≤ 3000) = true := decide_eq_true c37
         have hk39 : decide (a0_6.size ≤ 3000) = true := decide_eq_true (by omega)
         clear c37
         by_cases c40 : (l0_7.length : Int) ≤ 24
         ·replace HH := MW.hpos HH c40
          have hk41 : decide ((l0_7.length : Int) ≤ 24) = true := decide_eq_true c40
          have hk42 : decide (l0_7.length ≤ 24) = true := decide_eq_true (by omega)
          clear c40
          go_wp2_with (((with_reducible refine gate_callee (f := 20) rfl ?_); (try (refine gate_guard (by rfl) ?_; dsimp only)); refine goesL_ (some 48) rfl rfl Try.func20 (by kernel_rfl) rfl #[.slice A0_7 l0_7.length c0_7, .func (.func 21) #[] #[]] rfl (by (try simp only [List.map_toArray, List.map_cons, List.map_nil]); first | done | rfl) ?_); refine stop_ ?_)
          refine Stop.go ?_
          go_enter Try.func20, Try.ntmps20
          go_wp2_with (((with_reducible refine gate_callee (f := 37) rfl ?_); (try (refine gate_guard (by rfl) ?_; dsimp only)); refine goesL_ (some 7) rfl rfl Try.func37 (by kernel_rfl) rfl #[.slice A0_7 l0_7.length c0_7, .func (.func 21) #[] #[]] rfl (by (try simp only [List.map_toArray, List.map_cons, List.map_nil]); first | done | rfl) ?_); refine stop_ ?_)
          refine Stop.go ?_
          go_enter Try.func37, Try.ntmps37
          go_wp2
          go_loopg [8] k (fun kq u8 w' => ∃ (x43 : Int), u8 = .int .i64 x43 ∧ Aside0 ((reply_Check.l0 kq x43 l0_7) = some r) ∧ Aside0 (kq ≤ k) ∧ Aside0 (Kd.F k46 w' (fun k_ => (P_ k_ ∨ w.heap.size ≤ k_) ∧ k_ ≠ g1) A0_7 l0_7.length l0_7) ∧ Aside0 (w'.heap[g1]? = some (.cells #[.int .i64 a0_0, .int .i64 a0_1, .bool true, .int .i64 a0_3, .string a0_4, .string a0_5, .string a0_6, .slice A0_7 l0_7.length c0_7] 27 (0, 0))) ∧ Aside0 (Below w.heap.size w w'))
          case atStart => exact ⟨0, (by first | rfl | (simp; done) | (simp [*]; done)), HH, ⟨Nat.le_refl _⟩, ⟨(Kd.F_mono (ok := (fun k_ => (P_ k_ ∨ w.heap.size ≤ k_) ∧ k_ ≠ g1)) HF0_7.out (fun k_ hk_ => ⟨hk_.1, hk_.2⟩))⟩, ⟨BKg1.out⟩, ⟨HB.out⟩⟩
          case round =>
           clear j3 j4 j5 j6 j7 j8 j9 ja jb jc jd je jf jg jh ji
           clear hk20
           clear hk23
           clear hk25
           clear hk26
           clear hk28
           clear hk29
           clear hk31
           clear hk32
           clear hk33
           clear hk35
           clear hk36
           clear hk38
           clear hk39
           clear hk41
           clear hk42
           clear HH
           clear HF0_7 BKg1 HB
           obtain ⟨x43, rfl, HA, HK0, HF0_7, BKg1, HB⟩ := hrel
           obtain ⟨w45, rfl⟩ : ∃ wo_ : World, wo_ = wr := ⟨_, rfl⟩
           cases gk with
           | zero => exact absurd HA.out (by simp [reply_Check.l0])
           | succ k44 =>
            have H := HA.out
            clear HA
            simp only [reply_Check.l0] at H
            have HH := Aside0.mk H
            clear H
            obtain ⟨jK, jL, jM, jN, jO, jP, jQ, jR, jS, jT, jU, jV, jW, jX, jY, jZ⟩ := MB.lay8 BKg1.out
            by_cases c62 : x43 < (l0_7.length : Int)
            ·replace HH := MW.hpos HH c62
             have hk63 : (x43 < (l0_7.length : Int)) = True := eq_true c62
             have hk64 : decide (x43 < (l0_7.length : Int)) = true := decide_eq_true c62
             clear c62
             by_cases c65 : 0 ≤ x43
             ·replace HH := MW.hpos HH c65
              have hk66 : decide (0 ≤ x43) = true := decide_eq_true c65
              clear c65
              have p67 : 0 ≤ (x43 : Int) := of_decide_eq_true (by first | (with_reducible assumption) | assumption)
              have q67 : x43 < (l0_7.length : Int) := of_decide_eq_true (by first | (with_reducible assumption) | assumption)
              obtain ⟨ad67, A67_1, c67_1, e67, hx67_0, hx67_1, hl67_1, hi67_1⟩ := atF_T46 HF0_7.out x43 p67 q67
              cases e67
              have HF67_1 := Aside0.mk hi67_1
              have HL67_1 := Aside0.mk hl67_1
              clear hi67_1 hl67_1
              replace p67 := eq_true p67
              replace q67 := eq_true q67
              have H := HH.out
              replace H := Option.bind_eq_some_iff.mp H
              obtain ⟨t68, at_, H⟩ := H
              have At69 := Aside0.mk at_
              clear at_
              (try dsimp only at H)
              replace HH := Aside0.mk H
              clear H
              go_wp2_with (((with_reducible refine gate_dst (N := 16) rfl ?_); (try (refine gate_guard (by rfl) ?_; dsimp only)); refine MW.goesV_ (some 16) rfl rfl Try.func21 (by kernel_rfl) rfl #[.agg #[.string ((rd_T46 l0_7 x43).f0), .slice A67_1 ((rd_T46 l0_7 x43).f1).length c67_1]] rfl #[] rfl (by (try simp only [List.map_toArray, List.map_cons, List.map_nil, List.append_toArray, List.cons_append, List.nil_append, List.append_nil]); first | done | rfl | (simp only [List.length_drop, List.length_take]; rfl)) ?_; (with_reducible refine (reply_wrong.calls k44 (fun k_ => (P_ k_ ∨ w.heap.size ≤ k_) ∧ k_ ≠ g1) ((rd_T46 l0_7 x43).f0) _ _ ((rd_T46 l0_7 x43).f1) t68 _ (Kd.F_mono (ok := (fun k_ => (P_ k_ ∨ w.heap.size ≤ k_) ∧ k_ ≠ g1)) HF67_1.out (fun k_ hk_ => ⟨hk_.1, hk_.2⟩)) HL67_1.out At69.out).mono ?_); rintro e w70 ⟨rfl, hb⟩; refine ⟨_, rfl, ?_⟩); refine stop_ ?_)
              refine Stop.go ?_
              replace HF0_7 := Aside0.mk (Kd.F_below HF0_7.out hb)
              replace BKg1 := Aside0.mk (blk_below (g := g1) BKg1.out hb)
              replace HB := Aside0.mk (below_step HB.out hb)
              clear hb
              clear jK jL jM jN jO jP jQ jR jS jT jU jV jW jX jY jZ hx67_0 hx67_1 p67 q67
              obtain ⟨j19, j1a, j1b, j1c, j1d, j1e, j1f, j1g, j1h, j1i, j1j, j1k, j1l, j1m, j1n, j1o⟩ := MB.lay8 BKg1.out
              by_cases c87 : t68 = true
              ·replace HH := MW.hpos HH c87
               subst c87
               go_wp2
               go_ret
               refine ⟨_, rfl, ?_⟩
               go_wp2
               go_ret
               refine ⟨_, rfl, ?_⟩
               have H := HH.out
               obtain rfl := Option.some.inj H
               clear HH
               go_wp2
               go_ret
               exact ⟨by first | rfl | (simp; done) | (simp [*]; done), HB.out⟩
              replace HH := MW.hneg HH c87
              replace c87 := Bool.eq_false_iff.mpr c87
              subst c87
              go_wp2
              go_roundg k44
              case measure => have := HK0.out; omega
              case rel => exact ⟨wrap64 (x43 + 1), (by first | rfl | (simp; done) | (simp [*]; done)), HH, ⟨by have := HK0.out; omega⟩, ⟨(Kd.F_mono (ok := (fun k_ => (P_ k_ ∨ w.heap.size ≤ k_) ∧ k_ ≠ g1)) HF0_7.out (fun k_ hk_ => ⟨hk_.1, hk_.2⟩))⟩, ⟨BKg1.out⟩, ⟨HB.out⟩⟩
             exact absurd HH.out (by rw [if_neg c65]; simp)
            replace HH := MW.hneg HH c62
            have hk89 : (x43 < (l0_7.length : Int)) = False := eq_false c62
            have hk90 : decide (x43 < (l0_7.length : Int)) = false := decide_eq_false c62
            clear c62
            go_wp2
            go_ret
            refine ⟨_, rfl, ?_⟩
            go_wp2
            go_ret
            refine ⟨_, rfl, ?_⟩
            have H := HH.out
            obtain rfl := Option.some.inj H
            clear HH
            go_wp2
            go_ret
            exact ⟨by first | rfl | (simp; done) | (simp [*]; done), HB.out⟩
         replace HH := MW.hneg HH c40
         have hk91 : decide ((l0_7.length : Int) ≤ 24) = false := decide_eq_false c40
         have hk92 : decide (l0_7.length ≤ 24) = false := decide_eq_false (by omega)
         clear c40
         have H := HH.out
         obtain rfl := Option.some.inj H
         clear HH
         go_wp2
         go_ret
         exact ⟨by first | rfl | (simp; done) | (simp [*]; done), HB.out⟩
        replace HH := MW.hneg HH c37
        have hk93 : decide ((a0_6.size : Int) ≤ 3000) = false := decide_eq_false c37
        have hk94 : decide (a0_6.size ≤ 3000) = false := decide_eq_false (by omega)
        clear c37
        have H := HH.out
        obtain rfl := Option.some.inj H
        clear HH
        go_wp2
        go_ret
        exact ⟨by first | rfl | (simp; done) | (simp [*]; done), HB.out⟩
       replace HH := MW.hneg HH c34
       have hk95 : ((a0_4 ++ a0_5).toList == ([] : List UInt8)) = false := beq_eq_false_iff_ne.mpr c34
       have hk96 : ((a0_4 ++ a0_5).toList != ([] : List UInt8)) = true := bne_iff_ne.mpr c34
       clear c34
       have H := HH.out
       obtain rfl := Option.some.inj H
       clear HH
       go_wp2
       go_ret
       exact ⟨by first | rfl | (simp; done) | (simp [*]; done), HB.out⟩
      exact absurd HH.out (by rw [if_neg c30]; simp)
     replace HH := MW.hneg HH c27
     have hk98 : (a0_3 == 0) = false := beq_eq_false_iff_ne.mpr c27
     have hk99 : (a0_3 != 0) = true := bne_iff_ne.mpr c27
     clear c27
     have H := HH.out
     obtain rfl := Option.some.inj H
     clear HH
     go_wp2
     go_ret
     exact ⟨by first | rfl | (simp; done) | (simp [*]; done), HB.out⟩
    replace HH := MW.hneg HH c24
    have hk100 : (a0_1 == 3) = false := beq_eq_false_iff_ne.mpr c24
    have hk101 : (a0_1 != 3) = true := bne_iff_ne.mpr c24
    clear c24
    have H := HH.out
    obtain rfl := Option.some.inj H
    clear HH
    go_wp2
    go_ret
    exact ⟨by first | rfl | (simp; done) | (simp [*]; done), HB.out⟩
   replace HH := MW.hneg HH c22
   have hk102 : decide (a0_0 ≤ 2147483647) = false := decide_eq_false c22
   clear c22
   have H := HH.out
   obtain rfl := Option.some.inj H
   clear HH
   go_wp2
   go_ret
   exact ⟨by first | rfl | (simp; done) | (simp [*]; done), HB.out⟩
  replace HH := MW.hneg HH c21
  replace c21 := Bool.eq_false_iff.mpr c21
  subst c21
  by_cases c103 : a0_0 ≤ 2147483647
  ·replace HH := MW.hpos HH c103
   have hk104 : decide (a0_0 ≤ 2147483647) = true := decide_eq_true c103
   clear c103
   have H := HH.out
   replace H := Option.bind_eq_some_iff.mp H
   obtain ⟨t105, at_, H⟩ := H
   have At106 := Aside0.mk at_
   clear at_
   (try dsimp only at H)
   replace HH := Aside0.mk H
   clear H
   go_wp2_with (((with_reducible refine gate_callee (f := 22) rfl ?_); (try (refine gate_guard (by rfl) ?_; dsimp only)); refine goesL_ (some 55) rfl rfl Try.func22 (by kernel_rfl) rfl #[.int .i64 a0_1] rfl (by (try simp only [List.map_toArray, List.map_cons, List.map_nil]); first | done | rfl | (simp only [List.length_drop, List.length_take]; rfl)) ?_; (with_reducible refine (reply_tag.calls  a0_1 t105 _  At106.out).mono ?_); rintro e w' ⟨rfl, ⟨nd, rfl⟩⟩; refine ⟨_, rfl, ?_⟩); refine stop_ ?_)
   refine Stop.go ?_
   by_cases c108 : t105 > 0
   ·replace HH := MW.hpos HH c108
    have hk109 : decide (0 < t105) = true := decide_eq_true c108
    clear c108
    by_cases c110 : a0_3 ≥ 0
    ·replace HH := MW.hpos HH c110
     have hk111 : decide (0 ≤ a0_3) = true := decide_eq_true c110
     clear c110
     by_cases c112 : a0_3 ≤ 127
     ·replace HH := MW.hpos HH c112
      have hk113 : decide (a0_3 ≤ 127) = true := decide_eq_true c112
      clear c112
      by_cases c114 : (a0_4.size : Int) ≤ 3000
      ·replace HH := MW.hpos HH c114
       have hk115 : decide ((a0_4.size : Int) ≤ 3000) = true := decide_eq_true c114
       have hk116 : decide (a0_4.size ≤ 3000) = true := decide_eq_true (by omega)
       clear c114
       by_cases c117 : (a0_5.size : Int) ≤ 200
       ·replace HH := MW.hpos HH c117
        have hk118 : decide ((a0_5.size : Int) ≤ 200) = true := decide_eq_true c117
        have hk119 : decide (a0_5.size ≤ 200) = true := decide_eq_true (by omega)
        clear c117
        by_cases c120 : (l0_7.length : Int) = 0
        ·replace HH := MW.hpos HH c120
         have hk121 : ((l0_7.length : Int) == 0) = true := beq_iff_eq.mpr c120
         have hk122 : ((l0_7.length : Int) != 0) = false := bne_eq_false_iff_eq.mpr c120
         clear c120
         by_cases c123 : a0_6.toList = ([] : List UInt8)
         ·replace HH := MW.hpos HH c123
          have hk124 : (a0_6.toList == ([] : List UInt8)) = true := beq_iff_eq.mpr c123
          have hk125 : (a0_6.toList != ([] : List UInt8)) = false := bne_eq_false_iff_eq.mpr c123
          clear c123
          have H := HH.out
          obtain rfl := Option.some.inj H
          clear HH
          go_wp2
          go_ret
          exact ⟨by first | rfl | (simp; done) | (simp [*]; done), (by repeat (first | (with_reducible first | exact HB.out | apply below_alloc | apply pw_below_drewN | apply below_drew1) | exact HB.out))⟩
         replace HH := MW.hneg HH c123
         have hk126 : (a0_6.toList == ([] : List UInt8)) = false := beq_eq_false_iff_ne.mpr c123
         have hk127 : (a0_6.toList != ([] : List UInt8)) = true := bne_iff_ne.mpr c123
         clear c123
         by_cases c128 : a0_1 = 10
         ·replace HH := MW.hpos HH c128
          have hk129 : (a0_1 == 10) = true := beq_iff_eq.mpr c128
          have hk130 : (a0_1 != 10) = false := bne_eq_false_iff_eq.mpr c128
          clear c128
          by_cases c131 : (a0_6.size : Int) ≤ 100
          ·replace HH := MW.hpos HH c131
           have hk132 : decide ((a0_6.size : Int) ≤ 100) = true := decide_eq_true c131
           have hk133 : decide (a0_6.size ≤ 100) = true := decide_eq_true (by omega)
           clear c131
           have H := HH.out
           obtain rfl := Option.some.inj H
           clear HH
           go_wp2
           go_ret
           exact ⟨by first | rfl | (simp; done) | (simp [*]; done), (by repeat (first | (with_reducible first | exact HB.out | apply below_alloc | apply pw_below_drewN | apply below_drew1) | exact HB.out))⟩
          replace HH := MW.hneg HH c131
          have hk134 : decide ((a0_6.size : Int) ≤ 100) = false := decide_eq_false c131
          have hk135 : decide (a0_6.size ≤ 100) = false := decide_eq_false (by omega)
          clear c131
          have H := HH.out
          obtain rfl := Option.some.inj H
          clear HH
          go_wp2
          go_ret
          exact ⟨by first | rfl | (simp; done) | (simp [*]; done), (by repeat (first | (with_reducible first | exact HB.out | apply below_alloc | apply pw_below_drewN | apply below_drew1) | exact HB.out))⟩
         replace HH := MW.hneg HH c128
         have hk136 : (a0_1 == 10) = false := beq_eq_false_iff_ne.mpr c128
         have hk137 : (a0_1 != 10) = true := bne_iff_ne.mpr c128
         clear c128
         have H := HH.out
         obtain rfl := Option.some.inj H
         clear HH
         go_wp2
         go_ret
         exact ⟨by first | rfl | (simp; done) | (simp [*]; done), (by repeat (first | (with_reducible first | exact HB.out | apply below_alloc | apply pw_below_drewN | apply below_drew1) | exact HB.out))⟩
        replace HH := MW.hneg HH c120
        have hk138 : ((l0_7.length : Int) == 0) = false := beq_eq_false_iff_ne.mpr c120
        have hk139 : ((l0_7.length : Int) != 0) = true := bne_iff_ne.mpr c120
        have hk140 : ¬ (l0_7 = []) := fun h_ => c120 (by rw [h_]; rfl)
        clear c120
        have H := HH.out
        obtain rfl := Option.some.inj H
        clear HH
        go_wp2
        go_ret
        exact ⟨by first | rfl | (simp; done) | (simp [*]; done), (by repeat (first | (with_reducible first | exact HB.out | apply below_alloc | apply pw_below_drewN | apply below_drew1) | exact HB.out))⟩
       replace HH := MW.hneg HH c117
       have hk141 : decide ((a0_5.size : Int) ≤ 200) = false := decide_eq_false c117
       have hk142 : decide (a0_5.size ≤ 200) = false := decide_eq_false (by omega)
       clear c117
       have H := HH.out
       obtain rfl := Option.some.inj H
       clear HH
       go_wp2
       go_ret
       exact ⟨by first | rfl | (simp; done) | (simp [*]; done), (by repeat (first | (with_reducible first | exact HB.out | apply below_alloc | apply pw_below_drewN | apply below_drew1) | exact HB.out))⟩
      replace HH := MW.hneg HH c114
      have hk143 : decide ((a0_4.size : Int) ≤ 3000) = false := decide_eq_false c114
      have hk144 : decide (a0_4.size ≤ 3000) = false := decide_eq_false (by omega)
      clear c114
      have H := HH.out
      obtain rfl := Option.some.inj H
      clear HH
      go_wp2
      go_ret
      exact ⟨by first | rfl | (simp; done) | (simp [*]; done), (by repeat (first | (with_reducible first | exact HB.out | apply below_alloc | apply pw_below_drewN | apply below_drew1) | exact HB.out))⟩
     replace HH := MW.hneg HH c112
     have hk145 : decide (a0_3 ≤ 127) = false := decide_eq_false c112
     clear c112
     have H := HH.out
     obtain rfl := Option.some.inj H
     clear HH
     go_wp2
     go_ret
     exact ⟨by first | rfl | (simp; done) | (simp [*]; done), (by repeat (first | (with_reducible first | exact HB.out | apply below_alloc | apply pw_below_drewN | apply below_drew1) | exact HB.out))⟩
    replace HH := MW.hneg HH c110
    have hk146 : decide (0 ≤ a0_3) = false := decide_eq_false c110
    clear c110
    have H := HH.out
    obtain rfl := Option.some.inj H
    clear HH
    go_wp2
    go_ret
    exact ⟨by first | rfl | (simp; done) | (simp [*]; done), (by repeat (first | (with_reducible first | exact HB.out | apply below_alloc | apply pw_below_drewN | apply below_drew1) | exact HB.out))⟩
   replace HH := MW.hneg HH c108
   have hk147 : decide (0 < t105) = false := decide_eq_false c108
   clear c108
   have H := HH.out
   obtain rfl := Option.some.inj H
   clear HH
   go_wp2
   go_ret
   exact ⟨by first | rfl | (simp; done) | (simp [*]; done), (by repeat (first | (with_reducible first | exact HB.out | apply below_alloc | apply pw_below_drewN | apply below_drew1) | exact HB.out))⟩
  replace HH := MW.hneg HH c103
  have hk148 : decide (a0_0 ≤ 2147483647) = false := decide_eq_false c103
  clear c103
  have H := HH.out
  obtain rfl := Option.some.inj H
  clear HH
  go_wp2
  go_ret
  exact ⟨by first | rfl | (simp; done) | (simp [*]; done), HB.out⟩
 replace HH := MW.hneg HH c19
 have hk149 : decide (0 ≤ a0_0) = false := decide_eq_false c19
 clear c19
 by_cases c150 : a0_2 = true
 ·replace HH := MW.hpos HH c150
  subst c150
  have H := HH.out
  obtain rfl := Option.some.inj H
  clear HH
  go_wp2
  go_ret
  exact ⟨by first | rfl | (simp; done) | (simp [*]; done), HB.out⟩
 replace HH := MW.hneg HH c150
 replace c150 := Bool.eq_false_iff.mpr c150
 subst c150
 have H := HH.out
 obtain rfl := Option.some.inj H
 clear HH
 go_wp2
 go_ret
 exact ⟨by first | rfl | (simp; done) | (simp [*]; done), HB.out⟩
end Go.Proofs.Ytdjkemhmhkpmkaa.GA
