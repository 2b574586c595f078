import Derived.Test.YtdjkemhmhkpmkaaGA0
import Derived.Test.YtdjkemhmhkpmkaaGM1
namespace Go.Proofs.Ytdjkemhmhkpmkaa.GA
open Go.RowKit Go.Proofs.Ytdjkemhmhkpmkaa Go.Proofs.Ytdjkemhmhkpmkaa.MW Go.Proofs.YtdjkemhmhkpmkaaW.PrintWords Go.Proofs.YtdjkemhmhkpmkaaW.PrintLast Go.Proofs.YtdjkemhmhkpmkaaW.PrintMore
attribute [local go_sem] max2_int min2_int max_two min_two
set_option linter.unusedVariables false
set_option linter.unusedSimpArgs false
/-! ### reply_Same: function 18 -/
def reply_Same.l0 : Nat → Int → (List (S46)) → (List (S46)) → Option (Bool)
 | 0, _, _, _ => none
 | k + 1, x79, l0_7, l1_7 => if x79 < (l0_7.length : Int) then (if 0 ≤ x79 then (if x79 < (l1_7.length : Int) then ((reply_same.f k ((rd_T46 l0_7 x79).f0) ((rd_T46 l0_7 x79).f1) ((rd_T46 l1_7 x79).f0) ((rd_T46 l1_7 x79).f1)).bind fun t282 => (if t282 = true then ((reply_Same.l0 k (wrap64 (x79 + 1)) l0_7 l1_7)) else (some false))) else (none)) else (none)) else (some true)
def reply_Same.f (k : Nat) (a0_0 : Int) (a0_1 : Int) (a0_2 : Bool) (a0_3 : Int) (a0_4 : ByteArray) (a0_5 : ByteArray) (a0_6 : ByteArray) (l0_7 : List (S46)) (a1_0 : Int) (a1_1 : Int) (a1_2 : Bool) (a1_3 : Int) (a1_4 : ByteArray) (a1_5 : ByteArray) (a1_6 : ByteArray) (l1_7 : List (S46)) : Option (Bool) := if a0_0 = a1_0 then (if a0_1 = a1_1 then (if (a0_2 == a1_2) = true then (if a0_3 = a1_3 then (if a0_4.toList = a1_4.toList then (if a0_5.toList = a1_5.toList then (if a0_6.toList = a1_6.toList then (if (l0_7.length : Int) = (l1_7.length : Int) then ((reply_Same.l0 k 0 l0_7 l1_7)) else (some false)) else (some false)) else (some false)) else (some false)) else (some false)) else (some false)) else (some false)) else (some false)
theorem reply_Same.mono_l : ∀ k, (∀ y0 y1 y2, LeO (reply_Same.l0 k y0 y1 y2) (reply_Same.l0 (k + 1) y0 y1 y2))
 | 0 => fun _ _ _ r h => by simp [reply_Same.l0] at h
 | k + 1 => by
  have ih0 := reply_Same.mono_l k
  ·intro y0 y1 y2
   unfold reply_Same.l0
   repeat' first
   | (with_reducible exact ih0 _ _ _)
   | (with_reducible exact reply_same.mono _ _ _ _ _)
   | (with_reducible exact LeO.refl _)
   | (with_reducible exact LeO.none _)
   | (with_reducible refine LeO.ite ?_ ?_)
   | (with_reducible refine LeO.bind ?_ (fun _ => ?_))
theorem reply_Same.mono : ∀ a0_ a1_ a2_ a3_ a4_ a5_ a6_ a7_ a8_ a9_ a10_ a11_ a12_ a13_ a14_ a15_ k, LeO (reply_Same.f k a0_ a1_ a2_ a3_ a4_ a5_ a6_ a7_ a8_ a9_ a10_ a11_ a12_ a13_ a14_ a15_) (reply_Same.f (k + 1) a0_ a1_ a2_ a3_ a4_ a5_ a6_ a7_ a8_ a9_ a10_ a11_ a12_ a13_ a14_ a15_) := by
 intro a0_ a1_ a2_ a3_ a4_ a5_ a6_ a7_ a8_ a9_ a10_ a11_ a12_ a13_ a14_ a15_ k
 have ih0 := reply_Same.mono_l k
 unfold reply_Same.f
 repeat' first
   | (with_reducible exact ih0 _ _ _)
   | (with_reducible exact reply_same.mono _ _ _ _ _)
   | (with_reducible exact LeO.refl _)
   | (with_reducible exact LeO.none _)
   | (with_reducible refine LeO.ite ?_ ?_)
   | (with_reducible refine LeO.bind ?_ (fun _ => ?_))
set_option maxHeartbeats 8000000 in
set_option maxRecDepth 100000 in
theorem reply_Same.calls (k : Nat) (P_ : Nat → Prop) (a0_0 : Int) (a0_1 : Int) (a0_2 : Bool) (a0_3 : Int) (a0_4 : ByteArray) (a0_5 : ByteArray) (a0_6 : ByteArray) (A0_7 : Option Addr) (c0_7 : Nat) (l0_7 : List (S46)) (a1_0 : Int) (a1_1 : Int) (a1_2 : Bool) (a1_3 : Int) (a1_4 : ByteArray) (a1_5 : ByteArray) (a1_6 : ByteArray) (A1_7 : Option Addr) (c1_7 : Nat) (l1_7 : List (S46)) (r : Bool) (w : World) (hs0_7 : Kd.F k46 w P_ A0_7 l0_7.length l0_7) (hc0_7 : l0_7.length ≤ c0_7) (hs1_7 : Kd.F k46 w P_ A1_7 l1_7.length l1_7) (hc1_7 : l1_7.length ≤ c1_7) (h : reply_Same.f k a0_0 a0_1 a0_2 a0_3 a0_4 a0_5 a0_6 l0_7 a1_0 a1_1 a1_2 a1_3 a1_4 a1_5 a1_6 l1_7 = some r) :
  Calls Try.prog 18 #[.agg #[.int .i64 a0_0, .int .i64 a0_1, .bool a0_2, .int .i64 a0_3, .string a0_4, .string a0_5, .string a0_6, .slice A0_7 l0_7.length c0_7], .agg #[.int .i64 a1_0, .int .i64 a1_1, .bool a1_2, .int .i64 a1_3, .string a1_4, .string a1_5, .string a1_6, .slice A1_7 l1_7.length c1_7]] w (fun e w' => e = .returned (.bool r) ∧ Below w.heap.size w w') := by
 have HH := Aside0.mk (show (if a0_0 = a1_0 then (if a0_1 = a1_1 then (if (a0_2 == a1_2) = true then (if a0_3 = a1_3 then (if a0_4.toList = a1_4.toList then (if a0_5.toList = a1_5.toList then (if a0_6.toList = a1_6.toList then (if (l0_7.length : Int) = (l1_7.length : Int) then ((reply_Same.l0 k 0 l0_7 l1_7)) else (some false)) else (some false)) else (some false)) else (some false)) else (some false)) else (some false)) else (some false)) else (some false)) = some r from h)
 clear h
 have HF0_7 := Aside0.mk (Kd.F_mono hs0_7 (fun k_ hk_ => (.inl hk_ : P_ k_ ∨ w.heap.size ≤ k_)))
 clear hs0_7 hc0_7
 have HF1_7 := Aside0.mk (Kd.F_mono hs1_7 (fun k_ hk_ => (.inl hk_ : P_ k_ ∨ w.heap.size ≤ k_)))
 clear hs1_7 hc1_7
 have HB := Aside0.mk (Below.refl w.heap.size w)
 have hu27 := Try.underlying27
 go_enter Try.func18, Try.ntmps18
 go_wp2_with (((with_reducible refine gate_dst (N := 2) rfl ?_); (try (refine gate_guard (by rfl) ?_; dsimp only)); refine box_event ?hg (N := 2) ?hd (cs := #[.int .i64 a0_0, .int .i64 a0_1, .bool a0_2, .int .i64 a0_3, .string a0_4, .string a0_5, .string a0_6, .slice A0_7 l0_7.length c0_7]) (t := 27) ?hr ?_; (case hd => rfl); (case hg => rfl); (case hr => first | (go_simp; done) | (go_simp; rfl)); intro g1 hg w2 hbox hb); replace hg := Aside0.mk hg; replace hbox := Aside0.mk hbox; refine stop_ ?_)
 refine Stop.go ?_
 replace hg := hg.out
 replace hbox := hbox.out
 replace HF0_7 := Aside0.mk (Kd.F_elderB HF0_7.out g1 (Nat.le_of_eq hg.symm))
 replace HF0_7 := Aside0.mk (Kd.F_mono HF0_7.out (fun k_ hk_ => ⟨hk_.1, hk_.2⟩) : Kd.F k46 _ (fun k_ => (P_ k_ ∨ w.heap.size ≤ k_) ∧ k_ ≠ g1) _ _ _)
 replace HF1_7 := Aside0.mk (Kd.F_elderB HF1_7.out g1 (Nat.le_of_eq hg.symm))
 replace HF1_7 := Aside0.mk (Kd.F_mono HF1_7.out (fun k_ hk_ => ⟨hk_.1, hk_.2⟩) : Kd.F k46 _ (fun k_ => (P_ k_ ∨ w.heap.size ≤ k_) ∧ k_ ≠ g1) _ _ _)
 replace HF0_7 := Aside0.mk (Kd.F_below HF0_7.out hb)
 replace HF1_7 := Aside0.mk (Kd.F_below HF1_7.out hb)
 replace HB := Aside0.mk (below_step HB.out hb)
 have BKg1 := Aside0.mk hbox
 clear hg hbox hb
 obtain ⟨j3, j4, j5, j6, j7, j8, j9, ja, jb, jc, jd, je, jf, jg, jh, ji⟩ := MB.lay8 BKg1.out
 go_wp2_with (((with_reducible refine gate_dst (N := 3) rfl ?_); (try (refine gate_guard (by rfl) ?_; dsimp only)); refine box_event ?hg (N := 3) ?hd (cs := #[.int .i64 a1_0, .int .i64 a1_1, .bool a1_2, .int .i64 a1_3, .string a1_4, .string a1_5, .string a1_6, .slice A1_7 l1_7.length c1_7]) (t := 27) ?hr ?_; (case hd => rfl); (case hg => rfl); (case hr => first | (go_simp; done) | (go_simp; rfl)); intro g19 hg w20 hbox hb); replace hg := Aside0.mk hg; replace hbox := Aside0.mk hbox; refine stop_ ?_)
 refine Stop.go ?_
 replace hg := hg.out
 replace hbox := hbox.out
 replace HF0_7 := Aside0.mk (Kd.F_elderB HF0_7.out g19 (Nat.le_of_eq hg.symm))
 replace HF0_7 := Aside0.mk (Kd.F_mono HF0_7.out (fun k_ hk_ => ⟨hk_.1.1, hk_.1.2, hk_.2⟩) : Kd.F k46 _ (fun k_ => (P_ k_ ∨ w.heap.size ≤ k_) ∧ k_ ≠ g1 ∧ k_ ≠ g19) _ _ _)
 replace HF1_7 := Aside0.mk (Kd.F_elderB HF1_7.out g19 (Nat.le_of_eq hg.symm))
 replace HF1_7 := Aside0.mk (Kd.F_mono HF1_7.out (fun k_ hk_ => ⟨hk_.1.1, hk_.1.2, hk_.2⟩) : Kd.F k46 _ (fun k_ => (P_ k_ ∨ w.heap.size ≤ k_) ∧ k_ ≠ g1 ∧ k_ ≠ g19) _ _ _)
 replace HF0_7 := Aside0.mk (Kd.F_below HF0_7.out hb)
 replace HF1_7 := Aside0.mk (Kd.F_below HF1_7.out hb)
 replace BKg1 := Aside0.mk (blk_below (g := g1) BKg1.out hb)
 replace HB := Aside0.mk (below_step HB.out hb)
 have BKg19 := Aside0.mk hbox
 clear hg hbox hb
 clear j3 j4 j5 j6 j7 j8 j9 ja jb jc jd je jf jg jh ji
 obtain ⟨jl, jm, jn, jo, jp, jq, jr, js, jt, ju, jv, jw, jx, jy, jz, jA⟩ := MB.lay8 BKg1.out
 obtain ⟨jB, jC, jD, jE, jF, jG, jH, jI, jJ, jK, jL, jM, jN, jO, jP, jQ⟩ := MB.lay8 BKg19.out
 by_cases c53 : a0_0 = a1_0
 ·replace HH := MW.hpos HH c53
  have hk54 : (a0_0 == a1_0) = true := beq_iff_eq.mpr c53
  have hk55 : (a0_0 != a1_0) = false := bne_eq_false_iff_eq.mpr c53
  clear c53
  by_cases c56 : a0_1 = a1_1
  ·replace HH := MW.hpos HH c56
   have hk57 : (a0_1 == a1_1) = true := beq_iff_eq.mpr c56
   have hk58 : (a0_1 != a1_1) = false := bne_eq_false_iff_eq.mpr c56
   clear c56
   by_cases c59 : (a0_2 == a1_2) = true
   ·replace HH := MW.hpos HH c59
    have hk60 : (a0_2 == a1_2) = true := c59
    try have hk61 : decide (a0_2 = a1_2) = true := by simpa using c59
    try have hk62 : (a0_2 == a1_2) = true := by simpa using c59
    clear c59
    by_cases c63 : a0_3 = a1_3
    ·replace HH := MW.hpos HH c63
     have hk64 : (a0_3 == a1_3) = true := beq_iff_eq.mpr c63
     have hk65 : (a0_3 != a1_3) = false := bne_eq_false_iff_eq.mpr c63
     clear c63
     by_cases c66 : a0_4.toList = a1_4.toList
     ·replace HH := MW.hpos HH c66
      have hk67 : (a0_4.toList == a1_4.toList) = true := beq_iff_eq.mpr c66
      have hk68 : (a0_4.toList != a1_4.toList) = false := bne_eq_false_iff_eq.mpr c66
      clear c66
      by_cases c69 : a0_5.toList = a1_5.toList
      ·replace HH := MW.hpos HH c69
       have hk70 : (a0_5.toList == a1_5.toList) = true := beq_iff_eq.mpr c69
       have hk71 : (a0_5.toList != a1_5.toList) = false := bne_eq_false_iff_eq.mpr c69
       clear c69
       by_cases c72 : a0_6.toList = a1_6.toList
       ·replace HH := MW.hpos HH c72
        have hk73 : (a0_6.toList == a1_6.toList) = true := beq_iff_eq.mpr c72
        have hk74 : (a0_6.toList != a1_6.toList) = false := bne_eq_false_iff_eq.mpr c72
        clear c72
        go_wp2_with (((with_reducible refine gate_callee (f := 35) rfl ?_); (try (refine gate_guard (by rfl) ?_; dsimp only)); refine goesL_ (some 57) rfl rfl Try.func35 (by kernel_rfl) rfl #[.slice A0_7 l0_7.length c0_7, .slice A1_7 l1_7.length c1_7, .func (.func 36) #[] #[]] rfl (by (try simp only [List.map_toArray, List.map_cons, List.map_nil]); first | done | rfl) ?_); refine stop_ ?_)
        refine Stop.go ?_
        go_enter Try.func35, Try.ntmps35
        by_cases c75 : (l0_7.length : Int) = (l1_7.length : Int)
        ·replace HH := MW.hpos HH c75
         have hk76 : ((l0_7.length : Int) == (l1_7.length : Int)) = true := beq_iff_eq.mpr c75
         have hk77 : ((l0_7.length : Int) != (l1_7.length : Int)) = false := bne_eq_false_iff_eq.mpr c75
         have hk78 : (l0_7.length == l1_7.length) = true := by first | simpa using c75 | (simp at c75 ⊢; omega)
         clear c75
         go_wp2
         go_loopg [17] k (fun kq u17 w' => ∃ (x79 : Int), u17 = .int .i64 x79 ∧ Aside0 ((reply_Same.l0 kq x79 l0_7 l1_7) = some r) ∧ Aside0 (kq ≤ k) ∧ Aside0 (Kd.F k46 w' (fun k_ => (P_ k_ ∨ w.heap.size ≤ k_) ∧ k_ ≠ g1 ∧ k_ ≠ g19) A0_7 l0_7.length l0_7) ∧ Aside0 (Kd.F k46 w' (fun k_ => (P_ k_ ∨ w.heap.size ≤ k_) ∧ k_ ≠ g1 ∧ k_ ≠ g19) A1_7 l1_7.length l1_7) ∧ Aside0 (w'.heap[g1]? = some (.cells #[.int .i64 a0_0, .int .i64 a0_1, .bool a0_2, .int .i64 a0_3, .string a0_4, .string a0_5, .string a0_6, .slice A0_7 l0_7.length c0_7] 27 (0, 0))) ∧ Aside0 (w'.heap[g19]? = some (.cells #[.int .i64 a1_0, .int .i64 a1_1, .bool a1_2, .int .i64 a1_3, .string a1_4, .string a1_5, .string a1_6, .slice A1_7 l1_7.length c1_7] 27 (0, 0))) ∧ Aside0 (Below w.heap.size w w'))
         case atStart => exact ⟨0, (by first | rfl | (simp; done) | (simp [*]; done)), HH, ⟨Nat.le_refl _⟩, ⟨(Kd.F_mono (ok := (fun k_ => (P_ k_ ∨ w.heap.size ≤ k_) ∧ k_ ≠ g1 ∧ k_ ≠ g19)) HF0_7.out (fun k_ hk_ => ⟨hk_.1, hk_.2.1, hk_.2.2⟩))⟩, ⟨(Kd.F_mono (ok := (fun k_ => (P_ k_ ∨ w.heap.size ≤ k_) ∧ k_ ≠ g1 ∧ k_ ≠ g19)) HF1_7.out (fun k_ hk_ => ⟨hk_.1, hk_.2.1, hk_.2.2⟩))⟩, ⟨BKg1.out⟩, ⟨BKg19.out⟩, ⟨HB.out⟩⟩
         case round =>
          clear jl jm jn jo jp jq jr js jt ju jv jw jx jy jz jA jB jC jD jE jF jG jH jI jJ jK jL jM jN jO jP jQ
          clear hk54
          clear hk55
          clear hk57
          clear hk58
          clear hk60
          try clear hk61
          try clear hk62
          clear hk64
          clear hk65
          clear hk67
          clear hk68
          clear hk70
          clear hk71
          clear hk73
          clear hk74
          clear hk76
          clear hk77
          clear hk78
          clear HH
          clear HF0_7 HF1_7 BKg1 BKg19 HB
          obtain ⟨x79, rfl, HA, HK0, HF0_7, HF1_7, BKg1, BKg19, HB⟩ := hrel
          obtain ⟨w81, rfl⟩ : ∃ wo_ : World, wo_ = wr := ⟨_, rfl⟩
          cases gk with
          | zero => exact absurd HA.out (by simp [reply_Same.l0])
          | succ k80 =>
           have H := HA.out
           clear HA
           simp only [reply_Same.l0] at H
           have HH := Aside0.mk H
           clear H
           obtain ⟨j1k, j1l, j1m, j1n, j1o, j1p, j1q, j1r, j1s, j1t, j1u, j1v, j1w, j1x, j1y, j1z⟩ := MB.lay8 BKg1.out
           obtain ⟨j1A, j1B, j1C, j1D, j1E, j1F, j1G, j1H, j1I, j1J, j1K, j1L, j1M, j1N, j1O, j1P⟩ := MB.lay8 BKg19.out
           by_cases c114 : x79 < (l0_7.length : Int)
           ·replace HH := MW.hpos HH c114
            have hk115 : (x79 < (l0_7.length : Int)) = True := eq_true c114
            have hk116 : decide (x79 < (l0_7.length : Int)) = true := decide_eq_true c114
            clear c114
            by_cases c117 : 0 ≤ x79
            ·replace HH := MW.hpos HH c117
             have hk118 : decide (0 ≤ x79) = true := decide_eq_true c117
             clear c117
             have p119 : 0 ≤ (x79 : Int) := of_decide_eq_true (by first | (with_reducible assumption) | assumption)
             have q119 : x79 < (l0_7.length : Int) := of_decide_eq_true (by first | (with_reducible assumption) | assumption)
             obtain ⟨ad119, A119_1, c119_1, e119, hx119_0, hx119_1, hl119_1, hi119_1⟩ := atF_T46 HF0_7.out x79 p119 q119
             cases e119
             have HF119_1 := Aside0.mk hi119_1
             have HL119_1 := Aside0.mk hl119_1
             clear hi119_1 hl119_1
             replace p119 := eq_true p119
             replace q119 := eq_true q119
             go_wp2_with (((with_reducible refine gate_dst (N := 8) rfl ?_); (try (refine gate_guard (by rfl) ?_; dsimp only)); refine box_event ?hg (N := 8) ?hd (cs := #[.string (⟨#[]⟩ : ByteArray), .slice none 0 0]) (t := 46) ?hr ?_; (case hd => rfl); (case hg => rfl); (case hr => first | (go_simp; done) | (go_simp; rfl)); intro g120 hg w121 hbox hb); replace hg := Aside0.mk hg; replace hbox := Aside0.mk hbox; refine stop_ ?_)
             refine Stop.go ?_
             replace hg := hg.out
             replace hbox := hbox.out
             have GEg120 := Aside0.mk (by rw [hg]; exact (below_size HB.out) : w.heap.size ≤ g120)
             replace HF0_7 := Aside0.mk (Kd.F_elderB HF0_7.out g120 (Nat.le_of_eq hg.symm))
             replace HF0_7 := Aside0.mk (Kd.F_mono HF0_7.out (fun k_ hk_ => ⟨hk_.1.1, hk_.1.2.1, hk_.1.2.2, hk_.2⟩) : Kd.F k46 _ (fun k_ => (P_ k_ ∨ w.heap.size ≤ k_) ∧ k_ ≠ g1 ∧ k_ ≠ g19 ∧ k_ ≠ g120) _ _ _)
             replace HF1_7 := Aside0.mk (Kd.F_elderB HF1_7.out g120 (Nat.le_of_eq hg.symm))
             replace HF1_7 := Aside0.mk (Kd.F_mono HF1_7.out (fun k_ hk_ => ⟨hk_.1.1, hk_.1.2.1, hk_.1.2.2, hk_.2⟩) : Kd.F k46 _ (fun k_ => (P_ k_ ∨ w.heap.size ≤ k_) ∧ k_ ≠ g1 ∧ k_ ≠ g19 ∧ k_ ≠ g120) _ _ _)
             replace HF119_1 := Aside0.mk (Kd.F_elderB HF119_1.out g120 (Nat.le_of_eq hg.symm))
             replace HF119_1 := Aside0.mk (Kd.F_mono HF119_1.out (fun k_ hk_ => ⟨hk_.1.1, hk_.1.2.1, hk_.1.2.2, hk_.2⟩) : Kd.F Kd.string _ (fun k_ => (P_ k_ ∨ w.heap.size ≤ k_) ∧ k_ ≠ g1 ∧ k_ ≠ g19 ∧ k_ ≠ g120) _ _ _)
             have NEg1_g120 := Aside0.mk (by rw [hg]; exact Nat.ne_of_lt (blk_lt (g := g1) BKg1.out) : g1 ≠ g120)
             have NEg19_g120 := Aside0.mk (by rw [hg]; exact Nat.ne_of_lt (blk_lt (g := g19) BKg19.out) : g19 ≠ g120)
             replace HF0_7 := Aside0.mk (Kd.F_below HF0_7.out hb)
             replace HF1_7 := Aside0.mk (Kd.F_below HF1_7.out hb)
             replace HF119_1 := Aside0.mk (Kd.F_below HF119_1.out hb)
             replace BKg1 := Aside0.mk (blk_below (g := g1) BKg1.out hb)
             replace BKg19 := Aside0.mk (blk_below (g := g19) BKg19.out hb)
             replace HB := Aside0.mk (below_step HB.out hb)
             have BKg120 := Aside0.mk hbox
             clear hg hbox hb
             clear j1k j1l j1m j1n j1o j1p j1q j1r j1s j1t j1u j1v j1w j1x j1y j1z j1A j1B j1C j1D j1E j1F j1G j1H j1I j1J j1K j1L j1M j1N j1O j1P hx119_0 hx119_1 p119 q119
             obtain ⟨j1Y, j1Z, j20, j21, j22, j23, j24, j25, j26, j27, j28, j29, j2a, j2b, j2c, j2d⟩ := MB.lay8 BKg1.out
             obtain ⟨j2e, j2f, j2g, j2h, j2i, j2j, j2k, j2l, j2m, j2n, j2o, j2p, j2q, j2r, j2s, j2t⟩ := MB.lay8 BKg19.out
             obtain ⟨j2u, j2v, j2w, j2x⟩ := MB.lay2 BKg120.out
             go_wp2_with (((with_reducible refine gate_store (t := 46) (p := 8) rfl ?_); (try (refine gate_guard (by rfl) ?_; dsimp only)); refine MW.ev_store #[.string ((rd_T46 l0_7 x79).f0), .slice A119_1 ((rd_T46 l0_7 x79).f1).length c119_1] rfl rfl rfl rfl BKg120.out [.string ((rd_T46 l0_7 x79).f0), .slice A119_1 ((rd_T46 l0_7 x79).f1).length c119_1] rfl (by kernel_rfl) (by simp) (by simp [Value.oneCell']) rfl ?_; intro w158 hbk hg); replace hbk := Aside0.mk hbk; refine stop_ ?_)
             refine Stop.go ?_
             replace hbk := hbk.out
             replace HF0_7 := Aside0.mk (Kd.F_grown (ok := (fun k_ => (P_ k_ ∨ w.heap.size ≤ k_) ∧ k_ ≠ g1 ∧ k_ ≠ g19 ∧ k_ ≠ g120)) HF0_7.out hg (fun k_ hk_ he_ => hk_.2.2.2 (Option.some.inj he_)))
             replace HF1_7 := Aside0.mk (Kd.F_grown (ok := (fun k_ => (P_ k_ ∨ w.heap.size ≤ k_) ∧ k_ ≠ g1 ∧ k_ ≠ g19 ∧ k_ ≠ g120)) HF1_7.out hg (fun k_ hk_ he_ => hk_.2.2.2 (Option.some.inj he_)))
             replace HF119_1 := Aside0.mk (Kd.F_grown (ok := (fun k_ => (P_ k_ ∨ w.heap.size ≤ k_) ∧ k_ ≠ g1 ∧ k_ ≠ g19 ∧ k_ ≠ g120)) HF119_1.out hg (fun k_ hk_ he_ => hk_.2.2.2 (Option.some.inj he_)))
             replace BKg1 := Aside0.mk (blk_grown (g := g1) BKg1.out hg (fun he_ => NEg1_g120.out (Option.some.inj he_)))
             replace BKg19 := Aside0.mk (blk_grown (g := g19) BKg19.out hg (fun he_ => NEg19_g120.out (Option.some.inj he_)))
             replace HB := Aside0.mk (Below.grown HB.out hg (below_size HB.out) (fun k_ hk_ => by injection hk_ with hk_; rw [← hk_]; exact GEg120.out))
             replace BKg120 := Aside0.mk hbk
             clear hg hbk
             clear j1Y j1Z j20 j21 j22 j23 j24 j25 j26 j27 j28 j29 j2a j2b j2c j2d j2e j2f j2g j2h j2i j2j j2k j2l j2m j2n j2o j2p j2q j2r j2s j2t j2u j2v j2w j2x
             obtain ⟨j2z, j2A, j2B, j2C, j2D, j2E, j2F, j2G, j2H, j2I, j2J, j2K, j2L, j2M, j2N, j2O⟩ := MB.lay8 BKg1.out
             obtain ⟨j2P, j2Q, j2R, j2S, j2T, j2U, j2V, j2W, j2X, j2Y, j2Z, j30, j31, j32, j33, j34⟩ := MB.lay8 BKg19.out
             obtain ⟨j35, j36, j37, j38⟩ := MB.lay2 BKg120.out
             by_cases c195 : x79 < (l1_7.length : Int)
             ·replace HH := MW.hpos HH c195
              have hk196 : (x79 < (l1_7.length : Int)) = True := eq_true c195
              have hk197 : decide (x79 < (l1_7.length : Int)) = true := decide_eq_true c195
              clear c195
              have p198 : 0 ≤ (x79 : Int) := of_decide_eq_true (by first | (with_reducible assumption) | assumption)
              have q198 : x79 < (l1_7.length : Int) := of_decide_eq_true (by first | (with_reducible assumption) | assumption)
              obtain ⟨ad198, A198_1, c198_1, e198, hx198_0, hx198_1, hl198_1, hi198_1⟩ := atF_T46 HF1_7.out x79 p198 q198
              cases e198
              have HF198_1 := Aside0.mk hi198_1
              have HL198_1 := Aside0.mk hl198_1
              clear hi198_1 hl198_1
              replace p198 := eq_true p198
              replace q198 := eq_true q198
              go_wp2_with (((with_reducible refine gate_dst (N := 9) rfl ?_); (try (refine gate_guard (by rfl) ?_; dsimp only)); refine box_event ?hg (N := 9) ?hd (cs := #[.string (⟨#[]⟩ : ByteArray), .slice none 0 0]) (t := 46) ?hr ?_; (case hd => rfl); (case hg => rfl); (case hr => first | (go_simp; done) | (go_simp; rfl)); intro g199 hg w200 hbox hb); replace hg := Aside0.mk hg; replace hbox := Aside0.mk hbox; refine stop_ ?_)
              refine Stop.go ?_
              replace hg := hg.out
              replace hbox := hbox.out
              have GEg199 := Aside0.mk (by rw [hg]; exact (below_size HB.out) : w.heap.size ≤ g199)
              replace HF0_7 := Aside0.mk (Kd.F_elderB HF0_7.out g199 (Nat.le_of_eq hg.symm))
              replace HF0_7 := Aside0.mk (Kd.F_mono HF0_7.out (fun k_ hk_ => ⟨hk_.1.1, hk_.1.2.1, hk_.1.2.2.1, hk_.1.2.2.2, hk_.2⟩) : Kd.F k46 _ (fun k_ => (P_ k_ ∨ w.heap.size ≤ k_) ∧ k_ ≠ g1 ∧ k_ ≠ g19 ∧ k_ ≠ g120 ∧ k_ ≠ g199) _ _ _)
              replace HF1_7 := Aside0.mk (Kd.F_elderB HF1_7.out g199 (Nat.le_of_eq hg.symm))
              replace HF1_7 := Aside0.mk (Kd.F_mono HF1_7.out (fun k_ hk_ => ⟨hk_.1.1, hk_.1.2.1, hk_.1.2.2.1, hk_.1.2.2.2, hk_.2⟩) : Kd.F k46 _ (fun k_ => (P_ k_ ∨ w.heap.size ≤ k_) ∧ k_ ≠ g1 ∧ k_ ≠ g19 ∧ k_ ≠ g120 ∧ k_ ≠ g199) _ _ _)
              replace HF119_1 := Aside0.mk (Kd.F_elderB HF119_1.out g199 (Nat.le_of_eq hg.symm))
              replace HF119_1 := Aside0.mk (Kd.F_mono HF119_1.out (fun k_ hk_ => ⟨hk_.1.1, hk_.1.2.1, hk_.1.2.2.1, hk_.1.2.2.2, hk_.2⟩) : Kd.F Kd.string _ (fun k_ => (P_ k_ ∨ w.heap.size ≤ k_) ∧ k_ ≠ g1 ∧ k_ ≠ g19 ∧ k_ ≠ g120 ∧ k_ ≠ g199) _ _ _)
              replace HF198_1 := Aside0.mk (Kd.F_elderB HF198_1.out g199 (Nat.le_of_eq hg.symm))
              replace HF198_1 := Aside0.mk (Kd.F_mono HF198_1.out (fun k_ hk_ => ⟨hk_.1.1, hk_.1.2.1, hk_.1.2.2.1, hk_.1.2.2.2, hk_.2⟩) : Kd.F Kd.string _ (fun k_ => (P_ k_ ∨ w.heap.size ≤ k_) ∧ k_ ≠ g1 ∧ k_ ≠ g19 ∧ k_ ≠ g120 ∧ k_ ≠ g199) _ _ _)
              have NEg1_g199 := Aside0.mk (by rw [hg]; exact Nat.ne_of_lt (blk_lt (g := g1) BKg1.out) : g1 ≠ g199)
              have NEg19_g199 := Aside0.mk (by rw [hg]; exact Nat.ne_of_lt (blk_lt (g := g19) BKg19.out) : g19 ≠ g199)
              have NEg120_g199 := Aside0.mk (by rw [hg]; exact Nat.ne_of_lt (blk_lt (g := g120) BKg120.out) : g120 ≠ g199)
              replace HF0_7 := Aside0.mk (Kd.F_below HF0_7.out hb)
              replace HF1_7 := Aside0.mk (Kd.F_below HF1_7.out hb)
              replace HF119_1 := Aside0.mk (Kd.F_below HF119_1.out hb)
              replace HF198_1 := Aside0.mk (Kd.F_below HF198_1.out hb)
              replace BKg1 := Aside0.mk (blk_below (g := g1) BKg1.out hb)
              replace BKg19 := Aside0.mk (blk_below (g := g19) BKg19.out hb)
              replace BKg120 := Aside0.mk (blk_below (g := g120) BKg120.out hb)
              replace HB := Aside0.mk (below_step HB.out hb)
              have BKg199 := Aside0.mk hbox
              clear hg hbox hb
              clear j2z j2A j2B j2C j2D j2E j2F j2G j2H j2I j2J j2K j2L j2M j2N j2O j2P j2Q j2R j2S j2T j2U j2V j2W j2X j2Y j2Z j30 j31 j32 j33 j34 j35 j36 j37 j38 hx198_0 hx198_1 p198 q198
              obtain ⟨j3f, j3g, j3h, j3i, j3j, j3k, j3l, j3m, j3n, j3o, j3p, j3q, j3r, j3s, j3t, j3u⟩ := MB.lay8 BKg1.out
              obtain ⟨j3v, j3w, j3x, j3y, j3z, j3A, j3B, j3C, j3D, j3E, j3F, j3G, j3H, j3I, j3J, j3K⟩ := MB.lay8 BKg19.out
              obtain ⟨j3L, j3M, j3N, j3O⟩ := MB.lay2 BKg120.out
              obtain ⟨j3P, j3Q, j3R, j3S⟩ := MB.lay2 BKg199.out
              go_wp2_with (((with_reducible refine gate_store (t := 46) (p := 9) rfl ?_); (try (refine gate_guard (by rfl) ?_; dsimp only)); refine MW.ev_store #[.string ((rd_T46 l1_7 x79).f0), .slice A198_1 ((rd_T46 l1_7 x79).f1).length c198_1] rfl rfl rfl rfl BKg199.out [.string ((rd_T46 l1_7 x79).f0), .slice A198_1 ((rd_T46 l1_7 x79).f1).length c198_1] rfl (by kernel_rfl) (by simp) (by simp [Value.oneCell']) rfl ?_; intro w241 hbk hg); replace hbk := Aside0.mk hbk; refine stop_ ?_)
              refine Stop.go ?_
              replace hbk := hbk.out
              replace HF0_7 := Aside0.mk (Kd.F_grown (ok := (fun k_ => (P_ k_ ∨ w.heap.size ≤ k_) ∧ k_ ≠ g1 ∧ k_ ≠ g19 ∧ k_ ≠ g120 ∧ k_ ≠ g199)) HF0_7.out hg (fun k_ hk_ he_ => hk_.2.2.2.2 (Option.some.inj he_)))
              replace HF1_7 := Aside0.mk (Kd.F_grown (ok := (fun k_ => (P_ k_ ∨ w.heap.size ≤ k_) ∧ k_ ≠ g1 ∧ k_ ≠ g19 ∧ k_ ≠ g120 ∧ k_ ≠ g199)) HF1_7.out hg (fun k_ hk_ he_ => hk_.2.2.2.2 (Option.some.inj he_)))
              replace HF119_1 := Aside0.mk (Kd.F_grown (ok := (fun k_ => (P_ k_ ∨ w.heap.size ≤ k_) ∧ k_ ≠ g1 ∧ k_ ≠ g19 ∧ k_ ≠ g120 ∧ k_ ≠ g199)) HF119_1.out hg (fun k_ hk_ he_ => hk_.2.2.2.2 (Option.some.inj he_)))
              replace HF198_1 := Aside0.mk (Kd.F_grown (ok := (fun k_ => (P_ k_ ∨ w.heap.size ≤ k_) ∧ k_ ≠ g1 ∧ k_ ≠ g19 ∧ k_ ≠ g120 ∧ k_ ≠ g199)) HF198_1.out hg (fun k_ hk_ he_ => hk_.2.2.2.2 (Option.some.inj he_)))
              replace BKg1 := Aside0.mk (blk_grown (g := g1) BKg1.out hg (fun he_ => NEg1_g199.out (Option.some.inj he_)))
              replace BKg19 := Aside0.mk (blk_grown (g := g19) BKg19.out hg (fun he_ => NEg19_g199.out (Option.some.inj he_)))
              replace BKg120 := Aside0.mk (blk_grown (g := g120) BKg120.out hg (fun he_ => NEg120_g199.out (Option.some.inj he_)))
              replace HB := Aside0.mk (Below.grown HB.out hg (below_size HB.out) (fun k_ hk_ => by injection hk_ with hk_; rw [← hk_]; exact GEg199.out))
              replace BKg199 := Aside0.mk hbk
              clear hg hbk
              clear j3f j3g j3h j3i j3j j3k j3l j3m j3n j3o j3p j3q j3r j3s j3t j3u j3v j3w j3x j3y j3z j3A j3B j3C j3D j3E j3F j3G j3H j3I j3J j3K j3L j3M j3N j3O j3P j3Q j3R j3S
              obtain ⟨j3U, j3V, j3W, j3X, j3Y, j3Z, j40, j41, j42, j43, j44, j45, j46, j47, j48, j49⟩ := MB.lay8 BKg1.out
              obtain ⟨j4a, j4b, j4c, j4d, j4e, j4f, j4g, j4h, j4i, j4j, j4k, j4l, j4m, j4n, j4o, j4p⟩ := MB.lay8 BKg19.out
              obtain ⟨j4q, j4r, j4s, j4t⟩ := MB.lay2 BKg120.out
              obtain ⟨j4u, j4v, j4w, j4x⟩ := MB.lay2 BKg199.out
              have H := HH.out
              replace H := Option.bind_eq_some_iff.mp H
              obtain ⟨t282, at_, H⟩ := H
              have At283 := Aside0.mk at_
              clear at_
              (try dsimp only at H)
              replace HH := Aside0.mk H
              clear H
              go_wp2_with (((with_reducible refine gate_dst (N := 29) rfl ?_); (try (refine gate_guard (by rfl) ?_; dsimp only)); refine MW.goesV_ (some 29) rfl rfl Try.func36 (by kernel_rfl) rfl #[.agg #[.string ((rd_T46 l0_7 x79).f0), .slice A119_1 ((rd_T46 l0_7 x79).f1).length c119_1], .agg #[.string ((rd_T46 l1_7 x79).f0), .slice A198_1 ((rd_T46 l1_7 x79).f1).length c198_1]] rfl #[] rfl (by (try simp only [List.map_toArray, List.map_cons, List.map_nil, List.append_toArray, List.cons_append, List.nil_append, List.append_nil]); first | done | rfl | (simp only [List.length_drop, List.length_take]; rfl)) ?_; (with_reducible refine (reply_same.calls k80 (fun k_ => (P_ k_ ∨ w.heap.size ≤ k_) ∧ k_ ≠ g1 ∧ k_ ≠ g19 ∧ k_ ≠ g120 ∧ k_ ≠ g199) ((rd_T46 l0_7 x79).f0) _ _ ((rd_T46 l0_7 x79).f1) ((rd_T46 l1_7 x79).f0) _ _ ((rd_T46 l1_7 x79).f1) t282 _ (Kd.F_mono (ok := (fun k_ => (P_ k_ ∨ w.heap.size ≤ k_) ∧ k_ ≠ g1 ∧ k_ ≠ g19 ∧ k_ ≠ g120 ∧ k_ ≠ g199)) HF119_1.out (fun k_ hk_ => ⟨hk_.1, hk_.2.1, hk_.2.2.1, hk_.2.2.2.1, hk_.2.2.2.2⟩)) HL119_1.out (Kd.F_mono (ok := (fun k_ => (P_ k_ ∨ w.heap.size ≤ k_) ∧ k_ ≠ g1 ∧ k_ ≠ g19 ∧ k_ ≠ g120 ∧ k_ ≠ g199)) HF198_1.out (fun k_ hk_ => ⟨hk_.1, hk_.2.1, hk_.2.2.1, hk_.2.2.2.1, hk_.2.2.2.2⟩)) HL198_1.out At283.out).mono ?_); rintro e w284 ⟨rfl, hb⟩; refine ⟨_, rfl, ?_⟩); refine stop_ ?_)
              refine Stop.go ?_
              replace HF0_7 := Aside0.mk (Kd.F_below HF0_7.out hb)
              replace HF1_7 := Aside0.mk (Kd.F_below HF1_7.out hb)
              replace BKg1 := Aside0.mk (blk_below (g := g1) BKg1.out hb)
              replace BKg19 := Aside0.mk (blk_below (g := g19) BKg19.out hb)
              replace BKg120 := Aside0.mk (blk_below (g := g120) BKg120.out hb)
              replace BKg199 := Aside0.mk (blk_below (g := g199) BKg199.out hb)
              replace HB := Aside0.mk (below_step HB.out hb)
              clear hb
              clear j3U j3V j3W j3X j3Y j3Z j40 j41 j42 j43 j44 j45 j46 j47 j48 j49 j4a j4b j4c j4d j4e j4f j4g j4h j4i j4j j4k j4l j4m j4n j4o j4p j4q j4r j4s j4t j4u j4v j4w j4x
              obtain ⟨j4B, j4C, j4D, j4E, j4F, j4G, j4H, j4I, j4J, j4K, j4L, j4M, j4N, j4O, j4P, j4Q⟩ := MB.lay8 BKg1.out
              obtain ⟨j4R, j4S, j4T, j4U, j4V, j4W, j4X, j4Y, j4Z, j50, j51, j52, j53, j54, j55, j56⟩ := MB.lay8 BKg19.out
              obtain ⟨j57, j58, j59, j5a⟩ := MB.lay2 BKg120.out
              obtain ⟨j5b, j5c, j5d, j5e⟩ := MB.lay2 BKg199.out
              by_cases c325 : t282 = true
              ·replace HH := MW.hpos HH c325
               subst c325
               go_wp2
               go_roundg k80
               case measure => have := HK0.out; omega
               case rel => exact ⟨wrap64 (x79 + 1), (by first | rfl | (simp; done) | (simp [*]; done)), HH, ⟨by have := HK0.out; omega⟩, ⟨(Kd.F_mono (ok := (fun k_ => (P_ k_ ∨ w.heap.size ≤ k_) ∧ k_ ≠ g1 ∧ k_ ≠ g19 ∧ k_ ≠ g120 ∧ k_ ≠ g199)) HF0_7.out (fun k_ hk_ => ⟨hk_.1, hk_.2.1, hk_.2.2.1⟩))⟩, ⟨(Kd.F_mono (ok := (fun k_ => (P_ k_ ∨ w.heap.size ≤ k_) ∧ k_ ≠ g1 ∧ k_ ≠ g19 ∧ k_ ≠ g120 ∧ k_ ≠ g199)) HF1_7.out (fun k_ hk_ => ⟨hk_.1, hk_.2.1, hk_.2.2.1⟩))⟩, ⟨BKg1.out⟩, ⟨BKg19.out⟩, ⟨HB.out⟩⟩
              replace HH := MW.hneg HH c325
              replace c325 := Bool.eq_false_iff.mpr c325
              subst c325
              go_wp2
              go_ret
              refine ⟨_, rfl, ?_⟩
              have H := HH.out
              obtain rfl := Option.some.inj H
              clear HH
              go_wp2
              go_ret
              exact ⟨by first | rfl | (simp; done) | (simp [*]; done), HB.out⟩
             exact absurd HH.out (by rw [if_neg c195]; simp)
            exact absurd HH.out (by rw [if_neg c117]; simp)
           replace HH := MW.hneg HH c114
           have hk329 : (x79 < (l0_7.length : Int)) = False := eq_false c114
           have hk330 : decide (x79 < (l0_7.length : Int)) = false := decide_eq_false c114
           clear c114
           go_wp2
           go_ret
           refine ⟨_, rfl, ?_⟩
           have H := HH.out
           obtain rfl := Option.some.inj H
           clear HH
           go_wp2
           go_ret
           exact ⟨by first | rfl | (simp; done) | (simp [*]; done), HB.out⟩
        replace HH := MW.hneg HH c75
        have hk331 : ((l0_7.length : Int) == (l1_7.length : Int)) = false := beq_eq_false_iff_ne.mpr c75
        have hk332 : ((l0_7.length : Int) != (l1_7.length : Int)) = true := bne_iff_ne.mpr c75
        have hk333 : (l0_7.length == l1_7.length) = false := by first | simpa using c75 | (simp at c75 ⊢; omega)
        clear c75
        go_wp2
        go_ret
        refine ⟨_, rfl, ?_⟩
        have H := HH.out
        obtain rfl := Option.some.inj H
        clear HH
        go_wp2
        go_ret
        exact ⟨by first | rfl | (simp; done) | (simp [*]; done), HB.out⟩
       replace HH := MW.hneg HH c72
       have hk334 : (a0_6.toList == a1_6.toList) = false := beq_eq_false_iff_ne.mpr c72
       have hk335 : (a0_6.toList != a1_6.toList) = true := bne_iff_ne.mpr c72
       clear c72
       have H := HH.out
       obtain rfl := Option.some.inj H
       clear HH
       go_wp2
       go_ret
       exact ⟨by first | rfl | (simp; done) | (simp [*]; done), HB.out⟩
      replace HH := MW.hneg HH c69
      have hk336 : (a0_5.toList == a1_5.toList) = false := beq_eq_false_iff_ne.mpr c69
      have hk337 : (a0_5.toList != a1_5.toList) = true := bne_iff_ne.mpr c69
      clear c69
      have H := HH.out
      obtain rfl := Option.some.inj H
      clear HH
      go_wp2
      go_ret
      exact ⟨by first | rfl | (simp; done) | (simp [*]; done), HB.out⟩
     replace HH := MW.hneg HH c66
     have hk338 : (a0_4.toList == a1_4.toList) = false := beq_eq_false_iff_ne.mpr c66
     have hk339 : (a0_4.toList != a1_4.toList) = true := bne_iff_ne.mpr c66
     clear c66
     have H := HH.out
     obtain rfl := Option.some.inj H
     clear HH
     go_wp2
     go_ret
     exact ⟨by first | rfl | (simp; done) | (simp [*]; done), HB.out⟩
    replace HH := MW.hneg HH c63
    have hk340 : (a0_3 == a1_3) = false := beq_eq_false_iff_ne.mpr c63
    have hk341 : (a0_3 != a1_3) = true := bne_iff_ne.mpr c63
    clear c63
    have H := HH.out
    obtain rfl := Option.some.inj H
    clear HH
    go_wp2
    go_ret
    exact ⟨by first | rfl | (simp; done) | (simp [*]; done), HB.out⟩
   replace HH := MW.hneg HH c59
   have hk342 : (a0_2 == a1_2) = false := by simpa using c59
   try have hk343 : decide (a0_2 = a1_2) = false := by simpa using c59
   try have hk344 : (a0_2 == a1_2) = false := by simpa using c59
   try have hk345 : ¬ (a0_2 = a1_2) := by simpa using c59
   clear c59
   have H := HH.out
   obtain rfl := Option.some.inj H
   clear HH
   go_wp2
   go_ret
   exact ⟨by first | rfl | (simp; done) | (simp [*]; done), HB.out⟩
  replace HH := MW.hneg HH c56
  have hk346 : (a0_1 == a1_1) = false := beq_eq_false_iff_ne.mpr c56
  have hk347 : (a0_1 != a1_1) = true := bne_iff_ne.mpr c56
  clear c56
  have H := HH.out
  obtain rfl := Option.some.inj H
  clear HH
  go_wp2
  go_ret
  exact ⟨by first | rfl | (simp; done) | (simp [*]; done), HB.out⟩
 replace HH := MW.hneg HH c53
 have hk348 : (a0_0 == a1_0) = false := beq_eq_false_iff_ne.mpr c53
 have hk349 : (a0_0 != a1_0) = true := bne_iff_ne.mpr c53
 clear c53
 have H := HH.out
 obtain rfl := Option.some.inj H
 clear HH
 go_wp2
 go_ret
 exact ⟨by first | rfl | (simp; done) | (simp [*]; done), HB.out⟩
end Go.Proofs.Ytdjkemhmhkpmkaa.GA
