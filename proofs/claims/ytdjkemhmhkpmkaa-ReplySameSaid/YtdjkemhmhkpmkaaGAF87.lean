import Derived.Test.YtdjkemhmhkpmkaaGA0
namespace Go.Proofs.Ytdjkemhmhkpmkaa.GA
open Go.RowKit Go.Proofs.Ytdjkemhmhkpmkaa Go.Proofs.Ytdjkemhmhkpmkaa.MW Go.Proofs.YtdjkemhmhkpmkaaW.PrintWords Go.Proofs.YtdjkemhmhkpmkaaW.PrintLast Go.Proofs.YtdjkemhmhkpmkaaW.PrintMore
attribute [local go_sem] max2_int min2_int max_two min_two
set_option linter.unusedVariables false
set_option linter.unusedSimpArgs false
/-! ### ber_sane: function 87 -/
mutual
def ber_sane.l0 : Nat → Int → (List (S57)) → Option (Bool)
 | 0, _, _ => none
 | k + 1, x33, l0_4 => if x33 < (l0_4.length : Int) then (if 0 ≤ x33 then ((ber_sane.f k ((rd_T57 l0_4 x33).f0) ((rd_T57 l0_4 x33).f1) ((rd_T57 l0_4 x33).f2) ((rd_T57 l0_4 x33).f3) ((rd_T57 l0_4 x33).f4)).bind fun t95 => (if t95 = true then ((ber_sane.l0 k (wrap64 (x33 + 1)) l0_4)) else (some false))) else (none)) else (some true)
def ber_sane.l1 : Nat → Int → (List (S57)) → Option (Bool)
 | 0, _, _ => none
 | k + 1, x129, l0_4 => if x129 < (l0_4.length : Int) then (if 0 ≤ x129 then ((ber_sane.f k ((rd_T57 l0_4 x129).f0) ((rd_T57 l0_4 x129).f1) ((rd_T57 l0_4 x129).f2) ((rd_T57 l0_4 x129).f3) ((rd_T57 l0_4 x129).f4)).bind fun t191 => (if t191 = true then ((ber_sane.l1 k (wrap64 (x129 + 1)) l0_4)) else (some false))) else (none)) else (some true)
def ber_sane.f : Nat → Int → Bool → Int → ByteArray → (List (S57)) → Option (Bool)
 | 0, _, _, _, _, _ => none
 | k + 1, a0_0, a0_1, a0_2, a0_3, l0_4 => if a0_0 < 0 then (some false) else (if a0_0 > 3 then (some false) else (if a0_2 < 0 then (some false) else (if a0_2 > 30 then (some false) else (if a0_1 = true then (if a0_3.toList = ([] : List UInt8) then ((ber_sane.l0 k 0 l0_4)) else (some false)) else (if (l0_4.length : Int) > 0 then (some false) else ((ber_sane.l1 k 0 l0_4)))))))
end
theorem ber_sane.mono_l : ∀ k, (∀ y0 y1 y2 y3 y4, LeO (ber_sane.f k y0 y1 y2 y3 y4) (ber_sane.f (k + 1) y0 y1 y2 y3 y4)) ∧ (∀ y0 y1, LeO (ber_sane.l0 k y0 y1) (ber_sane.l0 (k + 1) y0 y1)) ∧ (∀ y0 y1, LeO (ber_sane.l1 k y0 y1) (ber_sane.l1 (k + 1) y0 y1))
 | 0 => ⟨fun _ _ _ _ _ r h => by simp [ber_sane.f] at h, fun _ _ r h => by simp [ber_sane.l0] at h, fun _ _ r h => by simp [ber_sane.l1] at h⟩
 | k + 1 => by
  obtain ⟨ih0, ih1, ih2⟩ := ber_sane.mono_l k
  refine ⟨?_, ?_, ?_⟩
  ·intro y0 y1 y2 y3 y4
   unfold ber_sane.f
   repeat' first
   | (with_reducible exact ih0 _ _ _ _ _)
   | (with_reducible exact ih1 _ _)
   | (with_reducible exact ih2 _ _)
   | (with_reducible exact LeO.refl _)
   | (with_reducible exact LeO.none _)
   | (with_reducible refine LeO.ite ?_ ?_)
   | (with_reducible refine LeO.bind ?_ (fun _ => ?_))
  ·intro y0 y1
   unfold ber_sane.l0
   repeat' first
   | (with_reducible exact ih0 _ _ _ _ _)
   | (with_reducible exact ih1 _ _)
   | (with_reducible exact ih2 _ _)
   | (with_reducible exact LeO.refl _)
   | (with_reducible exact LeO.none _)
   | (with_reducible refine LeO.ite ?_ ?_)
   | (with_reducible refine LeO.bind ?_ (fun _ => ?_))
  intro y0 y1
  unfold ber_sane.l1
  repeat' first
  | (with_reducible exact ih0 _ _ _ _ _)
  | (with_reducible exact ih1 _ _)
  | (with_reducible exact ih2 _ _)
  | (with_reducible exact LeO.refl _)
  | (with_reducible exact LeO.none _)
  | (with_reducible refine LeO.ite ?_ ?_)
  | (with_reducible refine LeO.bind ?_ (fun _ => ?_))
theorem ber_sane.mono : ∀ a0_ a1_ a2_ a3_ a4_ k, LeO (ber_sane.f k a0_ a1_ a2_ a3_ a4_) (ber_sane.f (k + 1) a0_ a1_ a2_ a3_ a4_) := by
 intro a0_ a1_ a2_ a3_ a4_ k
 obtain ⟨ih0, ih1, ih2⟩ := ber_sane.mono_l k
 exact ih0 a0_ a1_ a2_ a3_ a4_
set_option maxHeartbeats 8000000 in
set_option maxRecDepth 100000 in
theorem ber_sane.calls (k : Nat) : ∀ (P_ : Nat → Prop) (a0_0 : Int) (a0_1 : Bool) (a0_2 : Int) (a0_3 : ByteArray) (A0_4 : Option Addr) (c0_4 : Nat) (l0_4 : List (S57)) (r : Bool) (w : World) (hs0_4 : Kd.F k57 w P_ A0_4 l0_4.length l0_4) (hc0_4 : l0_4.length ≤ c0_4) (h : ber_sane.f k a0_0 a0_1 a0_2 a0_3 l0_4 = some r),
  Calls Try.prog 87 #[.agg #[.int .i64 a0_0, .bool a0_1, .int .i64 a0_2, .string a0_3, .slice A0_4 l0_4.length c0_4]] w (fun e w' => e = .returned (.bool r) ∧ Below w.heap.size w w') := by
 induction k using Nat.strongRecOn with
 | _ k ih =>
 intro P_ a0_0 a0_1 a0_2 a0_3 A0_4 c0_4 l0_4 r w hs0_4 hc0_4 h
 cases k with
 | zero => exact absurd h (by simp [ber_sane.f])
 | succ k1 =>
 simp only [ber_sane.f] at h
 have HH := Aside0.mk h
 clear h
 have HF0_4 := Aside0.mk (Kd.F_mono hs0_4 (fun k_ hk_ => (.inl hk_ : P_ k_ ∨ w.heap.size ≤ k_)))
 clear hs0_4 hc0_4
 have HB := Aside0.mk (Below.refl w.heap.size w)
 have hu57 := Try.underlying57
 go_enter Try.func87, Try.ntmps87
 go_wp2_with (((with_reducible refine gate_dst (N := 1) rfl ?_); (try (refine gate_guard (by rfl) ?_; dsimp only)); refine box_event ?hg (N := 1) ?hd (cs := #[.int .i64 a0_0, .bool a0_1, .int .i64 a0_2, .string a0_3, .slice A0_4 l0_4.length c0_4]) (t := 57) ?hr ?_; (case hd => rfl); (case hg => rfl); (case hr => first | (go_simp; done) | (go_simp; rfl)); intro g1 hg w2 hbox hb); replace hg := Aside0.mk hg; replace hbox := Aside0.mk hbox; refine stop_ ?_)
 refine Stop.go ?_
 replace hg := hg.out
 replace hbox := hbox.out
 replace HF0_4 := Aside0.mk (Kd.F_elderB HF0_4.out g1 (Nat.le_of_eq hg.symm))
 replace HF0_4 := Aside0.mk (Kd.F_mono HF0_4.out (fun k_ hk_ => ⟨hk_.1, hk_.2⟩) : Kd.F k57 _ (fun k_ => (P_ k_ ∨ w.heap.size ≤ k_) ∧ k_ ≠ g1) _ _ _)
 replace HF0_4 := Aside0.mk (Kd.F_below HF0_4.out hb)
 replace HB := Aside0.mk (below_step HB.out hb)
 have BKg1 := Aside0.mk hbox
 clear hg hbox hb
 obtain ⟨j3, j4, j5, j6, j7, j8, j9, ja, jb, jc⟩ := MB.lay5 BKg1.out
 by_cases c13 : a0_0 < 0
 ·replace HH := MW.hpos HH c13
  have hk14 : (a0_0 < 0) = True := eq_true c13
  have hk15 : decide (a0_0 < 0) = true := decide_eq_true c13
  clear c13
  have H := HH.out
  obtain rfl := Option.some.inj H
  clear HH
  go_wp2
  go_ret
  exact ⟨by first | rfl | (simp; done) | (simp [*]; done), HB.out⟩
 replace HH := MW.hneg HH c13
 have hk16 : (a0_0 < 0) = False := eq_false c13
 have hk17 : decide (a0_0 < 0) = false := decide_eq_false c13
 clear c13
 by_cases c18 : a0_0 > 3
 ·replace HH := MW.hpos HH c18
  have hk19 : decide (3 < a0_0) = true := decide_eq_true c18
  clear c18
  have H := HH.out
  obtain rfl := Option.some.inj H
  clear HH
  go_wp2
  go_ret
  exact ⟨by first | rfl | (simp; done) | (simp [*]; done), HB.out⟩
 replace HH := MW.hneg HH c18
 have hk20 : decide (3 < a0_0) = false := decide_eq_false c18
 clear c18
 by_cases c21 : a0_2 < 0
 ·replace HH := MW.hpos HH c21
  have hk22 : (a0_2 < 0) = True := eq_true c21
  have hk23 : decide (a0_2 < 0) = true := decide_eq_true c21
  clear c21
  have H := HH.out
  obtain rfl := Option.some.inj H
  clear HH
  go_wp2
  go_ret
  exact ⟨by first | rfl | (simp; done) | (simp [*]; done), HB.out⟩
 replace HH := MW.hneg HH c21
 have hk24 : (a0_2 < 0) = False := eq_false c21
 have hk25 : decide (a0_2 < 0) = false := decide_eq_false c21
 clear c21
 by_cases c26 : a0_2 > 30
 ·replace HH := MW.hpos HH c26
  have hk27 : decide (30 < a0_2) = true := decide_eq_true c26
  clear c26
  have H := HH.out
  obtain rfl := Option.some.inj H
  clear HH
  go_wp2
  go_ret
  exact ⟨by first | rfl | (simp; done) | (simp [*]; done), HB.out⟩
 replace HH := MW.hneg HH c26
 have hk28 : decide (30 < a0_2) = false := decide_eq_false c26
 clear c26
 by_cases c29 : a0_1 = true
 ·replace HH := MW.hpos HH c29
  subst c29
  by_cases c30 : a0_3.toList = ([] : List UInt8)
  ·replace HH := MW.hpos HH c30
   have hk31 : (a0_3.toList == ([] : List UInt8)) = true := beq_iff_eq.mpr c30
   have hk32 : (a0_3.toList != ([] : List UInt8)) = false := bne_eq_false_iff_eq.mpr c30
   clear c30
   go_wp2
   go_loopg [44] k1 (fun kq u44 w' => ∃ (x33 : Int), u44 = .int .i64 x33 ∧ Aside0 ((ber_sane.l0 kq x33 l0_4) = some r) ∧ Aside0 (kq ≤ k1) ∧ Aside0 (Kd.F k57 w' (fun k_ => (P_ k_ ∨ w.heap.size ≤ k_) ∧ k_ ≠ g1) A0_4 l0_4.length l0_4) ∧ Aside0 (w'.heap[g1]? = some (.cells #[.int .i64 a0_0, .bool true, .int .i64 a0_2, .string a0_3, .slice A0_4 l0_4.length c0_4] 57 (0, 0))) ∧ Aside0 (Below w.heap.size w w'))
   case atStart => exact ⟨0, (by first | rfl | (simp; done) | (simp [*]; done)), HH, ⟨Nat.le_refl _⟩, ⟨(Kd.F_mono (ok := (fun k_ => (P_ k_ ∨ w.heap.size ≤ k_) ∧ k_ ≠ g1)) HF0_4.out (fun k_ hk_ => ⟨hk_.1, hk_.2⟩))⟩, ⟨BKg1.out⟩, ⟨HB.out⟩⟩
   case round =>
    clear j3 j4 j5 j6 j7 j8 j9 ja jb jc
    clear hk16
    clear hk17
    clear hk20
    clear hk24
    clear hk25
    clear hk28
    clear hk31
    clear hk32
    clear HH
    clear HF0_4 BKg1 HB
    obtain ⟨x33, rfl, HA, HK0, HF0_4, BKg1, HB⟩ := hrel
    obtain ⟨w35, rfl⟩ : ∃ wo_ : World, wo_ = wr := ⟨_, rfl⟩
    cases gk with
    | zero => exact absurd HA.out (by simp [ber_sane.l0])
    | succ k34 =>
     have H := HA.out
     clear HA
     simp only [ber_sane.l0] at H
     have HH := Aside0.mk H
     clear H
     obtain ⟨jA, jB, jC, jD, jE, jF, jG, jH, jI, jJ⟩ := MB.lay5 BKg1.out
     by_cases c46 : x33 < (l0_4.length : Int)
     ·replace HH := MW.hpos HH c46
      have hk47 : (x33 < (l0_4.length : Int)) = True := eq_true c46
      have hk48 : decide (x33 < (l0_4.length : Int)) = true := decide_eq_true c46
      clear c46
      by_cases c49 : 0 ≤ x33
      ·replace HH := MW.hpos HH c49
       have hk50 : decide (0 ≤ x33) = true := decide_eq_true c49
       clear c49
       have p51 : 0 ≤ (x33 : Int) := of_decide_eq_true (by first | (with_reducible assumption) | assumption)
       have q51 : x33 < (l0_4.length : Int) := of_decide_eq_true (by first | (with_reducible assumption) | assumption)
       obtain ⟨ad51, A51_4, c51_4, e51, hx51_0, hx51_1, hx51_2, hx51_3, hx51_4, hl51_4, hi51_4⟩ := atF_T57 HF0_4.out x33 p51 q51
       cases e51
       have HF51_4 := Aside0.mk hi51_4
       have HL51_4 := Aside0.mk hl51_4
       clear hi51_4 hl51_4
       replace p51 := eq_true p51
       replace q51 := eq_true q51
       go_wp2_with (((with_reducible refine gate_dst (N := 4) rfl ?_); (try (refine gate_guard (by rfl) ?_; dsimp only)); refine box_event ?hg (N := 4) ?hd (cs := #[.int .i64 0, .bool false, .int .i64 0, .string (⟨#[]⟩ : ByteArray), .slice none 0 0]) (t := 57) ?hr ?_; (case hd => rfl); (case hg => rfl); (case hr => first | (go_simp; done) | (go_simp; rfl)); intro g52 hg w53 hbox hb); replace hg := Aside0.mk hg; replace hbox := Aside0.mk hbox; refine stop_ ?_)
       refine Stop.go ?_
       replace hg := hg.out
       replace hbox := hbox.out
       have GEg52 := Aside0.mk (by rw [hg]; exact (below_size HB.out) : w.heap.size ≤ g52)
       replace HF0_4 := Aside0.mk (Kd.F_elderB HF0_4.out g52 (Nat.le_of_eq hg.symm))
       replace HF0_4 := Aside0.mk (Kd.F_mono HF0_4.out (fun k_ hk_ => ⟨hk_.1.1, hk_.1.2, hk_.2⟩) : Kd.F k57 _ (fun k_ => (P_ k_ ∨ w.heap.size ≤ k_) ∧ k_ ≠ g1 ∧ k_ ≠ g52) _ _ _)
       replace HF51_4 := Aside0.mk (Kd.F_elderB HF51_4.out g52 (Nat.le_of_eq hg.symm))
       replace HF51_4 := Aside0.mk (Kd.F_mono HF51_4.out (fun k_ hk_ => ⟨hk_.1.1, hk_.1.2, hk_.2⟩) : Kd.F k57 _ (fun k_ => (P_ k_ ∨ w.heap.size ≤ k_) ∧ k_ ≠ g1 ∧ k_ ≠ g52) _ _ _)
       have NEg1_g52 := Aside0.mk (by rw [hg]; exact Nat.ne_of_lt (blk_lt (g := g1) BKg1.out) : g1 ≠ g52)
       replace HF0_4 := Aside0.mk (Kd.F_below HF0_4.out hb)
       replace HF51_4 := Aside0.mk (Kd.F_below HF51_4.out hb)
       replace BKg1 := Aside0.mk (blk_below (g := g1) BKg1.out hb)
       replace HB := Aside0.mk (below_step HB.out hb)
       have BKg52 := Aside0.mk hbox
       clear hg hbox hb
       clear jA jB jC jD jE jF jG jH jI jJ hx51_0 hx51_1 hx51_2 hx51_3 hx51_4 p51 q51
       obtain ⟨jS, jT, jU, jV, jW, jX, jY, jZ, j10, j11⟩ := MB.lay5 BKg1.out
       obtain ⟨j12, j13, j14, j15, j16, j17, j18, j19, j1a, j1b⟩ := MB.lay5 BKg52.out
       go_wp2_with (((with_reducible refine gate_store (t := 57) (p := 4) rfl ?_); (try (refine gate_guard (by rfl) ?_; dsimp only)); refine MW.ev_store #[.int .i64 ((rd_T57 l0_4 x33).f0), .bool ((rd_T57 l0_4 x33).f1), .int .i64 ((rd_T57 l0_4 x33).f2), .string ((rd_T57 l0_4 x33).f3), .slice A51_4 ((rd_T57 l0_4 x33).f4).length c51_4] rfl rfl rfl rfl BKg52.out [.int .i64 ((rd_T57 l0_4 x33).f0), .bool ((rd_T57 l0_4 x33).f1), .int .i64 ((rd_T57 l0_4 x33).f2), .string ((rd_T57 l0_4 x33).f3), .slice A51_4 ((rd_T57 l0_4 x33).f4).length c51_4] rfl (by kernel_rfl) (by simp) (by simp [Value.oneCell']) rfl ?_; intro w74 hbk hg); replace hbk := Aside0.mk hbk; refine stop_ ?_)
       refine Stop.go ?_
       replace hbk := hbk.out
       replace HF0_4 := Aside0.mk (Kd.F_grown (ok := (fun k_ => (P_ k_ ∨ w.heap.size ≤ k_) ∧ k_ ≠ g1 ∧ k_ ≠ g52)) HF0_4.out hg (fun k_ hk_ he_ => hk_.2.2 (Option.some.inj he_)))
       replace HF51_4 := Aside0.mk (Kd.F_grown (ok := (fun k_ => (P_ k_ ∨ w.heap.size ≤ k_) ∧ k_ ≠ g1 ∧ k_ ≠ g52)) HF51_4.out hg (fun k_ hk_ he_ => hk_.2.2 (Option.some.inj he_)))
       replace BKg1 := Aside0.mk (blk_grown (g := g1) BKg1.out hg (fun he_ => NEg1_g52.out (Option.some.inj he_)))
       replace HB := Aside0.mk (Below.grown HB.out hg (below_size HB.out) (fun k_ hk_ => by injection hk_ with hk_; rw [← hk_]; exact GEg52.out))
       replace BKg52 := Aside0.mk hbk
       clear hg hbk
       clear jS jT jU jV jW jX jY jZ j10 j11 j12 j13 j14 j15 j16 j17 j18 j19 j1a j1b
       obtain ⟨j1d, j1e, j1f, j1g, j1h, j1i, j1j, j1k, j1l, j1m⟩ := MB.lay5 BKg1.out
       obtain ⟨j1n, j1o, j1p, j1q, j1r, j1s, j1t, j1u, j1v, j1w⟩ := MB.lay5 BKg52.out
       have H := HH.out
       replace H := Option.bind_eq_some_iff.mp H
       obtain ⟨t95, at_, H⟩ := H
       have At96 := Aside0.mk at_
       clear at_
       (try dsimp only at H)
       replace HH := Aside0.mk H
       clear H
       go_wp2_with (((with_reducible refine gate_callee (f := 87) rfl ?_); (try (refine gate_guard (by rfl) ?_; dsimp only)); refine goesL_ (some 49) rfl rfl Try.func87 (by kernel_rfl) rfl #[.agg #[.int .i64 ((rd_T57 l0_4 x33).f0), .bool ((rd_T57 l0_4 x33).f1), .int .i64 ((rd_T57 l0_4 x33).f2), .string ((rd_T57 l0_4 x33).f3), .slice A51_4 ((rd_T57 l0_4 x33).f4).length c51_4]] rfl (by (try simp only [List.map_toArray, List.map_cons, List.map_nil]); first | done | rfl | (simp only [List.length_drop, List.length_take]; rfl)) ?_; (with_reducible refine (ih k34 (by have := HK0.out; omega) (fun k_ => (P_ k_ ∨ w.heap.size ≤ k_) ∧ k_ ≠ g1 ∧ k_ ≠ g52) ((rd_T57 l0_4 x33).f0) ((rd_T57 l0_4 x33).f1) ((rd_T57 l0_4 x33).f2) ((rd_T57 l0_4 x33).f3) _ _ ((rd_T57 l0_4 x33).f4) t95 _ (Kd.F_mono (ok := (fun k_ => (P_ k_ ∨ w.heap.size ≤ k_) ∧ k_ ≠ g1 ∧ k_ ≠ g52)) HF51_4.out (fun k_ hk_ => ⟨hk_.1, hk_.2.1, hk_.2.2⟩)) HL51_4.out At96.out).mono ?_); rintro e w97 ⟨rfl, hb⟩; refine ⟨_, rfl, ?_⟩); refine stop_ ?_)
       refine Stop.go ?_
       replace HF0_4 := Aside0.mk (Kd.F_below HF0_4.out hb)
       replace BKg1 := Aside0.mk (blk_below (g := g1) BKg1.out hb)
       replace BKg52 := Aside0.mk (blk_below (g := g52) BKg52.out hb)
       replace HB := Aside0.mk (below_step HB.out hb)
       clear hb
       clear j1d j1e j1f j1g j1h j1i j1j j1k j1l j1m j1n j1o j1p j1q j1r j1s j1t j1u j1v j1w
       obtain ⟨j1A, j1B, j1C, j1D, j1E, j1F, j1G, j1H, j1I, j1J⟩ := MB.lay5 BKg1.out
       obtain ⟨j1K, j1L, j1M, j1N, j1O, j1P, j1Q, j1R, j1S, j1T⟩ := MB.lay5 BKg52.out
       by_cases c118 : t95 = true
       ·replace HH := MW.hpos HH c118
        subst c118
        go_wp2
        go_roundg k34
        case measure => have := HK0.out; omega
        case rel => exact ⟨wrap64 (x33 + 1), (by first | rfl | (simp; done) | (simp [*]; done)), HH, ⟨by have := HK0.out; omega⟩, ⟨(Kd.F_mono (ok := (fun k_ => (P_ k_ ∨ w.heap.size ≤ k_) ∧ k_ ≠ g1 ∧ k_ ≠ g52)) HF0_4.out (fun k_ hk_ => ⟨hk_.1, hk_.2.1⟩))⟩, ⟨BKg1.out⟩, ⟨HB.out⟩⟩
       replace HH := MW.hneg HH c118
       replace c118 := Bool.eq_false_iff.mpr c118
       subst c118
       have H := HH.out
       obtain rfl := Option.some.inj H
       clear HH
       go_wp2
       go_ret
       exact ⟨by first | rfl | (simp; done) | (simp [*]; done), HB.out⟩
      exact absurd HH.out (by rw [if_neg c49]; simp)
     replace HH := MW.hneg HH c46
     have hk120 : (x33 < (l0_4.length : Int)) = False := eq_false c46
     have hk121 : decide (x33 < (l0_4.length : Int)) = false := decide_eq_false c46
     clear c46
     have H := HH.out
     obtain rfl := Option.some.inj H
     clear HH
     go_wp2
     go_ret
     exact ⟨by first | rfl | (simp; done) | (simp [*]; done), HB.out⟩
  replace HH := MW.hneg HH c30
  have hk122 : (a0_3.toList == ([] : List UInt8)) = false := beq_eq_false_iff_ne.mpr c30
  have hk123 : (a0_3.toList != ([] : List UInt8)) = true := bne_iff_ne.mpr c30
  clear c30
  have H := HH.out
  obtain rfl := Option.some.inj H
  clear HH
  go_wp2
  go_ret
  exact ⟨by first | rfl | (simp; done) | (simp [*]; done), HB.out⟩
 replace HH := MW.hneg HH c29
 replace c29 := Bool.eq_false_iff.mpr c29
 subst c29
 by_cases c124 : (l0_4.length : Int) > 0
 ·replace HH := MW.hpos HH c124
  have hk125 : decide (0 < (l0_4.length : Int)) = true := decide_eq_true c124
  have hk126 : decide (0 < l0_4.length) = true := decide_eq_true (by omega)
  clear c124
  have H := HH.out
  obtain rfl := Option.some.inj H
  clear HH
  go_wp2
  go_ret
  exact ⟨by first | rfl | (simp; done) | (simp [*]; done), HB.out⟩
 replace HH := MW.hneg HH c124
 have hk127 : decide (0 < (l0_4.length : Int)) = false := decide_eq_false c124
 have hk128 : decide (0 < l0_4.length) = false := decide_eq_false (by omega)
 clear c124
 go_wp2
 go_loopg [44] k1 (fun kq u44 w' => ∃ (x129 : Int), u44 = .int .i64 x129 ∧ Aside0 ((ber_sane.l1 kq x129 l0_4) = some r) ∧ Aside0 (kq ≤ k1) ∧ Aside0 (Kd.F k57 w' (fun k_ => (P_ k_ ∨ w.heap.size ≤ k_) ∧ k_ ≠ g1) A0_4 l0_4.length l0_4) ∧ Aside0 (w'.heap[g1]? = some (.cells #[.int .i64 a0_0, .bool false, .int .i64 a0_2, .string a0_3, .slice A0_4 l0_4.length c0_4] 57 (0, 0))) ∧ Aside0 (Below w.heap.size w w'))
 case atStart => exact ⟨0, (by first | rfl | (simp; done) | (simp [*]; done)), HH, ⟨Nat.le_refl _⟩, ⟨(Kd.F_mono (ok := (fun k_ => (P_ k_ ∨ w.heap.size ≤ k_) ∧ k_ ≠ g1)) HF0_4.out (fun k_ hk_ => ⟨hk_.1, hk_.2⟩))⟩, ⟨BKg1.out⟩, ⟨HB.out⟩⟩
 case round =>
  clear j3 j4 j5 j6 j7 j8 j9 ja jb jc
  clear hk16
  clear hk17
  clear hk20
  clear hk24
  clear hk25
  clear hk28
  clear hk127
  clear hk128
  clear HH
  clear HF0_4 BKg1 HB
  obtain ⟨x129, rfl, HA, HK1, HF0_4, BKg1, HB⟩ := hrel
  obtain ⟨w131, rfl⟩ : ∃ wo_ : World, wo_ = wr := ⟨_, rfl⟩
  cases gk with
  | zero => exact absurd HA.out (by simp [ber_sane.l1])
  | succ k130 =>
   have H := HA.out
   clear HA
   simp only [ber_sane.l1] at H
   have HH := Aside0.mk H
   clear H
   obtain ⟨j28, j29, j2a, j2b, j2c, j2d, j2e, j2f, j2g, j2h⟩ := MB.lay5 BKg1.out
   by_cases c142 : x129 < (l0_4.length : Int)
   ·replace HH := MW.hpos HH c142
    have hk143 : (x129 < (l0_4.length : Int)) = True := eq_true c142
    have hk144 : decide (x129 < (l0_4.length : Int)) = true := decide_eq_true c142
    clear c142
    by_cases c145 : 0 ≤ x129
    ·replace HH := MW.hpos HH c145
     have hk146 : decide (0 ≤ x129) = true := decide_eq_true c145
     clear c145
     have p147 : 0 ≤ (x129 : Int) := of_decide_eq_true (by first | (with_reducible assumption) | assumption)
     have q147 : x129 < (l0_4.length : Int) := of_decide_eq_true (by first | (with_reducible assumption) | assumption)
     obtain ⟨ad147, A147_4, c147_4, e147, hx147_0, hx147_1, hx147_2, hx147_3, hx147_4, hl147_4, hi147_4⟩ := atF_T57 HF0_4.out x129 p147 q147
     cases e147
     have HF147_4 := Aside0.mk hi147_4
     have HL147_4 := Aside0.mk hl147_4
     clear hi147_4 hl147_4
     replace p147 := eq_true p147
     replace q147 := eq_true q147
     go_wp2_with (((with_reducible refine gate_dst (N := 4) rfl ?_); (try (refine gate_guard (by rfl) ?_; dsimp only)); refine box_event ?hg (N := 4) ?hd (cs := #[.int .i64 0, .bool false, .int .i64 0, .string (⟨#[]⟩ : ByteArray), .slice none 0 0]) (t := 57) ?hr ?_; (case hd => rfl); (case hg => rfl); (case hr => first | (go_simp; done) | (go_simp; rfl)); intro g148 hg w149 hbox hb); replace hg := Aside0.mk hg; replace hbox := Aside0.mk hbox; refine stop_ ?_)
     refine Stop.go ?_
     replace hg := hg.out
     replace hbox := hbox.out
     have GEg148 := Aside0.mk (by rw [hg]; exact (below_size HB.out) : w.heap.size ≤ g148)
     replace HF0_4 := Aside0.mk (Kd.F_elderB HF0_4.out g148 (Nat.le_of_eq hg.symm))
     replace HF0_4 := Aside0.mk (Kd.F_mono HF0_4.out (fun k_ hk_ => ⟨hk_.1.1, hk_.1.2, hk_.2⟩) : Kd.F k57 _ (fun k_ => (P_ k_ ∨ w.heap.size ≤ k_) ∧ k_ ≠ g1 ∧ k_ ≠ g148) _ _ _)
     replace HF147_4 := Aside0.mk (Kd.F_elderB HF147_4.out g148 (Nat.le_of_eq hg.symm))
     replace HF147_4 := Aside0.mk (Kd.F_mono HF147_4.out (fun k_ hk_ => ⟨hk_.1.1, hk_.1.2, hk_.2⟩) : Kd.F k57 _ (fun k_ => (P_ k_ ∨ w.heap.size ≤ k_) ∧ k_ ≠ g1 ∧ k_ ≠ g148) _ _ _)
     have NEg1_g148 := Aside0.mk (by rw [hg]; exact Nat.ne_of_lt (blk_lt (g := g1) BKg1.out) : g1 ≠ g148)
     replace HF0_4 := Aside0.mk (Kd.F_below HF0_4.out hb)
     replace HF147_4 := Aside0.mk (Kd.F_below HF147_4.out hb)
     replace BKg1 := Aside0.mk (blk_below (g := g1) BKg1.out hb)
     replace HB := Aside0.mk (below_step HB.out hb)
     have BKg148 := Aside0.mk hbox
     clear hg hbox hb
     clear j28 j29 j2a j2b j2c j2d j2e j2f j2g j2h hx147_0 hx147_1 hx147_2 hx147_3 hx147_4 p147 q147
     obtain ⟨j2q, j2r, j2s, j2t, j2u, j2v, j2w, j2x, j2y, j2z⟩ := MB.lay5 BKg1.out
     obtain ⟨j2A, j2B, j2C, j2D, j2E, j2F, j2G, j2H, j2I, j2J⟩ := MB.lay5 BKg148.out
     go_wp2_with (((with_reducible refine gate_store (t := 57) (p := 4) rfl ?_); (try (refine gate_guard (by rfl) ?_; dsimp only)); refine MW.ev_store #[.int .i64 ((rd_T57 l0_4 x129).f0), .bool ((rd_T57 l0_4 x129).f1), .int .i64 ((rd_T57 l0_4 x129).f2), .string ((rd_T57 l0_4 x129).f3), .slice A147_4 ((rd_T57 l0_4 x129).f4).length c147_4] rfl rfl rfl rfl BKg148.out [.int .i64 ((rd_T57 l0_4 x129).f0), .bool ((rd_T57 l0_4 x129).f1), .int .i64 ((rd_T57 l0_4 x129).f2), .string ((rd_T57 l0_4 x129).f3), .slice A147_4 ((rd_T57 l0_4 x129).f4).length c147_4] rfl (by kernel_rfl) (by simp) (by simp [Value.oneCell']) rfl ?_; intro w170 hbk hg); replace hbk := Aside0.mk hbk; refine stop_ ?_)
     refine Stop.go ?_
     replace hbk := hbk.out
     replace HF0_4 := Aside0.mk (Kd.F_grown (ok := (fun k_ => (P_ k_ ∨ w.heap.size ≤ k_) ∧ k_ ≠ g1 ∧ k_ ≠ g148)) HF0_4.out hg (fun k_ hk_ he_ => hk_.2.2 (Option.some.inj he_)))
     replace HF147_4 := Aside0.mk (Kd.F_grown (ok := (fun k_ => (P_ k_ ∨ w.heap.size ≤ k_) ∧ k_ ≠ g1 ∧ k_ ≠ g148)) HF147_4.out hg (fun k_ hk_ he_ => hk_.2.2 (Option.some.inj he_)))
     replace BKg1 := Aside0.mk (blk_grown (g := g1) BKg1.out hg (fun he_ => NEg1_g148.out (Option.some.inj he_)))
     replace HB := Aside0.mk (Below.grown HB.out hg (below_size HB.out) (fun k_ hk_ => by injection hk_ with hk_; rw [← hk_]; exact GEg148.out))
     replace BKg148 := Aside0.mk hbk
     clear hg hbk
     clear j2q j2r j2s j2t j2u j2v j2w j2x j2y j2z j2A j2B j2C j2D j2E j2F j2G j2H j2I j2J
     obtain ⟨j2L, j2M, j2N, j2O, j2P, j2Q, j2R, j2S, j2T, j2U⟩ := MB.lay5 BKg1.out
     obtain ⟨j2V, j2W, j2X, j2Y, j2Z, j30, j31, j32, j33, j34⟩ := MB.lay5 BKg148.out
     have H := HH.out
     replace H := Option.bind_eq_some_iff.mp H
     obtain ⟨t191, at_, H⟩ := H
     have At192 := Aside0.mk at_
     clear at_
     (try dsimp only at H)
     replace HH := Aside0.mk H
     clear H
     go_wp2_with (((with_reducible refine gate_callee (f := 87) rfl ?_); (try (refine gate_guard (by rfl) ?_; dsimp only)); refine goesL_ (some 49) rfl rfl Try.func87 (by kernel_rfl) rfl #[.agg #[.int .i64 ((rd_T57 l0_4 x129).f0), .bool ((rd_T57 l0_4 x129).f1), .int .i64 ((rd_T57 l0_4 x129).f2), .string ((rd_T57 l0_4 x129).f3), .slice A147_4 ((rd_T57 l0_4 x129).f4).length c147_4]] rfl (by (try simp only [List.map_toArray, List.map_cons, List.map_nil]); first | done | rfl | (simp only [List.length_drop, List.length_take]; rfl)) ?_; (with_reducible refine (ih k130 (by have := HK1.out; omega) (fun k_ => (P_ k_ ∨ w.heap.size ≤ k_) ∧ k_ ≠ g1 ∧ k_ ≠ g148) ((rd_T57 l0_4 x129).f0) ((rd_T57 l0_4 x129).f1) ((rd_T57 l0_4 x129).f2) ((rd_T57 l0_4 x129).f3) _ _ ((rd_T57 l0_4 x129).f4) t191 _ (Kd.F_mono (ok := (fun k_ => (P_ k_ ∨ w.heap.size ≤ k_) ∧ k_ ≠ g1 ∧ k_ ≠ g148)) HF147_4.out (fun k_ hk_ => ⟨hk_.1, hk_.2.1, hk_.2.2⟩)) HL147_4.out At192.out).mono ?_); rintro e w193 ⟨rfl, hb⟩; refine ⟨_, rfl, ?_⟩); refine stop_ ?_)
     refine Stop.go ?_
     replace HF0_4 := Aside0.mk (Kd.F_below HF0_4.out hb)
     replace BKg1 := Aside0.mk (blk_below (g := g1) BKg1.out hb)
     replace BKg148 := Aside0.mk (blk_below (g := g148) BKg148.out hb)
     replace HB := Aside0.mk (below_step HB.out hb)
     clear hb
     clear j2L j2M j2N j2O j2P j2Q j2R j2S j2T j2U j2V j2W j2X j2Y j2Z j30 j31 j32 j33 j34
     obtain ⟨j38, j39, j3a, j3b, j3c, j3d, j3e, j3f, j3g, j3h⟩ := MB.lay5 BKg1.out
     obtain ⟨j3i, j3j, j3k, j3l, j3m, j3n, j3o, j3p, j3q, j3r⟩ := MB.lay5 BKg148.out
     by_cases c214 : t191 = true
     ·replace HH := MW.hpos HH c214
      subst c214
      go_wp2
      go_roundg k130
      case measure => have := HK1.out; omega
      case rel => exact ⟨wrap64 (x129 + 1), (by first | rfl | (simp; done) | (simp [*]; done)), HH, ⟨by have := HK1.out; omega⟩, ⟨(Kd.F_mono (ok := (fun k_ => (P_ k_ ∨ w.heap.size ≤ k_) ∧ k_ ≠ g1 ∧ k_ ≠ g148)) HF0_4.out (fun k_ hk_ => ⟨hk_.1, hk_.2.1⟩))⟩, ⟨BKg1.out⟩, ⟨HB.out⟩⟩
     replace HH := MW.hneg HH c214
     replace c214 := Bool.eq_false_iff.mpr c214
     subst c214
     have H := HH.out
     obtain rfl := Option.some.inj H
     clear HH
     go_wp2
     go_ret
     exact ⟨by first | rfl | (simp; done) | (simp [*]; done), HB.out⟩
    exact absurd HH.out (by rw [if_neg c145]; simp)
   replace HH := MW.hneg HH c142
   have hk216 : (x129 < (l0_4.length : Int)) = False := eq_false c142
   have hk217 : decide (x129 < (l0_4.length : Int)) = false := decide_eq_false c142
   clear c142
   have H := HH.out
   obtain rfl := Option.some.inj H
   clear HH
   go_wp2
   go_ret
   exact ⟨by first | rfl | (simp; done) | (simp [*]; done), HB.out⟩
end Go.Proofs.Ytdjkemhmhkpmkaa.GA
