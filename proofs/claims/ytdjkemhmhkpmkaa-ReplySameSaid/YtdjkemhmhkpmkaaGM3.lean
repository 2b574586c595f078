import Derived.Test.YtdjkemhmhkpmkaaGA0
import Derived.Test.YtdjkemhmhkpmkaaGAF10
import Derived.Test.YtdjkemhmhkpmkaaGAF25
namespace Go.Proofs.Ytdjkemhmhkpmkaa.GA
open Go.RowKit Go.Proofs.Ytdjkemhmhkpmkaa Go.Proofs.Ytdjkemhmhkpmkaa.MW Go.Proofs.YtdjkemhmhkpmkaaW.PrintWords Go.Proofs.YtdjkemhmhkpmkaaW.PrintLast Go.Proofs.YtdjkemhmhkpmkaaW.PrintMore
attribute [local go_sem] max2_int min2_int max_two min_two
set_option linter.unusedVariables false
set_option linter.unusedSimpArgs false
/-! ### reply_Encode: function 12 -/
def reply_Encode.l0 : Nat → (List ByteArray) → Int → (List (S27)) → Option (List ByteArray × Int)
 | 0, _, _, _ => none
 | k + 1, x1, x4, l0 => if x4 < (l0.length : Int) then (if 0 ≤ x4 then ((reply_Check.f k ((rd_T27 l0 x4).f0) ((rd_T27 l0 x4).f1) ((rd_T27 l0 x4).f2) ((rd_T27 l0 x4).f3) ((rd_T27 l0 x4).f4) ((rd_T27 l0 x4).f5) ((rd_T27 l0 x4).f6) ((rd_T27 l0 x4).f7)).bind fun t48 => (if t48 = 0 then ((reply_laid.f k ((rd_T27 l0 x4).f0) ((rd_T27 l0 x4).f1) ((rd_T27 l0 x4).f2) ((rd_T27 l0 x4).f3) ((rd_T27 l0 x4).f4) ((rd_T27 l0 x4).f5) ((rd_T27 l0 x4).f6) ((rd_T27 l0 x4).f7)).bind fun bt70 => (if bt70.2 = 0 then (if x1.length < 8796093022208 then ((some (x1 ++ [bt70.1] : List ByteArray)).bind fun y94 => ((reply_Encode.l0 k y94 (wrap64 (x4 + 1)) l0))) else (none)) else (some (([] : List ByteArray), bt70.2)))) else (some (([] : List ByteArray), t48)))) else (none)) else (some (x1, 0))
def reply_Encode.f (k : Nat) (l0 : List (S27)) : Option (List ByteArray × Int) := (reply_Encode.l0 k ([] : List ByteArray) 0 l0)
theorem reply_Encode.mono_l : ∀ k, (∀ y0 y1 y2, LeO (reply_Encode.l0 k y0 y1 y2) (reply_Encode.l0 (k + 1) y0 y1 y2))
 | 0 => fun _ _ _ r h => by simp [reply_Encode.l0] at h
 | k + 1 => by
  have ih0 := reply_Encode.mono_l k
  ·intro y0 y1 y2
   unfold reply_Encode.l0
   repeat' first
   | (with_reducible exact ih0 _ _ _)
   | (with_reducible exact reply_Check.mono _ _ _ _ _ _ _ _ _)
   | (with_reducible exact reply_laid.mono _ _ _ _ _ _ _ _ _)
   | (with_reducible exact LeO.refl _)
   | (with_reducible exact LeO.none _)
   | (with_reducible refine LeO.ite ?_ ?_)
   | (with_reducible refine LeO.bind ?_ (fun _ => ?_))
theorem reply_Encode.mono : ∀ a0_ k, LeO (reply_Encode.f k a0_) (reply_Encode.f (k + 1) a0_) := by
 intro a0_ k
 have ih0 := reply_Encode.mono_l k
 unfold reply_Encode.f
 repeat' first
   | (with_reducible exact ih0 _ _ _)
   | (with_reducible exact reply_Check.mono _ _ _ _ _ _ _ _ _)
   | (with_reducible exact reply_laid.mono _ _ _ _ _ _ _ _ _)
   | (with_reducible exact LeO.refl _)
   | (with_reducible exact LeO.none _)
   | (with_reducible refine LeO.ite ?_ ?_)
   | (with_reducible refine LeO.bind ?_ (fun _ => ?_))
set_option maxHeartbeats 8000000 in
set_option maxRecDepth 100000 in
theorem reply_Encode.calls (k : Nat) (P_ : Nat → Prop) (A0 : Option Addr) (c0 : Nat) (l0 : List (S27)) (r1 : List ByteArray) (r2 : Int) (w : World) (hs0 : Kd.F k27 w P_ A0 l0.length l0) (hc0 : l0.length ≤ c0) (h : reply_Encode.f k l0 = some (r1, r2)) :
  Calls Try.prog 12 #[.slice A0 l0.length c0] w (fun e w' => ∃ v0_ : Value, e = .returned (.tuple #[v0_, .int .i64 r2]) ∧ Kd.N Kd.string 9 w' w.heap.size (fun k_ => P_ k_ ∨ w.heap.size ≤ k_) v0_ r1 ∧ Below w.heap.size w w') := by
 have HH := Aside0.mk (show ((reply_Encode.l0 k ([] : List ByteArray) 0 l0)) = some (r1, r2) from h)
 clear h
 have HF0 := Aside0.mk (Kd.F_mono hs0 (fun k_ hk_ => (.inl hk_ : P_ k_ ∨ w.heap.size ≤ k_)))
 clear hs0 hc0
 have HB := Aside0.mk (Below.refl w.heap.size w)
 have hu27 := Try.underlying27
 go_enter Try.func12, Try.ntmps12
 go_wp2
 go_loopg [4, 12] k (fun kq u4 u12 w' => ∃ (x1 : List ByteArray) (x4 : Int), u12 = .int .i64 x4 ∧ Aside0 ((reply_Encode.l0 kq x1 x4 l0) = some (r1, r2)) ∧ Aside0 (kq ≤ k) ∧ Aside0 (Kd.F k27 w' (fun k_ => (P_ k_ ∨ w.heap.size ≤ k_) ∧ some k_ ≠ (u4 : Value).ownBlock) A0 l0.length l0) ∧ Aside0 (Kd.N Kd.string 9 w' w.heap.size (fun k_ => (P_ k_ ∨ w.heap.size ≤ k_)) u4 x1) ∧ Aside0 (Below w.heap.size w w'))
 case atStart => exact ⟨([] : List ByteArray), 0, (by first | rfl | (simp; done) | (simp [*]; done)), HH, ⟨Nat.le_refl _⟩, ⟨(Kd.F_mono (ok := (fun k_ => (P_ k_ ∨ w.heap.size ≤ k_))) HF0.out (fun k_ hk_ => ⟨hk_, (by simp [Value.ownBlock])⟩))⟩, ⟨Kd.N_nil _ _ _ _ _⟩, ⟨HB.out⟩⟩
 case round =>
  clear HH
  clear HF0 HB
  obtain ⟨x1, x4, rfl, HA, HK0, HF0, HN3, HB⟩ := hrel
  obtain ⟨v2, rfl⟩ : ∃ z_ : Value, z_ = u4 := ⟨_, rfl⟩
  obtain ⟨w6, rfl⟩ : ∃ wo_ : World, wo_ = wr := ⟨_, rfl⟩
  cases gk with
  | zero => exact absurd HA.out (by simp [reply_Encode.l0])
  | succ k5 =>
   have H := HA.out
   clear HA
   simp only [reply_Encode.l0] at H
   have HH := Aside0.mk H
   clear H
   by_cases c7 : x4 < (l0.length : Int)
   ·replace HH := MW.hpos HH c7
    have hk8 : (x4 < (l0.length : Int)) = True := eq_true c7
    have hk9 : decide (x4 < (l0.length : Int)) = true := decide_eq_true c7
    clear c7
    by_cases c10 : 0 ≤ x4
    ·replace HH := MW.hpos HH c10
     have hk11 : decide (0 ≤ x4) = true := decide_eq_true c10
     clear c10
     have p12 : 0 ≤ (x4 : Int) := of_decide_eq_true (by first | (with_reducible assumption) | assumption)
     have q12 : x4 < (l0.length : Int) := of_decide_eq_true (by first | (with_reducible assumption) | assumption)
     obtain ⟨ad12, A12_7, c12_7, e12, hx12_0, hx12_1, hx12_2, hx12_3, hx12_4, hx12_5, hx12_6, hx12_7, hl12_7, hi12_7⟩ := atF_T27 HF0.out x4 p12 q12
     cases e12
     have HF12_7 := Aside0.mk hi12_7
     have HL12_7 := Aside0.mk hl12_7
     clear hi12_7 hl12_7
     replace p12 := eq_true p12
     replace q12 := eq_true q12
     go_wp2_with (((with_reducible refine gate_dst (N := 6) rfl ?_); (try (refine gate_guard (by rfl) ?_; dsimp only)); refine box_event ?hg (N := 6) ?hd (cs := #[.int .i64 0, .int .i64 0, .bool false, .int .i64 0, .string (⟨#[]⟩ : ByteArray), .string (⟨#[]⟩ : ByteArray), .string (⟨#[]⟩ : ByteArray), .slice none 0 0]) (t := 27) ?hr ?_; (case hd => rfl); (case hg => rfl); (case hr => first | (go_simp; done) | (go_simp; rfl)); intro g13 hg w14 hbox hb); replace hg := Aside0.mk hg; replace hbox := Aside0.mk hbox; refine stop_ ?_)
     refine Stop.go ?_
     replace hg := hg.out
     replace hbox := hbox.out
     have GEg13 := Aside0.mk (by rw [hg]; exact (below_size HB.out) : w.heap.size ≤ g13)
     replace HF0 := Aside0.mk (Kd.F_elderB HF0.out g13 (Nat.le_of_eq hg.symm))
     replace HF0 := Aside0.mk (Kd.F_mono HF0.out (fun k_ hk_ => ⟨hk_.1.1, hk_.1.2, hk_.2⟩) : Kd.F k27 _ (fun k_ => (P_ k_ ∨ w.heap.size ≤ k_) ∧ some k_ ≠ (v2 : Value).ownBlock ∧ k_ ≠ g13) _ _ _)
     replace HF12_7 := Aside0.mk (Kd.F_elderB HF12_7.out g13 (Nat.le_of_eq hg.symm))
     replace HF12_7 := Aside0.mk (Kd.F_mono HF12_7.out (fun k_ hk_ => ⟨hk_.1.1, hk_.1.2, hk_.2⟩) : Kd.F k46 _ (fun k_ => (P_ k_ ∨ w.heap.size ≤ k_) ∧ some k_ ≠ (v2 : Value).ownBlock ∧ k_ ≠ g13) _ _ _)
     replace HN3 := Aside0.mk (Kd.N_elderB HN3.out g13 (Nat.le_of_eq hg.symm))
     replace HN3 := Aside0.mk (Kd.N_mono HN3.out (fun k_ hk_ => ⟨hk_.1, hk_.2⟩) : Kd.N Kd.string _ _ _ (fun k_ => (P_ k_ ∨ w.heap.size ≤ k_) ∧ k_ ≠ g13) _ _)
     replace HF0 := Aside0.mk (Kd.F_below HF0.out hb)
     replace HF12_7 := Aside0.mk (Kd.F_below HF12_7.out hb)
     replace HN3 := Aside0.mk (Kd.N_below HN3.out hb)
     replace HB := Aside0.mk (below_step HB.out hb)
     have BKg13 := Aside0.mk hbox
     clear hg hbox hb
     clear hx12_0 hx12_1 hx12_2 hx12_3 hx12_4 hx12_5 hx12_6 hx12_7 p12 q12
     obtain ⟨jf, jg, jh, ji, jj, jk, jl, jm, jn, jo, jp, jq, jr, js, jt, ju⟩ := MB.lay8 BKg13.out
     go_wp2_with (((with_reducible refine gate_store (t := 27) (p := 6) rfl ?_); (try (refine gate_guard (by rfl) ?_; dsimp only)); refine MW.ev_store #[.int .i64 ((rd_T27 l0 x4).f0), .int .i64 ((rd_T27 l0 x4).f1), .bool ((rd_T27 l0 x4).f2), .int .i64 ((rd_T27 l0 x4).f3), .string ((rd_T27 l0 x4).f4), .string ((rd_T27 l0 x4).f5), .string ((rd_T27 l0 x4).f6), .slice A12_7 ((rd_T27 l0 x4).f7).length c12_7] rfl rfl rfl rfl BKg13.out [.int .i64 ((rd_T27 l0 x4).f0), .int .i64 ((rd_T27 l0 x4).f1), .bool ((rd_T27 l0 x4).f2), .int .i64 ((rd_T27 l0 x4).f3), .string ((rd_T27 l0 x4).f4), .string ((rd_T27 l0 x4).f5), .string ((rd_T27 l0 x4).f6), .slice A12_7 ((rd_T27 l0 x4).f7).length c12_7] rfl (by kernel_rfl) (by simp) (by simp [Value.oneCell']) rfl ?_; intro w31 hbk hg); replace hbk := Aside0.mk hbk; refine stop_ ?_)
     refine Stop.go ?_
     replace hbk := hbk.out
     replace HF0 := Aside0.mk (Kd.F_grown (ok := (fun k_ => (P_ k_ ∨ w.heap.size ≤ k_) ∧ some k_ ≠ (v2 : Value).ownBlock ∧ k_ ≠ g13)) HF0.out hg (fun k_ hk_ he_ => hk_.2.2 (Option.some.inj he_)))
     replace HF12_7 := Aside0.mk (Kd.F_grown (ok := (fun k_ => (P_ k_ ∨ w.heap.size ≤ k_) ∧ some k_ ≠ (v2 : Value).ownBlock ∧ k_ ≠ g13)) HF12_7.out hg (fun k_ hk_ he_ => hk_.2.2 (Option.some.inj he_)))
     replace HN3 := Aside0.mk (Kd.N_grown (ok := (fun k_ => (P_ k_ ∨ w.heap.size ≤ k_) ∧ k_ ≠ g13)) HN3.out hg (fun k_ hk_ he_ => hk_.2 (Option.some.inj he_)))
     replace HB := Aside0.mk (Below.grown HB.out hg (below_size HB.out) (fun k_ hk_ => by injection hk_ with hk_; rw [← hk_]; exact GEg13.out))
     replace BKg13 := Aside0.mk hbk
     clear hg hbk
     clear jf jg jh ji jj jk jl jm jn jo jp jq jr js jt ju
     obtain ⟨jw, jx, jy, jz, jA, jB, jC, jD, jE, jF, jG, jH, jI, jJ, jK, jL⟩ := MB.lay8 BKg13.out
     have H := HH.out
     replace H := Option.bind_eq_some_iff.mp H
     obtain ⟨t48, at_, H⟩ := H
     have At49 := Aside0.mk at_
     clear at_
     replace HH := Aside0.mk (show (if t48 = 0 then ((reply_laid.f k5 ((rd_T27 l0 x4).f0) ((rd_T27 l0 x4).f1) ((rd_T27 l0 x4).f2) ((rd_T27 l0 x4).f3) ((rd_T27 l0 x4).f4) ((rd_T27 l0 x4).f5) ((rd_T27 l0 x4).f6) ((rd_T27 l0 x4).f7)).bind fun bt70 => (if bt70.2 = 0 then (if x1.length < 8796093022208 then ((some (x1 ++ [bt70.1] : List ByteArray)).bind fun y94 => ((reply_Encode.l0 k5 y94 (wrap64 (x4 + 1)) l0))) else (none)) else (some (([] : List ByteArray), bt70.2)))) else (some (([] : List ByteArray), t48))) = some (r1, r2) from H)
     clear H
     go_wp2_with (((with_reducible refine gate_callee (f := 10) rfl ?_); (try (refine gate_guard (by rfl) ?_; dsimp only)); refine goesL_ (some 17) rfl rfl Try.func10 (by kernel_rfl) rfl #[.agg #[.int .i64 ((rd_T27 l0 x4).f0), .int .i64 ((rd_T27 l0 x4).f1), .bool ((rd_T27 l0 x4).f2), .int .i64 ((rd_T27 l0 x4).f3), .string ((rd_T27 l0 x4).f4), .string ((rd_T27 l0 x4).f5), .string ((rd_T27 l0 x4).f6), .slice A12_7 ((rd_T27 l0 x4).f7).length c12_7]] rfl (by (try simp only [List.map_toArray, List.map_cons, List.map_nil]); first | done | rfl | (simp only [List.length_drop, List.length_take]; rfl)) ?_; (with_reducible refine (reply_Check.calls k5 (fun k_ => (P_ k_ ∨ w.heap.size ≤ k_) ∧ some k_ ≠ (v2 : Value).ownBlock ∧ k_ ≠ g13) ((rd_T27 l0 x4).f0) ((rd_T27 l0 x4).f1) ((rd_T27 l0 x4).f2) ((rd_T27 l0 x4).f3) ((rd_T27 l0 x4).f4) ((rd_T27 l0 x4).f5) ((rd_T27 l0 x4).f6) _ _ ((rd_T27 l0 x4).f7) t48 _ (Kd.F_mono (ok := (fun k_ => (P_ k_ ∨ w.heap.size ≤ k_) ∧ some k_ ≠ (v2 : Value).ownBlock ∧ k_ ≠ g13)) HF12_7.out (fun k_ hk_ => ⟨hk_.1, hk_.2.1, hk_.2.2⟩)) HL12_7.out At49.out).mono ?_); rintro e w50 ⟨rfl, hb⟩; refine ⟨_, rfl, ?_⟩); refine stop_ ?_)
     refine Stop.go ?_
     replace HF0 := Aside0.mk (Kd.F_below HF0.out hb)
     replace HF12_7 := Aside0.mk (Kd.F_below HF12_7.out hb)
     replace HN3 := Aside0.mk (Kd.N_below HN3.out hb)
     replace BKg13 := Aside0.mk (blk_below (g := g13) BKg13.out hb)
     replace HB := Aside0.mk (below_step HB.out hb)
     clear hb
     clear jw jx jy jz jA jB jC jD jE jF jG jH jI jJ jK jL
     obtain ⟨jP, jQ, jR, jS, jT, jU, jV, jW, jX, jY, jZ, j10, j11, j12, j13, j14⟩ := MB.lay8 BKg13.out
     by_cases c67 : t48 = 0
     ·replace HH := MW.hpos HH c67
      have hk68 : (t48 == 0) = true := beq_iff_eq.mpr c67
      have hk69 : (t48 != 0) = false := bne_eq_false_iff_eq.mpr c67
      clear c67
      have H := HH.out
      replace H := Option.bind_eq_some_iff.mp H
      obtain ⟨⟨t70, t71⟩, at_, H⟩ := H
      have At72 := Aside0.mk at_
      clear at_
      replace HH := Aside0.mk (show (if t71 = 0 then (if x1.length < 8796093022208 then ((some (x1 ++ [t70] : List ByteArray)).bind fun y94 => ((reply_Encode.l0 k5 y94 (wrap64 (x4 + 1)) l0))) else (none)) else (some (([] : List ByteArray), t71))) = some (r1, r2) from H)
      clear H
      go_wp2_with (((with_reducible refine gate_callee (f := 25) rfl ?_); (try (refine gate_guard (by rfl) ?_; dsimp only)); refine goesL_ (some 23) rfl rfl Try.func25 (by kernel_rfl) rfl #[.agg #[.int .i64 ((rd_T27 l0 x4).f0), .int .i64 ((rd_T27 l0 x4).f1), .bool ((rd_T27 l0 x4).f2), .int .i64 ((rd_T27 l0 x4).f3), .string ((rd_T27 l0 x4).f4), .string ((rd_T27 l0 x4).f5), .string ((rd_T27 l0 x4).f6), .slice A12_7 ((rd_T27 l0 x4).f7).length c12_7]] rfl (by (try simp only [List.map_toArray, List.map_cons, List.map_nil]); first | done | rfl | (simp only [List.length_drop, List.length_take]; rfl)) ?_; (with_reducible refine (reply_laid.calls k5 (fun k_ => (P_ k_ ∨ w.heap.size ≤ k_) ∧ some k_ ≠ (v2 : Value).ownBlock ∧ k_ ≠ g13) ((rd_T27 l0 x4).f0) ((rd_T27 l0 x4).f1) ((rd_T27 l0 x4).f2) ((rd_T27 l0 x4).f3) ((rd_T27 l0 x4).f4) ((rd_T27 l0 x4).f5) ((rd_T27 l0 x4).f6) _ _ ((rd_T27 l0 x4).f7) t70 t71 _ (Kd.F_mono (ok := (fun k_ => (P_ k_ ∨ w.heap.size ≤ k_) ∧ some k_ ≠ (v2 : Value).ownBlock ∧ k_ ≠ g13)) HF12_7.out (fun k_ hk_ => ⟨hk_.1, hk_.2.1, hk_.2.2⟩)) HL12_7.out At72.out).mono ?_); rintro e w73 ⟨rfl, hb⟩; refine ⟨_, rfl, ?_⟩); refine stop_ ?_)
      refine Stop.go ?_
      replace HF0 := Aside0.mk (Kd.F_below HF0.out hb)
      replace HN3 := Aside0.mk (Kd.N_below HN3.out hb)
      replace BKg13 := Aside0.mk (blk_below (g := g13) BKg13.out hb)
      replace HB := Aside0.mk (below_step HB.out hb)
      clear hb
      clear jP jQ jR jS jT jU jV jW jX jY jZ j10 j11 j12 j13 j14
      obtain ⟨j1c, j1d, j1e, j1f, j1g, j1h, j1i, j1j, j1k, j1l, j1m, j1n, j1o, j1p, j1q, j1r⟩ := MB.lay8 BKg13.out
      by_cases c90 : t71 = 0
      ·replace HH := MW.hpos HH c90
       have hk91 : (t71 == 0) = true := beq_iff_eq.mpr c90
       have hk92 : (t71 != 0) = false := bne_eq_false_iff_eq.mpr c90
       clear c90
       by_cases c93 : x1.length < 8796093022208
       ·replace HH := MW.hpos HH c93
        have LMc93 := Aside0.mk c93
        clear c93
        obtain ⟨y94, hy94⟩ : ∃ y_ : List ByteArray, y_ = (x1 ++ [t70]) := ⟨_, rfl⟩
        have H : ((reply_Encode.l0 k5 y94 (wrap64 (x4 + 1)) l0)) = some (r1, r2) := by rw [hy94]; exact HH.out
        replace HH := Aside0.mk H
        clear H
        have NYy94 := Aside0.mk hy94
        clear hy94
        go_wp2_with (((with_reducible refine gate_dst (N := 32) rfl ?_); (try (refine gate_guard (by rfl) ?_; dsimp only)); refine Kd.N_append Kd.string w.heap.size rfl _ _ 31 9 (.string ⟨#[]⟩) 16 rfl Try.underlying31 info9 rfl (by decide) (by decide) (v2) x1 t70 [.string t70] (fun k_ => (P_ k_ ∨ w.heap.size ≤ k_) ∧ k_ ≠ g13) (fun k_ => (fun k_ => (P_ k_ ∨ w.heap.size ≤ k_) ∧ k_ ≠ g13) k_ ∧ some k_ ≠ (v2 : Value).ownBlock) rfl rfl (fun _ _ => rfl) (fun _ hk_ => hk_) (fun k_ h_ => ⟨.inr (Nat.le_trans (below_size (by repeat (first | (with_reducible first | exact HB.out | apply below_alloc | apply pw_below_drewN | apply below_drew1) | exact HB.out))) h_), Kd.freshB (g := g13) (o := .cells #[.int .i64 ((rd_T27 l0 x4).f0), .int .i64 ((rd_T27 l0 x4).f1), .bool ((rd_T27 l0 x4).f2), .int .i64 ((rd_T27 l0 x4).f3), .string ((rd_T27 l0 x4).f4), .string ((rd_T27 l0 x4).f5), .string ((rd_T27 l0 x4).f6), .slice A12_7 ((rd_T27 l0 x4).f7).length c12_7] 27 (0, 0)) (by (with_reducible repeat (first | refine blk_drewN ?_ _ | refine blk_drew ?_ | refine blk_alloc ?_ _)); exact BKg13.out) k_ h_⟩) (by (with_reducible repeat (first | apply Kd.N_alloc | apply Kd.N_drewN | apply Kd.N_drew)); exact HN3.out) (by repeat (first | (with_reducible first | exact HB.out | apply below_alloc | apply pw_below_drewN | apply below_drew1) | exact HB.out)) (below_size (by repeat (first | (with_reducible first | exact HB.out | apply below_alloc | apply pw_below_drewN | apply below_drew1) | exact HB.out))) (by first | (have := LMc93.out; omega) | (have := LMc93.out; simp at *; omega)) ?_; intro v95 w96 hn1 hb1 hg1 hat1); replace hat1 := Aside0.mk hat1; refine stop_ ?_)
        refine Stop.go ?_
        replace hat1 := hat1.out
        replace HF0 := Aside0.mk (Kd.F_mono (Kd.F_after (v := v2) (ok := (fun k_ => (P_ k_ ∨ w.heap.size ≤ k_) ∧ k_ ≠ g13)) (Kd.F_mono (ok := (fun k_ => (P_ k_ ∨ w.heap.size ≤ k_) ∧ some k_ ≠ (v2 : Value).ownBlock ∧ k_ ≠ g13)) (by (with_reducible repeat (first | apply Kd.F_alloc | apply Kd.F_drewN | apply Kd.F_drew)); exact HF0.out) (fun k_ hk_ => ⟨⟨hk_.1, hk_.2.2⟩, hk_.2.1⟩)) hg1 hat1) (fun k_ hk_ => ⟨hk_.1.1, hk_.1.2, hk_.2⟩) : Kd.F k27 _ (fun k_ => (P_ k_ ∨ w.heap.size ≤ k_) ∧ k_ ≠ g13 ∧ some k_ ≠ (v95 : Value).ownBlock) _ _ _)
        replace BKg13 := Aside0.mk (blk_grown (g := g13) (o := .cells #[.int .i64 ((rd_T27 l0 x4).f0), .int .i64 ((rd_T27 l0 x4).f1), .bool ((rd_T27 l0 x4).f2), .int .i64 ((rd_T27 l0 x4).f3), .string ((rd_T27 l0 x4).f4), .string ((rd_T27 l0 x4).f5), .string ((rd_T27 l0 x4).f6), .slice A12_7 ((rd_T27 l0 x4).f7).length c12_7] 27 (0, 0)) (by (with_reducible repeat (first | refine blk_drewN ?_ _ | refine blk_drew ?_ | refine blk_alloc ?_ _)); exact BKg13.out) hg1 (Kd.N_away (ok := (fun k_ => (P_ k_ ∨ w.heap.size ≤ k_) ∧ k_ ≠ g13)) HN3.out (fun k_ hk_ => hk_.2)))
        replace HB := Aside0.mk hb1
        clear HN3
        have HN97 := Aside0.mk hn1
        clear hn1 hb1 hg1 hat1
        replace HN97 := Aside0.mk (by rw [NYy94.out]; exact HN97.out : Kd.N Kd.string 9 w96 w.heap.size (fun k_ => (P_ k_ ∨ w.heap.size ≤ k_) ∧ k_ ≠ g13) v95 y94)
        clear j1c j1d j1e j1f j1g j1h j1i j1j j1k j1l j1m j1n j1o j1p j1q j1r
        obtain ⟨j1A, j1B, j1C, j1D, j1E, j1F, j1G, j1H, j1I, j1J, j1K, j1L, j1M, j1N, j1O, j1P⟩ := MB.lay8 BKg13.out
        go_wp2
        go_roundg k5
        case measure => have := HK0.out; omega
        case rel => exact ⟨y94, wrap64 (x4 + 1), (by first | rfl | (simp; done) | (simp [*]; done)), HH, ⟨by have := HK0.out; omega⟩, ⟨(Kd.F_mono (ok := (fun k_ => (P_ k_ ∨ w.heap.size ≤ k_) ∧ k_ ≠ g13 ∧ some k_ ≠ (v95 : Value).ownBlock)) HF0.out (fun k_ hk_ => ⟨hk_.1, hk_.2.2⟩))⟩, ⟨(Kd.N_mono (ok := (fun k_ => (P_ k_ ∨ w.heap.size ≤ k_) ∧ k_ ≠ g13)) HN97.out (fun k_ hk_ => hk_.1))⟩, ⟨HB.out⟩⟩
       exact absurd HH.out (by rw [if_neg c93]; simp)
      replace HH := MW.hneg HH c90
      have hk114 : (t71 == 0) = false := beq_eq_false_iff_ne.mpr c90
      have hk115 : (t71 != 0) = true := bne_iff_ne.mpr c90
      clear c90
      have H := HH.out
      simp only [Option.some.injEq, Prod.mk.injEq] at H
      obtain ⟨rfl, rfl⟩ := H
      clear HH
      go_wp2
      go_ret2
      exact ⟨_, by first | rfl | (simp; done) | (simp [*]; done), (Kd.N_nil _ _ _ _ _), HB.out⟩
     replace HH := MW.hneg HH c67
     have hk116 : (t48 == 0) = false := beq_eq_false_iff_ne.mpr c67
     have hk117 : (t48 != 0) = true := bne_iff_ne.mpr c67
     clear c67
     have H := HH.out
     simp only [Option.some.injEq, Prod.mk.injEq] at H
     obtain ⟨rfl, rfl⟩ := H
     clear HH
     go_wp2
     go_ret2
     exact ⟨_, by first | rfl | (simp; done) | (simp [*]; done), (Kd.N_nil _ _ _ _ _), HB.out⟩
    exact absurd HH.out (by rw [if_neg c10]; simp)
   replace HH := MW.hneg HH c7
   have hk119 : (x4 < (l0.length : Int)) = False := eq_false c7
   have hk120 : decide (x4 < (l0.length : Int)) = false := decide_eq_false c7
   clear c7
   have H := HH.out
   simp only [Option.some.injEq, Prod.mk.injEq] at H
   obtain ⟨rfl, rfl⟩ := H
   clear HH
   go_wp2
   go_ret2
   exact ⟨_, by first | rfl | (simp; done) | (simp [*]; done), (Kd.N_mono (ok := (fun k_ => (P_ k_ ∨ w.heap.size ≤ k_))) HN3.out (fun k_ hk_ => hk_)), HB.out⟩
end Go.Proofs.Ytdjkemhmhkpmkaa.GA
