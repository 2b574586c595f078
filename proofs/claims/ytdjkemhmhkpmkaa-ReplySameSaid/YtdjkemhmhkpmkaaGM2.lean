import Derived.Test.YtdjkemhmhkpmkaaGA0
import Derived.Test.YtdjkemhmhkpmkaaGAB
import Derived.Test.YtdjkemhmhkpmkaaGAF34
import Derived.Test.YtdjkemhmhkpmkaaGAF49
import Derived.Test.YtdjkemhmhkpmkaaGAF63
import Derived.Test.YtdjkemhmhkpmkaaGAF65
import Derived.Test.YtdjkemhmhkpmkaaGAF66
import Derived.Test.YtdjkemhmhkpmkaaGAF87
import Derived.Test.YtdjkemhmhkpmkaaGM1
import Derived.Test.YtdjkemhmhkpmkaaMX
namespace Go.Proofs.Ytdjkemhmhkpmkaa.GA
open Go.RowKit Go.Proofs.Ytdjkemhmhkpmkaa Go.Proofs.Ytdjkemhmhkpmkaa.MW Go.Proofs.YtdjkemhmhkpmkaaW.PrintWords Go.Proofs.YtdjkemhmhkpmkaaW.PrintLast Go.Proofs.YtdjkemhmhkpmkaaW.PrintMore
attribute [local go_sem] max2_int min2_int max_two min_two
set_option linter.unusedVariables false
set_option linter.unusedSimpArgs false
/-! ### reply_group: function 45 -/
def reply_group.f (a0 : Int) (a1 : Int) (l2 : List (S57)) : Option (Int × Bool × Int × ByteArray × (List (S57))) := (prims_Group.f a0 a1 l2).bind fun bt13 => (some (bt13.1, bt13.2.1, bt13.2.2.1, bt13.2.2.2.1, bt13.2.2.2.2.1))
set_option maxHeartbeats 8000000 in
set_option maxRecDepth 100000 in
theorem reply_group.calls (P_ : Nat → Prop) (a0 : Int) (a1 : Int) (A2 : Option Addr) (c2 : Nat) (l2 : List (S57)) (r1 : Int) (r2 : Bool) (r3 : Int) (r4 : ByteArray) (r5 : List (S57)) (w : World) (hs2 : Kd.F k57 w P_ A2 l2.length l2) (hc2 : l2.length ≤ c2) (h : reply_group.f a0 a1 l2 = some (r1, r2, r3, r4, r5)) :
  Calls Try.prog 45 #[.int .i64 a0, .int .i64 a1, .slice A2 l2.length c2] w (fun e w' => ∃ v4_ : Value, e = .returned (.agg #[.int .i64 r1, .bool r2, .int .i64 r3, .string r4, v4_]) ∧ Kd.N k57 57 w' w.heap.size (fun k_ => P_ k_ ∨ w.heap.size ≤ k_) v4_ r5 ∧ Below w.heap.size w w') := by
 have HH := Aside0.mk (show ((prims_Group.f a0 a1 l2).bind fun bt13 => (some (bt13.1, bt13.2.1, bt13.2.2.1, bt13.2.2.2.1, bt13.2.2.2.2.1))) = some (r1, r2, r3, r4, r5) from h)
 clear h
 have HF2 := Aside0.mk (Kd.F_mono hs2 (fun k_ hk_ => (.inl hk_ : P_ k_ ∨ w.heap.size ≤ k_)))
 have HL2 := Aside0.mk hc2
 clear hs2 hc2
 have HB := Aside0.mk (Below.refl w.heap.size w)
 have hu57 := Try.underlying57
 go_enter Try.func45, Try.ntmps45
 go_wp2_with (((with_reducible refine gate_dst (N := 6) rfl ?_); (try (refine gate_guard (by rfl) ?_; dsimp only)); refine box_event ?hg (N := 6) ?hd (cs := #[.int .i64 0, .bool false, .int .i64 0, .string (⟨#[]⟩ : ByteArray), .slice none 0 0]) (t := 57) ?hr ?_; (case hd => rfl); (case hg => rfl); (case hr => first | (go_simp; done) | (go_simp; rfl)); intro g1 hg w2 hbox hb); replace hg := Aside0.mk hg; replace hbox := Aside0.mk hbox; refine stop_ ?_)
 refine Stop.go ?_
 replace hg := hg.out
 replace hbox := hbox.out
 have GEg1 := Aside0.mk (by rw [hg]; exact (below_size HB.out) : w.heap.size ≤ g1)
 replace HF2 := Aside0.mk (Kd.F_elderB HF2.out g1 (Nat.le_of_eq hg.symm))
 replace HF2 := Aside0.mk (Kd.F_mono HF2.out (fun k_ hk_ => ⟨hk_.1, hk_.2⟩) : Kd.F k57 _ (fun k_ => (P_ k_ ∨ w.heap.size ≤ k_) ∧ k_ ≠ g1) _ _ _)
 replace HF2 := Aside0.mk (Kd.F_below HF2.out hb)
 replace HB := Aside0.mk (below_step HB.out hb)
 have BKg1 := Aside0.mk hbox
 clear hg hbox hb
 obtain ⟨j3, j4, j5, j6, j7, j8, j9, ja, jb, jc⟩ := MB.lay5 BKg1.out
 have H := HH.out
 replace H := Option.bind_eq_some_iff.mp H
 obtain ⟨⟨t13, t14, t15, t16, t17, t18⟩, at_, H⟩ := H
 have At19 := Aside0.mk at_
 clear at_
 replace HH := Aside0.mk (show (some (t13, t14, t15, t16, t17)) = some (r1, r2, r3, r4, r5) from H)
 clear H
 go_wp2_with (((with_reducible refine gate_callee (f := 65) rfl ?_); (try (refine gate_guard (by rfl) ?_; dsimp only)); refine goesL_ (some 13) rfl rfl Try.func65 (by kernel_rfl) rfl #[.int .i64 a0, .int .i64 a1, .slice A2 l2.length c2] rfl (by (try simp only [List.map_toArray, List.map_cons, List.map_nil]); first | done | rfl | (simp only [List.length_drop, List.length_take]; rfl)) ?_; (with_reducible refine (prims_Group.calls (fun k_ => (P_ k_ ∨ w.heap.size ≤ k_) ∧ k_ ≠ g1) a0 a1 _ _ l2 t13 t14 t15 t16 t17 t18 _ (Kd.F_mono (ok := (fun k_ => (P_ k_ ∨ w.heap.size ≤ k_) ∧ k_ ≠ g1)) HF2.out (fun k_ hk_ => ⟨hk_.1, hk_.2⟩)) HL2.out At19.out).mono ?_); rintro e w20 ⟨v21, rfl, hn21, hb⟩; refine ⟨_, rfl, ?_⟩); refine stop_ ?_)
 refine Stop.go ?_
 have hba := Kd.N_base hn21
 have HN21 := Aside0.mk (Kd.N_mono (Kd.N_lower hn21 (below_size HB.out)) (fun k_ hk_ => hk_.elim (fun h_ => h_) (fun h_ => ⟨.inr (Nat.le_trans (below_size HB.out) h_), Kd.freshB (g := g1) BKg1.out k_ h_⟩)) : Kd.N k57 57 w20 w.heap.size (fun k_ => (P_ k_ ∨ w.heap.size ≤ k_) ∧ k_ ≠ g1) v21 t17)
 replace BKg1 := Aside0.mk (blk_below (g := g1) BKg1.out hb)
 replace HB := Aside0.mk (below_step HB.out hb)
 clear hn21 hba hb
 clear j3 j4 j5 j6 j7 j8 j9 ja jb jc
 obtain ⟨jm, jn, jo, jp, jq, jr, js, jt, ju, jv⟩ := MB.lay5 BKg1.out
 go_wp2_with (((with_reducible refine gate_dst (N := 7) rfl ?_); (try (refine gate_guard (by rfl) ?_; dsimp only)); refine box_event ?hg (N := 7) ?hd (cs := #[.int .i64 0, .bool false, .int .i64 0, .string (⟨#[]⟩ : ByteArray), .slice none 0 0]) (t := 57) ?hr ?_; (case hd => rfl); (case hg => rfl); (case hr => first | (go_simp; done) | (go_simp; rfl)); intro g32 hg w33 hbox hb); replace hg := Aside0.mk hg; replace hbox := Aside0.mk hbox; refine stop_ ?_)
 refine Stop.go ?_
 replace hg := hg.out
 replace hbox := hbox.out
 have GEg32 := Aside0.mk (by rw [hg]; exact (below_size HB.out) : w.heap.size ≤ g32)
 replace HN21 := Aside0.mk (Kd.N_elderB HN21.out g32 (Nat.le_of_eq hg.symm))
 replace HN21 := Aside0.mk (Kd.N_mono HN21.out (fun k_ hk_ => ⟨hk_.1.1, hk_.1.2, hk_.2⟩) : Kd.N k57 _ _ _ (fun k_ => (P_ k_ ∨ w.heap.size ≤ k_) ∧ k_ ≠ g1 ∧ k_ ≠ g32) _ _)
 have NEg1_g32 := Aside0.mk (by rw [hg]; exact Nat.ne_of_lt (blk_lt (g := g1) BKg1.out) : g1 ≠ g32)
 have NEg32_g1 := Aside0.mk (Ne.symm NEg1_g32.out)
 replace HN21 := Aside0.mk (Kd.N_below HN21.out hb)
 replace BKg1 := Aside0.mk (blk_below (g := g1) BKg1.out hb)
 replace HB := Aside0.mk (below_step HB.out hb)
 have BKg32 := Aside0.mk hbox
 clear hg hbox hb
 clear jm jn jo jp jq jr js jt ju jv
 obtain ⟨jy, jz, jA, jB, jC, jD, jE, jF, jG, jH⟩ := MB.lay5 BKg1.out
 obtain ⟨jI, jJ, jK, jL, jM, jN, jO, jP, jQ, jR⟩ := MB.lay5 BKg32.out
 obtain ⟨A55, cp56, he_⟩ := Kd.N_slice HN21.out
 subst he_
 go_wp2_with (((with_reducible refine gate_store (t := 57) (p := 7) rfl ?_); (try (refine gate_guard (by rfl) ?_; dsimp only)); refine MW.ev_store #[.int .i64 t13, .bool t14, .int .i64 t15, .string t16, (.slice A55 t17.length cp56)] rfl rfl rfl rfl BKg32.out [.int .i64 t13, .bool t14, .int .i64 t15, .string t16, (.slice A55 t17.length cp56)] rfl (by kernel_rfl) (by simp) (by simp [Value.oneCell']) rfl ?_; intro w54 hbk hg); replace hbk := Aside0.mk hbk; refine stop_ ?_)
 refine Stop.go ?_
 replace hbk := hbk.out
 replace HN21 := Aside0.mk (Kd.N_grown (ok := (fun k_ => (P_ k_ ∨ w.heap.size ≤ k_) ∧ k_ ≠ g1 ∧ k_ ≠ g32)) HN21.out hg (fun k_ hk_ he_ => hk_.2.2 (Option.some.inj he_)))
 replace BKg1 := Aside0.mk (blk_grown (g := g1) BKg1.out hg (fun he_ => NEg1_g32.out (Option.some.inj he_)))
 replace HB := Aside0.mk (Below.grown HB.out hg (below_size HB.out) (fun k_ hk_ => by injection hk_ with hk_; rw [← hk_]; exact GEg32.out))
 replace BKg32 := Aside0.mk hbk
 clear hg hbk
 clear jy jz jA jB jC jD jE jF jG jH jI jJ jK jL jM jN jO jP jQ jR
 obtain ⟨jV, jW, jX, jY, jZ, j10, j11, j12, j13, j14⟩ := MB.lay5 BKg1.out
 obtain ⟨j15, j16, j17, j18, j19, j1a, j1b, j1c, j1d, j1e⟩ := MB.lay5 BKg32.out
 go_wp2_with (((with_reducible refine gate_store (t := 57) (p := 6) rfl ?_); (try (refine gate_guard (by rfl) ?_; dsimp only)); refine MW.ev_store #[.int .i64 t13, .bool t14, .int .i64 t15, .string t16, (.slice A55 t17.length cp56)] rfl rfl rfl rfl BKg1.out [.int .i64 t13, .bool t14, .int .i64 t15, .string t16, (.slice A55 t17.length cp56)] rfl (by kernel_rfl) (by simp) (by simp [Value.oneCell']) rfl ?_; intro w77 hbk hg); replace hbk := Aside0.mk hbk; refine stop_ ?_)
 refine Stop.go ?_
 replace hbk := hbk.out
 replace HN21 := Aside0.mk (Kd.N_grown (ok := (fun k_ => (P_ k_ ∨ w.heap.size ≤ k_) ∧ k_ ≠ g1 ∧ k_ ≠ g32)) HN21.out hg (fun k_ hk_ he_ => hk_.2.1 (Option.some.inj he_)))
 replace BKg32 := Aside0.mk (blk_grown (g := g32) BKg32.out hg (fun he_ => NEg32_g1.out (Option.some.inj he_)))
 replace HB := Aside0.mk (Below.grown HB.out hg (below_size HB.out) (fun k_ hk_ => by injection hk_ with hk_; rw [← hk_]; exact GEg1.out))
 replace BKg1 := Aside0.mk hbk
 clear hg hbk
 clear jV jW jX jY jZ j10 j11 j12 j13 j14 j15 j16 j17 j18 j19 j1a j1b j1c j1d j1e
 obtain ⟨j1g, j1h, j1i, j1j, j1k, j1l, j1m, j1n, j1o, j1p⟩ := MB.lay5 BKg1.out
 obtain ⟨j1q, j1r, j1s, j1t, j1u, j1v, j1w, j1x, j1y, j1z⟩ := MB.lay5 BKg32.out
 have H := HH.out
 simp only [Option.some.injEq, Prod.mk.injEq] at H
 obtain ⟨rfl, rfl, rfl, rfl, rfl⟩ := H
 clear HH
 go_wp2
 refine bodyPost_ret (MW.results_c rfl _ _ g1 57 #[.int .i64 t13, .bool t14, .int .i64 t15, .string t16, (.slice A55 t17.length cp56)] (0, 0) _ rfl BKg1.out Try.underlying57 rfl (by kernel_rfl)) rfl ?_
 exact ⟨_, by first | rfl | (simp; done) | (simp [*]; done), (Kd.N_mono (ok := (fun k_ => (P_ k_ ∨ w.heap.size ≤ k_) ∧ k_ ≠ g1 ∧ k_ ≠ g32)) HN21.out (fun k_ hk_ => hk_.1)), HB.out⟩

/-! ### reply_number: function 46 -/
def reply_number.f (k : Nat) (a0 : Int) (a1 : Int) : Option (Int × Bool × Int × ByteArray × (List (S57))) := (prims_Int.f k 0 a0 a1).bind fun bt13 => (some (bt13.1, bt13.2.1, bt13.2.2.1, bt13.2.2.2.1, bt13.2.2.2.2.1))
theorem reply_number.mono : ∀ a0_ a1_ k, LeO (reply_number.f k a0_ a1_) (reply_number.f (k + 1) a0_ a1_) := by
 intro a0_ a1_ k
 unfold reply_number.f
 repeat' first
   | (with_reducible exact prims_Int.mono _ _ _ _)
   | (with_reducible exact LeO.refl _)
   | (with_reducible exact LeO.none _)
   | (with_reducible refine LeO.ite ?_ ?_)
   | (with_reducible refine LeO.bind ?_ (fun _ => ?_))
set_option maxHeartbeats 8000000 in
set_option maxRecDepth 100000 in
theorem reply_number.calls (k : Nat) (a0 : Int) (a1 : Int) (r1 : Int) (r2 : Bool) (r3 : Int) (r4 : ByteArray) (r5 : List (S57)) (w : World) (h : reply_number.f k a0 a1 = some (r1, r2, r3, r4, r5)) :
  Calls Try.prog 46 #[.int .i64 a0, .int .i64 a1] w (fun e w' => ∃ v4_ : Value, e = .returned (.agg #[.int .i64 r1, .bool r2, .int .i64 r3, .string r4, v4_]) ∧ Kd.N k57 57 w' w.heap.size (fun k_ => w.heap.size ≤ k_) v4_ r5 ∧ Below w.heap.size w w') := by
 have HH := Aside0.mk (show ((prims_Int.f k 0 a0 a1).bind fun bt13 => (some (bt13.1, bt13.2.1, bt13.2.2.1, bt13.2.2.2.1, bt13.2.2.2.2.1))) = some (r1, r2, r3, r4, r5) from h)
 clear h
 have HB := Aside0.mk (Below.refl w.heap.size w)
 have hu57 := Try.underlying57
 go_enter Try.func46, Try.ntmps46
 go_wp2_with (((with_reducible refine gate_dst (N := 4) rfl ?_); (try (refine gate_guard (by rfl) ?_; dsimp only)); refine box_event ?hg (N := 4) ?hd (cs := #[.int .i64 0, .bool false, .int .i64 0, .string (⟨#[]⟩ : ByteArray), .slice none 0 0]) (t := 57) ?hr ?_; (case hd => rfl); (case hg => rfl); (case hr => first | (go_simp; done) | (go_simp; rfl)); intro g1 hg w2 hbox hb); replace hg := Aside0.mk hg; replace hbox := Aside0.mk hbox; refine stop_ ?_)
 refine Stop.go ?_
 replace hg := hg.out
 replace hbox := hbox.out
 have GEg1 := Aside0.mk (by rw [hg]; exact (below_size HB.out) : w.heap.size ≤ g1)
 replace HB := Aside0.mk (below_step HB.out hb)
 have BKg1 := Aside0.mk hbox
 clear hg hbox hb
 obtain ⟨j3, j4, j5, j6, j7, j8, j9, ja, jb, jc⟩ := MB.lay5 BKg1.out
 have H := HH.out
 replace H := Option.bind_eq_some_iff.mp H
 obtain ⟨⟨t13, t14, t15, t16, t17, t18⟩, at_, H⟩ := H
 have At19 := Aside0.mk at_
 clear at_
 replace HH := Aside0.mk (show (some (t13, t14, t15, t16, t17)) = some (r1, r2, r3, r4, r5) from H)
 clear H
 go_wp2_with (((with_reducible refine gate_callee (f := 66) rfl ?_); (try (refine gate_guard (by rfl) ?_; dsimp only)); refine goesL_ (some 10) rfl rfl Try.func66 (by kernel_rfl) rfl #[.int .i64 0, .int .i64 a0, .int .i64 a1] rfl (by (try simp only [List.map_toArray, List.map_cons, List.map_nil]); first | done | rfl | (simp only [List.length_drop, List.length_take]; rfl)) ?_; (with_reducible refine (prims_Int.calls k  0 a0 a1 t13 t14 t15 t16 t17 t18 _  At19.out).mono ?_); rintro e w20 ⟨v21, rfl, hn21, hb⟩; refine ⟨_, rfl, ?_⟩); refine stop_ ?_)
 refine Stop.go ?_
 have hba := Kd.N_base hn21
 have HN21 := Aside0.mk (Kd.N_mono (Kd.N_lower hn21 (below_size HB.out)) (fun k_ h_ => ⟨(Nat.le_trans (below_size HB.out) h_), Kd.freshB (g := g1) BKg1.out k_ h_⟩) : Kd.N k57 57 w20 w.heap.size (fun k_ => (w.heap.size ≤ k_) ∧ k_ ≠ g1) v21 t17)
 replace BKg1 := Aside0.mk (blk_below (g := g1) BKg1.out hb)
 replace HB := Aside0.mk (below_step HB.out hb)
 clear hn21 hba hb
 clear j3 j4 j5 j6 j7 j8 j9 ja jb jc
 obtain ⟨jm, jn, jo, jp, jq, jr, js, jt, ju, jv⟩ := MB.lay5 BKg1.out
 go_wp2_with (((with_reducible refine gate_dst (N := 5) rfl ?_); (try (refine gate_guard (by rfl) ?_; dsimp only)); refine box_event ?hg (N := 5) ?hd (cs := #[.int .i64 0, .bool false, .int .i64 0, .string (⟨#[]⟩ : ByteArray), .slice none 0 0]) (t := 57) ?hr ?_; (case hd => rfl); (case hg => rfl); (case hr => first | (go_simp; done) | (go_simp; rfl)); intro g32 hg w33 hbox hb); replace hg := Aside0.mk hg; replace hbox := Aside0.mk hbox; refine stop_ ?_)
 refine Stop.go ?_
 replace hg := hg.out
 replace hbox := hbox.out
 have GEg32 := Aside0.mk (by rw [hg]; exact (below_size HB.out) : w.heap.size ≤ g32)
 replace HN21 := Aside0.mk (Kd.N_elderB HN21.out g32 (Nat.le_of_eq hg.symm))
 replace HN21 := Aside0.mk (Kd.N_mono HN21.out (fun k_ hk_ => ⟨hk_.1.1, hk_.1.2, hk_.2⟩) : Kd.N k57 _ _ _ (fun k_ => (w.heap.size ≤ k_) ∧ k_ ≠ g1 ∧ k_ ≠ g32) _ _)
 have NEg1_g32 := Aside0.mk (by rw [hg]; exact Nat.ne_of_lt (blk_lt (g := g1) BKg1.out) : g1 ≠ g32)
 have NEg32_g1 := Aside0.mk (Ne.symm NEg1_g32.out)
 replace HN21 := Aside0.mk (Kd.N_below HN21.out hb)
 replace BKg1 := Aside0.mk (blk_below (g := g1) BKg1.out hb)
 replace HB := Aside0.mk (below_step HB.out hb)
 have BKg32 := Aside0.mk hbox
 clear hg hbox hb
 clear jm jn jo jp jq jr js jt ju jv
 obtain ⟨jy, jz, jA, jB, jC, jD, jE, jF, jG, jH⟩ := MB.lay5 BKg1.out
 obtain ⟨jI, jJ, jK, jL, jM, jN, jO, jP, jQ, jR⟩ := MB.lay5 BKg32.out
 obtain ⟨A55, cp56, he_⟩ := Kd.N_slice HN21.out
 subst he_
 go_wp2_with (((with_reducible refine gate_store (t := 57) (p := 5) rfl ?_); (try (refine gate_guard (by rfl) ?_; dsimp only)); refine MW.ev_store #[.int .i64 t13, .bool t14, .int .i64 t15, .string t16, (.slice A55 t17.length cp56)] rfl rfl rfl rfl BKg32.out [.int .i64 t13, .bool t14, .int .i64 t15, .string t16, (.slice A55 t17.length cp56)] rfl (by kernel_rfl) (by simp) (by simp [Value.oneCell']) rfl ?_; intro w54 hbk hg); replace hbk := Aside0.mk hbk; refine stop_ ?_)
 refine Stop.go ?_
 replace hbk := hbk.out
 replace HN21 := Aside0.mk (Kd.N_grown (ok := (fun k_ => (w.heap.size ≤ k_) ∧ k_ ≠ g1 ∧ k_ ≠ g32)) HN21.out hg (fun k_ hk_ he_ => hk_.2.2 (Option.some.inj he_)))
 replace BKg1 := Aside0.mk (blk_grown (g := g1) BKg1.out hg (fun he_ => NEg1_g32.out (Option.some.inj he_)))
 replace HB := Aside0.mk (Below.grown HB.out hg (below_size HB.out) (fun k_ hk_ => by injection hk_ with hk_; rw [← hk_]; exact GEg32.out))
 replace BKg32 := Aside0.mk hbk
 clear hg hbk
 clear jy jz jA jB jC jD jE jF jG jH jI jJ jK jL jM jN jO jP jQ jR
 obtain ⟨jV, jW, jX, jY, jZ, j10, j11, j12, j13, j14⟩ := MB.lay5 BKg1.out
 obtain ⟨j15, j16, j17, j18, j19, j1a, j1b, j1c, j1d, j1e⟩ := MB.lay5 BKg32.out
 go_wp2_with (((with_reducible refine gate_store (t := 57) (p := 4) rfl ?_); (try (refine gate_guard (by rfl) ?_; dsimp only)); refine MW.ev_store #[.int .i64 t13, .bool t14, .int .i64 t15, .string t16, (.slice A55 t17.length cp56)] rfl rfl rfl rfl BKg1.out [.int .i64 t13, .bool t14, .int .i64 t15, .string t16, (.slice A55 t17.length cp56)] rfl (by kernel_rfl) (by simp) (by simp [Value.oneCell']) rfl ?_; intro w77 hbk hg); replace hbk := Aside0.mk hbk; refine stop_ ?_)
 refine Stop.go ?_
 replace hbk := hbk.out
 replace HN21 := Aside0.mk (Kd.N_grown (ok := (fun k_ => (w.heap.size ≤ k_) ∧ k_ ≠ g1 ∧ k_ ≠ g32)) HN21.out hg (fun k_ hk_ he_ => hk_.2.1 (Option.some.inj he_)))
 replace BKg32 := Aside0.mk (blk_grown (g := g32) BKg32.out hg (fun he_ => NEg32_g1.out (Option.some.inj he_)))
 replace HB := Aside0.mk (Below.grown HB.out hg (below_size HB.out) (fun k_ hk_ => by injection hk_ with hk_; rw [← hk_]; exact GEg1.out))
 replace BKg1 := Aside0.mk hbk
 clear hg hbk
 clear jV jW jX jY jZ j10 j11 j12 j13 j14 j15 j16 j17 j18 j19 j1a j1b j1c j1d j1e
 obtain ⟨j1g, j1h, j1i, j1j, j1k, j1l, j1m, j1n, j1o, j1p⟩ := MB.lay5 BKg1.out
 obtain ⟨j1q, j1r, j1s, j1t, j1u, j1v, j1w, j1x, j1y, j1z⟩ := MB.lay5 BKg32.out
 have H := HH.out
 simp only [Option.some.injEq, Prod.mk.injEq] at H
 obtain ⟨rfl, rfl, rfl, rfl, rfl⟩ := H
 clear HH
 go_wp2
 refine bodyPost_ret (MW.results_c rfl _ _ g1 57 #[.int .i64 t13, .bool t14, .int .i64 t15, .string t16, (.slice A55 t17.length cp56)] (0, 0) _ rfl BKg1.out Try.underlying57 rfl (by kernel_rfl)) rfl ?_
 exact ⟨_, by first | rfl | (simp; done) | (simp [*]; done), (Kd.N_mono (ok := (fun k_ => (w.heap.size ≤ k_) ∧ k_ ≠ g1 ∧ k_ ≠ g32)) HN21.out (fun k_ hk_ => hk_.1)), HB.out⟩

/-! ### ber_one: function 88 -/
def ber_one.f (k : Nat) (a0_0 : Int) (a0_1 : Bool) (a0_2 : Int) (a0_3 : ByteArray) (l0_4 : List (S57)) : Option (ByteArray × Bool) := (ber_sheaf_lay.f k ([] : List Int) false a0_0 a0_1 a0_2 a0_3 l0_4).bind fun bt31 => (some (strOfNums bt31.1, !bt31.2))
theorem ber_one.mono : ∀ a0_ a1_ a2_ a3_ a4_ k, LeO (ber_one.f k a0_ a1_ a2_ a3_ a4_) (ber_one.f (k + 1) a0_ a1_ a2_ a3_ a4_) := by
 intro a0_ a1_ a2_ a3_ a4_ k
 unfold ber_one.f
 repeat' first
   | (with_reducible exact ber_sheaf_lay.mono _ _ _ _ _ _ _ _)
   | (with_reducible exact LeO.refl _)
   | (with_reducible exact LeO.none _)
   | (with_reducible refine LeO.ite ?_ ?_)
   | (with_reducible refine LeO.bind ?_ (fun _ => ?_))
set_option maxHeartbeats 8000000 in
set_option maxRecDepth 100000 in
theorem ber_one.calls (k : Nat) (P_ : Nat → Prop) (a0_0 : Int) (a0_1 : Bool) (a0_2 : Int) (a0_3 : ByteArray) (A0_4 : Option Addr) (c0_4 : Nat) (l0_4 : List (S57)) (r1 : ByteArray) (r2 : Bool) (w : World) (hs0_4 : Kd.F k57 w P_ A0_4 l0_4.length l0_4) (hc0_4 : l0_4.length ≤ c0_4) (h : ber_one.f k a0_0 a0_1 a0_2 a0_3 l0_4 = some (r1, r2)) :
  Calls Try.prog 88 #[.agg #[.int .i64 a0_0, .bool a0_1, .int .i64 a0_2, .string a0_3, .slice A0_4 l0_4.length c0_4]] w (fun e w' => e = .returned (.tuple #[.string r1, .bool r2]) ∧ Below w.heap.size w w') := by
 have HH := Aside0.mk (show ((ber_sheaf_lay.f k ([] : List Int) false a0_0 a0_1 a0_2 a0_3 l0_4).bind fun bt31 => (some (strOfNums bt31.1, !bt31.2))) = some (r1, r2) from h)
 clear h
 have HF0_4 := Aside0.mk (Kd.F_mono hs0_4 (fun k_ hk_ => (.inl hk_ : P_ k_ ∨ w.heap.size ≤ k_)))
 have HL0_4 := Aside0.mk hc0_4
 clear hs0_4 hc0_4
 have HB := Aside0.mk (Below.refl w.heap.size w)
 have hu57 := Try.underlying57
 have hu99 := Try.underlying99
 go_enter Try.func88, Try.ntmps88
 go_wp2_with (((with_reducible refine gate_dst (N := 1) rfl ?_); (try (refine gate_guard (by rfl) ?_; dsimp only)); refine box_event ?hg (N := 1) ?hd (cs := #[.int .i64 a0_0, .bool a0_1, .int .i64 a0_2, .string a0_3, .slice A0_4 l0_4.length c0_4]) (t := 57) ?hr ?_; (case hd => rfl); (case hg => rfl); (case hr => first | (go_simp; done) | (go_simp; rfl)); intro g1 hg w2 hbox hb); replace hg := Aside0.mk hg; replace hbox := Aside0.mk hbox; refine stop_ ?_)
 refine Stop.go ?_
 replace hg := hg.out
 replace hbox := hbox.out
 replace HF0_4 := Aside0.mk (Kd.F_elderB HF0_4.out g1 (Nat.le_of_eq hg.symm))
 replace HF0_4 := Aside0.mk (Kd.F_mono HF0_4.out (fun k_ hk_ => ⟨hk_.1, hk_.2⟩) : Kd.F k57 _ (fun k_ => (P_ k_ ∨ w.heap.size ≤ k_) ∧ k_ ≠ g1) _ _ _)
 replace HF0_4 := Aside0.mk (Kd.F_below HF0_4.out hb)
 replace HB := Aside0.mk (below_step HB.out hb)
 have BKg1 := Aside0.mk hbox
 clear hg hbox hb
 obtain ⟨j3, j4, j5, j6, j7, j8, j9, ja, jb, jc⟩ := MB.lay5 BKg1.out
 go_wp2_with (((with_reducible refine gate_dst (N := 4) rfl ?_); (try (refine gate_guard (by rfl) ?_; dsimp only)); refine box_event ?hg (N := 4) ?hd (cs := #[.pointer none, .slice none 0 0, .bool false]) (t := 99) ?hr ?_; (case hd => rfl); (case hg => rfl); (case hr => first | (go_simp; done) | (go_simp; rfl)); intro g13 hg w14 hbox hb); replace hg := Aside0.mk hg; replace hbox := Aside0.mk hbox; refine stop_ ?_)
 refine Stop.go ?_
 replace hg := hg.out
 replace hbox := hbox.out
 have GEg13 := Aside0.mk (by rw [hg]; exact (below_size HB.out) : w.heap.size ≤ g13)
 replace HF0_4 := Aside0.mk (Kd.F_elderB HF0_4.out g13 (Nat.le_of_eq hg.symm))
 replace HF0_4 := Aside0.mk (Kd.F_mono HF0_4.out (fun k_ hk_ => ⟨hk_.1.1, hk_.1.2, hk_.2⟩) : Kd.F k57 _ (fun k_ => (P_ k_ ∨ w.heap.size ≤ k_) ∧ k_ ≠ g1 ∧ k_ ≠ g13) _ _ _)
 have NEg1_g13 := Aside0.mk (by rw [hg]; exact Nat.ne_of_lt (blk_lt (g := g1) BKg1.out) : g1 ≠ g13)
 replace HF0_4 := Aside0.mk (Kd.F_below HF0_4.out hb)
 replace BKg1 := Aside0.mk (blk_below (g := g1) BKg1.out hb)
 replace HB := Aside0.mk (below_step HB.out hb)
 have BKg13 := Aside0.mk hbox
 clear hg hbox hb
 clear j3 j4 j5 j6 j7 j8 j9 ja jb jc
 obtain ⟨jf, jg, jh, ji, jj, jk, jl, jm, jn, jo⟩ := MB.lay5 BKg1.out
 obtain ⟨jp, jq, jr, js, jt, ju⟩ := MB.lay3 BKg13.out
 have H := HH.out
 replace H := Option.bind_eq_some_iff.mp H
 obtain ⟨⟨t31, t32⟩, at_, H⟩ := H
 have At33 := Aside0.mk at_
 clear at_
 replace HH := Aside0.mk (show (some (strOfNums t31, !t32)) = some (r1, r2) from H)
 clear H
 go_wp2_with (((with_reducible refine gate_callee (f := 63) rfl ?_); (try (refine gate_guard (by rfl) ?_; dsimp only)); refine goesL_ (some 6) rfl rfl Try.func63 (by kernel_rfl) rfl #[.pointer (some ⟨g13, 0, none⟩), .agg #[.int .i64 a0_0, .bool a0_1, .int .i64 a0_2, .string a0_3, .slice A0_4 l0_4.length c0_4]] rfl (by (try simp only [List.map_toArray, List.map_cons, List.map_nil]); first | done | rfl) ?_; refine (ber_sheaf_lay.calls k (fun k_ => (P_ k_ ∨ w.heap.size ≤ k_) ∧ k_ ≠ g1 ∧ k_ ≠ g13) w.heap.size g13 (.pointer none) (.slice none 0 0) ([] : List Int) false a0_0 a0_1 a0_2 a0_3 _ _ l0_4 t31 t32 _ (below_size HB.out) (fun k_ hk_ => hk_.2.2) (fun k_ hk_ => (by simp [Value.ownBlock])) BKg13.out GEg13.out (.inl rfl) (Kd.N_nil _ _ _ _ _) (Kd.F_mono (ok := (fun k_ => (P_ k_ ∨ w.heap.size ≤ k_) ∧ k_ ≠ g1 ∧ k_ ≠ g13)) HF0_4.out (fun k_ hk_ => ⟨hk_.1, hk_.2.1, hk_.2.2⟩)) HL0_4.out At33.out).mono ?_; rintro e w34 ⟨v35, p36, rfl, hn1, hp1, hbk, hfr, hb⟩; refine ⟨_, rfl, ?_⟩); replace hbk := Aside0.mk hbk; replace hfr := Aside0.mk hfr; replace hp1 := Aside0.mk hp1; refine stop_ ?_)
 refine Stop.go ?_
 replace hbk := hbk.out
 replace hfr := hfr.out
 replace hp1 := hp1.out
 have hat1 : ∀ k_ : Nat, (v35 : Value).ownBlock = some k_ → some k_ = (.slice none 0 0 : Value).ownBlock ∨ w14.heap.size ≤ k_ := fun k_ h_ => (hn1.1 k_ h_).2.1
 have HN37 := Aside0.mk (Kd.N_mono hn1 (fun k_ hk_ => hk_.2.1.elim (fun h_ => absurd h_ (by simp [Value.ownBlock])) (fun h_ => ⟨.inr (Nat.le_trans (below_size HB.out) h_), Kd.freshB (g := g1) BKg1.out k_ h_, Kd.freshB (g := g13) BKg13.out k_ h_⟩)) : Kd.N (Kd.int .u8) 5 w34 w.heap.size (fun k_ => (P_ k_ ∨ w.heap.size ≤ k_) ∧ k_ ≠ g1 ∧ k_ ≠ g13) v35 t31)
 replace BKg1 := Aside0.mk (MB.blk_ptr BKg1.out hfr NEg1_g13.out (by simp [Value.ownBlock]))
 replace HB := Aside0.mk (Below.trans HB.out hb)
 replace BKg13 := Aside0.mk hbk
 have HPp36 := Aside0.mk hp1
 clear hbk hfr hb hp1 hn1 hat1
 clear jf jg jh ji jj jk jl jm jn jo jp jq jr js jt ju
 obtain ⟨jC, jD, jE, jF, jG, jH, jI, jJ, jK, jL⟩ := MB.lay5 BKg1.out
 obtain ⟨jM, jN, jO, jP, jQ, jR⟩ := MB.lay3 BKg13.out
 go_wp2
 have hwr_ : ∀ n_ : Int, IntKind.i64.wrap n_ = wrap64 n_ := fun n_ => IntWalk.i64_left n_
 refine wp_region_any (by kernel_rfl) ?_
 change wpAny _ _ _ _ 7 #[false, false, false, false, false, false, false] _ w34.drew
 obtain ⟨w54, hw_⟩ : ∃ w_ : World, w_ = w34.drew := ⟨_, rfl⟩
 rw [← hw_]
 have hb : Below w34.heap.size w34 w54 := by rw [hw_]; exact below_drew1 (Below.refl _ _)
 clear hw_
 replace HN37 := Aside0.mk (Kd.N_below HN37.out hb)
 replace BKg1 := Aside0.mk (blk_below (g := g1) BKg1.out hb)
 replace BKg13 := Aside0.mk (blk_below (g := g13) BKg13.out hb)
 replace HB := Aside0.mk (below_step HB.out hb)
 clear hb
 clear jC jD jE jF jG jH jI jJ jK jL jM jN jO jP jQ jR
 obtain ⟨jT, jU, jV, jW, jX, jY, jZ, j10, j11, j12⟩ := MB.lay5 BKg1.out
 obtain ⟨j13, j14, j15, j16, j17, j18⟩ := MB.lay3 BKg13.out
 refine MW.any_take (i := 0) (v := .pointer (some ⟨g13, 0, none⟩)) (listed' := #[true, false, false, false, false, false, false]) (a' := ⟨[_, _, _, _, _, _, _, _, _, _, _, _].toArray, []⟩) rfl (by kernel_rfl) (by kernel_rfl) (by kernel_rfl) (fun _ _ _ h_ => h_) (.inl ⟨(by kernel_rfl), fun _ => (by first | rfl | (go_simp; done) | (go_simp; rfl))⟩) (by kernel_rfl) rfl ?_
 refine MW.any_take (i := 2) (v := .pointer (some ⟨g13, 2, none⟩)) (listed' := #[true, false, true, false, false, false, false]) (a' := ⟨[_, _, _, _, _, _, _, _, _, _, _, _].toArray, []⟩) rfl (by kernel_rfl) (by kernel_rfl) (by kernel_rfl) (fun _ _ _ h_ => h_) (.inl ⟨(by kernel_rfl), fun _ => (by first | rfl | (go_simp; done) | (go_simp; rfl))⟩) (by kernel_rfl) rfl ?_
 refine MW.any_fork (i := 1) (j := 3) (vj := .bool t32) (Li := #[true, true, true, false, false, false, false]) (Lj := #[true, false, true, true, false, false, false]) (aj := ⟨[(.agg #[.int .i64 a0_0, .bool a0_1, .int .i64 a0_2, .string a0_3, .slice A0_4 l0_4.length c0_4]), (.pointer (some ⟨g1, 0, none⟩)), (.string (⟨#[]⟩ : ByteArray)), (.bool false), (.pointer (some ⟨g13, 0, none⟩)), (.agg #[.int .i64 a0_0, .bool a0_1, .int .i64 a0_2, .string a0_3, .slice A0_4 l0_4.length c0_4]), (.tuple #[]), (.pointer (some ⟨g13, 0, none⟩)), undef, (.pointer (some ⟨g13, 2, none⟩)), (.bool t32), undef].toArray, []⟩) rfl rfl (by first | (left; kernel_rfl) | (right; kernel_rfl)) (by kernel_rfl) (by first | rfl | (go_simp; done) | (go_simp; rfl)) (by kernel_rfl) (by kernel_rfl) (by kernel_rfl) ?fa71 ?fb72
 case fa71 =>
  obtain ⟨A73, cp74, he_⟩ := Kd.N_slice HN37.out
  subst he_
  go_wp2_with (((with_reducible refine gate_callee (f := 64) rfl ?_); (try (refine gate_guard (by rfl) ?_; dsimp only)); refine goesL_ (some 8) rfl rfl Try.func64 (by kernel_rfl) rfl #[.pointer (some ⟨g13, 0, none⟩)] rfl (by (try simp only [List.map_toArray, List.map_cons, List.map_nil]); first | done | rfl) ?_; refine (bString64 g13 99 (p36) ((.slice A73 t31.length cp74)) [.bool t32] w.heap.size (fun k_ => (P_ k_ ∨ w.heap.size ≤ k_) ∧ k_ ≠ g1 ∧ k_ ≠ g13) t31 _ BKg13.out HN37.out).mono ?_; rintro e w75 ⟨rfl, hg⟩; refine ⟨_, rfl, ?_⟩); refine stop_ ?_)
  refine Stop.go ?_
  replace BKg1 := Aside0.mk (blk_grown (g := g1) BKg1.out hg (Kd.N_away (ok := (fun k_ => (P_ k_ ∨ w.heap.size ≤ k_) ∧ k_ ≠ g1 ∧ k_ ≠ g13)) HN37.out (fun k_ hk_ => hk_.2.1)))
  replace BKg13 := Aside0.mk (blk_grown (g := g13) BKg13.out hg (Kd.N_away (ok := (fun k_ => (P_ k_ ∨ w.heap.size ≤ k_) ∧ k_ ≠ g1 ∧ k_ ≠ g13)) HN37.out (fun k_ hk_ => hk_.2.2)))
  replace HB := Aside0.mk (Below.grown HB.out hg (below_size HB.out) (Kd.N_base HN37.out))
  clear hg HN37
  clear jT jU jV jW jX jY jZ j10 j11 j12 j13 j14 j15 j16 j17 j18
  obtain ⟨j1e, j1f, j1g, j1h, j1i, j1j, j1k, j1l, j1m, j1n⟩ := MB.lay5 BKg1.out
  obtain ⟨j1o, j1p, j1q, j1r, j1s, j1t⟩ := MB.lay3 BKg13.out
  refine wpList_nil ?_
  change wpAny _ _ _ _ 4 #[true, true, true, false, false, false, false] ⟨[(.agg #[.int .i64 a0_0, .bool a0_1, .int .i64 a0_2, .string a0_3, .slice A0_4 l0_4.length c0_4]), (.pointer (some ⟨g1, 0, none⟩)), (.string (⟨#[]⟩ : ByteArray)), (.bool false), (.pointer (some ⟨g13, 0, none⟩)), (.agg #[.int .i64 a0_0, .bool a0_1, .int .i64 a0_2, .string a0_3, .slice A0_4 l0_4.length c0_4]), (.tuple #[]), (.pointer (some ⟨g13, 0, none⟩)), (.string (strOfNums t31)), (.pointer (some ⟨g13, 2, none⟩)), undef, undef].toArray, []⟩ _
  refine MW.any_take (i := 5) (v := .string (strOfNums t31)) (listed' := #[true, true, true, false, false, true, false]) (a' := ⟨[_, _, _, _, _, _, _, _, _, _, _, _].toArray, []⟩) rfl (by kernel_rfl) (by kernel_rfl) (by kernel_rfl) (fun _ _ _ h_ => h_) (.inl ⟨(by kernel_rfl), fun _ => (by first | rfl | (go_simp; done) | (go_simp; rfl))⟩) (by kernel_rfl) rfl ?_
  refine MW.any_one (i := 3) (v := .bool t32) (listed' := #[true, true, true, true, false, true, false]) (a' := ⟨[(.agg #[.int .i64 a0_0, .bool a0_1, .int .i64 a0_2, .string a0_3, .slice A0_4 l0_4.length c0_4]), (.pointer (some ⟨g1, 0, none⟩)), (.string (strOfNums t31)), (.bool false), (.pointer (some ⟨g13, 0, none⟩)), (.agg #[.int .i64 a0_0, .bool a0_1, .int .i64 a0_2, .string a0_3, .slice A0_4 l0_4.length c0_4]), (.tuple #[]), (.pointer (some ⟨g13, 0, none⟩)), (.string (strOfNums t31)), (.pointer (some ⟨g13, 2, none⟩)), (.bool t32), undef].toArray, []⟩) rfl (by kernel_rfl) (by kernel_rfl) (by first | rfl | (go_simp; done) | (go_simp; rfl)) (by kernel_rfl) (by kernel_rfl) ?_
  refine MW.any_take (i := 4) (v := .bool (!t32)) (listed' := #[true, true, true, true, true, true, false]) (a' := ⟨[_, _, _, _, _, _, _, _, _, _, _, _].toArray, []⟩) rfl (by kernel_rfl) (by kernel_rfl) (by kernel_rfl) (fun _ _ _ h_ => h_) (.inl ⟨(by kernel_rfl), fun _ => (by first | rfl | (go_simp; done) | (go_simp; rfl))⟩) (by kernel_rfl) rfl ?_
  refine MW.any_take (i := 6) (v := .bool (!t32)) (listed' := #[true, true, true, true, true, true, true]) (a' := ⟨[_, _, _, _, _, _, _, _, _, _, _, _].toArray, []⟩) rfl (by kernel_rfl) (by kernel_rfl) (by kernel_rfl) (fun _ _ _ h_ => h_) (.inl ⟨(by kernel_rfl), fun _ => (by first | rfl | (go_simp; done) | (go_simp; rfl))⟩) (by kernel_rfl) rfl ?_
  refine wpAny_done (by kernel_rfl) ?_ _
  clear hwr_
  have H := HH.out
  simp only [Option.some.injEq, Prod.mk.injEq] at H
  obtain ⟨rfl, rfl⟩ := H
  clear HH
  go_wp2
  go_ret2
  exact ⟨by first | rfl | (simp; done) | (simp [*]; done), HB.out⟩
 case fb72 =>
  refine MW.any_take (i := 4) (v := .bool (!t32)) (listed' := #[true, false, true, true, true, false, false]) (a' := ⟨[_, _, _, _, _, _, _, _, _, _, _, _].toArray, []⟩) rfl (by kernel_rfl) (by kernel_rfl) (by kernel_rfl) (fun _ _ _ h_ => h_) (.inl ⟨(by kernel_rfl), fun _ => (by first | rfl | (go_simp; done) | (go_simp; rfl))⟩) (by kernel_rfl) rfl ?_
  refine MW.any_act (i := 1) (listed' := #[true, true, true, true, true, false, false]) rfl (by kernel_rfl) (by kernel_rfl) ?_
  obtain ⟨A92, cp93, he_⟩ := Kd.N_slice HN37.out
  subst he_
  go_wp2_with (((with_reducible refine gate_callee (f := 64) rfl ?_); (try (refine gate_guard (by rfl) ?_; dsimp only)); refine goesL_ (some 8) rfl rfl Try.func64 (by kernel_rfl) rfl #[.pointer (some ⟨g13, 0, none⟩)] rfl (by (try simp only [List.map_toArray, List.map_cons, List.map_nil]); first | done | rfl) ?_; refine (bString64 g13 99 (p36) ((.slice A92 t31.length cp93)) [.bool t32] w.heap.size (fun k_ => (P_ k_ ∨ w.heap.size ≤ k_) ∧ k_ ≠ g1 ∧ k_ ≠ g13) t31 _ BKg13.out HN37.out).mono ?_; rintro e w94 ⟨rfl, hg⟩; refine ⟨_, rfl, ?_⟩); refine stop_ ?_)
  refine Stop.go ?_
  replace BKg1 := Aside0.mk (blk_grown (g := g1) BKg1.out hg (Kd.N_away (ok := (fun k_ => (P_ k_ ∨ w.heap.size ≤ k_) ∧ k_ ≠ g1 ∧ k_ ≠ g13)) HN37.out (fun k_ hk_ => hk_.2.1)))
  replace BKg13 := Aside0.mk (blk_grown (g := g13) BKg13.out hg (Kd.N_away (ok := (fun k_ => (P_ k_ ∨ w.heap.size ≤ k_) ∧ k_ ≠ g1 ∧ k_ ≠ g13)) HN37.out (fun k_ hk_ => hk_.2.2)))
  replace HB := Aside0.mk (Below.grown HB.out hg (below_size HB.out) (Kd.N_base HN37.out))
  clear hg HN37
  clear jT jU jV jW jX jY jZ j10 j11 j12 j13 j14 j15 j16 j17 j18
  obtain ⟨j1x, j1y, j1z, j1A, j1B, j1C, j1D, j1E, j1F, j1G⟩ := MB.lay5 BKg1.out
  obtain ⟨j1H, j1I, j1J, j1K, j1L, j1M⟩ := MB.lay3 BKg13.out
  refine wpList_nil ?_
  change wpAny _ _ _ _ 2 #[true, true, true, true, true, false, false] ⟨[(.agg #[.int .i64 a0_0, .bool a0_1, .int .i64 a0_2, .string a0_3, .slice A0_4 l0_4.length c0_4]), (.pointer (some ⟨g1, 0, none⟩)), (.string (⟨#[]⟩ : ByteArray)), (.bool false), (.pointer (some ⟨g13, 0, none⟩)), (.agg #[.int .i64 a0_0, .bool a0_1, .int .i64 a0_2, .string a0_3, .slice A0_4 l0_4.length c0_4]), (.tuple #[]), (.pointer (some ⟨g13, 0, none⟩)), (.string (strOfNums t31)), (.pointer (some ⟨g13, 2, none⟩)), (.bool t32), (.bool (!t32))].toArray, []⟩ _
  refine MW.any_take (i := 5) (v := .string (strOfNums t31)) (listed' := #[true, true, true, true, true, true, false]) (a' := ⟨[_, _, _, _, _, _, _, _, _, _, _, _].toArray, []⟩) rfl (by kernel_rfl) (by kernel_rfl) (by kernel_rfl) (fun _ _ _ h_ => h_) (.inl ⟨(by kernel_rfl), fun _ => (by first | rfl | (go_simp; done) | (go_simp; rfl))⟩) (by kernel_rfl) rfl ?_
  refine MW.any_take (i := 6) (v := .bool (!t32)) (listed' := #[true, true, true, true, true, true, true]) (a' := ⟨[_, _, _, _, _, _, _, _, _, _, _, _].toArray, []⟩) rfl (by kernel_rfl) (by kernel_rfl) (by kernel_rfl) (fun _ _ _ h_ => h_) (.inl ⟨(by kernel_rfl), fun _ => (by first | rfl | (go_simp; done) | (go_simp; rfl))⟩) (by kernel_rfl) rfl ?_
  refine wpAny_done (by kernel_rfl) ?_ _
  clear hwr_
  have H := HH.out
  simp only [Option.some.injEq, Prod.mk.injEq] at H
  obtain ⟨rfl, rfl⟩ := H
  clear HH
  go_wp2
  go_ret2
  exact ⟨by first | rfl | (simp; done) | (simp [*]; done), HB.out⟩

/-! ### ber_Check: function 62 -/
def ber_Check.f (k : Nat) (a0_0 : Int) (a0_1 : Bool) (a0_2 : Int) (a0_3 : ByteArray) (l0_4 : List (S57)) : Option (Int) := (ber_Deep.f k a0_0 a0_1 a0_2 a0_3 l0_4).bind fun t13 => (if t13 > 12 then (some 153) else ((ber_sane.f k a0_0 a0_1 a0_2 a0_3 l0_4).bind fun t29 => (if t29 = true then ((ber_one.f k a0_0 a0_1 a0_2 a0_3 l0_4).bind fun bt43 => (if bt43.2 = true then (some 0) else (some 3))) else (some 2))))
theorem ber_Check.mono : ∀ a0_ a1_ a2_ a3_ a4_ k, LeO (ber_Check.f k a0_ a1_ a2_ a3_ a4_) (ber_Check.f (k + 1) a0_ a1_ a2_ a3_ a4_) := by
 intro a0_ a1_ a2_ a3_ a4_ k
 unfold ber_Check.f
 repeat' first
   | (with_reducible exact ber_Deep.mono _ _ _ _ _ _)
   | (with_reducible exact ber_one.mono _ _ _ _ _ _)
   | (with_reducible exact ber_sane.mono _ _ _ _ _ _)
   | (with_reducible exact LeO.refl _)
   | (with_reducible exact LeO.none _)
   | (with_reducible refine LeO.ite ?_ ?_)
   | (with_reducible refine LeO.bind ?_ (fun _ => ?_))
set_option maxHeartbeats 8000000 in
set_option maxRecDepth 100000 in
theorem ber_Check.calls (k : Nat) (P_ : Nat → Prop) (a0_0 : Int) (a0_1 : Bool) (a0_2 : Int) (a0_3 : ByteArray) (A0_4 : Option Addr) (c0_4 : Nat) (l0_4 : List (S57)) (r : Int) (w : World) (hs0_4 : Kd.F k57 w P_ A0_4 l0_4.length l0_4) (hc0_4 : l0_4.length ≤ c0_4) (h : ber_Check.f k a0_0 a0_1 a0_2 a0_3 l0_4 = some r) :
  Calls Try.prog 62 #[.agg #[.int .i64 a0_0, .bool a0_1, .int .i64 a0_2, .string a0_3, .slice A0_4 l0_4.length c0_4]] w (fun e w' => e = .returned (.int .i64 r) ∧ Below w.heap.size w w') := by
 have HH := Aside0.mk (show ((ber_Deep.f k a0_0 a0_1 a0_2 a0_3 l0_4).bind fun t13 => (if t13 > 12 then (some 153) else ((ber_sane.f k a0_0 a0_1 a0_2 a0_3 l0_4).bind fun t29 => (if t29 = true then ((ber_one.f k a0_0 a0_1 a0_2 a0_3 l0_4).bind fun bt43 => (if bt43.2 = true then (some 0) else (some 3))) else (some 2))))) = some r from h)
 clear h
 have HF0_4 := Aside0.mk (Kd.F_mono hs0_4 (fun k_ hk_ => (.inl hk_ : P_ k_ ∨ w.heap.size ≤ k_)))
 have HL0_4 := Aside0.mk hc0_4
 clear hs0_4 hc0_4
 have HB := Aside0.mk (Below.refl w.heap.size w)
 have hu57 := Try.underlying57
 go_enter Try.func62, Try.ntmps62
 go_wp2_with (((with_reducible refine gate_dst (N := 1) rfl ?_); (try (refine gate_guard (by rfl) ?_; dsimp only)); refine box_event ?hg (N := 1) ?hd (cs := #[.int .i64 a0_0, .bool a0_1, .int .i64 a0_2, .string a0_3, .slice A0_4 l0_4.length c0_4]) (t := 57) ?hr ?_; (case hd => rfl); (case hg => rfl); (case hr => first | (go_simp; done) | (go_simp; rfl)); intro g1 hg w2 hbox hb); replace hg := Aside0.mk hg; replace hbox := Aside0.mk hbox; refine stop_ ?_)
 refine Stop.go ?_
 replace hg := hg.out
 replace hbox := hbox.out
 replace HF0_4 := Aside0.mk (Kd.F_elderB HF0_4.out g1 (Nat.le_of_eq hg.symm))
 replace HF0_4 := Aside0.mk (Kd.F_mono HF0_4.out (fun k_ hk_ => ⟨hk_.1, hk_.2⟩) : Kd.F k57 _ (fun k_ => (P_ k_ ∨ w.heap.size ≤ k_) ∧ k_ ≠ g1) _ _ _)
 replace HF0_4 := Aside0.mk (Kd.F_below HF0_4.out hb)
 replace HB := Aside0.mk (below_step HB.out hb)
 have BKg1 := Aside0.mk hbox
 clear hg hbox hb
 obtain ⟨j3, j4, j5, j6, j7, j8, j9, ja, jb, jc⟩ := MB.lay5 BKg1.out
 have H := HH.out
 replace H := Option.bind_eq_some_iff.mp H
 obtain ⟨t13, at_, H⟩ := H
 have At14 := Aside0.mk at_
 clear at_
 (try dsimp only at H)
 replace HH := Aside0.mk H
 clear H
 go_wp2_with (((with_reducible refine gate_callee (f := 86) rfl ?_); (try (refine gate_guard (by rfl) ?_; dsimp only)); refine goesL_ (some 7) rfl rfl Try.func86 (by kernel_rfl) rfl #[.agg #[.int .i64 a0_0, .bool a0_1, .int .i64 a0_2, .string a0_3, .slice A0_4 l0_4.length c0_4]] rfl (by (try simp only [List.map_toArray, List.map_cons, List.map_nil]); first | done | rfl | (simp only [List.length_drop, List.length_take]; rfl)) ?_; (with_reducible refine (ber_Deep.calls k (fun k_ => (P_ k_ ∨ w.heap.size ≤ k_) ∧ k_ ≠ g1) a0_0 a0_1 a0_2 a0_3 _ _ l0_4 t13 _ (Kd.F_mono (ok := (fun k_ => (P_ k_ ∨ w.heap.size ≤ k_) ∧ k_ ≠ g1)) HF0_4.out (fun k_ hk_ => ⟨hk_.1, hk_.2⟩)) HL0_4.out At14.out).mono ?_); rintro e w15 ⟨rfl, hb⟩; refine ⟨_, rfl, ?_⟩); refine stop_ ?_)
 refine Stop.go ?_
 replace HF0_4 := Aside0.mk (Kd.F_below HF0_4.out hb)
 replace BKg1 := Aside0.mk (blk_below (g := g1) BKg1.out hb)
 replace HB := Aside0.mk (below_step HB.out hb)
 clear hb
 clear j3 j4 j5 j6 j7 j8 j9 ja jb jc
 obtain ⟨jg, jh, ji, jj, jk, jl, jm, jn, jo, jp⟩ := MB.lay5 BKg1.out
 by_cases c26 : t13 > 12
 ·replace HH := MW.hpos HH c26
  have hk27 : decide (12 < t13) = true := decide_eq_true c26
  clear c26
  have H := HH.out
  obtain rfl := Option.some.inj H
  clear HH
  go_wp2
  go_ret
  exact ⟨by first | rfl | (simp; done) | (simp [*]; done), HB.out⟩
 replace HH := MW.hneg HH c26
 have hk28 : decide (12 < t13) = false := decide_eq_false c26
 clear c26
 have H := HH.out
 replace H := Option.bind_eq_some_iff.mp H
 obtain ⟨t29, at_, H⟩ := H
 have At30 := Aside0.mk at_
 clear at_
 (try dsimp only at H)
 replace HH := Aside0.mk H
 clear H
 go_wp2_with (((with_reducible refine gate_callee (f := 87) rfl ?_); (try (refine gate_guard (by rfl) ?_; dsimp only)); refine goesL_ (some 11) rfl rfl Try.func87 (by kernel_rfl) rfl #[.agg #[.int .i64 a0_0, .bool a0_1, .int .i64 a0_2, .string a0_3, .slice A0_4 l0_4.length c0_4]] rfl (by (try simp only [List.map_toArray, List.map_cons, List.map_nil]); first | done | rfl | (simp only [List.length_drop, List.length_take]; rfl)) ?_; (with_reducible refine (ber_sane.calls k (fun k_ => (P_ k_ ∨ w.heap.size ≤ k_) ∧ k_ ≠ g1) a0_0 a0_1 a0_2 a0_3 _ _ l0_4 t29 _ (Kd.F_mono (ok := (fun k_ => (P_ k_ ∨ w.heap.size ≤ k_) ∧ k_ ≠ g1)) HF0_4.out (fun k_ hk_ => ⟨hk_.1, hk_.2⟩)) HL0_4.out At30.out).mono ?_); rintro e w31 ⟨rfl, hb⟩; refine ⟨_, rfl, ?_⟩); refine stop_ ?_)
 refine Stop.go ?_
 replace HF0_4 := Aside0.mk (Kd.F_below HF0_4.out hb)
 replace BKg1 := Aside0.mk (blk_below (g := g1) BKg1.out hb)
 replace HB := Aside0.mk (below_step HB.out hb)
 clear hb
 clear jg jh ji jj jk jl jm jn jo jp
 obtain ⟨jw, jx, jy, jz, jA, jB, jC, jD, jE, jF⟩ := MB.lay5 BKg1.out
 by_cases c42 : t29 = true
 ·replace HH := MW.hpos HH c42
  subst c42
  have H := HH.out
  replace H := Option.bind_eq_some_iff.mp H
  obtain ⟨⟨t43, t44⟩, at_, H⟩ := H
  have At45 := Aside0.mk at_
  clear at_
  (try dsimp only at H)
  replace HH := Aside0.mk H
  clear H
  go_wp2_with (((with_reducible refine gate_callee (f := 88) rfl ?_); (try (refine gate_guard (by rfl) ?_; dsimp only)); refine goesL_ (some 15) rfl rfl Try.func88 (by kernel_rfl) rfl #[.agg #[.int .i64 a0_0, .bool a0_1, .int .i64 a0_2, .string a0_3, .slice A0_4 l0_4.length c0_4]] rfl (by (try simp only [List.map_toArray, List.map_cons, List.map_nil]); first | done | rfl | (simp only [List.length_drop, List.length_take]; rfl)) ?_; (with_reducible refine (ber_one.calls k (fun k_ => (P_ k_ ∨ w.heap.size ≤ k_) ∧ k_ ≠ g1) a0_0 a0_1 a0_2 a0_3 _ _ l0_4 t43 t44 _ (Kd.F_mono (ok := (fun k_ => (P_ k_ ∨ w.heap.size ≤ k_) ∧ k_ ≠ g1)) HF0_4.out (fun k_ hk_ => ⟨hk_.1, hk_.2⟩)) HL0_4.out At45.out).mono ?_); rintro e w46 ⟨rfl, hb⟩; refine ⟨_, rfl, ?_⟩); refine stop_ ?_)
  refine Stop.go ?_
  replace BKg1 := Aside0.mk (blk_below (g := g1) BKg1.out hb)
  replace HB := Aside0.mk (below_step HB.out hb)
  clear hb
  clear jw jx jy jz jA jB jC jD jE jF
  obtain ⟨jL, jM, jN, jO, jP, jQ, jR, jS, jT, jU⟩ := MB.lay5 BKg1.out
  by_cases c57 : t44 = true
  ·replace HH := MW.hpos HH c57
   subst c57
   have H := HH.out
   obtain rfl := Option.some.inj H
   clear HH
   go_wp2
   go_ret
   exact ⟨by first | rfl | (simp; done) | (simp [*]; done), HB.out⟩
  replace HH := MW.hneg HH c57
  replace c57 := Bool.eq_false_iff.mpr c57
  subst c57
  have H := HH.out
  obtain rfl := Option.some.inj H
  clear HH
  go_wp2
  go_ret
  exact ⟨by first | rfl | (simp; done) | (simp [*]; done), HB.out⟩
 replace HH := MW.hneg HH c42
 replace c42 := Bool.eq_false_iff.mpr c42
 subst c42
 have H := HH.out
 obtain rfl := Option.some.inj H
 clear HH
 go_wp2
 go_ret
 exact ⟨by first | rfl | (simp; done) | (simp [*]; done), HB.out⟩

/-! ### ber_Encode: function 44 -/
mutual
def ber_Encode.l0 : Nat → Int → (List (S57)) → Option (ByteArray × Int)
 | 0, _, _ => none
 | k + 1, x1, l0 => if x1 < (l0.length : Int) then (if 0 ≤ x1 then ((ber_Check.f k ((rd_T57 l0 x1).f0) ((rd_T57 l0 x1).f1) ((rd_T57 l0 x1).f2) ((rd_T57 l0 x1).f3) ((rd_T57 l0 x1).f4)).bind fun t33 => (if t33 = 0 then ((ber_Encode.l0 k (wrap64 (x1 + 1)) l0)) else (some ((⟨#[]⟩ : ByteArray), t33)))) else (none)) else ((ber_Encode.l1 k 0 ([] : List Int) false l0))
def ber_Encode.l1 : Nat → Int → (List Int) → Bool → (List (S57)) → Option (ByteArray × Int)
 | 0, _, _, _, _ => none
 | k + 1, x64, x65, x67, l0 => if x64 < (l0.length : Int) then (if 0 ≤ x64 then ((ber_sheaf_lay.f k x65 x67 ((rd_T57 l0 x64).f0) ((rd_T57 l0 x64).f1) ((rd_T57 l0 x64).f2) ((rd_T57 l0 x64).f3) ((rd_T57 l0 x64).f4)).bind fun bt119 => ((ber_Encode.l1 k (wrap64 (x64 + 1)) bt119.1 bt119.2 l0))) else (none)) else (if x67 = true then (some ((⟨#[]⟩ : ByteArray), 3)) else (some (strOfNums x65, 0)))
end
def ber_Encode.f (k : Nat) (l0 : List (S57)) : Option (ByteArray × Int) := (ber_Encode.l0 k 0 l0)
theorem ber_Encode.mono_l : ∀ k, (∀ y0 y1, LeO (ber_Encode.l0 k y0 y1) (ber_Encode.l0 (k + 1) y0 y1)) ∧ (∀ y0 y1 y2 y3, LeO (ber_Encode.l1 k y0 y1 y2 y3) (ber_Encode.l1 (k + 1) y0 y1 y2 y3))
 | 0 => ⟨fun _ _ r h => by simp [ber_Encode.l0] at h, fun _ _ _ _ r h => by simp [ber_Encode.l1] at h⟩
 | k + 1 => by
  obtain ⟨ih0, ih1⟩ := ber_Encode.mono_l k
  refine ⟨?_, ?_⟩
  ·intro y0 y1
   unfold ber_Encode.l0
   repeat' first
   | (with_reducible exact ih0 _ _)
   | (with_reducible exact ih1 _ _ _ _)
   | (with_reducible exact ber_Check.mono _ _ _ _ _ _)
   | (with_reducible exact ber_sheaf_lay.mono _ _ _ _ _ _ _ _)
   | (with_reducible exact LeO.refl _)
   | (with_reducible exact LeO.none _)
   | (with_reducible refine LeO.ite ?_ ?_)
   | (with_reducible refine LeO.bind ?_ (fun _ => ?_))
  intro y0 y1 y2 y3
  unfold ber_Encode.l1
  repeat' first
  | (with_reducible exact ih0 _ _)
  | (with_reducible exact ih1 _ _ _ _)
  | (with_reducible exact ber_Check.mono _ _ _ _ _ _)
  | (with_reducible exact ber_sheaf_lay.mono _ _ _ _ _ _ _ _)
  | (with_reducible exact LeO.refl _)
  | (with_reducible exact LeO.none _)
  | (with_reducible refine LeO.ite ?_ ?_)
  | (with_reducible refine LeO.bind ?_ (fun _ => ?_))
theorem ber_Encode.mono : ∀ a0_ k, LeO (ber_Encode.f k a0_) (ber_Encode.f (k + 1) a0_) := by
 intro a0_ k
 obtain ⟨ih0, ih1⟩ := ber_Encode.mono_l k
 unfold ber_Encode.f
 repeat' first
   | (with_reducible exact ih0 _ _)
   | (with_reducible exact ih1 _ _ _ _)
   | (with_reducible exact ber_Check.mono _ _ _ _ _ _)
   | (with_reducible exact ber_sheaf_lay.mono _ _ _ _ _ _ _ _)
   | (with_reducible exact LeO.refl _)
   | (with_reducible exact LeO.none _)
   | (with_reducible refine LeO.ite ?_ ?_)
   | (with_reducible refine LeO.bind ?_ (fun _ => ?_))
set_option maxHeartbeats 8000000 in
set_option maxRecDepth 100000 in
theorem ber_Encode.calls (k : Nat) (P_ : Nat → Prop) (A0 : Option Addr) (c0 : Nat) (l0 : List (S57)) (r1 : ByteArray) (r2 : Int) (w : World) (hs0 : Kd.F k57 w P_ A0 l0.length l0) (hc0 : l0.length ≤ c0) (h : ber_Encode.f k l0 = some (r1, r2)) :
  Calls Try.prog 44 #[.slice A0 l0.length c0] w (fun e w' => e = .returned (.tuple #[.string r1, .int .i64 r2]) ∧ Below w.heap.size w w') := by
 have HH := Aside0.mk (show ((ber_Encode.l0 k 0 l0)) = some (r1, r2) from h)
 clear h
 have HF0 := Aside0.mk (Kd.F_mono hs0 (fun k_ hk_ => (.inl hk_ : P_ k_ ∨ w.heap.size ≤ k_)))
 clear hs0 hc0
 have HB := Aside0.mk (Below.refl w.heap.size w)
 have hu57 := Try.underlying57
 have hu99 := Try.underlying99
 go_enter Try.func44, Try.ntmps44
 go_wp2
 go_loopg [12] k (fun kq u12 w' => ∃ (x1 : Int), u12 = .int .i64 x1 ∧ Aside0 ((ber_Encode.l0 kq x1 l0) = some (r1, r2)) ∧ Aside0 (kq ≤ k) ∧ Aside0 (Kd.F k57 w' (fun k_ => (P_ k_ ∨ w.heap.size ≤ k_)) A0 l0.length l0) ∧ Aside0 (Below w.heap.size w w'))
 case atStart => exact ⟨0, (by first | rfl | (simp; done) | (simp [*]; done)), HH, ⟨Nat.le_refl _⟩, ⟨(Kd.F_mono (ok := (fun k_ => (P_ k_ ∨ w.heap.size ≤ k_))) HF0.out (fun k_ hk_ => hk_))⟩, ⟨HB.out⟩⟩
 case round =>
  clear HH
  clear HF0 HB
  obtain ⟨x1, rfl, HA, HK0, HF0, HB⟩ := hrel
  obtain ⟨w3, rfl⟩ : ∃ wo_ : World, wo_ = wr := ⟨_, rfl⟩
  cases gk with
  | zero => exact absurd HA.out (by simp [ber_Encode.l0])
  | succ k2 =>
   have H := HA.out
   clear HA
   simp only [ber_Encode.l0] at H
   have HH := Aside0.mk H
   clear H
   by_cases c4 : x1 < (l0.length : Int)
   ·replace HH := MW.hpos HH c4
    have hk5 : (x1 < (l0.length : Int)) = True := eq_true c4
    have hk6 : decide (x1 < (l0.length : Int)) = true := decide_eq_true c4
    clear c4
    by_cases c7 : 0 ≤ x1
    ·replace HH := MW.hpos HH c7
     have hk8 : decide (0 ≤ x1) = true := decide_eq_true c7
     clear c7
     have p9 : 0 ≤ (x1 : Int) := of_decide_eq_true (by first | (with_reducible assumption) | assumption)
     have q9 : x1 < (l0.length : Int) := of_decide_eq_true (by first | (with_reducible assumption) | assumption)
     obtain ⟨ad9, A9_4, c9_4, e9, hx9_0, hx9_1, hx9_2, hx9_3, hx9_4, hl9_4, hi9_4⟩ := atF_T57 HF0.out x1 p9 q9
     cases e9
     have HF9_4 := Aside0.mk hi9_4
     have HL9_4 := Aside0.mk hl9_4
     clear hi9_4 hl9_4
     replace p9 := eq_true p9
     replace q9 := eq_true q9
     go_wp2_with (((with_reducible refine gate_dst (N := 5) rfl ?_); (try (refine gate_guard (by rfl) ?_; dsimp only)); refine box_event ?hg (N := 5) ?hd (cs := #[.int .i64 0, .bool false, .int .i64 0, .string (⟨#[]⟩ : ByteArray), .slice none 0 0]) (t := 57) ?hr ?_; (case hd => rfl); (case hg => rfl); (case hr => first | (go_simp; done) | (go_simp; rfl)); intro g10 hg w11 hbox hb); replace hg := Aside0.mk hg; replace hbox := Aside0.mk hbox; refine stop_ ?_)
     refine Stop.go ?_
     replace hg := hg.out
     replace hbox := hbox.out
     have GEg10 := Aside0.mk (by rw [hg]; exact (below_size HB.out) : w.heap.size ≤ g10)
     replace HF0 := Aside0.mk (Kd.F_elderB HF0.out g10 (Nat.le_of_eq hg.symm))
     replace HF0 := Aside0.mk (Kd.F_mono HF0.out (fun k_ hk_ => ⟨hk_.1, hk_.2⟩) : Kd.F k57 _ (fun k_ => (P_ k_ ∨ w.heap.size ≤ k_) ∧ k_ ≠ g10) _ _ _)
     replace HF9_4 := Aside0.mk (Kd.F_elderB HF9_4.out g10 (Nat.le_of_eq hg.symm))
     replace HF9_4 := Aside0.mk (Kd.F_mono HF9_4.out (fun k_ hk_ => ⟨hk_.1, hk_.2⟩) : Kd.F k57 _ (fun k_ => (P_ k_ ∨ w.heap.size ≤ k_) ∧ k_ ≠ g10) _ _ _)
     replace HF0 := Aside0.mk (Kd.F_below HF0.out hb)
     replace HF9_4 := Aside0.mk (Kd.F_below HF9_4.out hb)
     replace HB := Aside0.mk (below_step HB.out hb)
     have BKg10 := Aside0.mk hbox
     clear hg hbox hb
     clear hx9_0 hx9_1 hx9_2 hx9_3 hx9_4 p9 q9
     obtain ⟨jc, jd, je, jf, jg, jh, ji, jj, jk, jl⟩ := MB.lay5 BKg10.out
     go_wp2_with (((with_reducible refine gate_store (t := 57) (p := 5) rfl ?_); (try (refine gate_guard (by rfl) ?_; dsimp only)); refine MW.ev_store #[.int .i64 ((rd_T57 l0 x1).f0), .bool ((rd_T57 l0 x1).f1), .int .i64 ((rd_T57 l0 x1).f2), .string ((rd_T57 l0 x1).f3), .slice A9_4 ((rd_T57 l0 x1).f4).length c9_4] rfl rfl rfl rfl BKg10.out [.int .i64 ((rd_T57 l0 x1).f0), .bool ((rd_T57 l0 x1).f1), .int .i64 ((rd_T57 l0 x1).f2), .string ((rd_T57 l0 x1).f3), .slice A9_4 ((rd_T57 l0 x1).f4).length c9_4] rfl (by kernel_rfl) (by simp) (by simp [Value.oneCell']) rfl ?_; intro w22 hbk hg); replace hbk := Aside0.mk hbk; refine stop_ ?_)
     refine Stop.go ?_
     replace hbk := hbk.out
     replace HF0 := Aside0.mk (Kd.F_grown (ok := (fun k_ => (P_ k_ ∨ w.heap.size ≤ k_) ∧ k_ ≠ g10)) HF0.out hg (fun k_ hk_ he_ => hk_.2 (Option.some.inj he_)))
     replace HF9_4 := Aside0.mk (Kd.F_grown (ok := (fun k_ => (P_ k_ ∨ w.heap.size ≤ k_) ∧ k_ ≠ g10)) HF9_4.out hg (fun k_ hk_ he_ => hk_.2 (Option.some.inj he_)))
     replace HB := Aside0.mk (Below.grown HB.out hg (below_size HB.out) (fun k_ hk_ => by injection hk_ with hk_; rw [← hk_]; exact GEg10.out))
     replace BKg10 := Aside0.mk hbk
     clear hg hbk
     clear jc jd je jf jg jh ji jj jk jl
     obtain ⟨jn, jo, jp, jq, jr, js, jt, ju, jv, jw⟩ := MB.lay5 BKg10.out
     have H := HH.out
     replace H := Option.bind_eq_some_iff.mp H
     obtain ⟨t33, at_, H⟩ := H
     have At34 := Aside0.mk at_
     clear at_
     replace HH := Aside0.mk (show (if t33 = 0 then ((ber_Encode.l0 k2 (wrap64 (x1 + 1)) l0)) else (some ((⟨#[]⟩ : ByteArray), t33))) = some (r1, r2) from H)
     clear H
     go_wp2_with (((with_reducible refine gate_callee (f := 62) rfl ?_); (try (refine gate_guard (by rfl) ?_; dsimp only)); refine goesL_ (some 17) rfl rfl Try.func62 (by kernel_rfl) rfl #[.agg #[.int .i64 ((rd_T57 l0 x1).f0), .bool ((rd_T57 l0 x1).f1), .int .i64 ((rd_T57 l0 x1).f2), .string ((rd_T57 l0 x1).f3), .slice A9_4 ((rd_T57 l0 x1).f4).length c9_4]] rfl (by (try simp only [List.map_toArray, List.map_cons, List.map_nil]); first | done | rfl | (simp only [List.length_drop, List.length_take]; rfl)) ?_; (with_reducible refine (ber_Check.calls k2 (fun k_ => (P_ k_ ∨ w.heap.size ≤ k_) ∧ k_ ≠ g10) ((rd_T57 l0 x1).f0) ((rd_T57 l0 x1).f1) ((rd_T57 l0 x1).f2) ((rd_T57 l0 x1).f3) _ _ ((rd_T57 l0 x1).f4) t33 _ (Kd.F_mono (ok := (fun k_ => (P_ k_ ∨ w.heap.size ≤ k_) ∧ k_ ≠ g10)) HF9_4.out (fun k_ hk_ => ⟨hk_.1, hk_.2⟩)) HL9_4.out At34.out).mono ?_); rintro e w35 ⟨rfl, hb⟩; refine ⟨_, rfl, ?_⟩); refine stop_ ?_)
     refine Stop.go ?_
     replace HF0 := Aside0.mk (Kd.F_below HF0.out hb)
     replace BKg10 := Aside0.mk (blk_below (g := g10) BKg10.out hb)
     replace HB := Aside0.mk (below_step HB.out hb)
     clear hb
     clear jn jo jp jq jr js jt ju jv jw
     obtain ⟨jA, jB, jC, jD, jE, jF, jG, jH, jI, jJ⟩ := MB.lay5 BKg10.out
     by_cases c46 : t33 = 0
     ·replace HH := MW.hpos HH c46
      have hk47 : (t33 == 0) = true := beq_iff_eq.mpr c46
      have hk48 : (t33 != 0) = false := bne_eq_false_iff_eq.mpr c46
      clear c46
      go_wp2
      go_roundg k2
      case measure => have := HK0.out; omega
      case rel => exact ⟨wrap64 (x1 + 1), (by first | rfl | (simp; done) | (simp [*]; done)), HH, ⟨by have := HK0.out; omega⟩, ⟨(Kd.F_mono (ok := (fun k_ => (P_ k_ ∨ w.heap.size ≤ k_) ∧ k_ ≠ g10)) HF0.out (fun k_ hk_ => hk_.1))⟩, ⟨HB.out⟩⟩
     replace HH := MW.hneg HH c46
     have hk49 : (t33 == 0) = false := beq_eq_false_iff_ne.mpr c46
     have hk50 : (t33 != 0) = true := bne_iff_ne.mpr c46
     clear c46
     have H := HH.out
     simp only [Option.some.injEq, Prod.mk.injEq] at H
     obtain ⟨rfl, rfl⟩ := H
     clear HH
     go_wp2
     go_ret2
     exact ⟨by first | rfl | (simp; done) | (simp [*]; done), HB.out⟩
    exact absurd HH.out (by rw [if_neg c7]; simp)
   replace HH := MW.hneg HH c4
   have hk52 : (x1 < (l0.length : Int)) = False := eq_false c4
   have hk53 : decide (x1 < (l0.length : Int)) = false := decide_eq_false c4
   clear c4
   go_wp2_with (((with_reducible refine gate_dst (N := 7) rfl ?_); (try (refine gate_guard (by rfl) ?_; dsimp only)); refine box_event ?hg (N := 7) ?hd (cs := #[.pointer none, .slice none 0 0, .bool false]) (t := 99) ?hr ?_; (case hd => rfl); (case hg => rfl); (case hr => first | (go_simp; done) | (go_simp; rfl)); intro g54 hg w55 hbox hb); replace hg := Aside0.mk hg; replace hbox := Aside0.mk hbox; refine stop_ ?_)
   refine Stop.go ?_
   replace hg := hg.out
   replace hbox := hbox.out
   have GEg54 := Aside0.mk (by rw [hg]; exact (below_size HB.out) : w.heap.size ≤ g54)
   replace HF0 := Aside0.mk (Kd.F_elderB HF0.out g54 (Nat.le_of_eq hg.symm))
   replace HF0 := Aside0.mk (Kd.F_mono HF0.out (fun k_ hk_ => ⟨hk_.1, hk_.2⟩) : Kd.F k57 _ (fun k_ => (P_ k_ ∨ w.heap.size ≤ k_) ∧ k_ ≠ g54) _ _ _)
   replace HF0 := Aside0.mk (Kd.F_below HF0.out hb)
   replace HB := Aside0.mk (below_step HB.out hb)
   have BKg54 := Aside0.mk hbox
   clear hg hbox hb
   obtain ⟨jU, jV, jW, jX, jY, jZ⟩ := MB.lay3 BKg54.out
   go_wp2
   go_loopg [24] k2 (fun kq u24 w' => ∃ (x64 : Int) (x65 : List Int) (x67 : Bool) (v62 : Value) (p63 : Value), u24 = .int .i64 x64 ∧ Aside0 ((ber_Encode.l1 kq x64 x65 x67 l0) = some (r1, r2)) ∧ Aside0 (kq ≤ k2) ∧ Aside0 (Kd.F k57 w' (fun k_ => (P_ k_ ∨ w.heap.size ≤ k_) ∧ some k_ ≠ (v62 : Value).ownBlock ∧ k_ ≠ g54) A0 l0.length l0) ∧ Aside0 (Kd.N (Kd.int .u8) 5 w' w.heap.size (fun k_ => (P_ k_ ∨ w.heap.size ≤ k_) ∧ k_ ≠ g54) v62 x65) ∧ Aside0 (p63 = .pointer none ∨ p63 = .pointer (some ⟨g54, 0, none⟩)) ∧ Aside0 (w'.heap[g54]? = some (.cells #[p63, v62, .bool x67] 99 (0, 0))) ∧ Aside0 (Below w.heap.size w w'))
   case atStart => exact ⟨0, ([] : List Int), false, .slice none 0 0, .pointer none, (by first | rfl | (simp; done) | (simp [*]; done)), HH, ⟨Nat.le_refl _⟩, ⟨(Kd.F_mono (ok := (fun k_ => (P_ k_ ∨ w.heap.size ≤ k_) ∧ k_ ≠ g54)) HF0.out (fun k_ hk_ => ⟨hk_.1, (by simp [Value.ownBlock]), hk_.2⟩))⟩, ⟨Kd.N_nil _ _ _ _ _⟩, ⟨(.inl rfl)⟩, ⟨BKg54.out⟩, ⟨HB.out⟩⟩
   case round =>
    clear jU jV jW jX jY jZ
    clear hk52
    clear hk53
    clear HH
    clear HF0 BKg54 HB
    obtain ⟨x64, x65, x67, v62, p63, rfl, HA, HK1, HF0, HN66, HPp63, BKg54, HB⟩ := hrel
    obtain ⟨w69, rfl⟩ : ∃ wo_ : World, wo_ = wr := ⟨_, rfl⟩
    cases gk with
    | zero => exact absurd HA.out (by simp [ber_Encode.l1])
    | succ k68 =>
     have H := HA.out
     clear HA
     simp only [ber_Encode.l1] at H
     have HH := Aside0.mk H
     clear H
     obtain ⟨j18, j19, j1a, j1b, j1c, j1d⟩ := MB.lay3 BKg54.out
     by_cases c76 : x64 < (l0.length : Int)
     ·replace HH := MW.hpos HH c76
      have hk77 : (x64 < (l0.length : Int)) = True := eq_true c76
      have hk78 : decide (x64 < (l0.length : Int)) = true := decide_eq_true c76
      clear c76
      by_cases c79 : 0 ≤ x64
      ·replace HH := MW.hpos HH c79
       have hk80 : decide (0 ≤ x64) = true := decide_eq_true c79
       clear c79
       have p81 : 0 ≤ (x64 : Int) := of_decide_eq_true (by first | (with_reducible assumption) | assumption)
       have q81 : x64 < (l0.length : Int) := of_decide_eq_true (by first | (with_reducible assumption) | assumption)
       obtain ⟨ad81, A81_4, c81_4, e81, hx81_0, hx81_1, hx81_2, hx81_3, hx81_4, hl81_4, hi81_4⟩ := atF_T57 HF0.out x64 p81 q81
       cases e81
       have HF81_4 := Aside0.mk hi81_4
       have HL81_4 := Aside0.mk hl81_4
       clear hi81_4 hl81_4
       replace p81 := eq_true p81
       replace q81 := eq_true q81
       go_wp2_with (((with_reducible refine gate_dst (N := 9) rfl ?_); (try (refine gate_guard (by rfl) ?_; dsimp only)); refine box_event ?hg (N := 9) ?hd (cs := #[.int .i64 0, .bool false, .int .i64 0, .string (⟨#[]⟩ : ByteArray), .slice none 0 0]) (t := 57) ?hr ?_; (case hd => rfl); (case hg => rfl); (case hr => first | (go_simp; done) | (go_simp; rfl)); intro g82 hg w83 hbox hb); replace hg := Aside0.mk hg; replace hbox := Aside0.mk hbox; refine stop_ ?_)
       refine Stop.go ?_
       replace hg := hg.out
       replace hbox := hbox.out
       have GEg82 := Aside0.mk (by rw [hg]; exact (below_size HB.out) : w.heap.size ≤ g82)
       replace HF0 := Aside0.mk (Kd.F_elderB HF0.out g82 (Nat.le_of_eq hg.symm))
       replace HF0 := Aside0.mk (Kd.F_mono HF0.out (fun k_ hk_ => ⟨hk_.1.1, hk_.1.2.1, hk_.1.2.2, hk_.2⟩) : Kd.F k57 _ (fun k_ => (P_ k_ ∨ w.heap.size ≤ k_) ∧ some k_ ≠ (v62 : Value).ownBlock ∧ k_ ≠ g54 ∧ k_ ≠ g82) _ _ _)
       replace HF81_4 := Aside0.mk (Kd.F_elderB HF81_4.out g82 (Nat.le_of_eq hg.symm))
       replace HF81_4 := Aside0.mk (Kd.F_mono HF81_4.out (fun k_ hk_ => ⟨hk_.1.1, hk_.1.2.1, hk_.1.2.2, hk_.2⟩) : Kd.F k57 _ (fun k_ => (P_ k_ ∨ w.heap.size ≤ k_) ∧ some k_ ≠ (v62 : Value).ownBlock ∧ k_ ≠ g54 ∧ k_ ≠ g82) _ _ _)
       replace HN66 := Aside0.mk (Kd.N_elderB HN66.out g82 (Nat.le_of_eq hg.symm))
       replace HN66 := Aside0.mk (Kd.N_mono HN66.out (fun k_ hk_ => ⟨hk_.1.1, hk_.1.2, hk_.2⟩) : Kd.N (Kd.int .u8) _ _ _ (fun k_ => (P_ k_ ∨ w.heap.size ≤ k_) ∧ k_ ≠ g54 ∧ k_ ≠ g82) _ _)
       have NEg54_g82 := Aside0.mk (by rw [hg]; exact Nat.ne_of_lt (blk_lt (g := g54) BKg54.out) : g54 ≠ g82)
       have NEg82_g54 := Aside0.mk (Ne.symm NEg54_g82.out)
       replace HF0 := Aside0.mk (Kd.F_below HF0.out hb)
       replace HF81_4 := Aside0.mk (Kd.F_below HF81_4.out hb)
       replace HN66 := Aside0.mk (Kd.N_below HN66.out hb)
       replace BKg54 := Aside0.mk (blk_below (g := g54) BKg54.out hb)
       replace HB := Aside0.mk (below_step HB.out hb)
       have BKg82 := Aside0.mk hbox
       clear hg hbox hb
       clear j18 j19 j1a j1b j1c j1d hx81_0 hx81_1 hx81_2 hx81_3 hx81_4 p81 q81
       obtain ⟨j1m, j1n, j1o, j1p, j1q, j1r⟩ := MB.lay3 BKg54.out
       obtain ⟨j1s, j1t, j1u, j1v, j1w, j1x, j1y, j1z, j1A, j1B⟩ := MB.lay5 BKg82.out
       go_wp2_with (((with_reducible refine gate_store (t := 57) (p := 9) rfl ?_); (try (refine gate_guard (by rfl) ?_; dsimp only)); refine MW.ev_store #[.int .i64 ((rd_T57 l0 x64).f0), .bool ((rd_T57 l0 x64).f1), .int .i64 ((rd_T57 l0 x64).f2), .string ((rd_T57 l0 x64).f3), .slice A81_4 ((rd_T57 l0 x64).f4).length c81_4] rfl rfl rfl rfl BKg82.out [.int .i64 ((rd_T57 l0 x64).f0), .bool ((rd_T57 l0 x64).f1), .int .i64 ((rd_T57 l0 x64).f2), .string ((rd_T57 l0 x64).f3), .slice A81_4 ((rd_T57 l0 x64).f4).length c81_4] rfl (by kernel_rfl) (by simp) (by simp [Value.oneCell']) rfl ?_; intro w100 hbk hg); replace hbk := Aside0.mk hbk; refine stop_ ?_)
       refine Stop.go ?_
       replace hbk := hbk.out
       replace HF0 := Aside0.mk (Kd.F_grown (ok := (fun k_ => (P_ k_ ∨ w.heap.size ≤ k_) ∧ some k_ ≠ (v62 : Value).ownBlock ∧ k_ ≠ g54 ∧ k_ ≠ g82)) HF0.out hg (fun k_ hk_ he_ => hk_.2.2.2 (Option.some.inj he_)))
       replace HF81_4 := Aside0.mk (Kd.F_grown (ok := (fun k_ => (P_ k_ ∨ w.heap.size ≤ k_) ∧ some k_ ≠ (v62 : Value).ownBlock ∧ k_ ≠ g54 ∧ k_ ≠ g82)) HF81_4.out hg (fun k_ hk_ he_ => hk_.2.2.2 (Option.some.inj he_)))
       replace HN66 := Aside0.mk (Kd.N_grown (ok := (fun k_ => (P_ k_ ∨ w.heap.size ≤ k_) ∧ k_ ≠ g54 ∧ k_ ≠ g82)) HN66.out hg (fun k_ hk_ he_ => hk_.2.2 (Option.some.inj he_)))
       replace BKg54 := Aside0.mk (blk_grown (g := g54) BKg54.out hg (fun he_ => NEg54_g82.out (Option.some.inj he_)))
       replace HB := Aside0.mk (Below.grown HB.out hg (below_size HB.out) (fun k_ hk_ => by injection hk_ with hk_; rw [← hk_]; exact GEg82.out))
       replace BKg82 := Aside0.mk hbk
       clear hg hbk
       clear j1m j1n j1o j1p j1q j1r j1s j1t j1u j1v j1w j1x j1y j1z j1A j1B
       obtain ⟨j1D, j1E, j1F, j1G, j1H, j1I⟩ := MB.lay3 BKg54.out
       obtain ⟨j1J, j1K, j1L, j1M, j1N, j1O, j1P, j1Q, j1R, j1S⟩ := MB.lay5 BKg82.out
       obtain ⟨A117, cp118, he_⟩ := Kd.N_slice HN66.out
       subst he_
       have H := HH.out
       replace H := Option.bind_eq_some_iff.mp H
       obtain ⟨⟨t119, t120⟩, at_, H⟩ := H
       have At121 := Aside0.mk at_
       clear at_
       replace HH := Aside0.mk (show ((ber_Encode.l1 k68 (wrap64 (x64 + 1)) t119 t120 l0)) = some (r1, r2) from H)
       clear H
       go_wp2_with (((with_reducible refine gate_callee (f := 63) rfl ?_); (try (refine gate_guard (by rfl) ?_; dsimp only)); refine goesL_ (some 29) rfl rfl Try.func63 (by kernel_rfl) rfl #[.pointer (some ⟨g54, 0, none⟩), .agg #[.int .i64 ((rd_T57 l0 x64).f0), .bool ((rd_T57 l0 x64).f1), .int .i64 ((rd_T57 l0 x64).f2), .string ((rd_T57 l0 x64).f3), .slice A81_4 ((rd_T57 l0 x64).f4).length c81_4]] rfl (by (try simp only [List.map_toArray, List.map_cons, List.map_nil]); first | done | rfl) ?_; refine (ber_sheaf_lay.calls k68 (fun k_ => (P_ k_ ∨ w.heap.size ≤ k_) ∧ some k_ ≠ ((.slice A117 x65.length cp118) : Value).ownBlock ∧ k_ ≠ g54 ∧ k_ ≠ g82) w.heap.size g54 (p63) ((.slice A117 x65.length cp118)) x65 x67 ((rd_T57 l0 x64).f0) ((rd_T57 l0 x64).f1) ((rd_T57 l0 x64).f2) ((rd_T57 l0 x64).f3) _ _ ((rd_T57 l0 x64).f4) t119 t120 _ (below_size HB.out) (fun k_ hk_ => hk_.2.2.1) (fun k_ hk_ => hk_.2.1) BKg54.out GEg54.out HPp63.out (Kd.N_mono (MB.N_only HN66.out) (fun k_ hk_ => ⟨trivial, .inl hk_, (fun hk_ => hk_.2.1) (HN66.out.1 k_ hk_.symm)⟩)) (Kd.F_mono (ok := (fun k_ => (P_ k_ ∨ w.heap.size ≤ k_) ∧ some k_ ≠ ((.slice A117 x65.length cp118) : Value).ownBlock ∧ k_ ≠ g54 ∧ k_ ≠ g82)) HF81_4.out (fun k_ hk_ => ⟨hk_.1, hk_.2.1, hk_.2.2.1, hk_.2.2.2⟩)) HL81_4.out At121.out).mono ?_; rintro e w122 ⟨v123, p124, rfl, hn1, hp1, hbk, hfr, hb⟩; refine ⟨_, rfl, ?_⟩); replace hbk := Aside0.mk hbk; replace hfr := Aside0.mk hfr; replace hp1 := Aside0.mk hp1; refine stop_ ?_)
       refine Stop.go ?_
       replace hbk := hbk.out
       replace hfr := hfr.out
       replace hp1 := hp1.out
       have hat1 : ∀ k_ : Nat, (v123 : Value).ownBlock = some k_ → some k_ = ((.slice A117 x65.length cp118) : Value).ownBlock ∨ w100.heap.size ≤ k_ := fun k_ h_ => (hn1.1 k_ h_).2.1
       have HN125 := Aside0.mk (Kd.N_mono hn1 (fun k_ hk_ => hk_.2.1.elim (fun h_ => HN66.out.1 k_ h_.symm) (fun h_ => ⟨.inr (Nat.le_trans (below_size HB.out) h_), Kd.freshB (g := g54) BKg54.out k_ h_, Kd.freshB (g := g82) BKg82.out k_ h_⟩)) : Kd.N (Kd.int .u8) 5 w122 w.heap.size (fun k_ => (P_ k_ ∨ w.heap.size ≤ k_) ∧ k_ ≠ g54 ∧ k_ ≠ g82) v123 t119)
       replace HF0 := Aside0.mk (Kd.F_mono (MB.F_ptr (ok := (fun k_ => (P_ k_ ∨ w.heap.size ≤ k_) ∧ some k_ ≠ ((.slice A117 x65.length cp118) : Value).ownBlock ∧ k_ ≠ g54 ∧ k_ ≠ g82)) HF0.out hfr (fun k_ hk_ => hk_.2.2.1) (fun k_ hk_ => hk_.2.1)) (fun k_ hk_ => ⟨hk_.1.1, hk_.1.2.2.1, hk_.1.2.2.2, (fun he_ => (hat1 k_ he_.symm).elim (fun h_ => absurd h_ (hk_.1.2.1)) (fun h_ => absurd hk_.2 (Nat.not_lt.2 h_)))⟩) : Kd.F k57 _ (fun k_ => (P_ k_ ∨ w.heap.size ≤ k_) ∧ k_ ≠ g54 ∧ k_ ≠ g82 ∧ some k_ ≠ (v123 : Value).ownBlock) _ _ _)
       replace BKg82 := Aside0.mk (MB.blk_ptr BKg82.out hfr NEg82_g54.out (Kd.N_away (ok := (fun k_ => (P_ k_ ∨ w.heap.size ≤ k_) ∧ k_ ≠ g54 ∧ k_ ≠ g82)) HN66.out (fun k_ hk_ => hk_.2.2)))
       replace HB := Aside0.mk (Below.trans HB.out hb)
       replace BKg54 := Aside0.mk hbk
       have HPp124 := Aside0.mk hp1
       clear hbk hfr hb hp1 hn1 hat1
       clear HN66
       clear j1D j1E j1F j1G j1H j1I j1J j1K j1L j1M j1N j1O j1P j1Q j1R j1S
       obtain ⟨j22, j23, j24, j25, j26, j27⟩ := MB.lay3 BKg54.out
       obtain ⟨j28, j29, j2a, j2b, j2c, j2d, j2e, j2f, j2g, j2h⟩ := MB.lay5 BKg82.out
       go_wp2
       go_roundg k68
       case measure => have := HK0.out; have := HK1.out; omega
       case rel => exact ⟨wrap64 (x64 + 1), t119, t120, v123, p124, (by first | rfl | (simp; done) | (simp [*]; done)), HH, ⟨by have := HK0.out; have := HK1.out; omega⟩, ⟨(Kd.F_mono (ok := (fun k_ => (P_ k_ ∨ w.heap.size ≤ k_) ∧ k_ ≠ g54 ∧ k_ ≠ g82 ∧ some k_ ≠ (v123 : Value).ownBlock)) HF0.out (fun k_ hk_ => ⟨hk_.1, hk_.2.2.2, hk_.2.1⟩))⟩, ⟨(Kd.N_mono (ok := (fun k_ => (P_ k_ ∨ w.heap.size ≤ k_) ∧ k_ ≠ g54 ∧ k_ ≠ g82)) HN125.out (fun k_ hk_ => ⟨hk_.1, hk_.2.1⟩))⟩, ⟨HPp124.out⟩, ⟨BKg54.out⟩, ⟨HB.out⟩⟩
      exact absurd HH.out (by rw [if_neg c79]; simp)
     replace HH := MW.hneg HH c76
     have hk143 : (x64 < (l0.length : Int)) = False := eq_false c76
     have hk144 : decide (x64 < (l0.length : Int)) = false := decide_eq_false c76
     clear c76
     by_cases c145 : x67 = true
     ·replace HH := MW.hpos HH c145
      subst c145
      have H := HH.out
      simp only [Option.some.injEq, Prod.mk.injEq] at H
      obtain ⟨rfl, rfl⟩ := H
      clear HH
      go_wp2
      go_ret2
      exact ⟨by first | rfl | (simp; done) | (simp [*]; done), HB.out⟩
     replace HH := MW.hneg HH c145
     replace c145 := Bool.eq_false_iff.mpr c145
     subst c145
     obtain ⟨A146, cp147, he_⟩ := Kd.N_slice HN66.out
     subst he_
     go_wp2_with (((with_reducible refine gate_callee (f := 64) rfl ?_); (try (refine gate_guard (by rfl) ?_; dsimp only)); refine goesL_ (some 34) rfl rfl Try.func64 (by kernel_rfl) rfl #[.pointer (some ⟨g54, 0, none⟩)] rfl (by (try simp only [List.map_toArray, List.map_cons, List.map_nil]); first | done | rfl) ?_; refine (bString64 g54 99 (p63) ((.slice A146 x65.length cp147)) [.bool false] w.heap.size (fun k_ => (P_ k_ ∨ w.heap.size ≤ k_) ∧ k_ ≠ g54) x65 _ BKg54.out HN66.out).mono ?_; rintro e w148 ⟨rfl, hg⟩; refine ⟨_, rfl, ?_⟩); refine stop_ ?_)
     refine Stop.go ?_
     replace BKg54 := Aside0.mk (blk_grown (g := g54) BKg54.out hg (Kd.N_away (ok := (fun k_ => (P_ k_ ∨ w.heap.size ≤ k_) ∧ k_ ≠ g54)) HN66.out (fun k_ hk_ => hk_.2)))
     replace HB := Aside0.mk (Below.grown HB.out hg (below_size HB.out) (Kd.N_base HN66.out))
     clear hg HN66
     clear j18 j19 j1a j1b j1c j1d
     obtain ⟨j2p, j2q, j2r, j2s, j2t, j2u⟩ := MB.lay3 BKg54.out
     have H := HH.out
     simp only [Option.some.injEq, Prod.mk.injEq] at H
     obtain ⟨rfl, rfl⟩ := H
     clear HH
     go_wp2
     go_ret2
     exact ⟨by first | rfl | (simp; done) | (simp [*]; done), HB.out⟩

/-! ### ber_Decode: function 27 -/
def ber_Decode.f (k : Nat) (a0 : ByteArray) (a1 : Int) : Option (Int × Bool × Int × ByteArray × (List (S57)) × Int × Int) := if a1 < 0 then (some (0, false, 0, (⟨#[]⟩ : ByteArray), ([] : List (S57)), 0, 2)) else (if a1 > (a0.size : Int) then (some (0, false, 0, (⟨#[]⟩ : ByteArray), ([] : List (S57)), 0, 2)) else ((ber_take.f k a0 a1 12).bind fun bt43 => (some (bt43.1, bt43.2.1, bt43.2.2.1, bt43.2.2.2.1, bt43.2.2.2.2.1, bt43.2.2.2.2.2.1, bt43.2.2.2.2.2.2))))
theorem ber_Decode.mono : ∀ a0_ a1_ k, LeO (ber_Decode.f k a0_ a1_) (ber_Decode.f (k + 1) a0_ a1_) := by
 intro a0_ a1_ k
 unfold ber_Decode.f
 repeat' first
   | (with_reducible exact ber_take.mono _ _ _ _)
   | (with_reducible exact LeO.refl _)
   | (with_reducible exact LeO.none _)
   | (with_reducible refine LeO.ite ?_ ?_)
   | (with_reducible refine LeO.bind ?_ (fun _ => ?_))
set_option maxHeartbeats 8000000 in
set_option maxRecDepth 100000 in
theorem ber_Decode.calls (k : Nat) (a0 : ByteArray) (a1 : Int) (r1 : Int) (r2 : Bool) (r3 : Int) (r4 : ByteArray) (r5 : List (S57)) (r6 : Int) (r7 : Int) (w : World) (h : ber_Decode.f k a0 a1 = some (r1, r2, r3, r4, r5, r6, r7)) :
  Calls Try.prog 27 #[.string a0, .int .i64 a1] w (fun e w' => ∃ v4_ : Value, e = .returned (.tuple #[.agg #[.int .i64 r1, .bool r2, .int .i64 r3, .string r4, v4_], .int .i64 r6, .int .i64 r7]) ∧ Kd.N k57 57 w' w.heap.size (fun k_ => w.heap.size ≤ k_) v4_ r5 ∧ Below w.heap.size w w') := by
 have HH := Aside0.mk (show (if a1 < 0 then (some (0, false, 0, (⟨#[]⟩ : ByteArray), ([] : List (S57)), 0, 2)) else (if a1 > (a0.size : Int) then (some (0, false, 0, (⟨#[]⟩ : ByteArray), ([] : List (S57)), 0, 2)) else ((ber_take.f k a0 a1 12).bind fun bt43 => (some (bt43.1, bt43.2.1, bt43.2.2.1, bt43.2.2.2.1, bt43.2.2.2.2.1, bt43.2.2.2.2.2.1, bt43.2.2.2.2.2.2))))) = some (r1, r2, r3, r4, r5, r6, r7) from h)
 clear h
 have HB := Aside0.mk (Below.refl w.heap.size w)
 have hu57 := Try.underlying57
 go_enter Try.func27, Try.ntmps27
 go_wp2_with (((with_reducible refine gate_dst (N := 4) rfl ?_); (try (refine gate_guard (by rfl) ?_; dsimp only)); refine box_event ?hg (N := 4) ?hd (cs := #[.int .i64 0, .bool false, .int .i64 0, .string (⟨#[]⟩ : ByteArray), .slice none 0 0]) (t := 57) ?hr ?_; (case hd => rfl); (case hg => rfl); (case hr => first | (go_simp; done) | (go_simp; rfl)); intro g1 hg w2 hbox hb); replace hg := Aside0.mk hg; replace hbox := Aside0.mk hbox; refine stop_ ?_)
 refine Stop.go ?_
 replace hg := hg.out
 replace hbox := hbox.out
 have GEg1 := Aside0.mk (by rw [hg]; exact (below_size HB.out) : w.heap.size ≤ g1)
 replace HB := Aside0.mk (below_step HB.out hb)
 have BKg1 := Aside0.mk hbox
 clear hg hbox hb
 obtain ⟨j3, j4, j5, j6, j7, j8, j9, ja, jb, jc⟩ := MB.lay5 BKg1.out
 by_cases c13 : a1 < 0
 ·replace HH := MW.hpos HH c13
  have hk14 : (a1 < 0) = True := eq_true c13
  have hk15 : decide (a1 < 0) = true := decide_eq_true c13
  clear c13
  go_wp2_with (((with_reducible refine gate_store (t := 57) (p := 4) rfl ?_); (try (refine gate_guard (by rfl) ?_; dsimp only)); refine MW.ev_store #[.int .i64 0, .bool false, .int .i64 0, .string (⟨#[]⟩ : ByteArray), .slice none 0 0] rfl rfl rfl rfl BKg1.out [.int .i64 0, .bool false, .int .i64 0, .string (⟨#[]⟩ : ByteArray), .slice none 0 0] rfl (by kernel_rfl) (by simp) (by simp [Value.oneCell']) rfl ?_; intro w16 hbk hg); replace hbk := Aside0.mk hbk; refine stop_ ?_)
  refine Stop.go ?_
  replace hbk := hbk.out
  replace HB := Aside0.mk (Below.grown HB.out hg (below_size HB.out) (fun k_ hk_ => by injection hk_ with hk_; rw [← hk_]; exact GEg1.out))
  replace BKg1 := Aside0.mk hbk
  clear hg hbk
  clear j3 j4 j5 j6 j7 j8 j9 ja jb jc
  obtain ⟨jh, ji, jj, jk, jl, jm, jn, jo, jp, jq⟩ := MB.lay5 BKg1.out
  have H := HH.out
  simp only [Option.some.injEq, Prod.mk.injEq] at H
  obtain ⟨rfl, rfl, rfl, rfl, rfl, rfl, rfl⟩ := H
  clear HH
  go_wp2
  refine bodyPost_ret (results_ctt rfl _ _ g1 57 #[.int .i64 0, .bool false, .int .i64 0, .string (⟨#[]⟩ : ByteArray), .slice none 0 0] (0, 0) _ rfl BKg1.out Try.underlying57 rfl (by kernel_rfl)) rfl ?_
  exact ⟨_, by first | rfl | (simp; done) | (simp [*]; done), (Kd.N_nil _ _ _ _ _), HB.out⟩
 replace HH := MW.hneg HH c13
 have hk27 : (a1 < 0) = False := eq_false c13
 have hk28 : decide (a1 < 0) = false := decide_eq_false c13
 clear c13
 by_cases c29 : a1 > (a0.size : Int)
 ·replace HH := MW.hpos HH c29
  have hk30 : decide ((a0.size : Int) < a1) = true := decide_eq_true c29
  clear c29
  go_wp2_with (((with_reducible refine gate_store (t := 57) (p := 4) rfl ?_); (try (refine gate_guard (by rfl) ?_; dsimp only)); refine MW.ev_store #[.int .i64 0, .bool false, .int .i64 0, .string (⟨#[]⟩ : ByteArray), .slice none 0 0] rfl rfl rfl rfl BKg1.out [.int .i64 0, .bool false, .int .i64 0, .string (⟨#[]⟩ : ByteArray), .slice none 0 0] rfl (by kernel_rfl) (by simp) (by simp [Value.oneCell']) rfl ?_; intro w31 hbk hg); replace hbk := Aside0.mk hbk; refine stop_ ?_)
  refine Stop.go ?_
  replace hbk := hbk.out
  replace HB := Aside0.mk (Below.grown HB.out hg (below_size HB.out) (fun k_ hk_ => by injection hk_ with hk_; rw [← hk_]; exact GEg1.out))
  replace BKg1 := Aside0.mk hbk
  clear hg hbk
  clear j3 j4 j5 j6 j7 j8 j9 ja jb jc
  obtain ⟨jw, jx, jy, jz, jA, jB, jC, jD, jE, jF⟩ := MB.lay5 BKg1.out
  have H := HH.out
  simp only [Option.some.injEq, Prod.mk.injEq] at H
  obtain ⟨rfl, rfl, rfl, rfl, rfl, rfl, rfl⟩ := H
  clear HH
  go_wp2
  refine bodyPost_ret (results_ctt rfl _ _ g1 57 #[.int .i64 0, .bool false, .int .i64 0, .string (⟨#[]⟩ : ByteArray), .slice none 0 0] (0, 0) _ rfl BKg1.out Try.underlying57 rfl (by kernel_rfl)) rfl ?_
  exact ⟨_, by first | rfl | (simp; done) | (simp [*]; done), (Kd.N_nil _ _ _ _ _), HB.out⟩
 replace HH := MW.hneg HH c29
 have hk42 : decide ((a0.size : Int) < a1) = false := decide_eq_false c29
 clear c29
 have H := HH.out
 replace H := Option.bind_eq_some_iff.mp H
 obtain ⟨⟨t43, t44, t45, t46, t47, t48, t49⟩, at_, H⟩ := H
 have At50 := Aside0.mk at_
 clear at_
 replace HH := Aside0.mk (show (some (t43, t44, t45, t46, t47, t48, t49)) = some (r1, r2, r3, r4, r5, r6, r7) from H)
 clear H
 go_wp2_with (((with_reducible refine gate_callee (f := 49) rfl ?_); (try (refine gate_guard (by rfl) ?_; dsimp only)); refine goesL_ (some 18) rfl rfl Try.func49 (by kernel_rfl) rfl #[.string a0, .int .i64 a1, .int .i64 12] rfl (by (try simp only [List.map_toArray, List.map_cons, List.map_nil]); first | done | rfl | (simp only [List.length_drop, List.length_take]; rfl)) ?_; (with_reducible refine (ber_take.calls k  a0 a1 12 t43 t44 t45 t46 t47 t48 t49 _  At50.out).mono ?_); rintro e w51 ⟨v52, rfl, hn52, hb⟩; refine ⟨_, rfl, ?_⟩); refine stop_ ?_)
 refine Stop.go ?_
 have hba := Kd.N_base hn52
 have HN52 := Aside0.mk (Kd.N_mono (Kd.N_lower hn52 (below_size HB.out)) (fun k_ h_ => ⟨(Nat.le_trans (below_size HB.out) h_), Kd.freshB (g := g1) BKg1.out k_ h_⟩) : Kd.N k57 57 w51 w.heap.size (fun k_ => (w.heap.size ≤ k_) ∧ k_ ≠ g1) v52 t47)
 replace BKg1 := Aside0.mk (blk_below (g := g1) BKg1.out hb)
 replace HB := Aside0.mk (below_step HB.out hb)
 clear hn52 hba hb
 clear j3 j4 j5 j6 j7 j8 j9 ja jb jc
 obtain ⟨jR, jS, jT, jU, jV, jW, jX, jY, jZ, j10⟩ := MB.lay5 BKg1.out
 obtain ⟨A64, cp65, he_⟩ := Kd.N_slice HN52.out
 subst he_
 go_wp2_with (((with_reducible refine gate_store (t := 57) (p := 4) rfl ?_); (try (refine gate_guard (by rfl) ?_; dsimp only)); refine MW.ev_store #[.int .i64 t43, .bool t44, .int .i64 t45, .string t46, (.slice A64 t47.length cp65)] rfl rfl rfl rfl BKg1.out [.int .i64 t43, .bool t44, .int .i64 t45, .string t46, (.slice A64 t47.length cp65)] rfl (by kernel_rfl) (by simp) (by simp [Value.oneCell']) rfl ?_; intro w63 hbk hg); replace hbk := Aside0.mk hbk; refine stop_ ?_)
 refine Stop.go ?_
 replace hbk := hbk.out
 replace HN52 := Aside0.mk (Kd.N_grown (ok := (fun k_ => (w.heap.size ≤ k_) ∧ k_ ≠ g1)) HN52.out hg (fun k_ hk_ he_ => hk_.2 (Option.some.inj he_)))
 replace HB := Aside0.mk (Below.grown HB.out hg (below_size HB.out) (fun k_ hk_ => by injection hk_ with hk_; rw [← hk_]; exact GEg1.out))
 replace BKg1 := Aside0.mk hbk
 clear hg hbk
 clear jR jS jT jU jV jW jX jY jZ j10
 obtain ⟨j14, j15, j16, j17, j18, j19, j1a, j1b, j1c, j1d⟩ := MB.lay5 BKg1.out
 have H := HH.out
 simp only [Option.some.injEq, Prod.mk.injEq] at H
 obtain ⟨rfl, rfl, rfl, rfl, rfl, rfl, rfl⟩ := H
 clear HH
 go_wp2
 refine bodyPost_ret (results_ctt rfl _ _ g1 57 #[.int .i64 t43, .bool t44, .int .i64 t45, .string t46, (.slice A64 t47.length cp65)] (0, 0) _ rfl BKg1.out Try.underlying57 rfl (by kernel_rfl)) rfl ?_
 exact ⟨_, by first | rfl | (simp; done) | (simp [*]; done), (Kd.N_mono (ok := (fun k_ => (w.heap.size ≤ k_) ∧ k_ ≠ g1)) HN52.out (fun k_ hk_ => hk_.1)), HB.out⟩

/-! ### toponymref27_Same: function 17 -/
def toponymref27_Same.f (k : Nat) (a0_0 : Int) (a0_1 : Int) (a0_2 : Bool) (a0_3 : Int) (a0_4 : ByteArray) (a0_5 : ByteArray) (a0_6 : ByteArray) (l0_7 : List (S46)) (a1_0 : Int) (a1_1 : Int) (a1_2 : Bool) (a1_3 : Int) (a1_4 : ByteArray) (a1_5 : ByteArray) (a1_6 : ByteArray) (l1_7 : List (S46)) : Option (Bool) := if a0_0 = a1_0 then (if a0_1 = a1_1 then (if (a0_2 == a1_2) = true then (if a0_3 = a1_3 then (if a0_4.toList = a1_4.toList then (if a0_5.toList = a1_5.toList then (if a0_6.toList = a1_6.toList then ((toponymref26_SameValues.f k l0_7 l1_7).bind fun t75 => (some t75)) else (some false)) else (some false)) else (some false)) else (some false)) else (some false)) else (some false)) else (some false)
theorem toponymref27_Same.mono : ∀ a0_ a1_ a2_ a3_ a4_ a5_ a6_ a7_ a8_ a9_ a10_ a11_ a12_ a13_ a14_ a15_ k, LeO (toponymref27_Same.f k a0_ a1_ a2_ a3_ a4_ a5_ a6_ a7_ a8_ a9_ a10_ a11_ a12_ a13_ a14_ a15_) (toponymref27_Same.f (k + 1) a0_ a1_ a2_ a3_ a4_ a5_ a6_ a7_ a8_ a9_ a10_ a11_ a12_ a13_ a14_ a15_) := by
 intro a0_ a1_ a2_ a3_ a4_ a5_ a6_ a7_ a8_ a9_ a10_ a11_ a12_ a13_ a14_ a15_ k
 unfold toponymref27_Same.f
 repeat' first
   | (with_reducible exact toponymref26_SameValues.mono _ _ _)
   | (with_reducible exact LeO.refl _)
   | (with_reducible exact LeO.none _)
   | (with_reducible refine LeO.ite ?_ ?_)
   | (with_reducible refine LeO.bind ?_ (fun _ => ?_))
set_option maxHeartbeats 8000000 in
set_option maxRecDepth 100000 in
theorem toponymref27_Same.calls (k : Nat) (P_ : Nat → Prop) (a0_0 : Int) (a0_1 : Int) (a0_2 : Bool) (a0_3 : Int) (a0_4 : ByteArray) (a0_5 : ByteArray) (a0_6 : ByteArray) (A0_7 : Option Addr) (c0_7 : Nat) (l0_7 : List (S46)) (a1_0 : Int) (a1_1 : Int) (a1_2 : Bool) (a1_3 : Int) (a1_4 : ByteArray) (a1_5 : ByteArray) (a1_6 : ByteArray) (A1_7 : Option Addr) (c1_7 : Nat) (l1_7 : List (S46)) (r : Bool) (w : World) (hs0_7 : Kd.F k46 w P_ A0_7 l0_7.length l0_7) (hc0_7 : l0_7.length ≤ c0_7) (hs1_7 : Kd.F k46 w P_ A1_7 l1_7.length l1_7) (hc1_7 : l1_7.length ≤ c1_7) (h : toponymref27_Same.f k a0_0 a0_1 a0_2 a0_3 a0_4 a0_5 a0_6 l0_7 a1_0 a1_1 a1_2 a1_3 a1_4 a1_5 a1_6 l1_7 = some r) :
  Calls Try.prog 17 #[.agg #[.int .i64 a0_0, .int .i64 a0_1, .bool a0_2, .int .i64 a0_3, .string a0_4, .string a0_5, .string a0_6, .slice A0_7 l0_7.length c0_7], .agg #[.int .i64 a1_0, .int .i64 a1_1, .bool a1_2, .int .i64 a1_3, .string a1_4, .string a1_5, .string a1_6, .slice A1_7 l1_7.length c1_7]] w (fun e w' => e = .returned (.bool r) ∧ Below w.heap.size w w') := by
 have HH := Aside0.mk (show (if a0_0 = a1_0 then (if a0_1 = a1_1 then (if (a0_2 == a1_2) = true then (if a0_3 = a1_3 then (if a0_4.toList = a1_4.toList then (if a0_5.toList = a1_5.toList then (if a0_6.toList = a1_6.toList then ((toponymref26_SameValues.f k l0_7 l1_7).bind fun t75 => (some t75)) else (some false)) else (some false)) else (some false)) else (some false)) else (some false)) else (some false)) else (some false)) = some r from h)
 clear h
 have HF0_7 := Aside0.mk (Kd.F_mono hs0_7 (fun k_ hk_ => (.inl hk_ : P_ k_ ∨ w.heap.size ≤ k_)))
 have HL0_7 := Aside0.mk hc0_7
 clear hs0_7 hc0_7
 have HF1_7 := Aside0.mk (Kd.F_mono hs1_7 (fun k_ hk_ => (.inl hk_ : P_ k_ ∨ w.heap.size ≤ k_)))
 have HL1_7 := Aside0.mk hc1_7
 clear hs1_7 hc1_7
 have HB := Aside0.mk (Below.refl w.heap.size w)
 have hu27 := Try.underlying27
 go_enter Try.func17, Try.ntmps17
 go_wp2_with (((with_reducible refine gate_dst (N := 2) rfl ?_); (try (refine gate_guard (by rfl) ?_; dsimp only)); refine box_event ?hg (N := 2) ?hd (cs := #[.int .i64 a0_0, .int .i64 a0_1, .bool a0_2, .int .i64 a0_3, .string a0_4, .string a0_5, .string a0_6, .slice A0_7 l0_7.length c0_7]) (t := 27) ?hr ?_; (case hd => rfl); (case hg => rfl); (case hr => first | (go_simp; done) | (go_simp; rfl)); intro g1 hg w2 hbox hb); replace hg := Aside0.mk hg; replace hbox := Aside0.mk hbox; refine stop_ ?_)
 refine Stop.go ?_
 replace hg := hg.out
 replace hbox := hbox.out
 replace HF0_7 := Aside0.mk (Kd.F_elderB HF0_7.out g1 (Nat.le_of_eq hg.symm))
 replace HF0_7 := Aside0.mk (Kd.F_mono HF0_7.out (fun k_ hk_ => ⟨hk_.1, hk_.2⟩) : Kd.F k46 _ (fun k_ => (P_ k_ ∨ w.heap.size ≤ k_) ∧ k_ ≠ g1) _ _ _)
 replace HF1_7 := Aside0.mk (Kd.F_elderB HF1_7.out g1 (Nat.le_of_eq hg.symm))
 replace HF1_7 := Aside0.mk (Kd.F_mono HF1_7.out (fun k_ hk_ => ⟨hk_.1, hk_.2⟩) : Kd.F k46 _ (fun k_ => (P_ k_ ∨ w.heap.size ≤ k_) ∧ k_ ≠ g1) _ _ _)
 replace HF0_7 := Aside0.mk (Kd.F_below HF0_7.out hb)
 replace HF1_7 := Aside0.mk (Kd.F_below HF1_7.out hb)
 replace HB := Aside0.mk (below_step HB.out hb)
 have BKg1 := Aside0.mk hbox
 clear hg hbox hb
 obtain ⟨j3, j4, j5, j6, j7, j8, j9, ja, jb, jc, jd, je, jf, jg, jh, ji⟩ := MB.lay8 BKg1.out
 go_wp2_with (((with_reducible refine gate_dst (N := 3) rfl ?_); (try (refine gate_guard (by rfl) ?_; dsimp only)); refine box_event ?hg (N := 3) ?hd (cs := #[.int .i64 a1_0, .int .i64 a1_1, .bool a1_2, .int .i64 a1_3, .string a1_4, .string a1_5, .string a1_6, .slice A1_7 l1_7.length c1_7]) (t := 27) ?hr ?_; (case hd => rfl); (case hg => rfl); (case hr => first | (go_simp; done) | (go_simp; rfl)); intro g19 hg w20 hbox hb); replace hg := Aside0.mk hg; replace hbox := Aside0.mk hbox; refine stop_ ?_)
 refine Stop.go ?_
 replace hg := hg.out
 replace hbox := hbox.out
 replace HF0_7 := Aside0.mk (Kd.F_elderB HF0_7.out g19 (Nat.le_of_eq hg.symm))
 replace HF0_7 := Aside0.mk (Kd.F_mono HF0_7.out (fun k_ hk_ => ⟨hk_.1.1, hk_.1.2, hk_.2⟩) : Kd.F k46 _ (fun k_ => (P_ k_ ∨ w.heap.size ≤ k_) ∧ k_ ≠ g1 ∧ k_ ≠ g19) _ _ _)
 replace HF1_7 := Aside0.mk (Kd.F_elderB HF1_7.out g19 (Nat.le_of_eq hg.symm))
 replace HF1_7 := Aside0.mk (Kd.F_mono HF1_7.out (fun k_ hk_ => ⟨hk_.1.1, hk_.1.2, hk_.2⟩) : Kd.F k46 _ (fun k_ => (P_ k_ ∨ w.heap.size ≤ k_) ∧ k_ ≠ g1 ∧ k_ ≠ g19) _ _ _)
 replace HF0_7 := Aside0.mk (Kd.F_below HF0_7.out hb)
 replace HF1_7 := Aside0.mk (Kd.F_below HF1_7.out hb)
 replace BKg1 := Aside0.mk (blk_below (g := g1) BKg1.out hb)
 replace HB := Aside0.mk (below_step HB.out hb)
 have BKg19 := Aside0.mk hbox
 clear hg hbox hb
 clear j3 j4 j5 j6 j7 j8 j9 ja jb jc jd je jf jg jh ji
 obtain ⟨jl, jm, jn, jo, jp, jq, jr, js, jt, ju, jv, jw, jx, jy, jz, jA⟩ := MB.lay8 BKg1.out
 obtain ⟨jB, jC, jD, jE, jF, jG, jH, jI, jJ, jK, jL, jM, jN, jO, jP, jQ⟩ := MB.lay8 BKg19.out
 by_cases c53 : a0_0 = a1_0
 ·replace HH := MW.hpos HH c53
  have hk54 : (a0_0 == a1_0) = true := beq_iff_eq.mpr c53
  have hk55 : (a0_0 != a1_0) = false := bne_eq_false_iff_eq.mpr c53
  clear c53
  by_cases c56 : a0_1 = a1_1
  ·replace HH := MW.hpos HH c56
   have hk57 : (a0_1 == a1_1) = true := beq_iff_eq.mpr c56
   have hk58 : (a0_1 != a1_1) = false := bne_eq_false_iff_eq.mpr c56
   clear c56
   by_cases c59 : (a0_2 == a1_2) = true
   ·replace HH := MW.hpos HH c59
    have hk60 : (a0_2 == a1_2) = true := c59
    try have hk61 : decide (a0_2 = a1_2) = true := by simpa using c59
    try have hk62 : (a0_2 == a1_2) = true := by simpa using c59
    clear c59
    by_cases c63 : a0_3 = a1_3
    ·replace HH := MW.hpos HH c63
     have hk64 : (a0_3 == a1_3) = true := beq_iff_eq.mpr c63
     have hk65 : (a0_3 != a1_3) = false := bne_eq_false_iff_eq.mpr c63
     clear c63
     by_cases c66 : a0_4.toList = a1_4.toList
     ·replace HH := MW.hpos HH c66
      have hk67 : (a0_4.toList == a1_4.toList) = true := beq_iff_eq.mpr c66
      have hk68 : (a0_4.toList != a1_4.toList) = false := bne_eq_false_iff_eq.mpr c66
      clear c66
      by_cases c69 : a0_5.toList = a1_5.toList
      ·replace HH := MW.hpos HH c69
       have hk70 : (a0_5.toList == a1_5.toList) = true := beq_iff_eq.mpr c69
       have hk71 : (a0_5.toList != a1_5.toList) = false := bne_eq_false_iff_eq.mpr c69
       clear c69
       by_cases c72 : a0_6.toList = a1_6.toList
       ·replace HH := MW.hpos HH c72
        have hk73 : (a0_6.toList == a1_6.toList) = true := beq_iff_eq.mpr c72
        have hk74 : (a0_6.toList != a1_6.toList) = false := bne_eq_false_iff_eq.mpr c72
        clear c72
        have H := HH.out
        replace H := Option.bind_eq_some_iff.mp H
        obtain ⟨t75, at_, H⟩ := H
        have At76 := Aside0.mk at_
        clear at_
        replace HH := Aside0.mk (show (some t75) = some r from H)
        clear H
        go_wp2_with (((with_reducible refine gate_callee (f := 34) rfl ?_); (try (refine gate_guard (by rfl) ?_; dsimp only)); refine goesL_ (some 57) rfl rfl Try.func34 (by kernel_rfl) rfl #[.slice A0_7 l0_7.length c0_7, .slice A1_7 l1_7.length c1_7] rfl (by (try simp only [List.map_toArray, List.map_cons, List.map_nil]); first | done | rfl | (simp only [List.length_drop, List.length_take]; rfl)) ?_; (with_reducible refine (toponymref26_SameValues.calls k (fun k_ => (P_ k_ ∨ w.heap.size ≤ k_) ∧ k_ ≠ g1 ∧ k_ ≠ g19) _ _ l0_7 _ _ l1_7 t75 _ (Kd.F_mono (ok := (fun k_ => (P_ k_ ∨ w.heap.size ≤ k_) ∧ k_ ≠ g1 ∧ k_ ≠ g19)) HF0_7.out (fun k_ hk_ => ⟨hk_.1, hk_.2.1, hk_.2.2⟩)) HL0_7.out (Kd.F_mono (ok := (fun k_ => (P_ k_ ∨ w.heap.size ≤ k_) ∧ k_ ≠ g1 ∧ k_ ≠ g19)) HF1_7.out (fun k_ hk_ => ⟨hk_.1, hk_.2.1, hk_.2.2⟩)) HL1_7.out At76.out).mono ?_); rintro e w77 ⟨rfl, hb⟩; refine ⟨_, rfl, ?_⟩); refine stop_ ?_)
        refine Stop.go ?_
        replace BKg1 := Aside0.mk (blk_below (g := g1) BKg1.out hb)
        replace BKg19 := Aside0.mk (blk_below (g := g19) BKg19.out hb)
        replace HB := Aside0.mk (below_step HB.out hb)
        clear hb
        clear jl jm jn jo jp jq jr js jt ju jv jw jx jy jz jA jB jC jD jE jF jG jH jI jJ jK jL jM jN jO jP jQ
        obtain ⟨j1g, j1h, j1i, j1j, j1k, j1l, j1m, j1n, j1o, j1p, j1q, j1r, j1s, j1t, j1u, j1v⟩ := MB.lay8 BKg1.out
        obtain ⟨j1w, j1x, j1y, j1z, j1A, j1B, j1C, j1D, j1E, j1F, j1G, j1H, j1I, j1J, j1K, j1L⟩ := MB.lay8 BKg19.out
        have H := HH.out
        obtain rfl := Option.some.inj H
        clear HH
        go_wp2
        go_ret
        exact ⟨by first | rfl | (simp; done) | (simp [*]; done), HB.out⟩
       replace HH := MW.hneg HH c72
       have hk110 : (a0_6.toList == a1_6.toList) = false := beq_eq_false_iff_ne.mpr c72
       have hk111 : (a0_6.toList != a1_6.toList) = true := bne_iff_ne.mpr c72
       clear c72
       have H := HH.out
       obtain rfl := Option.some.inj H
       clear HH
       go_wp2
       go_ret
       exact ⟨by first | rfl | (simp; done) | (simp [*]; done), HB.out⟩
      replace HH := MW.hneg HH c69
      have hk112 : (a0_5.toList == a1_5.toList) = false := beq_eq_false_iff_ne.mpr c69
      have hk113 : (a0_5.toList != a1_5.toList) = true := bne_iff_ne.mpr c69
      clear c69
      have H := HH.out
      obtain rfl := Option.some.inj H
      clear HH
      go_wp2
      go_ret
      exact ⟨by first | rfl | (simp; done) | (simp [*]; done), HB.out⟩
     replace HH := MW.hneg HH c66
     have hk114 : (a0_4.toList == a1_4.toList) = false := beq_eq_false_iff_ne.mpr c66
     have hk115 : (a0_4.toList != a1_4.toList) = true := bne_iff_ne.mpr c66
     clear c66
     have H := HH.out
     obtain rfl := Option.some.inj H
     clear HH
     go_wp2
     go_ret
     exact ⟨by first | rfl | (simp; done) | (simp [*]; done), HB.out⟩
    replace HH := MW.hneg HH c63
    have hk116 : (a0_3 == a1_3) = false := beq_eq_false_iff_ne.mpr c63
    have hk117 : (a0_3 != a1_3) = true := bne_iff_ne.mpr c63
    clear c63
    have H := HH.out
    obtain rfl := Option.some.inj H
    clear HH
    go_wp2
    go_ret
    exact ⟨by first | rfl | (simp; done) | (simp [*]; done), HB.out⟩
   replace HH := MW.hneg HH c59
   have hk118 : (a0_2 == a1_2) = false := by simpa using c59
   try have hk119 : decide (a0_2 = a1_2) = false := by simpa using c59
   try have hk120 : (a0_2 == a1_2) = false := by simpa using c59
   try have hk121 : ¬ (a0_2 = a1_2) := by simpa using c59
   clear c59
   have H := HH.out
   obtain rfl := Option.some.inj H
   clear HH
   go_wp2
   go_ret
   exact ⟨by first | rfl | (simp; done) | (simp [*]; done), HB.out⟩
  replace HH := MW.hneg HH c56
  have hk122 : (a0_1 == a1_1) = false := beq_eq_false_iff_ne.mpr c56
  have hk123 : (a0_1 != a1_1) = true := bne_iff_ne.mpr c56
  clear c56
  have H := HH.out
  obtain rfl := Option.some.inj H
  clear HH
  go_wp2
  go_ret
  exact ⟨by first | rfl | (simp; done) | (simp [*]; done), HB.out⟩
 replace HH := MW.hneg HH c53
 have hk124 : (a0_0 == a1_0) = false := beq_eq_false_iff_ne.mpr c53
 have hk125 : (a0_0 != a1_0) = true := bne_iff_ne.mpr c53
 clear c53
 have H := HH.out
 obtain rfl := Option.some.inj H
 clear HH
 go_wp2
 go_ret
 exact ⟨by first | rfl | (simp; done) | (simp [*]; done), HB.out⟩
end Go.Proofs.Ytdjkemhmhkpmkaa.GA
