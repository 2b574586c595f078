import Derived.Test.YtdjkemhmhkpmkaaGA0
import Derived.Test.YtdjkemhmhkpmkaaGM1
import Derived.Test.YtdjkemhmhkpmkaaMX
namespace Go.Proofs.Ytdjkemhmhkpmkaa.GA
open Go.RowKit Go.Proofs.Ytdjkemhmhkpmkaa Go.Proofs.Ytdjkemhmhkpmkaa.MW Go.Proofs.YtdjkemhmhkpmkaaW.PrintWords Go.Proofs.YtdjkemhmhkpmkaaW.PrintLast Go.Proofs.YtdjkemhmhkpmkaaW.PrintMore
attribute [local go_sem] max2_int min2_int max_two min_two
set_option linter.unusedVariables false
set_option linter.unusedSimpArgs false
/-! ### reply_result: function 42 -/
def reply_result.f (k : Nat) (a0_0 : Int) (a0_1 : Int) (a0_2 : Bool) (a0_3 : Int) (a0_4 : ByteArray) (a0_5 : ByteArray) (a0_6 : ByteArray) (l0_7 : List (S46)) : Option (Int × Bool × Int × ByteArray × (List (S57))) := (reply_number.f k 10 a0_3).bind fun bt74 => ((reply_text.f a0_4).bind fun bt108 => ((reply_text.f a0_5).bind fun bt142 => (if a0_6.toList = ([] : List UInt8) then ((reply_tag.f a0_1).bind fun t220 => ((reply_group.f 1 t220 [(⟨bt74.1, bt74.2.1, bt74.2.2.1, bt74.2.2.2.1, bt74.2.2.2.2⟩ : S57), (⟨bt108.1, bt108.2.1, bt108.2.2.1, bt108.2.2.2.1, bt108.2.2.2.2⟩ : S57), (⟨bt142.1, bt142.2.1, bt142.2.2.1, bt142.2.2.2.1, bt142.2.2.2.2⟩ : S57)]).bind fun bt227 => (some (bt227.1, bt227.2.1, bt227.2.2.1, bt227.2.2.2.1, bt227.2.2.2.2)))) else ((prims_Text.f 2 10 a0_6).bind fun bt292 => (if [(⟨bt74.1, bt74.2.1, bt74.2.2.1, bt74.2.2.2.1, bt74.2.2.2.2⟩ : S57), (⟨bt108.1, bt108.2.1, bt108.2.2.1, bt108.2.2.2.1, bt108.2.2.2.2⟩ : S57), (⟨bt142.1, bt142.2.1, bt142.2.2.1, bt142.2.2.2.1, bt142.2.2.2.2⟩ : S57)].length < 2199023255552 then ((some ([(⟨bt74.1, bt74.2.1, bt74.2.2.1, bt74.2.2.2.1, bt74.2.2.2.2⟩ : S57), (⟨bt108.1, bt108.2.1, bt108.2.2.1, bt108.2.2.2.1, bt108.2.2.2.2⟩ : S57), (⟨bt142.1, bt142.2.1, bt142.2.2.1, bt142.2.2.2.1, bt142.2.2.2.2⟩ : S57)] ++ [(⟨bt292.1, bt292.2.1, bt292.2.2.1, bt292.2.2.2.1, bt292.2.2.2.2.1⟩ : S57)] : List (S57))).bind fun y409 => ((reply_tag.f a0_1).bind fun t449 => ((reply_group.f 1 t449 y409).bind fun bt456 => (some (bt456.1, bt456.2.1, bt456.2.2.1, bt456.2.2.2.1, bt456.2.2.2.2))))) else (none))))))
theorem reply_result.mono : ∀ a0_ a1_ a2_ a3_ a4_ a5_ a6_ a7_ k, LeO (reply_result.f k a0_ a1_ a2_ a3_ a4_ a5_ a6_ a7_) (reply_result.f (k + 1) a0_ a1_ a2_ a3_ a4_ a5_ a6_ a7_) := by
 intro a0_ a1_ a2_ a3_ a4_ a5_ a6_ a7_ k
 unfold reply_result.f
 repeat' first
   | (with_reducible exact reply_number.mono _ _ _)
   | (with_reducible exact LeO.refl _)
   | (with_reducible exact LeO.none _)
   | (with_reducible refine LeO.ite ?_ ?_)
   | (with_reducible refine LeO.bind ?_ (fun _ => ?_))
set_option maxHeartbeats 8000000 in
set_option maxRecDepth 100000 in
theorem reply_result.calls (k : Nat) (P_ : Nat → Prop) (a0_0 : Int) (a0_1 : Int) (a0_2 : Bool) (a0_3 : Int) (a0_4 : ByteArray) (a0_5 : ByteArray) (a0_6 : ByteArray) (A0_7 : Option Addr) (c0_7 : Nat) (l0_7 : List (S46)) (r1 : Int) (r2 : Bool) (r3 : Int) (r4 : ByteArray) (r5 : List (S57)) (w : World) (hs0_7 : Kd.F k46 w P_ A0_7 l0_7.length l0_7) (hc0_7 : l0_7.length ≤ c0_7) (h : reply_result.f k a0_0 a0_1 a0_2 a0_3 a0_4 a0_5 a0_6 l0_7 = some (r1, r2, r3, r4, r5)) :
  Calls Try.prog 42 #[.agg #[.int .i64 a0_0, .int .i64 a0_1, .bool a0_2, .int .i64 a0_3, .string a0_4, .string a0_5, .string a0_6, .slice A0_7 l0_7.length c0_7]] w (fun e w' => ∃ v4_ : Value, e = .returned (.agg #[.int .i64 r1, .bool r2, .int .i64 r3, .string r4, v4_]) ∧ Kd.N k57 57 w' w.heap.size (fun k_ => P_ k_ ∨ w.heap.size ≤ k_) v4_ r5 ∧ Below w.heap.size w w') := by
 have HH := Aside0.mk (show ((reply_number.f k 10 a0_3).bind fun bt74 => ((reply_text.f a0_4).bind fun bt108 => ((reply_text.f a0_5).bind fun bt142 => (if a0_6.toList = ([] : List UInt8) then ((reply_tag.f a0_1).bind fun t220 => ((reply_group.f 1 t220 [(⟨bt74.1, bt74.2.1, bt74.2.2.1, bt74.2.2.2.1, bt74.2.2.2.2⟩ : S57), (⟨bt108.1, bt108.2.1, bt108.2.2.1, bt108.2.2.2.1, bt108.2.2.2.2⟩ : S57), (⟨bt142.1, bt142.2.1, bt142.2.2.1, bt142.2.2.2.1, bt142.2.2.2.2⟩ : S57)]).bind fun bt227 => (some (bt227.1, bt227.2.1, bt227.2.2.1, bt227.2.2.2.1, bt227.2.2.2.2)))) else ((prims_Text.f 2 10 a0_6).bind fun bt292 => (if [(⟨bt74.1, bt74.2.1, bt74.2.2.1, bt74.2.2.2.1, bt74.2.2.2.2⟩ : S57), (⟨bt108.1, bt108.2.1, bt108.2.2.1, bt108.2.2.2.1, bt108.2.2.2.2⟩ : S57), (⟨bt142.1, bt142.2.1, bt142.2.2.1, bt142.2.2.2.1, bt142.2.2.2.2⟩ : S57)].length < 2199023255552 then ((some ([(⟨bt74.1, bt74.2.1, bt74.2.2.1, bt74.2.2.2.1, bt74.2.2.2.2⟩ : S57), (⟨bt108.1, bt108.2.1, bt108.2.2.1, bt108.2.2.2.1, bt108.2.2.2.2⟩ : S57), (⟨bt142.1, bt142.2.1, bt142.2.2.1, bt142.2.2.2.1, bt142.2.2.2.2⟩ : S57)] ++ [(⟨bt292.1, bt292.2.1, bt292.2.2.1, bt292.2.2.2.1, bt292.2.2.2.2.1⟩ : S57)] : List (S57))).bind fun y409 => ((reply_tag.f a0_1).bind fun t449 => ((reply_group.f 1 t449 y409).bind fun bt456 => (some (bt456.1, bt456.2.1, bt456.2.2.1, bt456.2.2.2.1, bt456.2.2.2.2))))) else (none))))))) = some (r1, r2, r3, r4, r5) from h)
 clear h
 clear hs0_7 hc0_7
 have HB := Aside0.mk (Below.refl w.heap.size w)
 have hu27 := Try.underlying27
 have hu57 := Try.underlying57
 go_enter Try.func42, Try.ntmps42
 go_wp2_with ((with_reducible refine gd 1 rfl ?_); refine zb 1 27 #[.int .i64 a0_0, .int .i64 a0_1, .bool a0_2, .int .i64 a0_3, .string a0_4, .string a0_5, .string a0_6, .slice A0_7 l0_7.length c0_7] (h := ?_); intro g1 hg w2 BKg1 hb)
 refine Stop.go ?_
 replace HB := zhb HB.out hb
 clear hg hb
 obtain ⟨j3, j4, j5, j6, j7, j8, j9, ja, jb, jc, jd, je, jf, jg, jh, ji⟩ := MB.lay8 BKg1.out
 go_wp2_with ((with_reducible refine gd 2 rfl ?_); refine zb 2 57 #[.int .i64 0, .bool false, .int .i64 0, .string (⟨#[]⟩ : ByteArray), .slice none 0 0] (h := ?_); intro g19 hg w20 BKg19 hb)
 refine Stop.go ?_
 have GEg19 := zge hg (below_size HB.out)
 have NEg1_g19 := znq hg BKg1.out
 replace BKg1 := zbb BKg1.out hb
 replace HB := zhb HB.out hb
 clear hg hb
 clear j3 j4 j5 j6 j7 j8 j9 ja jb jc jd je jf jg jh ji
 obtain ⟨jl, jm, jn, jo, jp, jq, jr, js, jt, ju, jv, jw, jx, jy, jz, jA⟩ := MB.lay8 BKg1.out
 obtain ⟨jB, jC, jD, jE, jF, jG, jH, jI, jJ, jK⟩ := MB.lay5 BKg19.out
 go_wp2
 have hwr_ : ∀ n_ : Int, IntKind.i64.wrap n_ = wrap64 n_ := fun n_ => IntWalk.i64_left n_
 refine wp_region_any (by kernel_rfl) ?_
 change wpAny _ _ _ _ 11 #[false, false, false, false, false, false, false, false, false, false, false] _ w20.drew
 obtain ⟨w47, hw_⟩ : ∃ w_ : World, w_ = w20.drew := ⟨_, rfl⟩
 rw [← hw_]
 have hb : Below w20.heap.size w20 w47 := by rw [hw_]; exact below_drew1 (Below.refl _ _)
 clear hw_
 replace BKg1 := zbb BKg1.out hb
 replace BKg19 := zbb BKg19.out hb
 replace HB := zhb HB.out hb
 clear hb
 clear jl jm jn jo jp jq jr js jt ju jv jw jx jy jz jA jB jC jD jE jF jG jH jI jJ jK
 obtain ⟨jM, jN, jO, jP, jQ, jR, jS, jT, jU, jV, jW, jX, jY, jZ, j10, j11⟩ := MB.lay8 BKg1.out
 obtain ⟨j12, j13, j14, j15, j16, j17, j18, j19, j1a, j1b⟩ := MB.lay5 BKg19.out
 refine MW.last_in (ds := [8, 9]) (MW.Cells.cons jP (MW.Cells.cons jQ (MW.Cells.cons jR MW.Cells.nil))) ?_
 refine MW.last_pure (i := 0) (v := .pointer (some ⟨g1, 3, none⟩)) (listed' := #[true, false, false, false, false, false, false, false, false, false, false]) (a' := ⟨[_, _, _, _, _, _, _, _, _, _, _, _, _, _, _, _, _, _, _, _, _, _, _, _, _, _, _, _, _, _, _, _, _, _].toArray, []⟩) rfl (by kernel_rfl) (by kernel_rfl) (by kernel_rfl) (fun _ _ _ h_ => h_) (.inl ⟨(by kernel_rfl), fun _ => (by first | rfl | (go_simp; done) | (go_simp; rfl) | (go_simp; simp only [MW.isEmpty_beq, bne, Bool.not_not]; done))⟩) (by kernel_rfl) rfl ?_
 refine MW.last_pure (i := 3) (v := .pointer (some ⟨g1, 4, none⟩)) (listed' := #[true, false, false, true, false, false, false, false, false, false, false]) (a' := ⟨[_, _, _, _, _, _, _, _, _, _, _, _, _, _, _, _, _, _, _, _, _, _, _, _, _, _, _, _, _, _, _, _, _, _].toArray, []⟩) rfl (by kernel_rfl) (by kernel_rfl) (by kernel_rfl) (fun _ _ _ h_ => h_) (.inl ⟨(by kernel_rfl), fun _ => (by first | rfl | (go_simp; done) | (go_simp; rfl) | (go_simp; simp only [MW.isEmpty_beq, bne, Bool.not_not]; done))⟩) (by kernel_rfl) rfl ?_
 refine MW.last_pure (i := 6) (v := .pointer (some ⟨g1, 5, none⟩)) (listed' := #[true, false, false, true, false, false, true, false, false, false, false]) (a' := ⟨[_, _, _, _, _, _, _, _, _, _, _, _, _, _, _, _, _, _, _, _, _, _, _, _, _, _, _, _, _, _, _, _, _, _].toArray, []⟩) rfl (by kernel_rfl) (by kernel_rfl) (by kernel_rfl) (fun _ _ _ h_ => h_) (.inl ⟨(by kernel_rfl), fun _ => (by first | rfl | (go_simp; done) | (go_simp; rfl) | (go_simp; simp only [MW.isEmpty_beq, bne, Bool.not_not]; done))⟩) (by kernel_rfl) rfl ?_
 refine MW.last_take (i := 1) (v := .int .i64 a0_3) (listed' := #[true, true, false, true, false, false, true, false, false, false, false]) (a' := ⟨[_, _, _, _, _, _, _, _, _, _, _, _, _, _, _, _, _, _, _, _, _, _, _, _, _, _, _, _, _, _, _, _, _, _].toArray, []⟩) rfl (by kernel_rfl) (by kernel_rfl) (by kernel_rfl) (by kernel_rfl) (by kernel_rfl) (fun _ _ _ h_ => h_) (by kernel_rfl) (fun w_ hS_ => ?go) (MW.Cells.cons jP (MW.Cells.cons jQ (MW.Cells.cons jR MW.Cells.nil))) (by kernel_rfl) rfl ?_
 case go => obtain ⟨hs0_, _, _, _⟩ := hS_; first | (go_simp; done) | (go_simp; rfl)
 refine MW.last_take (i := 4) (v := .string a0_4) (listed' := #[true, true, false, true, true, false, true, false, false, false, false]) (a' := ⟨[_, _, _, _, _, _, _, _, _, _, _, _, _, _, _, _, _, _, _, _, _, _, _, _, _, _, _, _, _, _, _, _, _, _].toArray, []⟩) rfl (by kernel_rfl) (by kernel_rfl) (by kernel_rfl) (by kernel_rfl) (by kernel_rfl) (fun _ _ _ h_ => h_) (by kernel_rfl) (fun w_ hS_ => ?go) (MW.Cells.cons jP (MW.Cells.cons jQ (MW.Cells.cons jR MW.Cells.nil))) (by kernel_rfl) rfl ?_
 case go => obtain ⟨_, hs1_, _, _⟩ := hS_; first | (go_simp; done) | (go_simp; rfl)
 refine MW.last_take (i := 7) (v := .string a0_5) (listed' := #[true, true, false, true, true, false, true, true, false, false, false]) (a' := ⟨[_, _, _, _, _, _, _, _, _, _, _, _, _, _, _, _, _, _, _, _, _, _, _, _, _, _, _, _, _, _, _, _, _, _].toArray, []⟩) rfl (by kernel_rfl) (by kernel_rfl) (by kernel_rfl) (by kernel_rfl) (by kernel_rfl) (fun _ _ _ h_ => h_) (by kernel_rfl) (fun w_ hS_ => ?go) (MW.Cells.cons jP (MW.Cells.cons jQ (MW.Cells.cons jR MW.Cells.nil))) (by kernel_rfl) rfl ?_
 case go => obtain ⟨_, _, hs2_, _⟩ := hS_; first | (go_simp; done) | (go_simp; rfl)
 refine MW.last_act (i := 2) (listed' := #[true, true, true, true, true, false, true, true, false, false, false]) rfl (by kernel_rfl) (by kernel_rfl) (by decide) ?_
 replace HH := zd HH
 obtain ⟨⟨t74, t75, t76, t77, t78⟩, At79, HH⟩ := HH
 dsimp only at HH
 go_wp2_with ((with_reducible refine gc 46 rfl ?_); refine zc 46 (some 8) Try.func46 #[.int .i64 10, .int .i64 a0_3] (h := ?_); (with_reducible refine (reply_number.calls k  10 a0_3 t74 t75 t76 t77 t78 _  At79.out).mono ?_); rintro e w80 ⟨v81, rfl, hn81, hb⟩; refine ⟨_, rfl, ?_⟩)
 refine Stop.go ?_
 have hba := Kd.N_base hn81
 have HN81 := znl (ok2 := (fun k_ => ((P_ k_ ∨ w.heap.size ≤ k_) ∧ k_ ≠ g1) ∧ k_ ≠ g19)) hn81 (below_size HB.out) (fun k_ h_ => ⟨⟨.inr (Nat.le_trans (below_size HB.out) h_), Kd.freshB (g := g1) BKg1.out k_ h_⟩, Kd.freshB (g := g19) BKg19.out k_ h_⟩)
 replace BKg1 := zbb BKg1.out hb
 replace BKg19 := zbb BKg19.out hb
 replace HB := zhb HB.out hb
 clear hn81 hba hb
 clear jM jN jO jP jQ jR jS jT jU jV jW jX jY jZ j10 j11 j12 j13 j14 j15 j16 j17 j18 j19 j1a j1b
 obtain ⟨j1k, j1l, j1m, j1n, j1o, j1p, j1q, j1r, j1s, j1t, j1u, j1v, j1w, j1x, j1y, j1z⟩ := MB.lay8 BKg1.out
 obtain ⟨j1A, j1B, j1C, j1D, j1E, j1F, j1G, j1H, j1I, j1J⟩ := MB.lay5 BKg19.out
 refine wpList_nil ?_
 change MW.Cells _ _ ∧ wpAnyLast _ _ _ _ _ _ 4 #[true, true, true, true, true, false, true, true, false, false, false] ⟨[_, _, _, _, _, _, _, _, _, _, _, _, _, _, _, _, _, _, _, _, _, _, _, _, _, _, _, _, _, _, _, _, _, _].toArray, []⟩ _
 refine ⟨(MW.Cells.cons j1n (MW.Cells.cons j1o (MW.Cells.cons j1p MW.Cells.nil))), ?_⟩
 refine MW.last_act (i := 5) (listed' := #[true, true, true, true, true, true, true, true, false, false, false]) rfl (by kernel_rfl) (by kernel_rfl) (by decide) ?_
 replace HH := zd HH
 obtain ⟨⟨t108, t109, t110, t111, t112⟩, At113, HH⟩ := HH
 dsimp only at HH
 go_wp2_with ((with_reducible refine gc 60 rfl ?_); refine zc 60 (some 11) Try.func60 #[.string a0_4] (h := ?_); (with_reducible refine (reply_text.calls  a0_4 t108 t109 t110 t111 t112 _  At113.out).mono ?_); rintro e w114 ⟨v115, rfl, hn115, hb⟩; refine ⟨_, rfl, ?_⟩)
 refine Stop.go ?_
 have hba := Kd.N_base hn115
 have HN115 := znl (ok2 := (fun k_ => (((P_ k_ ∨ w.heap.size ≤ k_) ∧ some k_ ≠ (v81 : Value).ownBlock) ∧ k_ ≠ g1) ∧ k_ ≠ g19)) hn115 (below_size HB.out) (fun k_ h_ => ⟨⟨⟨.inr (Nat.le_trans (below_size HB.out) h_), Kd.fresh' (Kd.N_lt HN81.out) k_ h_⟩, Kd.freshB (g := g1) BKg1.out k_ h_⟩, Kd.freshB (g := g19) BKg19.out k_ h_⟩)
 replace HN81 := znr (u := v115) HN81.out hba hb
 replace BKg1 := zbb BKg1.out hb
 replace BKg19 := zbb BKg19.out hb
 replace HB := zhb HB.out hb
 clear hn115 hba hb
 clear j1k j1l j1m j1n j1o j1p j1q j1r j1s j1t j1u j1v j1w j1x j1y j1z j1A j1B j1C j1D j1E j1F j1G j1H j1I j1J
 obtain ⟨j1S, j1T, j1U, j1V, j1W, j1X, j1Y, j1Z, j20, j21, j22, j23, j24, j25, j26, j27⟩ := MB.lay8 BKg1.out
 obtain ⟨j28, j29, j2a, j2b, j2c, j2d, j2e, j2f, j2g, j2h⟩ := MB.lay5 BKg19.out
 refine wpList_nil ?_
 change MW.Cells _ _ ∧ wpAnyLast _ _ _ _ _ _ 3 #[true, true, true, true, true, true, true, true, false, false, false] ⟨[_, _, _, _, _, _, _, _, _, _, _, _, _, _, _, _, _, _, _, _, _, _, _, _, _, _, _, _, _, _, _, _, _, _].toArray, []⟩ _
 refine ⟨(MW.Cells.cons j1V (MW.Cells.cons j1W (MW.Cells.cons j1X MW.Cells.nil))), ?_⟩
 refine MW.last_fin (i := 8) (listed' := #[true, true, true, true, true, true, true, true, true, false, false]) rfl (by kernel_rfl) (by kernel_rfl) (by kernel_rfl) ?_
 replace HH := zd HH
 obtain ⟨⟨t142, t143, t144, t145, t146⟩, At147, HH⟩ := HH
 dsimp only at HH
 go_wp2_with ((with_reducible refine gc 60 rfl ?_); refine zc 60 (some 14) Try.func60 #[.string a0_5] (h := ?_); (with_reducible refine (reply_text.calls  a0_5 t142 t143 t144 t145 t146 _  At147.out).mono ?_); rintro e w148 ⟨v149, rfl, hn149, hb⟩; refine ⟨_, rfl, ?_⟩)
 refine Stop.go ?_
 have hba := Kd.N_base hn149
 have HN149 := znl (ok2 := (fun k_ => ((((P_ k_ ∨ w.heap.size ≤ k_) ∧ some k_ ≠ (v81 : Value).ownBlock) ∧ some k_ ≠ (v115 : Value).ownBlock) ∧ k_ ≠ g1) ∧ k_ ≠ g19)) hn149 (below_size HB.out) (fun k_ h_ => ⟨⟨⟨⟨.inr (Nat.le_trans (below_size HB.out) h_), Kd.fresh' (Kd.N_lt HN81.out) k_ h_⟩, Kd.fresh' (Kd.N_lt HN115.out) k_ h_⟩, Kd.freshB (g := g1) BKg1.out k_ h_⟩, Kd.freshB (g := g19) BKg19.out k_ h_⟩)
 replace HN81 := znr (u := v149) HN81.out hba hb
 replace HN115 := znr (u := v149) HN115.out hba hb
 replace BKg1 := zbb BKg1.out hb
 replace BKg19 := zbb BKg19.out hb
 replace HB := zhb HB.out hb
 clear hn149 hba hb
 clear j1S j1T j1U j1V j1W j1X j1Y j1Z j20 j21 j22 j23 j24 j25 j26 j27 j28 j29 j2a j2b j2c j2d j2e j2f j2g j2h
 obtain ⟨j2q, j2r, j2s, j2t, j2u, j2v, j2w, j2x, j2y, j2z, j2A, j2B, j2C, j2D, j2E, j2F⟩ := MB.lay8 BKg1.out
 obtain ⟨j2G, j2H, j2I, j2J, j2K, j2L, j2M, j2N, j2O, j2P⟩ := MB.lay5 BKg19.out
 refine wpList_nil ?_
 change wpAnyLast _ _ _ _ _ _ 2 #[true, true, true, true, true, true, true, true, true, false, false] ⟨[_, _, _, _, _, _, _, _, _, _, _, _, _, _, _, _, _, _, _, _, _, _, _, _, _, _, _, _, _, _, _, _, _, _].toArray, []⟩ _
 refine MW.last_fin (i := 9) (listed' := #[true, true, true, true, true, true, true, true, true, true, false]) rfl (by kernel_rfl) (by kernel_rfl) (by kernel_rfl) ?_
 obtain ⟨A176, cp177, he_⟩ := Kd.N_slice HN81.out
 subst he_
 have HL179 := Aside0.mk (Kd.N_reads' HN81.out).2.1
 have HF178 := Aside0.mk (Kd.N_F HN81.out)
 clear HN81
 replace HN115 := Aside0.mk (Kd.N_mono (ok := (fun k_ => ((((P_ k_ ∨ w.heap.size ≤ k_) ∧ some k_ ≠ ((.slice A176 t78.length cp177) : Value).ownBlock) ∧ k_ ≠ g1) ∧ k_ ≠ g19) ∧ some k_ ≠ (v149 : Value).ownBlock)) HN115.out (fun k_ hk_ => ⟨⟨⟨hk_.1.1.1.1, hk_.1.1.2⟩, hk_.1.2⟩, hk_.2⟩) : Kd.N k57 _ _ _ (fun k_ => (((P_ k_ ∨ w.heap.size ≤ k_) ∧ k_ ≠ g1) ∧ k_ ≠ g19) ∧ some k_ ≠ (v149 : Value).ownBlock) _ _)
 replace HN149 := Aside0.mk (Kd.N_mono (ok := (fun k_ => ((((P_ k_ ∨ w.heap.size ≤ k_) ∧ some k_ ≠ ((.slice A176 t78.length cp177) : Value).ownBlock) ∧ some k_ ≠ (v115 : Value).ownBlock) ∧ k_ ≠ g1) ∧ k_ ≠ g19)) HN149.out (fun k_ hk_ => ⟨⟨⟨hk_.1.1.1.1, hk_.1.1.2⟩, hk_.1.2⟩, hk_.2⟩) : Kd.N k57 _ _ _ (fun k_ => (((P_ k_ ∨ w.heap.size ≤ k_) ∧ some k_ ≠ (v115 : Value).ownBlock) ∧ k_ ≠ g1) ∧ k_ ≠ g19) _ _)
 obtain ⟨A180, cp181, he_⟩ := Kd.N_slice HN115.out
 subst he_
 have HL183 := Aside0.mk (Kd.N_reads' HN115.out).2.1
 have HF182 := Aside0.mk (Kd.N_F HN115.out)
 clear HN115
 replace HF178 := Aside0.mk (Kd.F_mono (ok := (fun k_ => ((((P_ k_ ∨ w.heap.size ≤ k_) ∧ k_ ≠ g1) ∧ k_ ≠ g19) ∧ some k_ ≠ ((.slice A180 t112.length cp181) : Value).ownBlock) ∧ some k_ ≠ (v149 : Value).ownBlock)) HF178.out (fun k_ hk_ => ⟨⟨⟨hk_.1.1.1.1, hk_.1.1.1.2⟩, hk_.1.1.2⟩, hk_.2⟩) : Kd.F k57 _ (fun k_ => (((P_ k_ ∨ w.heap.size ≤ k_) ∧ k_ ≠ g1) ∧ k_ ≠ g19) ∧ some k_ ≠ (v149 : Value).ownBlock) _ _ _)
 replace HN149 := Aside0.mk (Kd.N_mono (ok := (fun k_ => (((P_ k_ ∨ w.heap.size ≤ k_) ∧ some k_ ≠ ((.slice A180 t112.length cp181) : Value).ownBlock) ∧ k_ ≠ g1) ∧ k_ ≠ g19)) HN149.out (fun k_ hk_ => ⟨⟨hk_.1.1.1, hk_.1.2⟩, hk_.2⟩) : Kd.N k57 _ _ _ (fun k_ => ((P_ k_ ∨ w.heap.size ≤ k_) ∧ k_ ≠ g1) ∧ k_ ≠ g19) _ _)
 obtain ⟨A184, cp185, he_⟩ := Kd.N_slice HN149.out
 subst he_
 have HL187 := Aside0.mk (Kd.N_reads' HN149.out).2.1
 have HF186 := Aside0.mk (Kd.N_F HN149.out)
 clear HN149
 replace HF178 := Aside0.mk (Kd.F_mono (ok := (fun k_ => (((P_ k_ ∨ w.heap.size ≤ k_) ∧ k_ ≠ g1) ∧ k_ ≠ g19) ∧ some k_ ≠ ((.slice A184 t146.length cp185) : Value).ownBlock)) HF178.out (fun k_ hk_ => hk_.1) : Kd.F k57 _ (fun k_ => ((P_ k_ ∨ w.heap.size ≤ k_) ∧ k_ ≠ g1) ∧ k_ ≠ g19) _ _ _)
 replace HF182 := Aside0.mk (Kd.F_mono (ok := (fun k_ => (((P_ k_ ∨ w.heap.size ≤ k_) ∧ k_ ≠ g1) ∧ k_ ≠ g19) ∧ some k_ ≠ ((.slice A184 t146.length cp185) : Value).ownBlock)) HF182.out (fun k_ hk_ => hk_.1) : Kd.F k57 _ (fun k_ => ((P_ k_ ∨ w.heap.size ≤ k_) ∧ k_ ≠ g1) ∧ k_ ≠ g19) _ _ _)
 go_wp2_with (((with_reducible refine gate_dst (N := 15) rfl ?_); (try (refine gate_guard (by rfl) ?_; dsimp only)); refine Kd.N_lit k57 w.heap.size 57 rfl (N' := 15) rfl (xs := [(⟨t74, t75, t76, t77, t78⟩ : S57), (⟨t108, t109, t110, t111, t112⟩ : S57), (⟨t142, t143, t144, t145, t146⟩ : S57)]) (inner := [.int .i64 t74, .bool t75, .int .i64 t76, .string t77, .slice A176 t78.length cp177, .int .i64 t108, .bool t109, .int .i64 t110, .string t111, .slice A180 t112.length cp181, .int .i64 t142, .bool t143, .int .i64 t144, .string t145, .slice A184 t146.length cp185]) (ok := (fun k_ => ((P_ k_ ∨ w.heap.size ≤ k_) ∧ k_ ≠ g1) ∧ k_ ≠ g19)) (okp := (fun k_ => ((P_ k_ ∨ w.heap.size ≤ k_) ∧ k_ ≠ g1) ∧ k_ ≠ g19)) ?hr ?hp (fun _ hk_ => hk_) ?hf HB.out (below_size HB.out) (by first | simp | decide) ?_; (case hr => first | (go_simp; done) | (go_simp; rfl)); (case hp => exact (Reps.c5 (k57_mkF _ _ (⟨t74, t75, t76, t77, t78⟩ : S57) HL179.out (Kd.F_mono (ok := (fun k_ => ((P_ k_ ∨ w.heap.size ≤ k_) ∧ k_ ≠ g1) ∧ k_ ≠ g19)) HF178.out (fun k_ hk_ => hk_))) (Reps.c5 (k57_mkF _ _ (⟨t108, t109, t110, t111, t112⟩ : S57) HL183.out (Kd.F_mono (ok := (fun k_ => ((P_ k_ ∨ w.heap.size ≤ k_) ∧ k_ ≠ g1) ∧ k_ ≠ g19)) HF182.out (fun k_ hk_ => hk_))) (Reps.c5 (k57_mkF _ _ (⟨t142, t143, t144, t145, t146⟩ : S57) HL187.out (Kd.F_mono (ok := (fun k_ => ((P_ k_ ∨ w.heap.size ≤ k_) ∧ k_ ≠ g1) ∧ k_ ≠ g19)) HF186.out (fun k_ hk_ => hk_))) (Reps.none _ _))))); (case hf => exact (show ∀ k_, w148.heap.size ≤ k_ → (fun k_ => ((P_ k_ ∨ w.heap.size ≤ k_) ∧ k_ ≠ g1) ∧ k_ ≠ g19) k_ from fun k_ h_ => ⟨⟨.inr (Nat.le_trans (below_size HB.out) h_), Kd.freshB (g := g1) BKg1.out k_ h_⟩, Kd.freshB (g := g19) BKg19.out k_ h_⟩) _ (Nat.le_refl _)); intro v188 w189 hn1 hb1 hg1 hat1); replace hat1 := Aside0.mk hat1; refine stop_ ?_)
 refine Stop.go ?_
 replace hat1 := hat1.out
 have hbe := MW.grown_below hg1
 have hba := MW.base_of hat1
 replace BKg1 := Aside0.mk (blk_below (g := g1) BKg1.out hbe)
 replace BKg19 := Aside0.mk (blk_below (g := g19) BKg19.out hbe)
 replace HB := Aside0.mk hb1
 have HN190 := Aside0.mk hn1
 clear hn1 hb1 hg1 hat1 hbe hba
 clear j2q j2r j2s j2t j2u j2v j2w j2x j2y j2z j2A j2B j2C j2D j2E j2F j2G j2H j2I j2J j2K j2L j2M j2N j2O j2P
 obtain ⟨j35, j36, j37, j38, j39, j3a, j3b, j3c, j3d, j3e, j3f, j3g, j3h, j3i, j3j, j3k⟩ := MB.lay8 BKg1.out
 obtain ⟨j3l, j3m, j3n, j3o, j3p, j3q, j3r, j3s, j3t, j3u⟩ := MB.lay5 BKg19.out
 refine wpList_nil ?_
 change wpAnyLast _ _ _ _ _ _ 1 #[true, true, true, true, true, true, true, true, true, true, false] ⟨[_, _, _, _, _, _, _, _, _, _, _, _, _, _, _, _, _, _, _, _, _, _, _, _, _, _, _, _, _, _, _, _, _, _].toArray, []⟩ _
 refine MW.last_pure (i := 10) (v := v188) (listed' := #[true, true, true, true, true, true, true, true, true, true, true]) (a' := ⟨[_, _, _, _, _, _, _, _, _, _, _, _, _, _, _, _, _, _, _, _, _, _, _, _, _, _, _, _, _, _, _, _, _, _].toArray, []⟩) rfl (by kernel_rfl) (by kernel_rfl) (by kernel_rfl) (fun _ _ _ h_ => h_) (.inl ⟨(by kernel_rfl), fun _ => (by first | rfl | (go_simp; done) | (go_simp; rfl) | (go_simp; simp only [MW.isEmpty_beq, bne, Bool.not_not]; done))⟩) (by kernel_rfl) rfl ?_
 refine MW.last_done (by kernel_rfl) ?_ _
 clear hwr_
 replace HH := zqe HH
 rcases HH with ⟨HH, hk218, hk219⟩ | ⟨HH, hk290, hk291⟩
 ·(try simp only [hk218, Bool.not_true, Bool.not_false])
  (try simp only [hk219, Bool.not_true, Bool.not_false])
  replace HH := zd HH
  obtain ⟨t220, At221, HH⟩ := HH
  go_wp2_with ((with_reducible refine gc 22 rfl ?_); refine zc 22 (some 31) Try.func22 #[.int .i64 a0_1] (h := ?_); (with_reducible refine (reply_tag.calls  a0_1 t220 _  At221.out).mono ?_); rintro e w' ⟨rfl, ⟨nd, rfl⟩⟩; refine ⟨_, rfl, ?_⟩)
  refine Stop.go ?_
  obtain ⟨A223, cp224, he_⟩ := Kd.N_slice HN190.out
  subst he_
  have HL226 := Aside0.mk (Kd.N_reads' HN190.out).2.1
  have HF225 := Aside0.mk (Kd.N_F HN190.out)
  clear HN190
  replace HH := zd HH
  obtain ⟨⟨t227, t228, t229, t230, t231⟩, At232, HH⟩ := HH
  dsimp only at HH
  go_wp2_with ((with_reducible refine gc 45 rfl ?_); refine zc 45 (some 33) Try.func45 #[.int .i64 1, .int .i64 t220, .slice A223 [(⟨t74, t75, t76, t77, t78⟩ : S57), (⟨t108, t109, t110, t111, t112⟩ : S57), (⟨t142, t143, t144, t145, t146⟩ : S57)].length cp224] (h := ?_); (with_reducible refine (reply_group.calls (fun k_ => ((P_ k_ ∨ w.heap.size ≤ k_) ∧ k_ ≠ g1) ∧ k_ ≠ g19) 1 t220 _ _ [(⟨t74, t75, t76, t77, t78⟩ : S57), (⟨t108, t109, t110, t111, t112⟩ : S57), (⟨t142, t143, t144, t145, t146⟩ : S57)] t227 t228 t229 t230 t231 _ (Kd.F_mono (ok := (fun k_ => ((P_ k_ ∨ w.heap.size ≤ k_) ∧ k_ ≠ g1) ∧ k_ ≠ g19)) (by (with_reducible repeat (first | apply Kd.F_alloc | apply Kd.F_drewN | apply Kd.F_drew)); exact HF225.out) (fun k_ hk_ => hk_)) HL226.out At232.out).mono ?_); rintro e w233 ⟨v234, rfl, hn234, hb⟩; refine ⟨_, rfl, ?_⟩)
  refine Stop.go ?_
  have hba := Kd.N_base hn234
  have HN234 := znl (ok2 := (fun k_ => ((P_ k_ ∨ w.heap.size ≤ k_) ∧ k_ ≠ g1) ∧ k_ ≠ g19)) hn234 (below_size (by repeat (first | (with_reducible first | exact HB.out | apply below_alloc | apply pw_below_drewN | apply below_drew1) | exact HB.out))) (fun k_ hk_ => hk_.elim (fun h_ => h_) (fun h_ => ⟨⟨.inr (Nat.le_trans (below_size (by repeat (first | (with_reducible first | exact HB.out | apply below_alloc | apply pw_below_drewN | apply below_drew1) | exact HB.out))) h_), Kd.freshB (g := g1) (o := .cells #[.int .i64 a0_0, .int .i64 a0_1, .bool a0_2, .int .i64 a0_3, .string a0_4, .string a0_5, .string a0_6, .slice A0_7 l0_7.length c0_7] 27 (0, 0)) (by (with_reducible repeat (first | refine blk_drewN ?_ _ | refine blk_drew ?_ | refine blk_alloc ?_ _)); exact BKg1.out) k_ h_⟩, Kd.freshB (g := g19) (o := .cells #[.int .i64 0, .bool false, .int .i64 0, .string (⟨#[]⟩ : ByteArray), .slice none 0 0] 57 (0, 0)) (by (with_reducible repeat (first | refine blk_drewN ?_ _ | refine blk_drew ?_ | refine blk_alloc ?_ _)); exact BKg19.out) k_ h_⟩))
  replace BKg1 := Aside0.mk (blk_below (g := g1) (o := .cells #[.int .i64 a0_0, .int .i64 a0_1, .bool a0_2, .int .i64 a0_3, .string a0_4, .string a0_5, .string a0_6, .slice A0_7 l0_7.length c0_7] 27 (0, 0)) (by (with_reducible repeat (first | refine blk_drewN ?_ _ | refine blk_drew ?_ | refine blk_alloc ?_ _)); exact BKg1.out) hb)
  replace BKg19 := Aside0.mk (blk_below (g := g19) (o := .cells #[.int .i64 0, .bool false, .int .i64 0, .string (⟨#[]⟩ : ByteArray), .slice none 0 0] 57 (0, 0)) (by (with_reducible repeat (first | refine blk_drewN ?_ _ | refine blk_drew ?_ | refine blk_alloc ?_ _)); exact BKg19.out) hb)
  replace HB := zhb (by repeat (first | (with_reducible first | exact HB.out | apply below_alloc | apply pw_below_drewN | apply below_drew1) | exact HB.out)) hb
  clear hn234 hba hb
  clear j35 j36 j37 j38 j39 j3a j3b j3c j3d j3e j3f j3g j3h j3i j3j j3k j3l j3m j3n j3o j3p j3q j3r j3s j3t j3u
  obtain ⟨j3N, j3O, j3P, j3Q, j3R, j3S, j3T, j3U, j3V, j3W, j3X, j3Y, j3Z, j40, j41, j42⟩ := MB.lay8 BKg1.out
  obtain ⟨j43, j44, j45, j46, j47, j48, j49, j4a, j4b, j4c⟩ := MB.lay5 BKg19.out
  obtain ⟨A262, cp263, he_⟩ := Kd.N_slice HN234.out
  subst he_
  go_wp2_with ((with_reducible refine gs 57 2 rfl ?_); refine zs 57 2 #[.int .i64 t227, .bool t228, .int .i64 t229, .string t230, (.slice A262 t231.length cp263)] BKg19.out [.int .i64 t227, .bool t228, .int .i64 t229, .string t230, (.slice A262 t231.length cp263)] (h := ?_); intro w261 hbk hg)
  refine Stop.go ?_
  replace HN234 := zng HN234.out hg fun k_ hk_ => hk_.2
  replace BKg1 := zbg BKg1.out hg NEg1_g19
  replace HB := zhg HB.out hg (below_size HB.out) GEg19
  replace BKg19 := hbk
  clear hg hbk
  clear j3N j3O j3P j3Q j3R j3S j3T j3U j3V j3W j3X j3Y j3Z j40 j41 j42 j43 j44 j45 j46 j47 j48 j49 j4a j4b j4c
  obtain ⟨j4g, j4h, j4i, j4j, j4k, j4l, j4m, j4n, j4o, j4p, j4q, j4r, j4s, j4t, j4u, j4v⟩ := MB.lay8 BKg1.out
  obtain ⟨j4w, j4x, j4y, j4z, j4A, j4B, j4C, j4D, j4E, j4F⟩ := MB.lay5 BKg19.out
  have H := HH.out
  simp only [Option.some.injEq, Prod.mk.injEq] at H
  obtain ⟨rfl, rfl, rfl, rfl, rfl⟩ := H
  clear HH
  go_wp2
  refine bodyPost_ret (MW.results_c rfl _ _ g19 57 #[.int .i64 t227, .bool t228, .int .i64 t229, .string t230, (.slice A262 t231.length cp263)] (0, 0) _ rfl BKg19.out Try.underlying57 rfl (by kernel_rfl)) rfl ?_
  exact ⟨_, by first | rfl | (simp; done) | (simp [*]; done), (Kd.N_mono (ok := (fun k_ => ((P_ k_ ∨ w.heap.size ≤ k_) ∧ k_ ≠ g1) ∧ k_ ≠ g19)) HN234.out (fun k_ hk_ => hk_.1.1)), HB.out⟩
 (try simp only [hk290, Bool.not_true, Bool.not_false])
 (try simp only [hk291, Bool.not_true, Bool.not_false])
 replace HH := zd HH
 obtain ⟨⟨t292, t293, t294, t295, t296, t297⟩, At298, HH⟩ := HH
 dsimp only at HH
 go_wp2_with ((with_reducible refine gc 61 rfl ?_); refine zc 61 (some 22) Try.func61 #[.int .i64 2, .int .i64 10, .string a0_6] (h := ?_); (with_reducible refine (prims_Text.calls  2 10 a0_6 t292 t293 t294 t295 t296 t297 _  At298.out).mono ?_); rintro e w299 ⟨v300, rfl, hn300, hb⟩; refine ⟨_, rfl, ?_⟩)
 refine Stop.go ?_
 have hba := Kd.N_base hn300
 have HN300 := znl (ok2 := (fun k_ => (((P_ k_ ∨ w.heap.size ≤ k_) ∧ some k_ ≠ (v188 : Value).ownBlock) ∧ k_ ≠ g1) ∧ k_ ≠ g19)) hn300 (below_size HB.out) (fun k_ h_ => ⟨⟨⟨.inr (Nat.le_trans (below_size HB.out) h_), Kd.fresh' (Kd.N_lt HN190.out) k_ h_⟩, Kd.freshB (g := g1) BKg1.out k_ h_⟩, Kd.freshB (g := g19) BKg19.out k_ h_⟩)
 replace HN190 := znr (u := v300) HN190.out hba hb
 replace BKg1 := zbb BKg1.out hb
 replace BKg19 := zbb BKg19.out hb
 replace HB := zhb HB.out hb
 clear hn300 hba hb
 clear j35 j36 j37 j38 j39 j3a j3b j3c j3d j3e j3f j3g j3h j3i j3j j3k j3l j3m j3n j3o j3p j3q j3r j3s j3t j3u
 obtain ⟨j4R, j4S, j4T, j4U, j4V, j4W, j4X, j4Y, j4Z, j50, j51, j52, j53, j54, j55, j56⟩ := MB.lay8 BKg1.out
 obtain ⟨j57, j58, j59, j5a, j5b, j5c, j5d, j5e, j5f, j5g⟩ := MB.lay5 BKg19.out
 go_wp2_with ((with_reducible refine gd 4 rfl ?_); refine zb 4 57 #[.int .i64 0, .bool false, .int .i64 0, .string (⟨#[]⟩ : ByteArray), .slice none 0 0] (h := ?_); intro g327 hg w328 BKg327 hb)
 refine Stop.go ?_
 have GEg327 := zge hg (below_size HB.out)
 have NEg1_g327 := znq hg BKg1.out
 have NEg19_g327 := znq hg BKg19.out
 have NEg327_g19 := zsy NEg19_g327
 replace HN190 := zne HN190.out hg hb
 replace HN300 := zne HN300.out hg hb
 replace BKg1 := zbb BKg1.out hb
 replace BKg19 := zbb BKg19.out hb
 replace HB := zhb HB.out hb
 clear hg hb
 clear j4R j4S j4T j4U j4V j4W j4X j4Y j4Z j50 j51 j52 j53 j54 j55 j56 j57 j58 j59 j5a j5b j5c j5d j5e j5f j5g
 obtain ⟨j5j, j5k, j5l, j5m, j5n, j5o, j5p, j5q, j5r, j5s, j5t, j5u, j5v, j5w, j5x, j5y⟩ := MB.lay8 BKg1.out
 obtain ⟨j5z, j5A, j5B, j5C, j5D, j5E, j5F, j5G, j5H, j5I⟩ := MB.lay5 BKg19.out
 obtain ⟨j5J, j5K, j5L, j5M, j5N, j5O, j5P, j5Q, j5R, j5S⟩ := MB.lay5 BKg327.out
 obtain ⟨A366, cp367, he_⟩ := Kd.N_slice HN300.out
 subst he_
 go_wp2_with ((with_reducible refine gs 57 4 rfl ?_); refine zs 57 4 #[.int .i64 t292, .bool t293, .int .i64 t294, .string t295, (.slice A366 t296.length cp367)] BKg327.out [.int .i64 t292, .bool t293, .int .i64 t294, .string t295, (.slice A366 t296.length cp367)] (h := ?_); intro w365 hbk hg)
 refine Stop.go ?_
 replace HN190 := zng HN190.out hg fun k_ hk_ => hk_.2
 replace HN300 := zng HN300.out hg fun k_ hk_ => hk_.2
 replace BKg1 := zbg BKg1.out hg NEg1_g327
 replace BKg19 := zbg BKg19.out hg NEg19_g327
 replace HB := zhg HB.out hg (below_size HB.out) GEg327
 replace BKg327 := hbk
 clear hg hbk
 clear j5j j5k j5l j5m j5n j5o j5p j5q j5r j5s j5t j5u j5v j5w j5x j5y j5z j5A j5B j5C j5D j5E j5F j5G j5H j5I j5J j5K j5L j5M j5N j5O j5P j5Q j5R j5S
 obtain ⟨j5W, j5X, j5Y, j5Z, j60, j61, j62, j63, j64, j65, j66, j67, j68, j69, j6a, j6b⟩ := MB.lay8 BKg1.out
 obtain ⟨j6c, j6d, j6e, j6f, j6g, j6h, j6i, j6j, j6k, j6l⟩ := MB.lay5 BKg19.out
 obtain ⟨j6m, j6n, j6o, j6p, j6q, j6r, j6s, j6t, j6u, j6v⟩ := MB.lay5 BKg327.out
 have HL407 := Aside0.mk (Kd.N_reads' HN300.out).2.1
 have HF406 := Aside0.mk (Kd.N_F HN300.out)
 clear HN300
 replace HN190 := Aside0.mk (Kd.N_mono (ok := (fun k_ => ((((P_ k_ ∨ w.heap.size ≤ k_) ∧ k_ ≠ g1) ∧ k_ ≠ g19) ∧ some k_ ≠ ((.slice A366 t296.length cp367) : Value).ownBlock) ∧ k_ ≠ g327)) HN190.out (fun k_ hk_ => ⟨⟨⟨hk_.1.1.1.1, hk_.1.1.1.2⟩, hk_.1.1.2⟩, hk_.2⟩) : Kd.N k57 _ _ _ (fun k_ => (((P_ k_ ∨ w.heap.size ≤ k_) ∧ k_ ≠ g1) ∧ k_ ≠ g19) ∧ k_ ≠ g327) _ _)
 obtain ⟨HH, LMc408⟩ := zlm HH
 obtain ⟨y409, hy409⟩ : ∃ y_ : List (S57), y_ = ([(⟨t74, t75, t76, t77, t78⟩ : S57), (⟨t108, t109, t110, t111, t112⟩ : S57), (⟨t142, t143, t144, t145, t146⟩ : S57)] ++ [(⟨t292, t293, t294, t295, t296⟩ : S57)]) := ⟨_, rfl⟩
 have H : ((reply_tag.f a0_1).bind fun t449 => ((reply_group.f 1 t449 y409).bind fun bt456 => (some (bt456.1, bt456.2.1, bt456.2.2.1, bt456.2.2.2.1, bt456.2.2.2.2)))) = some (r1, r2, r3, r4, r5) := by rw [hy409]; exact HH.out
 replace HH := Aside0.mk H
 clear H
 have NYy409 := Aside0.mk hy409
 clear hy409
 go_wp2_with (((with_reducible refine gate_dst (N := 28) rfl ?_); (try (refine gate_guard (by rfl) ?_; dsimp only)); refine Kd.N_append k57 w.heap.size rfl _ _ 55 57 (.agg #[(.int .i64 0), (.bool false), (.int .i64 0), (.string ⟨#[]⟩), (.slice none 0 0)]) 64 rfl Try.underlying55 info57 rfl (by decide) (by decide) (v188) [(⟨t74, t75, t76, t77, t78⟩ : S57), (⟨t108, t109, t110, t111, t112⟩ : S57), (⟨t142, t143, t144, t145, t146⟩ : S57)] (⟨t292, t293, t294, t295, t296⟩ : S57) [.int .i64 t292, .bool t293, .int .i64 t294, .string t295, .slice A366 t296.length cp367] (fun k_ => (((P_ k_ ∨ w.heap.size ≤ k_) ∧ k_ ≠ g1) ∧ k_ ≠ g19) ∧ k_ ≠ g327) (fun k_ => (fun k_ => (((P_ k_ ∨ w.heap.size ≤ k_) ∧ k_ ≠ g1) ∧ k_ ≠ g19) ∧ k_ ≠ g327) k_ ∧ some k_ ≠ (v188 : Value).ownBlock) rfl rfl (k57_mkF _ _ (⟨t292, t293, t294, t295, t296⟩ : S57) HL407.out (Kd.F_mono (ok := (fun k_ => ((((P_ k_ ∨ w.heap.size ≤ k_) ∧ some k_ ≠ (v188 : Value).ownBlock) ∧ k_ ≠ g1) ∧ k_ ≠ g19) ∧ k_ ≠ g327)) (by (with_reducible repeat (first | apply Kd.F_alloc | apply Kd.F_drewN | apply Kd.F_drew)); exact HF406.out) (fun k_ hk_ => ⟨⟨⟨⟨hk_.1.1.1.1, hk_.1.1.2⟩, hk_.1.2⟩, hk_.2⟩, hk_.1.1.1.2⟩))) (fun _ hk_ => hk_) (fun k_ h_ => ⟨⟨⟨.inr (Nat.le_trans (below_size (by repeat (first | (with_reducible first | exact HB.out | apply below_alloc | apply pw_below_drewN | apply below_drew1) | exact HB.out))) h_), Kd.freshB (g := g1) (o := .cells #[.int .i64 a0_0, .int .i64 a0_1, .bool a0_2, .int .i64 a0_3, .string a0_4, .string a0_5, .string a0_6, .slice A0_7 l0_7.length c0_7] 27 (0, 0)) (by (with_reducible repeat (first | refine blk_drewN ?_ _ | refine blk_drew ?_ | refine blk_alloc ?_ _)); exact BKg1.out) k_ h_⟩, Kd.freshB (g := g19) (o := .cells #[.int .i64 0, .bool false, .int .i64 0, .string (⟨#[]⟩ : ByteArray), .slice none 0 0] 57 (0, 0)) (by (with_reducible repeat (first | refine blk_drewN ?_ _ | refine blk_drew ?_ | refine blk_alloc ?_ _)); exact BKg19.out) k_ h_⟩, Kd.freshB (g := g327) (o := .cells #[.int .i64 t292, .bool t293, .int .i64 t294, .string t295, .slice A366 t296.length cp367] 57 (0, 0)) (by (with_reducible repeat (first | refine blk_drewN ?_ _ | refine blk_drew ?_ | refine blk_alloc ?_ _)); exact BKg327.out) k_ h_⟩) (by (with_reducible repeat (first | apply Kd.N_alloc | apply Kd.N_drewN | apply Kd.N_drew)); exact HN190.out) (by repeat (first | (with_reducible first | exact HB.out | apply below_alloc | apply pw_below_drewN | apply below_drew1) | exact HB.out)) (below_size (by repeat (first | (with_reducible first | exact HB.out | apply below_alloc | apply pw_below_drewN | apply below_drew1) | exact HB.out))) (by first | (have := LMc408.out; omega) | (have := LMc408.out; simp at *; omega)) ?_; intro v410 w411 hn1 hb1 hg1 hat1); replace hat1 := Aside0.mk hat1; refine stop_ ?_)
 refine Stop.go ?_
 replace hat1 := hat1.out
 replace BKg1 := Aside0.mk (blk_grown (g := g1) (o := .cells #[.int .i64 a0_0, .int .i64 a0_1, .bool a0_2, .int .i64 a0_3, .string a0_4, .string a0_5, .string a0_6, .slice A0_7 l0_7.length c0_7] 27 (0, 0)) (by (with_reducible repeat (first | refine blk_drewN ?_ _ | refine blk_drew ?_ | refine blk_alloc ?_ _)); exact BKg1.out) hg1 (Kd.N_away (ok := (fun k_ => (((P_ k_ ∨ w.heap.size ≤ k_) ∧ k_ ≠ g1) ∧ k_ ≠ g19) ∧ k_ ≠ g327)) HN190.out (fun k_ hk_ => hk_.1.1.2)))
 replace BKg19 := Aside0.mk (blk_grown (g := g19) (o := .cells #[.int .i64 0, .bool false, .int .i64 0, .string (⟨#[]⟩ : ByteArray), .slice none 0 0] 57 (0, 0)) (by (with_reducible repeat (first | refine blk_drewN ?_ _ | refine blk_drew ?_ | refine blk_alloc ?_ _)); exact BKg19.out) hg1 (Kd.N_away (ok := (fun k_ => (((P_ k_ ∨ w.heap.size ≤ k_) ∧ k_ ≠ g1) ∧ k_ ≠ g19) ∧ k_ ≠ g327)) HN190.out (fun k_ hk_ => hk_.1.2)))
 replace BKg327 := Aside0.mk (blk_grown (g := g327) (o := .cells #[.int .i64 t292, .bool t293, .int .i64 t294, .string t295, .slice A366 t296.length cp367] 57 (0, 0)) (by (with_reducible repeat (first | refine blk_drewN ?_ _ | refine blk_drew ?_ | refine blk_alloc ?_ _)); exact BKg327.out) hg1 (Kd.N_away (ok := (fun k_ => (((P_ k_ ∨ w.heap.size ≤ k_) ∧ k_ ≠ g1) ∧ k_ ≠ g19) ∧ k_ ≠ g327)) HN190.out (fun k_ hk_ => hk_.2)))
 replace HB := Aside0.mk hb1
 clear HN190
 have HN412 := Aside0.mk hn1
 clear hn1 hb1 hg1 hat1
 replace HN412 := Aside0.mk (by rw [NYy409.out]; exact HN412.out : Kd.N k57 57 w411 w.heap.size (fun k_ => (((P_ k_ ∨ w.heap.size ≤ k_) ∧ k_ ≠ g1) ∧ k_ ≠ g19) ∧ k_ ≠ g327) v410 y409)
 clear j5W j5X j5Y j5Z j60 j61 j62 j63 j64 j65 j66 j67 j68 j69 j6a j6b j6c j6d j6e j6f j6g j6h j6i j6j j6k j6l j6m j6n j6o j6p j6q j6r j6s j6t j6u j6v
 obtain ⟨j6F, j6G, j6H, j6I, j6J, j6K, j6L, j6M, j6N, j6O, j6P, j6Q, j6R, j6S, j6T, j6U⟩ := MB.lay8 BKg1.out
 obtain ⟨j6V, j6W, j6X, j6Y, j6Z, j70, j71, j72, j73, j74⟩ := MB.lay5 BKg19.out
 obtain ⟨j75, j76, j77, j78, j79, j7a, j7b, j7c, j7d, j7e⟩ := MB.lay5 BKg327.out
 replace HH := zd HH
 obtain ⟨t449, At450, HH⟩ := HH
 go_wp2_with ((with_reducible refine gc 22 rfl ?_); refine zc 22 (some 31) Try.func22 #[.int .i64 a0_1] (h := ?_); (with_reducible refine (reply_tag.calls  a0_1 t449 _  At450.out).mono ?_); rintro e w' ⟨rfl, ⟨nd, rfl⟩⟩; refine ⟨_, rfl, ?_⟩)
 refine Stop.go ?_
 obtain ⟨A452, cp453, he_⟩ := Kd.N_slice HN412.out
 subst he_
 have HL455 := Aside0.mk (Kd.N_reads' HN412.out).2.1
 have HF454 := Aside0.mk (Kd.N_F HN412.out)
 clear HN412
 replace HH := zd HH
 obtain ⟨⟨t456, t457, t458, t459, t460⟩, At461, HH⟩ := HH
 dsimp only at HH
 go_wp2_with ((with_reducible refine gc 45 rfl ?_); refine zc 45 (some 33) Try.func45 #[.int .i64 1, .int .i64 t449, .slice A452 y409.length cp453] (h := ?_); (with_reducible refine (reply_group.calls (fun k_ => (((P_ k_ ∨ w.heap.size ≤ k_) ∧ k_ ≠ g1) ∧ k_ ≠ g19) ∧ k_ ≠ g327) 1 t449 _ _ y409 t456 t457 t458 t459 t460 _ (Kd.F_mono (ok := (fun k_ => (((P_ k_ ∨ w.heap.size ≤ k_) ∧ k_ ≠ g1) ∧ k_ ≠ g19) ∧ k_ ≠ g327)) (by (with_reducible repeat (first | apply Kd.F_alloc | apply Kd.F_drewN | apply Kd.F_drew)); exact HF454.out) (fun k_ hk_ => hk_)) HL455.out At461.out).mono ?_); rintro e w462 ⟨v463, rfl, hn463, hb⟩; refine ⟨_, rfl, ?_⟩)
 refine Stop.go ?_
 have hba := Kd.N_base hn463
 have HN463 := znl (ok2 := (fun k_ => (((P_ k_ ∨ w.heap.size ≤ k_) ∧ k_ ≠ g1) ∧ k_ ≠ g19) ∧ k_ ≠ g327)) hn463 (below_size (by repeat (first | (with_reducible first | exact HB.out | apply below_alloc | apply pw_below_drewN | apply below_drew1) | exact HB.out))) (fun k_ hk_ => hk_.elim (fun h_ => h_) (fun h_ => ⟨⟨⟨.inr (Nat.le_trans (below_size (by repeat (first | (with_reducible first | exact HB.out | apply below_alloc | apply pw_below_drewN | apply below_drew1) | exact HB.out))) h_), Kd.freshB (g := g1) (o := .cells #[.int .i64 a0_0, .int .i64 a0_1, .bool a0_2, .int .i64 a0_3, .string a0_4, .string a0_5, .string a0_6, .slice A0_7 l0_7.length c0_7] 27 (0, 0)) (by (with_reducible repeat (first | refine blk_drewN ?_ _ | refine blk_drew ?_ | refine blk_alloc ?_ _)); exact BKg1.out) k_ h_⟩, Kd.freshB (g := g19) (o := .cells #[.int .i64 0, .bool false, .int .i64 0, .string (⟨#[]⟩ : ByteArray), .slice none 0 0] 57 (0, 0)) (by (with_reducible repeat (first | refine blk_drewN ?_ _ | refine blk_drew ?_ | refine blk_alloc ?_ _)); exact BKg19.out) k_ h_⟩, Kd.freshB (g := g327) (o := .cells #[.int .i64 t292, .bool t293, .int .i64 t294, .string t295, .slice A366 t296.length cp367] 57 (0, 0)) (by (with_reducible repeat (first | refine blk_drewN ?_ _ | refine blk_drew ?_ | refine blk_alloc ?_ _)); exact BKg327.out) k_ h_⟩))
 replace BKg1 := Aside0.mk (blk_below (g := g1) (o := .cells #[.int .i64 a0_0, .int .i64 a0_1, .bool a0_2, .int .i64 a0_3, .string a0_4, .string a0_5, .string a0_6, .slice A0_7 l0_7.length c0_7] 27 (0, 0)) (by (with_reducible repeat (first | refine blk_drewN ?_ _ | refine blk_drew ?_ | refine blk_alloc ?_ _)); exact BKg1.out) hb)
 replace BKg19 := Aside0.mk (blk_below (g := g19) (o := .cells #[.int .i64 0, .bool false, .int .i64 0, .string (⟨#[]⟩ : ByteArray), .slice none 0 0] 57 (0, 0)) (by (with_reducible repeat (first | refine blk_drewN ?_ _ | refine blk_drew ?_ | refine blk_alloc ?_ _)); exact BKg19.out) hb)
 replace BKg327 := Aside0.mk (blk_below (g := g327) (o := .cells #[.int .i64 t292, .bool t293, .int .i64 t294, .string t295, .slice A366 t296.length cp367] 57 (0, 0)) (by (with_reducible repeat (first | refine blk_drewN ?_ _ | refine blk_drew ?_ | refine blk_alloc ?_ _)); exact BKg327.out) hb)
 replace HB := zhb (by repeat (first | (with_reducible first | exact HB.out | apply below_alloc | apply pw_below_drewN | apply below_drew1) | exact HB.out)) hb
 clear hn463 hba hb
 clear j6F j6G j6H j6I j6J j6K j6L j6M j6N j6O j6P j6Q j6R j6S j6T j6U j6V j6W j6X j6Y j6Z j70 j71 j72 j73 j74 j75 j76 j77 j78 j79 j7a j7b j7c j7d j7e
 obtain ⟨j7u, j7v, j7w, j7x, j7y, j7z, j7A, j7B, j7C, j7D, j7E, j7F, j7G, j7H, j7I, j7J⟩ := MB.lay8 BKg1.out
 obtain ⟨j7K, j7L, j7M, j7N, j7O, j7P, j7Q, j7R, j7S, j7T⟩ := MB.lay5 BKg19.out
 obtain ⟨j7U, j7V, j7W, j7X, j7Y, j7Z, j80, j81, j82, j83⟩ := MB.lay5 BKg327.out
 obtain ⟨A501, cp502, he_⟩ := Kd.N_slice HN463.out
 subst he_
 go_wp2_with ((with_reducible refine gs 57 2 rfl ?_); refine zs 57 2 #[.int .i64 t456, .bool t457, .int .i64 t458, .string t459, (.slice A501 t460.length cp502)] BKg19.out [.int .i64 t456, .bool t457, .int .i64 t458, .string t459, (.slice A501 t460.length cp502)] (h := ?_); intro w500 hbk hg)
 refine Stop.go ?_
 replace HN463 := zng HN463.out hg fun k_ hk_ => hk_.1.2
 replace BKg1 := zbg BKg1.out hg NEg1_g19
 replace BKg327 := zbg BKg327.out hg NEg327_g19
 replace HB := zhg HB.out hg (below_size HB.out) GEg19
 replace BKg19 := hbk
 clear hg hbk
 clear j7u j7v j7w j7x j7y j7z j7A j7B j7C j7D j7E j7F j7G j7H j7I j7J j7K j7L j7M j7N j7O j7P j7Q j7R j7S j7T j7U j7V j7W j7X j7Y j7Z j80 j81 j82 j83
 obtain ⟨j87, j88, j89, j8a, j8b, j8c, j8d, j8e, j8f, j8g, j8h, j8i, j8j, j8k, j8l, j8m⟩ := MB.lay8 BKg1.out
 obtain ⟨j8n, j8o, j8p, j8q, j8r, j8s, j8t, j8u, j8v, j8w⟩ := MB.lay5 BKg19.out
 obtain ⟨j8x, j8y, j8z, j8A, j8B, j8C, j8D, j8E, j8F, j8G⟩ := MB.lay5 BKg327.out
 have H := HH.out
 simp only [Option.some.injEq, Prod.mk.injEq] at H
 obtain ⟨rfl, rfl, rfl, rfl, rfl⟩ := H
 clear HH
 go_wp2
 refine bodyPost_ret (MW.results_c rfl _ _ g19 57 #[.int .i64 t456, .bool t457, .int .i64 t458, .string t459, (.slice A501 t460.length cp502)] (0, 0) _ rfl BKg19.out Try.underlying57 rfl (by kernel_rfl)) rfl ?_
 exact ⟨_, by first | rfl | (simp; done) | (simp [*]; done), (Kd.N_mono (ok := (fun k_ => (((P_ k_ ∨ w.heap.size ≤ k_) ∧ k_ ≠ g1) ∧ k_ ≠ g19) ∧ k_ ≠ g327)) HN463.out (fun k_ hk_ => hk_.1.1.1)), HB.out⟩
end Go.Proofs.Ytdjkemhmhkpmkaa.GA
