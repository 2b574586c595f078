import Derived.Test.YtdjkemhmhkpmkaaGA0
import Derived.Test.YtdjkemhmhkpmkaaGAF42
import Derived.Test.YtdjkemhmhkpmkaaGAF43
import Derived.Test.YtdjkemhmhkpmkaaGM1
import Derived.Test.YtdjkemhmhkpmkaaGM2
import Derived.Test.YtdjkemhmhkpmkaaMX
namespace Go.Proofs.Ytdjkemhmhkpmkaa.GA
open Go.RowKit Go.Proofs.Ytdjkemhmhkpmkaa Go.Proofs.Ytdjkemhmhkpmkaa.MW Go.Proofs.YtdjkemhmhkpmkaaW.PrintWords Go.Proofs.YtdjkemhmhkpmkaaW.PrintLast Go.Proofs.YtdjkemhmhkpmkaaW.PrintMore
attribute [local go_sem] max2_int min2_int max_two min_two
set_option linter.unusedVariables false
set_option linter.unusedSimpArgs false
/-! ### reply_laid: function 25 -/
def reply_laid.f (k : Nat) (a0_0 : Int) (a0_1 : Int) (a0_2 : Bool) (a0_3 : Int) (a0_4 : ByteArray) (a0_5 : ByteArray) (a0_6 : ByteArray) (l0_7 : List (S46)) : Option (ByteArray × Int) := if a0_2 = true then ((reply_number.f k 2 a0_0).bind fun bt37 => ((reply_entry.f k a0_0 a0_1 true a0_3 a0_4 a0_5 a0_6 l0_7).bind fun bt61 => ((reply_group.f 0 16 [(⟨bt37.1, bt37.2.1, bt37.2.2.1, bt37.2.2.2.1, bt37.2.2.2.2⟩ : S57), (⟨bt61.1, bt61.2.1, bt61.2.2.1, bt61.2.2.2.1, bt61.2.2.2.2⟩ : S57)]).bind fun bt116 => ((ber_Encode.f k [(⟨bt116.1, bt116.2.1, bt116.2.2.1, bt116.2.2.2.1, bt116.2.2.2.2⟩ : S57)]).bind fun bt167 => (some (bt167.1, bt167.2)))))) else ((reply_number.f k 2 a0_0).bind fun bt204 => ((reply_result.f k a0_0 a0_1 false a0_3 a0_4 a0_5 a0_6 l0_7).bind fun bt228 => ((reply_group.f 0 16 [(⟨bt204.1, bt204.2.1, bt204.2.2.1, bt204.2.2.2.1, bt204.2.2.2.2⟩ : S57), (⟨bt228.1, bt228.2.1, bt228.2.2.1, bt228.2.2.2.1, bt228.2.2.2.2⟩ : S57)]).bind fun bt283 => ((ber_Encode.f k [(⟨bt283.1, bt283.2.1, bt283.2.2.1, bt283.2.2.2.1, bt283.2.2.2.2⟩ : S57)]).bind fun bt334 => (some (bt334.1, bt334.2))))))
theorem reply_laid.mono : ∀ a0_ a1_ a2_ a3_ a4_ a5_ a6_ a7_ k, LeO (reply_laid.f k a0_ a1_ a2_ a3_ a4_ a5_ a6_ a7_) (reply_laid.f (k + 1) a0_ a1_ a2_ a3_ a4_ a5_ a6_ a7_) := by
 intro a0_ a1_ a2_ a3_ a4_ a5_ a6_ a7_ k
 unfold reply_laid.f
 repeat' first
   | (with_reducible exact ber_Encode.mono _ _)
   | (with_reducible exact reply_entry.mono _ _ _ _ _ _ _ _ _)
   | (with_reducible exact reply_number.mono _ _ _)
   | (with_reducible exact reply_result.mono _ _ _ _ _ _ _ _ _)
   | (with_reducible exact LeO.refl _)
   | (with_reducible exact LeO.none _)
   | (with_reducible refine LeO.ite ?_ ?_)
   | (with_reducible refine LeO.bind ?_ (fun _ => ?_))
set_option maxHeartbeats 8000000 in
set_option maxRecDepth 100000 in
theorem reply_laid.calls (k : Nat) (P_ : Nat → Prop) (a0_0 : Int) (a0_1 : Int) (a0_2 : Bool) (a0_3 : Int) (a0_4 : ByteArray) (a0_5 : ByteArray) (a0_6 : ByteArray) (A0_7 : Option Addr) (c0_7 : Nat) (l0_7 : List (S46)) (r1 : ByteArray) (r2 : Int) (w : World) (hs0_7 : Kd.F k46 w P_ A0_7 l0_7.length l0_7) (hc0_7 : l0_7.length ≤ c0_7) (h : reply_laid.f k a0_0 a0_1 a0_2 a0_3 a0_4 a0_5 a0_6 l0_7 = some (r1, r2)) :
  Calls Try.prog 25 #[.agg #[.int .i64 a0_0, .int .i64 a0_1, .bool a0_2, .int .i64 a0_3, .string a0_4, .string a0_5, .string a0_6, .slice A0_7 l0_7.length c0_7]] w (fun e w' => e = .returned (.tuple #[.string r1, .int .i64 r2]) ∧ Below w.heap.size w w') := by
 have HH := Aside0.mk (show (if a0_2 = true then ((reply_number.f k 2 a0_0).bind fun bt37 => ((reply_entry.f k a0_0 a0_1 true a0_3 a0_4 a0_5 a0_6 l0_7).bind fun bt61 => ((reply_group.f 0 16 [(⟨bt37.1, bt37.2.1, bt37.2.2.1, bt37.2.2.2.1, bt37.2.2.2.2⟩ : S57), (⟨bt61.1, bt61.2.1, bt61.2.2.1, bt61.2.2.2.1, bt61.2.2.2.2⟩ : S57)]).bind fun bt116 => ((ber_Encode.f k [(⟨bt116.1, bt116.2.1, bt116.2.2.1, bt116.2.2.2.1, bt116.2.2.2.2⟩ : S57)]).bind fun bt167 => (some (bt167.1, bt167.2)))))) else ((reply_number.f k 2 a0_0).bind fun bt204 => ((reply_result.f k a0_0 a0_1 false a0_3 a0_4 a0_5 a0_6 l0_7).bind fun bt228 => ((reply_group.f 0 16 [(⟨bt204.1, bt204.2.1, bt204.2.2.1, bt204.2.2.2.1, bt204.2.2.2.2⟩ : S57), (⟨bt228.1, bt228.2.1, bt228.2.2.1, bt228.2.2.2.1, bt228.2.2.2.2⟩ : S57)]).bind fun bt283 => ((ber_Encode.f k [(⟨bt283.1, bt283.2.1, bt283.2.2.1, bt283.2.2.2.1, bt283.2.2.2.2⟩ : S57)]).bind fun bt334 => (some (bt334.1, bt334.2))))))) = some (r1, r2) from h)
 clear h
 have HF0_7 := zfp hs0_7
 have HL0_7 := Aside0.mk hc0_7
 clear hs0_7 hc0_7
 have HB := Aside0.mk (Below.refl w.heap.size w)
 have hu27 := Try.underlying27
 go_enter Try.func25, Try.ntmps25
 go_wp2_with ((with_reducible refine gd 1 rfl ?_); refine zb 1 27 #[.int .i64 a0_0, .int .i64 a0_1, .bool a0_2, .int .i64 a0_3, .string a0_4, .string a0_5, .string a0_6, .slice A0_7 l0_7.length c0_7] (h := ?_); intro g1 hg w2 BKg1 hb)
 refine Stop.go ?_
 replace HF0_7 := zfe HF0_7.out hg hb
 replace HB := zhb HB.out hb
 clear hg hb
 obtain ⟨j3, j4, j5, j6, j7, j8, j9, ja, jb, jc, jd, je, jf, jg, jh, ji⟩ := MB.lay8 BKg1.out
 by_cases c19 : a0_2 = true
 ·replace HH := MW.hpos HH c19
  subst c19
  go_wp2
  have hwr_ : ∀ n_ : Int, IntKind.i64.wrap n_ = wrap64 n_ := fun n_ => IntWalk.i64_left n_
  refine wp_region_any (by kernel_rfl) ?_
  change wpAny _ _ _ _ 14 #[false, false, false, false, false, false, false, false, false, false, false, false, false, false] _ w2.drew
  obtain ⟨w20, hw_⟩ : ∃ w_ : World, w_ = w2.drew := ⟨_, rfl⟩
  rw [← hw_]
  have hb : Below w2.heap.size w2 w20 := by rw [hw_]; exact below_drew1 (Below.refl _ _)
  clear hw_
  replace HF0_7 := zfb HF0_7.out hb
  replace BKg1 := zbb BKg1.out hb
  replace HB := zhb HB.out hb
  clear hb
  clear j3 j4 j5 j6 j7 j8 j9 ja jb jc jd je jf jg jh ji
  obtain ⟨jl, jm, jn, jo, jp, jq, jr, js, jt, ju, jv, jw, jx, jy, jz, jA⟩ := MB.lay8 BKg1.out
  refine MW.last_in (ds := [5, 6, 7, 8, 9]) (MW.Cells.cons jl (MW.Cells.cons jm (MW.Cells.cons jn (MW.Cells.cons jo (MW.Cells.cons jp (MW.Cells.cons jq (MW.Cells.cons jr (MW.Cells.cons js MW.Cells.nil)))))))) ?_
  refine MW.last_pure (i := 0) (v := .pointer (some ⟨g1, 0, none⟩)) (listed' := #[true, false, false, false, false, false, false, false, false, false, false, false, false, false]) (a' := ⟨[_, _, _, _, _, _, _, _, _, _, _, _, _, _, _, _, _, _, _].toArray, []⟩) rfl (by kernel_rfl) (by kernel_rfl) (by kernel_rfl) (fun _ _ _ h_ => h_) (.inl ⟨(by kernel_rfl), fun _ => (by first | rfl | (go_simp; done) | (go_simp; rfl) | (go_simp; simp only [MW.isEmpty_beq, bne, Bool.not_not]; done))⟩) (by kernel_rfl) rfl ?_
  refine MW.last_pure (i := 3) (v := .func (.func 43) #[] #[]) (listed' := #[true, false, false, true, false, false, false, false, false, false, false, false, false, false]) (a' := ⟨[_, _, _, _, _, _, _, _, _, _, _, _, _, _, _, _, _, _, _].toArray, []⟩) rfl (by kernel_rfl) (by kernel_rfl) (by kernel_rfl) (fun _ _ _ h_ => h_) (.inl ⟨(by kernel_rfl), fun _ => (by first | rfl | (go_simp; done) | (go_simp; rfl) | (go_simp; simp only [MW.isEmpty_beq, bne, Bool.not_not]; done))⟩) (by kernel_rfl) rfl ?_
  refine MW.last_take (i := 1) (v := .int .i64 a0_0) (listed' := #[true, true, false, true, false, false, false, false, false, false, false, false, false, false]) (a' := ⟨[_, _, _, _, _, _, _, _, _, _, _, _, _, _, _, _, _, _, _].toArray, []⟩) rfl (by kernel_rfl) (by kernel_rfl) (by kernel_rfl) (by kernel_rfl) (by kernel_rfl) (fun _ _ _ h_ => h_) (by kernel_rfl) (fun w_ hS_ => ?go) (MW.Cells.cons jl (MW.Cells.cons jm (MW.Cells.cons jn (MW.Cells.cons jo (MW.Cells.cons jp (MW.Cells.cons jq (MW.Cells.cons jr (MW.Cells.cons js MW.Cells.nil)))))))) (by kernel_rfl) rfl ?_
  case go => obtain ⟨hs0_, _, _, _, _, _, _, _, _⟩ := hS_; first | (go_simp; done) | (go_simp; rfl)
  refine MW.last_take (i := 4) (v := .agg #[.int .i64 a0_0, .int .i64 a0_1, .bool true, .int .i64 a0_3, .string a0_4, .string a0_5, .string a0_6, .slice A0_7 l0_7.length c0_7]) (listed' := #[true, true, false, true, true, false, false, false, false, false, false, false, false, false]) (a' := ⟨[_, _, _, _, _, _, _, _, _, _, _, _, _, _, _, _, _, _, _].toArray, []⟩) rfl (by kernel_rfl) (by kernel_rfl) (by kernel_rfl) (by kernel_rfl) (by kernel_rfl) (fun _ _ _ h_ => h_) (by kernel_rfl) (fun w_ hS_ => ?go) (MW.Cells.cons jl (MW.Cells.cons jm (MW.Cells.cons jn (MW.Cells.cons jo (MW.Cells.cons jp (MW.Cells.cons jq (MW.Cells.cons jr (MW.Cells.cons js MW.Cells.nil)))))))) (by kernel_rfl) rfl ?_
  case go => obtain ⟨hs0_, hs1_, hs2_, hs3_, hs4_, hs5_, hs6_, hs7_, _⟩ := hS_; first | (go_simp; done) | (go_simp; rfl)
  refine MW.last_act (i := 2) (listed' := #[true, true, true, true, true, false, false, false, false, false, false, false, false, false]) rfl (by kernel_rfl) (by kernel_rfl) (by decide) ?_
  replace HH := zd HH
  obtain ⟨⟨t37, t38, t39, t40, t41⟩, At42, HH⟩ := HH
  dsimp only at HH
  go_wp2_with ((with_reducible refine gc 46 rfl ?_); refine zc 46 (some 9) Try.func46 #[.int .i64 2, .int .i64 a0_0] (h := ?_); (with_reducible refine (reply_number.calls k  2 a0_0 t37 t38 t39 t40 t41 _  At42.out).mono ?_); rintro e w43 ⟨v44, rfl, hn44, hb⟩; refine ⟨_, rfl, ?_⟩)
  refine Stop.go ?_
  have hba := Kd.N_base hn44
  have HN44 := znl (ok2 := (fun k_ => (P_ k_ ∨ w.heap.size ≤ k_) ∧ k_ ≠ g1)) hn44 (below_size HB.out) (fun k_ h_ => ⟨.inr (Nat.le_trans (below_size HB.out) h_), Kd.freshB (g := g1) BKg1.out k_ h_⟩)
  replace HF0_7 := zfr (v := v44) HF0_7.out hba hb
  replace BKg1 := zbb BKg1.out hb
  replace HB := zhb HB.out hb
  clear hn44 hba hb
  clear jl jm jn jo jp jq jr js jt ju jv jw jx jy jz jA
  obtain ⟨jJ, jK, jL, jM, jN, jO, jP, jQ, jR, jS, jT, jU, jV, jW, jX, jY⟩ := MB.lay8 BKg1.out
  refine wpList_nil ?_
  change MW.Cells _ _ ∧ wpAnyLast _ _ _ _ _ _ 9 #[true, true, true, true, true, false, false, false, false, false, false, false, false, false] ⟨[_, _, _, _, _, _, _, _, _, _, _, _, _, _, _, _, _, _, _].toArray, []⟩ _
  refine ⟨(MW.Cells.cons jJ (MW.Cells.cons jK (MW.Cells.cons jL (MW.Cells.cons jM (MW.Cells.cons jN (MW.Cells.cons jO (MW.Cells.cons jP (MW.Cells.cons jQ MW.Cells.nil)))))))), ?_⟩
  refine MW.last_fin (i := 5) (listed' := #[true, true, true, true, true, true, false, false, false, false, false, false, false, false]) rfl (by kernel_rfl) (by kernel_rfl) (by kernel_rfl) ?_
  replace HH := zd HH
  obtain ⟨⟨t61, t62, t63, t64, t65⟩, At66, HH⟩ := HH
  dsimp only at HH
  go_wp2_with ((with_reducible refine gd 12 rfl ?_); refine zv 12 Try.func43 #[.agg #[.int .i64 a0_0, .int .i64 a0_1, .bool true, .int .i64 a0_3, .string a0_4, .string a0_5, .string a0_6, .slice A0_7 l0_7.length c0_7]] #[] (h := ?_); (with_reducible refine (reply_entry.calls k (fun k_ => ((P_ k_ ∨ w.heap.size ≤ k_) ∧ some k_ ≠ (v44 : Value).ownBlock) ∧ k_ ≠ g1) a0_0 a0_1 true a0_3 a0_4 a0_5 a0_6 _ _ l0_7 t61 t62 t63 t64 t65 _ (Kd.F_mono (ok := (fun k_ => ((P_ k_ ∨ w.heap.size ≤ k_) ∧ k_ ≠ g1) ∧ some k_ ≠ (v44 : Value).ownBlock)) HF0_7.out (fun k_ hk_ => ⟨⟨hk_.1.1, hk_.2⟩, hk_.1.2⟩)) HL0_7.out At66.out).mono ?_); rintro e w67 ⟨v68, rfl, hn68, hb⟩; refine ⟨_, rfl, ?_⟩)
  refine Stop.go ?_
  have hba := Kd.N_base hn68
  have HN68 := znl (ok2 := (fun k_ => ((P_ k_ ∨ w.heap.size ≤ k_) ∧ some k_ ≠ (v44 : Value).ownBlock) ∧ k_ ≠ g1)) hn68 (below_size HB.out) (fun k_ hk_ => hk_.elim (fun h_ => h_) (fun h_ => ⟨⟨.inr (Nat.le_trans (below_size HB.out) h_), Kd.fresh' (Kd.N_lt HN44.out) k_ h_⟩, Kd.freshB (g := g1) BKg1.out k_ h_⟩))
  replace HN44 := znr (u := v68) HN44.out hba hb
  replace BKg1 := zbb BKg1.out hb
  replace HB := zhb HB.out hb
  clear hn68 hba hb
  clear jJ jK jL jM jN jO jP jQ jR jS jT jU jV jW jX jY
  obtain ⟨j17, j18, j19, j1a, j1b, j1c, j1d, j1e, j1f, j1g, j1h, j1i, j1j, j1k, j1l, j1m⟩ := MB.lay8 BKg1.out
  refine wpList_nil ?_
  change wpAnyLast _ _ _ _ _ _ 8 #[true, true, true, true, true, true, false, false, false, false, false, false, false, false] ⟨[_, _, _, _, _, _, _, _, _, _, _, _, _, _, _, _, _, _, _].toArray, []⟩ _
  refine MW.last_fin (i := 6) (listed' := #[true, true, true, true, true, true, true, false, false, false, false, false, false, false]) rfl (by kernel_rfl) (by kernel_rfl) (by kernel_rfl) ?_
  obtain ⟨A85, cp86, he_⟩ := Kd.N_slice HN44.out
  subst he_
  have HL88 := Aside0.mk (Kd.N_reads' HN44.out).2.1
  have HF87 := Aside0.mk (Kd.N_F HN44.out)
  clear HN44
  replace HN68 := Aside0.mk (Kd.N_mono (ok := (fun k_ => ((P_ k_ ∨ w.heap.size ≤ k_) ∧ some k_ ≠ ((.slice A85 t41.length cp86) : Value).ownBlock) ∧ k_ ≠ g1)) HN68.out (fun k_ hk_ => ⟨hk_.1.1, hk_.2⟩) : Kd.N k57 _ _ _ (fun k_ => (P_ k_ ∨ w.heap.size ≤ k_) ∧ k_ ≠ g1) _ _)
  obtain ⟨A89, cp90, he_⟩ := Kd.N_slice HN68.out
  subst he_
  have HL92 := Aside0.mk (Kd.N_reads' HN68.out).2.1
  have HF91 := Aside0.mk (Kd.N_F HN68.out)
  clear HN68
  replace HF87 := Aside0.mk (Kd.F_mono (ok := (fun k_ => ((P_ k_ ∨ w.heap.size ≤ k_) ∧ k_ ≠ g1) ∧ some k_ ≠ ((.slice A89 t65.length cp90) : Value).ownBlock)) HF87.out (fun k_ hk_ => hk_.1) : Kd.F k57 _ (fun k_ => (P_ k_ ∨ w.heap.size ≤ k_) ∧ k_ ≠ g1) _ _ _)
  go_wp2_with (((with_reducible refine gate_dst (N := 13) rfl ?_); (try (refine gate_guard (by rfl) ?_; dsimp only)); refine Kd.N_lit k57 w.heap.size 57 rfl (N' := 13) rfl (xs := [(⟨t37, t38, t39, t40, t41⟩ : S57), (⟨t61, t62, t63, t64, t65⟩ : S57)]) (inner := [.int .i64 t37, .bool t38, .int .i64 t39, .string t40, .slice A85 t41.length cp86, .int .i64 t61, .bool t62, .int .i64 t63, .string t64, .slice A89 t65.length cp90]) (ok := (fun k_ => (P_ k_ ∨ w.heap.size ≤ k_) ∧ k_ ≠ g1)) (okp := (fun k_ => (P_ k_ ∨ w.heap.size ≤ k_) ∧ k_ ≠ g1)) ?hr ?hp (fun _ hk_ => hk_) ?hf HB.out (below_size HB.out) (by first | simp | decide) ?_; (case hr => first | (go_simp; done) | (go_simp; rfl)); (case hp => exact (Reps.c5 (k57_mkF _ _ (⟨t37, t38, t39, t40, t41⟩ : S57) HL88.out (Kd.F_mono (ok := (fun k_ => (P_ k_ ∨ w.heap.size ≤ k_) ∧ k_ ≠ g1)) HF87.out (fun k_ hk_ => hk_))) (Reps.c5 (k57_mkF _ _ (⟨t61, t62, t63, t64, t65⟩ : S57) HL92.out (Kd.F_mono (ok := (fun k_ => (P_ k_ ∨ w.heap.size ≤ k_) ∧ k_ ≠ g1)) HF91.out (fun k_ hk_ => hk_))) (Reps.none _ _)))); (case hf => exact (show ∀ k_, w67.heap.size ≤ k_ → (fun k_ => (P_ k_ ∨ w.heap.size ≤ k_) ∧ k_ ≠ g1) k_ from fun k_ h_ => ⟨.inr (Nat.le_trans (below_size HB.out) h_), Kd.freshB (g := g1) BKg1.out k_ h_⟩) _ (Nat.le_refl _)); intro v93 w94 hn1 hb1 hg1 hat1); replace hat1 := Aside0.mk hat1; refine stop_ ?_)
  refine Stop.go ?_
  replace hat1 := hat1.out
  have hbe := MW.grown_below hg1
  have hba := MW.base_of hat1
  replace BKg1 := Aside0.mk (blk_below (g := g1) BKg1.out hbe)
  replace HB := Aside0.mk hb1
  have HN95 := Aside0.mk hn1
  clear hn1 hb1 hg1 hat1 hbe hba
  clear j17 j18 j19 j1a j1b j1c j1d j1e j1f j1g j1h j1i j1j j1k j1l j1m
  obtain ⟨j1y, j1z, j1A, j1B, j1C, j1D, j1E, j1F, j1G, j1H, j1I, j1J, j1K, j1L, j1M, j1N⟩ := MB.lay8 BKg1.out
  refine wpList_nil ?_
  change wpAnyLast _ _ _ _ _ _ 7 #[true, true, true, true, true, true, true, false, false, false, false, false, false, false] ⟨[_, _, _, _, _, _, _, _, _, _, _, _, _, _, _, _, _, _, _].toArray, []⟩ _
  refine MW.last_fin (i := 7) (listed' := #[true, true, true, true, true, true, true, true, false, false, false, false, false, false]) rfl (by kernel_rfl) (by kernel_rfl) (by kernel_rfl) ?_
  obtain ⟨A112, cp113, he_⟩ := Kd.N_slice HN95.out
  subst he_
  have HL115 := Aside0.mk (Kd.N_reads' HN95.out).2.1
  have HF114 := Aside0.mk (Kd.N_F HN95.out)
  clear HN95
  replace HH := zd HH
  obtain ⟨⟨t116, t117, t118, t119, t120⟩, At121, HH⟩ := HH
  dsimp only at HH
  go_wp2_with ((with_reducible refine gc 45 rfl ?_); refine zc 45 (some 14) Try.func45 #[.int .i64 0, .int .i64 16, .slice A112 [(⟨t37, t38, t39, t40, t41⟩ : S57), (⟨t61, t62, t63, t64, t65⟩ : S57)].length cp113] (h := ?_); (with_reducible refine (reply_group.calls (fun k_ => (P_ k_ ∨ w.heap.size ≤ k_) ∧ k_ ≠ g1) 0 16 _ _ [(⟨t37, t38, t39, t40, t41⟩ : S57), (⟨t61, t62, t63, t64, t65⟩ : S57)] t116 t117 t118 t119 t120 _ (Kd.F_mono (ok := (fun k_ => (P_ k_ ∨ w.heap.size ≤ k_) ∧ k_ ≠ g1)) HF114.out (fun k_ hk_ => hk_)) HL115.out At121.out).mono ?_); rintro e w122 ⟨v123, rfl, hn123, hb⟩; refine ⟨_, rfl, ?_⟩)
  refine Stop.go ?_
  have hba := Kd.N_base hn123
  have HN123 := znl (ok2 := (fun k_ => (P_ k_ ∨ w.heap.size ≤ k_) ∧ k_ ≠ g1)) hn123 (below_size HB.out) (fun k_ hk_ => hk_.elim (fun h_ => h_) (fun h_ => ⟨.inr (Nat.le_trans (below_size HB.out) h_), Kd.freshB (g := g1) BKg1.out k_ h_⟩))
  replace BKg1 := zbb BKg1.out hb
  replace HB := zhb HB.out hb
  clear hn123 hba hb
  clear j1y j1z j1A j1B j1C j1D j1E j1F j1G j1H j1I j1J j1K j1L j1M j1N
  obtain ⟨j20, j21, j22, j23, j24, j25, j26, j27, j28, j29, j2a, j2b, j2c, j2d, j2e, j2f⟩ := MB.lay8 BKg1.out
  refine wpList_nil ?_
  change wpAnyLast _ _ _ _ _ _ 6 #[true, true, true, true, true, true, true, true, false, false, false, false, false, false] ⟨[_, _, _, _, _, _, _, _, _, _, _, _, _, _, _, _, _, _, _].toArray, []⟩ _
  refine MW.last_fin (i := 8) (listed' := #[true, true, true, true, true, true, true, true, true, false, false, false, false, false]) rfl (by kernel_rfl) (by kernel_rfl) (by kernel_rfl) ?_
  obtain ⟨A140, cp141, he_⟩ := Kd.N_slice HN123.out
  subst he_
  have HL143 := Aside0.mk (Kd.N_reads' HN123.out).2.1
  have HF142 := Aside0.mk (Kd.N_F HN123.out)
  clear HN123
  go_wp2_with (((with_reducible refine gate_dst (N := 15) rfl ?_); (try (refine gate_guard (by rfl) ?_; dsimp only)); refine Kd.N_lit k57 w.heap.size 57 rfl (N' := 15) rfl (xs := [(⟨t116, t117, t118, t119, t120⟩ : S57)]) (inner := [.int .i64 t116, .bool t117, .int .i64 t118, .string t119, .slice A140 t120.length cp141]) (ok := (fun k_ => (P_ k_ ∨ w.heap.size ≤ k_) ∧ k_ ≠ g1)) (okp := (fun k_ => (P_ k_ ∨ w.heap.size ≤ k_) ∧ k_ ≠ g1)) ?hr ?hp (fun _ hk_ => hk_) ?hf HB.out (below_size HB.out) (by first | simp | decide) ?_; (case hr => first | (go_simp; done) | (go_simp; rfl)); (case hp => exact (Reps.c5 (k57_mkF _ _ (⟨t116, t117, t118, t119, t120⟩ : S57) HL143.out (Kd.F_mono (ok := (fun k_ => (P_ k_ ∨ w.heap.size ≤ k_) ∧ k_ ≠ g1)) HF142.out (fun k_ hk_ => hk_))) (Reps.none _ _))); (case hf => exact (show ∀ k_, w122.heap.size ≤ k_ → (fun k_ => (P_ k_ ∨ w.heap.size ≤ k_) ∧ k_ ≠ g1) k_ from fun k_ h_ => ⟨.inr (Nat.le_trans (below_size HB.out) h_), Kd.freshB (g := g1) BKg1.out k_ h_⟩) _ (Nat.le_refl _)); intro v144 w145 hn1 hb1 hg1 hat1); replace hat1 := Aside0.mk hat1; refine stop_ ?_)
  refine Stop.go ?_
  replace hat1 := hat1.out
  have hbe := MW.grown_below hg1
  have hba := MW.base_of hat1
  replace BKg1 := Aside0.mk (blk_below (g := g1) BKg1.out hbe)
  replace HB := Aside0.mk hb1
  have HN146 := Aside0.mk hn1
  clear hn1 hb1 hg1 hat1 hbe hba
  clear j20 j21 j22 j23 j24 j25 j26 j27 j28 j29 j2a j2b j2c j2d j2e j2f
  obtain ⟨j2n, j2o, j2p, j2q, j2r, j2s, j2t, j2u, j2v, j2w, j2x, j2y, j2z, j2A, j2B, j2C⟩ := MB.lay8 BKg1.out
  refine wpList_nil ?_
  change wpAnyLast _ _ _ _ _ _ 5 #[true, true, true, true, true, true, true, true, true, false, false, false, false, false] ⟨[_, _, _, _, _, _, _, _, _, _, _, _, _, _, _, _, _, _, _].toArray, []⟩ _
  refine MW.last_fin (i := 9) (listed' := #[true, true, true, true, true, true, true, true, true, true, false, false, false, false]) rfl (by kernel_rfl) (by kernel_rfl) (by kernel_rfl) ?_
  obtain ⟨A163, cp164, he_⟩ := Kd.N_slice HN146.out
  subst he_
  have HL166 := Aside0.mk (Kd.N_reads' HN146.out).2.1
  have HF165 := Aside0.mk (Kd.N_F HN146.out)
  clear HN146
  replace HH := zd HH
  obtain ⟨⟨t167, t168⟩, At169, HH⟩ := HH
  dsimp only at HH
  go_wp2_with ((with_reducible refine gc 44 rfl ?_); refine zc 44 (some 16) Try.func44 #[.slice A163 [(⟨t116, t117, t118, t119, t120⟩ : S57)].length cp164] (h := ?_); (with_reducible refine (ber_Encode.calls k (fun k_ => (P_ k_ ∨ w.heap.size ≤ k_) ∧ k_ ≠ g1) _ _ [(⟨t116, t117, t118, t119, t120⟩ : S57)] t167 t168 _ (Kd.F_mono (ok := (fun k_ => (P_ k_ ∨ w.heap.size ≤ k_) ∧ k_ ≠ g1)) HF165.out (fun k_ hk_ => hk_)) HL166.out At169.out).mono ?_); rintro e w170 ⟨rfl, hb⟩; refine ⟨_, rfl, ?_⟩)
  refine Stop.go ?_
  replace BKg1 := zbb BKg1.out hb
  replace HB := zhb HB.out hb
  clear hb
  clear j2n j2o j2p j2q j2r j2s j2t j2u j2v j2w j2x j2y j2z j2A j2B j2C
  obtain ⟨j2L, j2M, j2N, j2O, j2P, j2Q, j2R, j2S, j2T, j2U, j2V, j2W, j2X, j2Y, j2Z, j30⟩ := MB.lay8 BKg1.out
  refine wpList_nil ?_
  change wpAnyLast _ _ _ _ _ _ 4 #[true, true, true, true, true, true, true, true, true, true, false, false, false, false] ⟨[_, _, _, _, _, _, _, _, _, _, _, _, _, _, _, _, _, _, _].toArray, []⟩ _
  refine MW.last_pure (i := 10) (v := .string t167) (listed' := #[true, true, true, true, true, true, true, true, true, true, true, false, false, false]) (a' := ⟨[_, _, _, _, _, _, _, _, _, _, _, _, _, _, _, _, _, _, _].toArray, []⟩) rfl (by kernel_rfl) (by kernel_rfl) (by kernel_rfl) (fun _ _ _ h_ => h_) (.inl ⟨(by kernel_rfl), fun _ => (by first | rfl | (go_simp; done) | (go_simp; rfl) | (go_simp; simp only [MW.isEmpty_beq, bne, Bool.not_not]; done))⟩) (by kernel_rfl) rfl ?_
  refine MW.last_pure (i := 11) (v := .int .i64 t168) (listed' := #[true, true, true, true, true, true, true, true, true, true, true, true, false, false]) (a' := ⟨[_, _, _, _, _, _, _, _, _, _, _, _, _, _, _, _, _, _, _].toArray, []⟩) rfl (by kernel_rfl) (by kernel_rfl) (by kernel_rfl) (fun _ _ _ h_ => h_) (.inl ⟨(by kernel_rfl), fun _ => (by first | rfl | (go_simp; done) | (go_simp; rfl) | (go_simp; simp only [MW.isEmpty_beq, bne, Bool.not_not]; done))⟩) (by kernel_rfl) rfl ?_
  refine MW.last_pure (i := 12) (v := .string t167) (listed' := #[true, true, true, true, true, true, true, true, true, true, true, true, true, false]) (a' := ⟨[_, _, _, _, _, _, _, _, _, _, _, _, _, _, _, _, _, _, _].toArray, []⟩) rfl (by kernel_rfl) (by kernel_rfl) (by kernel_rfl) (fun _ _ _ h_ => h_) (.inl ⟨(by kernel_rfl), fun _ => (by first | rfl | (go_simp; done) | (go_simp; rfl) | (go_simp; simp only [MW.isEmpty_beq, bne, Bool.not_not]; done))⟩) (by kernel_rfl) rfl ?_
  refine MW.last_pure (i := 13) (v := .int .i64 t168) (listed' := #[true, true, true, true, true, true, true, true, true, true, true, true, true, true]) (a' := ⟨[_, _, _, _, _, _, _, _, _, _, _, _, _, _, _, _, _, _, _].toArray, []⟩) rfl (by kernel_rfl) (by kernel_rfl) (by kernel_rfl) (fun _ _ _ h_ => h_) (.inl ⟨(by kernel_rfl), fun _ => (by first | rfl | (go_simp; done) | (go_simp; rfl) | (go_simp; simp only [MW.isEmpty_beq, bne, Bool.not_not]; done))⟩) (by kernel_rfl) rfl ?_
  refine MW.last_done (by kernel_rfl) ?_ _
  clear hwr_
  have H := HH.out
  simp only [Option.some.injEq, Prod.mk.injEq] at H
  obtain ⟨rfl, rfl⟩ := H
  clear HH
  go_wp2
  go_ret2
  exact ⟨by first | rfl | (simp; done) | (simp [*]; done), HB.out⟩
 replace HH := MW.hneg HH c19
 replace c19 := Bool.eq_false_iff.mpr c19
 subst c19
 go_wp2
 have hwr_ : ∀ n_ : Int, IntKind.i64.wrap n_ = wrap64 n_ := fun n_ => IntWalk.i64_left n_
 refine wp_region_any (by kernel_rfl) ?_
 change wpAny _ _ _ _ 14 #[false, false, false, false, false, false, false, false, false, false, false, false, false, false] _ w2.drew
 obtain ⟨w187, hw_⟩ : ∃ w_ : World, w_ = w2.drew := ⟨_, rfl⟩
 rw [← hw_]
 have hb : Below w2.heap.size w2 w187 := by rw [hw_]; exact below_drew1 (Below.refl _ _)
 clear hw_
 replace HF0_7 := zfb HF0_7.out hb
 replace BKg1 := zbb BKg1.out hb
 replace HB := zhb HB.out hb
 clear hb
 clear j3 j4 j5 j6 j7 j8 j9 ja jb jc jd je jf jg jh ji
 obtain ⟨j32, j33, j34, j35, j36, j37, j38, j39, j3a, j3b, j3c, j3d, j3e, j3f, j3g, j3h⟩ := MB.lay8 BKg1.out
 refine MW.last_in (ds := [5, 6, 7, 8, 9]) (MW.Cells.cons j32 (MW.Cells.cons j33 (MW.Cells.cons j34 (MW.Cells.cons j35 (MW.Cells.cons j36 (MW.Cells.cons j37 (MW.Cells.cons j38 (MW.Cells.cons j39 MW.Cells.nil)))))))) ?_
 refine MW.last_pure (i := 0) (v := .pointer (some ⟨g1, 0, none⟩)) (listed' := #[true, false, false, false, false, false, false, false, false, false, false, false, false, false]) (a' := ⟨[_, _, _, _, _, _, _, _, _, _, _, _, _, _, _, _, _, _, _].toArray, []⟩) rfl (by kernel_rfl) (by kernel_rfl) (by kernel_rfl) (fun _ _ _ h_ => h_) (.inl ⟨(by kernel_rfl), fun _ => (by first | rfl | (go_simp; done) | (go_simp; rfl) | (go_simp; simp only [MW.isEmpty_beq, bne, Bool.not_not]; done))⟩) (by kernel_rfl) rfl ?_
 refine MW.last_pure (i := 3) (v := .func (.func 42) #[] #[]) (listed' := #[true, false, false, true, false, false, false, false, false, false, false, false, false, false]) (a' := ⟨[_, _, _, _, _, _, _, _, _, _, _, _, _, _, _, _, _, _, _].toArray, []⟩) rfl (by kernel_rfl) (by kernel_rfl) (by kernel_rfl) (fun _ _ _ h_ => h_) (.inl ⟨(by kernel_rfl), fun _ => (by first | rfl | (go_simp; done) | (go_simp; rfl) | (go_simp; simp only [MW.isEmpty_beq, bne, Bool.not_not]; done))⟩) (by kernel_rfl) rfl ?_
 refine MW.last_take (i := 1) (v := .int .i64 a0_0) (listed' := #[true, true, false, true, false, false, false, false, false, false, false, false, false, false]) (a' := ⟨[_, _, _, _, _, _, _, _, _, _, _, _, _, _, _, _, _, _, _].toArray, []⟩) rfl (by kernel_rfl) (by kernel_rfl) (by kernel_rfl) (by kernel_rfl) (by kernel_rfl) (fun _ _ _ h_ => h_) (by kernel_rfl) (fun w_ hS_ => ?go) (MW.Cells.cons j32 (MW.Cells.cons j33 (MW.Cells.cons j34 (MW.Cells.cons j35 (MW.Cells.cons j36 (MW.Cells.cons j37 (MW.Cells.cons j38 (MW.Cells.cons j39 MW.Cells.nil)))))))) (by kernel_rfl) rfl ?_
 case go => obtain ⟨hs0_, _, _, _, _, _, _, _, _⟩ := hS_; first | (go_simp; done) | (go_simp; rfl)
 refine MW.last_take (i := 4) (v := .agg #[.int .i64 a0_0, .int .i64 a0_1, .bool false, .int .i64 a0_3, .string a0_4, .string a0_5, .string a0_6, .slice A0_7 l0_7.length c0_7]) (listed' := #[true, true, false, true, true, false, false, false, false, false, false, false, false, false]) (a' := ⟨[_, _, _, _, _, _, _, _, _, _, _, _, _, _, _, _, _, _, _].toArray, []⟩) rfl (by kernel_rfl) (by kernel_rfl) (by kernel_rfl) (by kernel_rfl) (by kernel_rfl) (fun _ _ _ h_ => h_) (by kernel_rfl) (fun w_ hS_ => ?go) (MW.Cells.cons j32 (MW.Cells.cons j33 (MW.Cells.cons j34 (MW.Cells.cons j35 (MW.Cells.cons j36 (MW.Cells.cons j37 (MW.Cells.cons j38 (MW.Cells.cons j39 MW.Cells.nil)))))))) (by kernel_rfl) rfl ?_
 case go => obtain ⟨hs0_, hs1_, hs2_, hs3_, hs4_, hs5_, hs6_, hs7_, _⟩ := hS_; first | (go_simp; done) | (go_simp; rfl)
 refine MW.last_act (i := 2) (listed' := #[true, true, true, true, true, false, false, false, false, false, false, false, false, false]) rfl (by kernel_rfl) (by kernel_rfl) (by decide) ?_
 replace HH := zd HH
 obtain ⟨⟨t204, t205, t206, t207, t208⟩, At209, HH⟩ := HH
 dsimp only at HH
 go_wp2_with ((with_reducible refine gc 46 rfl ?_); refine zc 46 (some 9) Try.func46 #[.int .i64 2, .int .i64 a0_0] (h := ?_); (with_reducible refine (reply_number.calls k  2 a0_0 t204 t205 t206 t207 t208 _  At209.out).mono ?_); rintro e w210 ⟨v211, rfl, hn211, hb⟩; refine ⟨_, rfl, ?_⟩)
 refine Stop.go ?_
 have hba := Kd.N_base hn211
 have HN211 := znl (ok2 := (fun k_ => (P_ k_ ∨ w.heap.size ≤ k_) ∧ k_ ≠ g1)) hn211 (below_size HB.out) (fun k_ h_ => ⟨.inr (Nat.le_trans (below_size HB.out) h_), Kd.freshB (g := g1) BKg1.out k_ h_⟩)
 replace HF0_7 := zfr (v := v211) HF0_7.out hba hb
 replace BKg1 := zbb BKg1.out hb
 replace HB := zhb HB.out hb
 clear hn211 hba hb
 clear j32 j33 j34 j35 j36 j37 j38 j39 j3a j3b j3c j3d j3e j3f j3g j3h
 obtain ⟨j3q, j3r, j3s, j3t, j3u, j3v, j3w, j3x, j3y, j3z, j3A, j3B, j3C, j3D, j3E, j3F⟩ := MB.lay8 BKg1.out
 refine wpList_nil ?_
 change MW.Cells _ _ ∧ wpAnyLast _ _ _ _ _ _ 9 #[true, true, true, true, true, false, false, false, false, false, false, false, false, false] ⟨[_, _, _, _, _, _, _, _, _, _, _, _, _, _, _, _, _, _, _].toArray, []⟩ _
 refine ⟨(MW.Cells.cons j3q (MW.Cells.cons j3r (MW.Cells.cons j3s (MW.Cells.cons j3t (MW.Cells.cons j3u (MW.Cells.cons j3v (MW.Cells.cons j3w (MW.Cells.cons j3x MW.Cells.nil)))))))), ?_⟩
 refine MW.last_fin (i := 5) (listed' := #[true, true, true, true, true, true, false, false, false, false, false, false, false, false]) rfl (by kernel_rfl) (by kernel_rfl) (by kernel_rfl) ?_
 replace HH := zd HH
 obtain ⟨⟨t228, t229, t230, t231, t232⟩, At233, HH⟩ := HH
 dsimp only at HH
 go_wp2_with ((with_reducible refine gd 12 rfl ?_); refine zv 12 Try.func42 #[.agg #[.int .i64 a0_0, .int .i64 a0_1, .bool false, .int .i64 a0_3, .string a0_4, .string a0_5, .string a0_6, .slice A0_7 l0_7.length c0_7]] #[] (h := ?_); (with_reducible refine (reply_result.calls k (fun k_ => ((P_ k_ ∨ w.heap.size ≤ k_) ∧ some k_ ≠ (v211 : Value).ownBlock) ∧ k_ ≠ g1) a0_0 a0_1 false a0_3 a0_4 a0_5 a0_6 _ _ l0_7 t228 t229 t230 t231 t232 _ (Kd.F_mono (ok := (fun k_ => ((P_ k_ ∨ w.heap.size ≤ k_) ∧ k_ ≠ g1) ∧ some k_ ≠ (v211 : Value).ownBlock)) HF0_7.out (fun k_ hk_ => ⟨⟨hk_.1.1, hk_.2⟩, hk_.1.2⟩)) HL0_7.out At233.out).mono ?_); rintro e w234 ⟨v235, rfl, hn235, hb⟩; refine ⟨_, rfl, ?_⟩)
 refine Stop.go ?_
 have hba := Kd.N_base hn235
 have HN235 := znl (ok2 := (fun k_ => ((P_ k_ ∨ w.heap.size ≤ k_) ∧ some k_ ≠ (v211 : Value).ownBlock) ∧ k_ ≠ g1)) hn235 (below_size HB.out) (fun k_ hk_ => hk_.elim (fun h_ => h_) (fun h_ => ⟨⟨.inr (Nat.le_trans (below_size HB.out) h_), Kd.fresh' (Kd.N_lt HN211.out) k_ h_⟩, Kd.freshB (g := g1) BKg1.out k_ h_⟩))
 replace HN211 := znr (u := v235) HN211.out hba hb
 replace BKg1 := zbb BKg1.out hb
 replace HB := zhb HB.out hb
 clear hn235 hba hb
 clear j3q j3r j3s j3t j3u j3v j3w j3x j3y j3z j3A j3B j3C j3D j3E j3F
 obtain ⟨j3O, j3P, j3Q, j3R, j3S, j3T, j3U, j3V, j3W, j3X, j3Y, j3Z, j40, j41, j42, j43⟩ := MB.lay8 BKg1.out
 refine wpList_nil ?_
 change wpAnyLast _ _ _ _ _ _ 8 #[true, true, true, true, true, true, false, false, false, false, false, false, false, false] ⟨[_, _, _, _, _, _, _, _, _, _, _, _, _, _, _, _, _, _, _].toArray, []⟩ _
 refine MW.last_fin (i := 6) (listed' := #[true, true, true, true, true, true, true, false, false, false, false, false, false, false]) rfl (by kernel_rfl) (by kernel_rfl) (by kernel_rfl) ?_
 obtain ⟨A252, cp253, he_⟩ := Kd.N_slice HN211.out
 subst he_
 have HL255 := Aside0.mk (Kd.N_reads' HN211.out).2.1
 have HF254 := Aside0.mk (Kd.N_F HN211.out)
 clear HN211
 replace HN235 := Aside0.mk (Kd.N_mono (ok := (fun k_ => ((P_ k_ ∨ w.heap.size ≤ k_) ∧ some k_ ≠ ((.slice A252 t208.length cp253) : Value).ownBlock) ∧ k_ ≠ g1)) HN235.out (fun k_ hk_ => ⟨hk_.1.1, hk_.2⟩) : Kd.N k57 _ _ _ (fun k_ => (P_ k_ ∨ w.heap.size ≤ k_) ∧ k_ ≠ g1) _ _)
 obtain ⟨A256, cp257, he_⟩ := Kd.N_slice HN235.out
 subst he_
 have HL259 := Aside0.mk (Kd.N_reads' HN235.out).2.1
 have HF258 := Aside0.mk (Kd.N_F HN235.out)
 clear HN235
 replace HF254 := Aside0.mk (Kd.F_mono (ok := (fun k_ => ((P_ k_ ∨ w.heap.size ≤ k_) ∧ k_ ≠ g1) ∧ some k_ ≠ ((.slice A256 t232.length cp257) : Value).ownBlock)) HF254.out (fun k_ hk_ => hk_.1) : Kd.F k57 _ (fun k_ => (P_ k_ ∨ w.heap.size ≤ k_) ∧ k_ ≠ g1) _ _ _)
 go_wp2_with (((with_reducible refine gate_dst (N := 13) rfl ?_); (try (refine gate_guard (by rfl) ?_; dsimp only)); refine Kd.N_lit k57 w.heap.size 57 rfl (N' := 13) rfl (xs := [(⟨t204, t205, t206, t207, t208⟩ : S57), (⟨t228, t229, t230, t231, t232⟩ : S57)]) (inner := [.int .i64 t204, .bool t205, .int .i64 t206, .string t207, .slice A252 t208.length cp253, .int .i64 t228, .bool t229, .int .i64 t230, .string t231, .slice A256 t232.length cp257]) (ok := (fun k_ => (P_ k_ ∨ w.heap.size ≤ k_) ∧ k_ ≠ g1)) (okp := (fun k_ => (P_ k_ ∨ w.heap.size ≤ k_) ∧ k_ ≠ g1)) ?hr ?hp (fun _ hk_ => hk_) ?hf HB.out (below_size HB.out) (by first | simp | decide) ?_; (case hr => first | (go_simp; done) | (go_simp; rfl)); (case hp => exact (Reps.c5 (k57_mkF _ _ (⟨t204, t205, t206, t207, t208⟩ : S57) HL255.out (Kd.F_mono (ok := (fun k_ => (P_ k_ ∨ w.heap.size ≤ k_) ∧ k_ ≠ g1)) HF254.out (fun k_ hk_ => hk_))) (Reps.c5 (k57_mkF _ _ (⟨t228, t229, t230, t231, t232⟩ : S57) HL259.out (Kd.F_mono (ok := (fun k_ => (P_ k_ ∨ w.heap.size ≤ k_) ∧ k_ ≠ g1)) HF258.out (fun k_ hk_ => hk_))) (Reps.none _ _)))); (case hf => exact (show ∀ k_, w234.heap.size ≤ k_ → (fun k_ => (P_ k_ ∨ w.heap.size ≤ k_) ∧ k_ ≠ g1) k_ from fun k_ h_ => ⟨.inr (Nat.le_trans (below_size HB.out) h_), Kd.freshB (g := g1) BKg1.out k_ h_⟩) _ (Nat.le_refl _)); intro v260 w261 hn1 hb1 hg1 hat1); replace hat1 := Aside0.mk hat1; refine stop_ ?_)
 refine Stop.go ?_
 replace hat1 := hat1.out
 have hbe := MW.grown_below hg1
 have hba := MW.base_of hat1
 replace BKg1 := Aside0.mk (blk_below (g := g1) BKg1.out hbe)
 replace HB := Aside0.mk hb1
 have HN262 := Aside0.mk hn1
 clear hn1 hb1 hg1 hat1 hbe hba
 clear j3O j3P j3Q j3R j3S j3T j3U j3V j3W j3X j3Y j3Z j40 j41 j42 j43
 obtain ⟨j4f, j4g, j4h, j4i, j4j, j4k, j4l, j4m, j4n, j4o, j4p, j4q, j4r, j4s, j4t, j4u⟩ := MB.lay8 BKg1.out
 refine wpList_nil ?_
 change wpAnyLast _ _ _ _ _ _ 7 #[true, true, true, true, true, true, true, false, false, false, false, false, false, false] ⟨[_, _, _, _, _, _, _, _, _, _, _, _, _, _, _, _, _, _, _].toArray, []⟩ _
 refine MW.last_fin (i := 7) (listed' := #[true, true, true, true, true, true, true, true, false, false, false, false, false, false]) rfl (by kernel_rfl) (by kernel_rfl) (by kernel_rfl) ?_
 obtain ⟨A279, cp280, he_⟩ := Kd.N_slice HN262.out
 subst he_
 have HL282 := Aside0.mk (Kd.N_reads' HN262.out).2.1
 have HF281 := Aside0.mk (Kd.N_F HN262.out)
 clear HN262
 replace HH := zd HH
 obtain ⟨⟨t283, t284, t285, t286, t287⟩, At288, HH⟩ := HH
 dsimp only at HH
 go_wp2_with ((with_reducible refine gc 45 rfl ?_); refine zc 45 (some 14) Try.func45 #[.int .i64 0, .int .i64 16, .slice A279 [(⟨t204, t205, t206, t207, t208⟩ : S57), (⟨t228, t229, t230, t231, t232⟩ : S57)].length cp280] (h := ?_); (with_reducible refine (reply_group.calls (fun k_ => (P_ k_ ∨ w.heap.size ≤ k_) ∧ k_ ≠ g1) 0 16 _ _ [(⟨t204, t205, t206, t207, t208⟩ : S57), (⟨t228, t229, t230, t231, t232⟩ : S57)] t283 t284 t285 t286 t287 _ (Kd.F_mono (ok := (fun k_ => (P_ k_ ∨ w.heap.size ≤ k_) ∧ k_ ≠ g1)) HF281.out (fun k_ hk_ => hk_)) HL282.out At288.out).mono ?_); rintro e w289 ⟨v290, rfl, hn290, hb⟩; refine ⟨_, rfl, ?_⟩)
 refine Stop.go ?_
 have hba := Kd.N_base hn290
 have HN290 := znl (ok2 := (fun k_ => (P_ k_ ∨ w.heap.size ≤ k_) ∧ k_ ≠ g1)) hn290 (below_size HB.out) (fun k_ hk_ => hk_.elim (fun h_ => h_) (fun h_ => ⟨.inr (Nat.le_trans (below_size HB.out) h_), Kd.freshB (g := g1) BKg1.out k_ h_⟩))
 replace BKg1 := zbb BKg1.out hb
 replace HB := zhb HB.out hb
 clear hn290 hba hb
 clear j4f j4g j4h j4i j4j j4k j4l j4m j4n j4o j4p j4q j4r j4s j4t j4u
 obtain ⟨j4H, j4I, j4J, j4K, j4L, j4M, j4N, j4O, j4P, j4Q, j4R, j4S, j4T, j4U, j4V, j4W⟩ := MB.lay8 BKg1.out
 refine wpList_nil ?_
 change wpAnyLast _ _ _ _ _ _ 6 #[true, true, true, true, true, true, true, true, false, false, false, false, false, false] ⟨[_, _, _, _, _, _, _, _, _, _, _, _, _, _, _, _, _, _, _].toArray, []⟩ _
 refine MW.last_fin (i := 8) (listed' := #[true, true, true, true, true, true, true, true, true, false, false, false, false, false]) rfl (by kernel_rfl) (by kernel_rfl) (by kernel_rfl) ?_
 obtain ⟨A307, cp308, he_⟩ := Kd.N_slice HN290.out
 subst he_
 have HL310 := Aside0.mk (Kd.N_reads' HN290.out).2.1
 have HF309 := Aside0.mk (Kd.N_F HN290.out)
 clear HN290
 go_wp2_with (((with_reducible refine gate_dst (N := 15) rfl ?_); (try (refine gate_guard (by rfl) ?_; dsimp only)); refine Kd.N_lit k57 w.heap.size 57 rfl (N' := 15) rfl (xs := [(⟨t283, t284, t285, t286, t287⟩ : S57)]) (inner := [.int .i64 t283, .bool t284, .int .i64 t285, .string t286, .slice A307 t287.length cp308]) (ok := (fun k_ => (P_ k_ ∨ w.heap.size ≤ k_) ∧ k_ ≠ g1)) (okp := (fun k_ => (P_ k_ ∨ w.heap.size ≤ k_) ∧ k_ ≠ g1)) ?hr ?hp (fun _ hk_ => hk_) ?hf HB.out (below_size HB.out) (by first | simp | decide) ?_; (case hr => first | (go_simp; done) | (go_simp; rfl)); (case hp => exact (Reps.c5 (k57_mkF _ _ (⟨t283, t284, t285, t286, t287⟩ : S57) HL310.out (Kd.F_mono (ok := (fun k_ => (P_ k_ ∨ w.heap.size ≤ k_) ∧ k_ ≠ g1)) HF309.out (fun k_ hk_ => hk_))) (Reps.none _ _))); (case hf => exact (show ∀ k_, w289.heap.size ≤ k_ → (fun k_ => (P_ k_ ∨ w.heap.size ≤ k_) ∧ k_ ≠ g1) k_ from fun k_ h_ => ⟨.inr (Nat.le_trans (below_size HB.out) h_), Kd.freshB (g := g1) BKg1.out k_ h_⟩) _ (Nat.le_refl _)); intro v311 w312 hn1 hb1 hg1 hat1); replace hat1 := Aside0.mk hat1; refine stop_ ?_)
 refine Stop.go ?_
 replace hat1 := hat1.out
 have hbe := MW.grown_below hg1
 have hba := MW.base_of hat1
 replace BKg1 := Aside0.mk (blk_below (g := g1) BKg1.out hbe)
 replace HB := Aside0.mk hb1
 have HN313 := Aside0.mk hn1
 clear hn1 hb1 hg1 hat1 hbe hba
 clear j4H j4I j4J j4K j4L j4M j4N j4O j4P j4Q j4R j4S j4T j4U j4V j4W
 obtain ⟨j54, j55, j56, j57, j58, j59, j5a, j5b, j5c, j5d, j5e, j5f, j5g, j5h, j5i, j5j⟩ := MB.lay8 BKg1.out
 refine wpList_nil ?_
 change wpAnyLast _ _ _ _ _ _ 5 #[true, true, true, true, true, true, true, true, true, false, false, false, false, false] ⟨[_, _, _, _, _, _, _, _, _, _, _, _, _, _, _, _, _, _, _].toArray, []⟩ _
 refine MW.last_fin (i := 9) (listed' := #[true, true, true, true, true, true, true, true, true, true, false, false, false, false]) rfl (by kernel_rfl) (by kernel_rfl) (by kernel_rfl) ?_
 obtain ⟨A330, cp331, he_⟩ := Kd.N_slice HN313.out
 subst he_
 have HL333 := Aside0.mk (Kd.N_reads' HN313.out).2.1
 have HF332 := Aside0.mk (Kd.N_F HN313.out)
 clear HN313
 replace HH := zd HH
 obtain ⟨⟨t334, t335⟩, At336, HH⟩ := HH
 dsimp only at HH
 go_wp2_with ((with_reducible refine gc 44 rfl ?_); refine zc 44 (some 16) Try.func44 #[.slice A330 [(⟨t283, t284, t285, t286, t287⟩ : S57)].length cp331] (h := ?_); (with_reducible refine (ber_Encode.calls k (fun k_ => (P_ k_ ∨ w.heap.size ≤ k_) ∧ k_ ≠ g1) _ _ [(⟨t283, t284, t285, t286, t287⟩ : S57)] t334 t335 _ (Kd.F_mono (ok := (fun k_ => (P_ k_ ∨ w.heap.size ≤ k_) ∧ k_ ≠ g1)) HF332.out (fun k_ hk_ => hk_)) HL333.out At336.out).mono ?_); rintro e w337 ⟨rfl, hb⟩; refine ⟨_, rfl, ?_⟩)
 refine Stop.go ?_
 replace BKg1 := zbb BKg1.out hb
 replace HB := zhb HB.out hb
 clear hb
 clear j54 j55 j56 j57 j58 j59 j5a j5b j5c j5d j5e j5f j5g j5h j5i j5j
 obtain ⟨j5s, j5t, j5u, j5v, j5w, j5x, j5y, j5z, j5A, j5B, j5C, j5D, j5E, j5F, j5G, j5H⟩ := MB.lay8 BKg1.out
 refine wpList_nil ?_
 change wpAnyLast _ _ _ _ _ _ 4 #[true, true, true, true, true, true, true, true, true, true, false, false, false, false] ⟨[_, _, _, _, _, _, _, _, _, _, _, _, _, _, _, _, _, _, _].toArray, []⟩ _
 refine MW.last_pure (i := 10) (v := .string t334) (listed' := #[true, true, true, true, true, true, true, true, true, true, true, false, false, false]) (a' := ⟨[_, _, _, _, _, _, _, _, _, _, _, _, _, _, _, _, _, _, _].toArray, []⟩) rfl (by kernel_rfl) (by kernel_rfl) (by kernel_rfl) (fun _ _ _ h_ => h_) (.inl ⟨(by kernel_rfl), fun _ => (by first | rfl | (go_simp; done) | (go_simp; rfl) | (go_simp; simp only [MW.isEmpty_beq, bne, Bool.not_not]; done))⟩) (by kernel_rfl) rfl ?_
 refine MW.last_pure (i := 11) (v := .int .i64 t335) (listed' := #[true, true, true, true, true, true, true, true, true, true, true, true, false, false]) (a' := ⟨[_, _, _, _, _, _, _, _, _, _, _, _, _, _, _, _, _, _, _].toArray, []⟩) rfl (by kernel_rfl) (by kernel_rfl) (by kernel_rfl) (fun _ _ _ h_ => h_) (.inl ⟨(by kernel_rfl), fun _ => (by first | rfl | (go_simp; done) | (go_simp; rfl) | (go_simp; simp only [MW.isEmpty_beq, bne, Bool.not_not]; done))⟩) (by kernel_rfl) rfl ?_
 refine MW.last_pure (i := 12) (v := .string t334) (listed' := #[true, true, true, true, true, true, true, true, true, true, true, true, true, false]) (a' := ⟨[_, _, _, _, _, _, _, _, _, _, _, _, _, _, _, _, _, _, _].toArray, []⟩) rfl (by kernel_rfl) (by kernel_rfl) (by kernel_rfl) (fun _ _ _ h_ => h_) (.inl ⟨(by kernel_rfl), fun _ => (by first | rfl | (go_simp; done) | (go_simp; rfl) | (go_simp; simp only [MW.isEmpty_beq, bne, Bool.not_not]; done))⟩) (by kernel_rfl) rfl ?_
 refine MW.last_pure (i := 13) (v := .int .i64 t335) (listed' := #[true, true, true, true, true, true, true, true, true, true, true, true, true, true]) (a' := ⟨[_, _, _, _, _, _, _, _, _, _, _, _, _, _, _, _, _, _, _].toArray, []⟩) rfl (by kernel_rfl) (by kernel_rfl) (by kernel_rfl) (fun _ _ _ h_ => h_) (.inl ⟨(by kernel_rfl), fun _ => (by first | rfl | (go_simp; done) | (go_simp; rfl) | (go_simp; simp only [MW.isEmpty_beq, bne, Bool.not_not]; done))⟩) (by kernel_rfl) rfl ?_
 refine MW.last_done (by kernel_rfl) ?_ _
 clear hwr_
 have H := HH.out
 simp only [Option.some.injEq, Prod.mk.injEq] at H
 obtain ⟨rfl, rfl⟩ := H
 clear HH
 go_wp2
 go_ret2
 exact ⟨by first | rfl | (simp; done) | (simp [*]; done), HB.out⟩
end Go.Proofs.Ytdjkemhmhkpmkaa.GA
