import Derived.Test.YtdjkemhmhkpmkaaGA0
import Derived.Test.YtdjkemhmhkpmkaaGM1
import Derived.Test.YtdjkemhmhkpmkaaGM2
import Derived.Test.YtdjkemhmhkpmkaaMX
namespace Go.Proofs.Ytdjkemhmhkpmkaa.GA
open Go.RowKit Go.Proofs.Ytdjkemhmhkpmkaa Go.Proofs.Ytdjkemhmhkpmkaa.MW Go.Proofs.YtdjkemhmhkpmkaaW.PrintWords Go.Proofs.YtdjkemhmhkpmkaaW.PrintLast Go.Proofs.YtdjkemhmhkpmkaaW.PrintMore
attribute [local go_sem] max2_int min2_int max_two min_two
set_option maxHeartbeats 8000000
set_option maxRecDepth 100000
set_option linter.unusedVariables false
set_option linter.unusedSimpArgs false
def toponymref27_element.l0 : Nat → (List (S57)) → Int → Int → ByteArray → (List (S46)) → Option (Int × Bool × Int × ByteArray × (List (S57)))
 | 0, _, _, _, _, _ => none
 | k + 1, x47, x50, a0_0, a0_6, l0_7 => if x50 < (l0_7.length : Int) then (if 0 ≤ x50 then ((toponymref26_Attribute.f k ((rd_T46 l0_7 x50).f0) ((rd_T46 l0_7 x50).f1)).bind fun bt77 => (if x47.length < 2199023255552 then ((some (x47 ++ [(⟨bt77.1, bt77.2.1, bt77.2.2.1, bt77.2.2.2.1, bt77.2.2.2.2⟩ : S57)] : List (S57))).bind fun y104 => ((toponymref27_element.l0 k y104 (wrap64 (x50 + 1)) a0_0 a0_6 l0_7))) else (none))) else (none)) else ((toponymref26_T.f a0_6).bind fun bt129 => ((toponymref26_G.f 0 16 x47).bind fun bt159 => ((toponymref26_G.f 1 4 [(⟨bt129.1, bt129.2.1, bt129.2.2.1, bt129.2.2.2.1, bt129.2.2.2.2⟩ : S57), (⟨bt159.1, bt159.2.1, bt159.2.2.1, bt159.2.2.2.1, bt159.2.2.2.2⟩ : S57)]).bind fun bt214 => ((toponymref26_I.f k 2 a0_0).bind fun bt278 => ((toponymref26_G.f 0 16 [(⟨bt278.1, bt278.2.1, bt278.2.2.1, bt278.2.2.2.1, bt278.2.2.2.2⟩ : S57), (⟨bt214.1, bt214.2.1, bt214.2.2.1, bt214.2.2.2.1, bt214.2.2.2.2⟩ : S57)]).bind fun bt333 => (some (bt333.1, bt333.2.1, bt333.2.2.1, bt333.2.2.2.1, bt333.2.2.2.2)))))))
def toponymref27_element.f (k : Nat) (a0_0 : Int) (a0_1 : Int) (a0_2 : Bool) (a0_3 : Int) (a0_4 : ByteArray) (a0_5 : ByteArray) (a0_6 : ByteArray) (l0_7 : List (S46)) : Option (Int × Bool × Int × ByteArray × (List (S57))) := if a0_2 = true then ((toponymref27_element.l0 k ([] : List (S57)) 0 a0_0 a0_6 l0_7)) else ((toponymref26_I.f k 10 a0_3).bind fun bt397 => ((toponymref26_T.f a0_4).bind fun bt423 => ((toponymref26_T.f a0_5).bind fun bt449 => (if (a0_6.size : Int) > 0 then (if [(⟨bt397.1, bt397.2.1, bt397.2.2.1, bt397.2.2.2.1, bt397.2.2.2.2⟩ : S57), (⟨bt423.1, bt423.2.1, bt423.2.2.1, bt423.2.2.2.1, bt423.2.2.2.2⟩ : S57), (⟨bt449.1, bt449.2.1, bt449.2.2.1, bt449.2.2.2.1, bt449.2.2.2.2⟩ : S57)].length < 2199023255552 then ((some ([(⟨bt397.1, bt397.2.1, bt397.2.2.1, bt397.2.2.2.1, bt397.2.2.2.2⟩ : S57), (⟨bt423.1, bt423.2.1, bt423.2.2.1, bt423.2.2.2.1, bt423.2.2.2.2⟩ : S57), (⟨bt449.1, bt449.2.1, bt449.2.2.1, bt449.2.2.2.1, bt449.2.2.2.2⟩ : S57)] ++ [(⟨2, false, 10, a0_6, ([] : List (S57))⟩ : S57)] : List (S57))).bind fun y512 => ((toponymref27_tag.f a0_1).bind fun t534 => ((toponymref26_G.f 1 t534 y512).bind fun bt559 => ((toponymref26_I.f k 2 a0_0).bind fun bt623 => ((toponymref26_G.f 0 16 [(⟨bt623.1, bt623.2.1, bt623.2.2.1, bt623.2.2.2.1, bt623.2.2.2.2⟩ : S57), (⟨bt559.1, bt559.2.1, bt559.2.2.1, bt559.2.2.2.1, bt559.2.2.2.2⟩ : S57)]).bind fun bt678 => (some (bt678.1, bt678.2.1, bt678.2.2.1, bt678.2.2.2.1, bt678.2.2.2.2))))))) else (none)) else ((toponymref27_tag.f a0_1).bind fun t725 => ((toponymref26_G.f 1 t725 [(⟨bt397.1, bt397.2.1, bt397.2.2.1, bt397.2.2.2.1, bt397.2.2.2.2⟩ : S57), (⟨bt423.1, bt423.2.1, bt423.2.2.1, bt423.2.2.2.1, bt423.2.2.2.2⟩ : S57), (⟨bt449.1, bt449.2.1, bt449.2.2.1, bt449.2.2.2.1, bt449.2.2.2.2⟩ : S57)]).bind fun bt750 => ((toponymref26_I.f k 2 a0_0).bind fun bt814 => ((toponymref26_G.f 0 16 [(⟨bt814.1, bt814.2.1, bt814.2.2.1, bt814.2.2.2.1, bt814.2.2.2.2⟩ : S57), (⟨bt750.1, bt750.2.1, bt750.2.2.1, bt750.2.2.2.1, bt750.2.2.2.2⟩ : S57)]).bind fun bt869 => (some (bt869.1, bt869.2.1, bt869.2.2.1, bt869.2.2.2.1, bt869.2.2.2.2))))))))))
theorem toponymref27_element.mono_l : ∀ k, (∀ y0 y1 y2 y3 y4, LeO (toponymref27_element.l0 k y0 y1 y2 y3 y4) (toponymref27_element.l0 (k + 1) y0 y1 y2 y3 y4))
 | 0 => fun _ _ _ _ _ r h => by simp [toponymref27_element.l0] at h
 | k + 1 => by
  have ih0 := toponymref27_element.mono_l k
  ·intro y0 y1 y2 y3 y4
   unfold toponymref27_element.l0
   with_reducible repeat' first | exact ih0 _ _ _ _ _ | exact toponymref26_Attribute.mono _ _ _ | exact toponymref26_I.mono _ _ _ | exact LeO.refl _ | exact LeO.none _ | refine LeO.ite ?_ ?_ | refine LeO.bind ?_ (fun _ => ?_)
theorem toponymref27_element.mono : ∀ a0_ a1_ a2_ a3_ a4_ a5_ a6_ a7_ k, LeO (toponymref27_element.f k a0_ a1_ a2_ a3_ a4_ a5_ a6_ a7_) (toponymref27_element.f (k + 1) a0_ a1_ a2_ a3_ a4_ a5_ a6_ a7_) := by
 intro a0_ a1_ a2_ a3_ a4_ a5_ a6_ a7_ k
 have ih0 := toponymref27_element.mono_l k
 unfold toponymref27_element.f
 with_reducible repeat' first | exact ih0 _ _ _ _ _ | exact toponymref26_Attribute.mono _ _ _ | exact toponymref26_I.mono _ _ _ | exact LeO.refl _ | exact LeO.none _ | refine LeO.ite ?_ ?_ | refine LeO.bind ?_ (fun _ => ?_)
theorem toponymref27_element.calls (k : Nat) (P_ : Nat → Prop) (a0_0 : Int) (a0_1 : Int) (a0_2 : Bool) (a0_3 : Int) (a0_4 : ByteArray) (a0_5 : ByteArray) (a0_6 : ByteArray) (A0_7 : Option Addr) (c0_7 : Nat) (l0_7 : List (S46)) (r1 : Int) (r2 : Bool) (r3 : Int) (r4 : ByteArray) (r5 : List (S57)) (w : World) (hs0_7 : Kd.F k46 w P_ A0_7 l0_7.length l0_7) (hc0_7 : l0_7.length ≤ c0_7) (h : toponymref27_element.f k a0_0 a0_1 a0_2 a0_3 a0_4 a0_5 a0_6 l0_7 = some (r1, r2, r3, r4, r5)) :
  Calls Try.prog 48 #[.agg #[.int .i64 a0_0, .int .i64 a0_1, .bool a0_2, .int .i64 a0_3, .string a0_4, .string a0_5, .string a0_6, .slice A0_7 l0_7.length c0_7]] w (fun e w' => ∃ (A4_ : Option Addr) (c4_ : Nat), e = .returned (.agg #[.int .i64 r1, .bool r2, .int .i64 r3, .string r4, .slice A4_ r5.length c4_]) ∧ r5.length ≤ c4_ ∧ Kd.F k57 w' (fun k_ => P_ k_ ∨ w.heap.size ≤ k_) A4_ r5.length r5 ∧ Below w.heap.size w w') := by
 unfold toponymref27_element.f at h
 have HH := za h
 clear h
 have HF0_7 := zfp hs0_7
 clear hs0_7 hc0_7
 have HB := za (Below.refl w.heap.size w)
 have hu27 := Try.underlying27
 have hu46 := Try.underlying46
 have hu57 := Try.underlying57
 go_enter Try.func48, Try.ntmps48
 go_wp2_with ((with_reducible refine gd 1 rfl ?_); refine zb 1 27 #[.int .i64 a0_0, .int .i64 a0_1, .bool a0_2, .int .i64 a0_3, .string a0_4, .string a0_5, .string a0_6, .slice A0_7 l0_7.length c0_7] (h := ?_); intro g1 hg w2 BKg1 hb)
 refine zg ?_
 replace HF0_7 := zfe HF0_7.out hg hb
 replace HB := zhb HB.out hb
 clear hg hb
 obtain ⟨j3, j4, j5, j6, j7, j8, j9, ja⟩ := MB.lz8 BKg1.out
 go_wp2_with ((with_reducible refine gd 2 rfl ?_); refine zb 2 57 #[.int .i64 0, .bool false, .int .i64 0, .string (⟨#[]⟩ : ByteArray), .slice none 0 0] (h := ?_); intro g11 hg w12 BKg11 hb)
 refine zg ?_
 have GEg11 := zge hg (below_size HB.out)
 have NEg1_g11 := znq hg BKg1.out
 replace HF0_7 := zfe HF0_7.out hg hb
 replace BKg1 := zbb BKg1.out hb
 replace HB := zhb HB.out hb
 clear hg hb
 clear j3 j4 j5 j6 j7 j8 j9 ja
 obtain ⟨jd, je, jf, jg, jh, ji, jj, jk⟩ := MB.lz8 BKg1.out
 obtain ⟨jl, jm, jn, jo, jp⟩ := MB.lz5 BKg11.out
 go_wp2_with ((with_reducible refine gd 3 rfl ?_); refine zb 3 57 #[.int .i64 0, .bool false, .int .i64 0, .string (⟨#[]⟩ : ByteArray), .slice none 0 0] (h := ?_); intro g26 hg w27 BKg26 hb)
 refine zg ?_
 have GEg26 := zge hg (below_size HB.out)
 have NEg1_g26 := znq hg BKg1.out
 have NEg11_g26 := znq hg BKg11.out
 have NEg26_g11 := zsy NEg11_g26
 replace HF0_7 := zfe HF0_7.out hg hb
 replace BKg1 := zbb BKg1.out hb
 replace BKg11 := zbb BKg11.out hb
 replace HB := zhb HB.out hb
 clear hg hb
 clear jd je jf jg jh ji jj jk jl jm jn jo jp
 obtain ⟨js, jt, ju, jv, jw, jx, jy, jz⟩ := MB.lz8 BKg1.out
 obtain ⟨jA, jB, jC, jD, jE⟩ := MB.lz5 BKg11.out
 obtain ⟨jF, jG, jH, jI, jJ⟩ := MB.lz5 BKg26.out
 by_cases c46 : a0_2 = true
 ·replace HH := MW.hpos HH c46
  subst c46
  go_wp2
  go_loopg [4, 5] k (fun kq u4 u5 w' => ∃ (x47 : List (S57)) (x50 : Int), u5 = .int .i64 x50 ∧ Aside0 ((toponymref27_element.l0 kq x47 x50 a0_0 a0_6 l0_7) = some (r1, r2, r3, r4, r5)) ∧ Aside0 (kq ≤ k) ∧ Aside0 (Kd.F k46 w' (fun k_ => ((((P_ k_ ∨ w.heap.size ≤ k_) ∧ some k_ ≠ (u4 : Value).ownBlock) ∧ k_ ≠ g1) ∧ k_ ≠ g11) ∧ k_ ≠ g26) A0_7 l0_7.length l0_7) ∧ Aside0 (Kd.N k57 57 w' w.heap.size (fun k_ => (((P_ k_ ∨ w.heap.size ≤ k_) ∧ k_ ≠ g1) ∧ k_ ≠ g11) ∧ k_ ≠ g26) u4 x47) ∧ Aside0 (w'.heap[g1]? = some (.cells #[.int .i64 a0_0, .int .i64 a0_1, .bool true, .int .i64 a0_3, .string a0_4, .string a0_5, .string a0_6, .slice A0_7 l0_7.length c0_7] 27 (0, 0))) ∧ Aside0 (w'.heap[g11]? = some (.cells #[.int .i64 0, .bool false, .int .i64 0, .string (⟨#[]⟩ : ByteArray), .slice none 0 0] 57 (0, 0))) ∧ Aside0 (w'.heap[g26]? = some (.cells #[.int .i64 0, .bool false, .int .i64 0, .string (⟨#[]⟩ : ByteArray), .slice none 0 0] 57 (0, 0))) ∧ Aside0 (Below w.heap.size w w'))
  case atStart => exact ⟨([] : List (S57)), 0, (by first | rfl | (simp; done) | (simp [*]; done)), HH, ⟨Nat.le_refl _⟩, ⟨(Kd.F_mono (ok := (fun k_ => (((P_ k_ ∨ w.heap.size ≤ k_) ∧ k_ ≠ g1) ∧ k_ ≠ g11) ∧ k_ ≠ g26)) HF0_7.out (fun k_ hk_ => ⟨⟨⟨⟨hk_.1.1.1, (by simp [Value.ownBlock])⟩, hk_.1.1.2⟩, hk_.1.2⟩, hk_.2⟩))⟩, ⟨Kd.N_nil _ _ _ _ _⟩, ⟨BKg1.out⟩, ⟨BKg11.out⟩, ⟨BKg26.out⟩, ⟨HB.out⟩⟩
  case round =>
   clear js jt ju jv jw jx jy jz jA jB jC jD jE jF jG jH jI jJ
   clear HH
   clear HF0_7 BKg1 BKg11 BKg26 HB
   obtain ⟨x47, x50, rfl, HA, HK0, HF0_7, HN49, BKg1, BKg11, BKg26, HB⟩ := hrel
   obtain ⟨v48, rfl⟩ : ∃ z_ : Value, z_ = u4 := ⟨_, rfl⟩
   obtain ⟨w52, rfl⟩ : ∃ wo_ : World, wo_ = wr := ⟨_, rfl⟩
   cases gk with
   | zero => exact absurd HA.out (by simp [toponymref27_element.l0])
   | succ k51 =>
    have H := HA.out
    clear HA
    simp only [toponymref27_element.l0] at H
    have HH := za H
    clear H
    obtain ⟨jR, jS, jT, jU, jV, jW, jX, jY⟩ := MB.lz8 BKg1.out
    obtain ⟨jZ, j10, j11, j12, j13⟩ := MB.lz5 BKg11.out
    obtain ⟨j14, j15, j16, j17, j18⟩ := MB.lz5 BKg26.out
    replace HH := zqt HH
    rcases HH with ⟨HH, hk72, hk73⟩ | ⟨HH, hk127, hk128⟩
    ·replace HH := zqdo HH
     obtain ⟨HH, hk75⟩ := HH
     have p76 : 0 ≤ (x50 : Int) := of_decide_eq_true (by first | (with_reducible assumption) | assumption)
     have q76 : x50 < (l0_7.length : Int) := of_decide_eq_true (by first | (with_reducible assumption) | assumption)
     obtain ⟨ad76, A76_1, c76_1, e76, hx76_0, hx76_1, hl76_1, hi76_1⟩ := atF_T46 HF0_7.out x50 p76 q76
     cases e76
     have HF76_1 := za hi76_1
     have HL76_1 := za hl76_1
     clear hi76_1 hl76_1
     replace p76 := eq_true p76
     replace q76 := eq_true q76
     replace HH := zd HH
     obtain ⟨⟨t77, t78, t79, t80, t81⟩, At82, HH⟩ := HH
     dsimp only at HH
     go_wp2_with ((with_reducible refine gc 69 rfl ?_); refine zc 69 (some 22) Try.func69 #[.agg #[.string ((rd_T46 l0_7 x50).f0), .slice A76_1 ((rd_T46 l0_7 x50).f1).length c76_1]] (h := ?_); (with_reducible refine (toponymref26_Attribute.calls k51 (fun k_ => ((((P_ k_ ∨ w.heap.size ≤ k_) ∧ some k_ ≠ (v48 : Value).ownBlock) ∧ k_ ≠ g1) ∧ k_ ≠ g11) ∧ k_ ≠ g26) ((rd_T46 l0_7 x50).f0) _ _ ((rd_T46 l0_7 x50).f1) t77 t78 t79 t80 t81 _ (Kd.F_mono (ok := (fun k_ => ((((P_ k_ ∨ w.heap.size ≤ k_) ∧ some k_ ≠ (v48 : Value).ownBlock) ∧ k_ ≠ g1) ∧ k_ ≠ g11) ∧ k_ ≠ g26)) HF76_1.out (fun k_ hk_ => hk_)) HL76_1.out At82.out).mono ?_); rintro e w83 ⟨A84, cp84, rfl, hl84, hn84, hb⟩; refine ⟨_, rfl, ?_⟩)
     refine zg ?_
     have HL84 := za hl84
     have HF84 := za (Kd.F_mono hn84 (fun k_ hk_ => hk_.elim (fun h_ => h_) (fun h_ => ⟨⟨⟨⟨.inr (Nat.le_trans (below_size HB.out) h_), Kd.fresh' (Kd.N_lt HN49.out) k_ h_⟩, Kd.freshB (g := g1) BKg1.out k_ h_⟩, Kd.freshB (g := g11) BKg11.out k_ h_⟩, Kd.freshB (g := g26) BKg26.out k_ h_⟩)) : Kd.F k57 _ (fun k_ => ((((P_ k_ ∨ w.heap.size ≤ k_) ∧ some k_ ≠ (v48 : Value).ownBlock) ∧ k_ ≠ g1) ∧ k_ ≠ g11) ∧ k_ ≠ g26) _ _ _)
     clear hn84 hl84
     replace HF0_7 := zfb HF0_7.out hb
     replace HN49 := znb HN49.out hb
     replace BKg1 := zbb BKg1.out hb
     replace BKg11 := zbb BKg11.out hb
     replace BKg26 := zbb BKg26.out hb
     replace HB := zhb HB.out hb
     clear hb
     clear jR jS jT jU jV jW jX jY jZ j10 j11 j12 j13 j14 j15 j16 j17 j18 hx76_0 hx76_1 p76 q76
     obtain ⟨j1n, j1o, j1p, j1q, j1r, j1s, j1t, j1u⟩ := MB.lz8 BKg1.out
     obtain ⟨j1v, j1w, j1x, j1y, j1z⟩ := MB.lz5 BKg11.out
     obtain ⟨j1A, j1B, j1C, j1D, j1E⟩ := MB.lz5 BKg26.out
     obtain ⟨HH, LMc103⟩ := zlm HH
     obtain ⟨y104, hy104⟩ : ∃ y_ : List (S57), y_ = (x47 ++ [(⟨t77, t78, t79, t80, t81⟩ : S57)]) := ⟨_, rfl⟩
     have H : ((toponymref27_element.l0 k51 y104 (wrap64 (x50 + 1)) a0_0 a0_6 l0_7)) = some (r1, r2, r3, r4, r5) := by rw [hy104]; exact HH.out
     replace HH := za H
     clear H
     have NYy104 := za hy104
     clear hy104
     go_wp2_with (((with_reducible refine gate_dst (N := 24) rfl ?_); (try (refine gate_guard (by rfl) ?_; dsimp only)); refine Kd.N_append k57 w.heap.size rfl _ _ 55 57 (.agg #[(.int .i64 0), (.bool false), (.int .i64 0), (.string ⟨#[]⟩), (.slice none 0 0)]) 64 rfl Try.underlying55 info57 rfl (by decide) (by decide) (v48) x47 (⟨t77, t78, t79, t80, t81⟩ : S57) [.int .i64 t77, .bool t78, .int .i64 t79, .string t80, .slice A84 t81.length cp84] (fun k_ => (((P_ k_ ∨ w.heap.size ≤ k_) ∧ k_ ≠ g1) ∧ k_ ≠ g11) ∧ k_ ≠ g26) (fun k_ => (fun k_ => (((P_ k_ ∨ w.heap.size ≤ k_) ∧ k_ ≠ g1) ∧ k_ ≠ g11) ∧ k_ ≠ g26) k_ ∧ some k_ ≠ (v48 : Value).ownBlock) rfl rfl (k57_mkF _ _ (⟨t77, t78, t79, t80, t81⟩ : S57) HL84.out (Kd.F_mono (ok := (fun k_ => ((((P_ k_ ∨ w.heap.size ≤ k_) ∧ some k_ ≠ (v48 : Value).ownBlock) ∧ k_ ≠ g1) ∧ k_ ≠ g11) ∧ k_ ≠ g26)) (by (with_reducible repeat (first | apply Kd.F_alloc | apply Kd.F_drewN | apply Kd.F_drew)); exact HF84.out) (fun k_ hk_ => ⟨⟨⟨⟨hk_.1.1.1.1, hk_.1.1.2⟩, hk_.1.2⟩, hk_.2⟩, hk_.1.1.1.2⟩))) (fun _ hk_ => hk_) (fun k_ h_ => ⟨⟨⟨.inr (Nat.le_trans (below_size (by repeat (first | (with_reducible first | exact HB.out | apply below_alloc | apply pw_below_drewN | apply below_drew1) | exact HB.out))) h_), Kd.freshB (g := g1) (o := .cells #[.int .i64 a0_0, .int .i64 a0_1, .bool true, .int .i64 a0_3, .string a0_4, .string a0_5, .string a0_6, .slice (some ad76) l0_7.length c0_7] 27 (0, 0)) (by (with_reducible repeat (first | refine blk_drewN ?_ _ | refine blk_drew ?_ | refine blk_alloc ?_ _)); exact BKg1.out) k_ h_⟩, Kd.freshB (g := g11) (o := .cells #[.int .i64 0, .bool false, .int .i64 0, .string (⟨#[]⟩ : ByteArray), .slice none 0 0] 57 (0, 0)) (by (with_reducible repeat (first | refine blk_drewN ?_ _ | refine blk_drew ?_ | refine blk_alloc ?_ _)); exact BKg11.out) k_ h_⟩, Kd.freshB (g := g26) (o := .cells #[.int .i64 0, .bool false, .int .i64 0, .string (⟨#[]⟩ : ByteArray), .slice none 0 0] 57 (0, 0)) (by (with_reducible repeat (first | refine blk_drewN ?_ _ | refine blk_drew ?_ | refine blk_alloc ?_ _)); exact BKg26.out) k_ h_⟩) (by (with_reducible repeat (first | apply Kd.N_alloc | apply Kd.N_drewN | apply Kd.N_drew)); exact HN49.out) (by repeat (first | (with_reducible first | exact HB.out | apply below_alloc | apply pw_below_drewN | apply below_drew1) | exact HB.out)) (below_size (by repeat (first | (with_reducible first | exact HB.out | apply below_alloc | apply pw_below_drewN | apply below_drew1) | exact HB.out))) (by first | (have := LMc103.out; omega) | (have := LMc103.out; simp at *; omega)) ?_; intro v105 w106 hn1 hb1 hg1 hat1); replace hat1 := za hat1; refine stop_ ?_)
     refine zg ?_
     replace hat1 := hat1.out
     replace HF0_7 := za (Kd.F_mono (Kd.F_after (v := v48) (ok := (fun k_ => (((P_ k_ ∨ w.heap.size ≤ k_) ∧ k_ ≠ g1) ∧ k_ ≠ g11) ∧ k_ ≠ g26)) (Kd.F_mono (ok := (fun k_ => ((((P_ k_ ∨ w.heap.size ≤ k_) ∧ some k_ ≠ (v48 : Value).ownBlock) ∧ k_ ≠ g1) ∧ k_ ≠ g11) ∧ k_ ≠ g26)) (by (with_reducible repeat (first | apply Kd.F_alloc | apply Kd.F_drewN | apply Kd.F_drew)); exact HF0_7.out) (fun k_ hk_ => ⟨⟨⟨⟨hk_.1.1.1.1, hk_.1.1.2⟩, hk_.1.2⟩, hk_.2⟩, hk_.1.1.1.2⟩)) hg1 hat1) (fun k_ hk_ => hk_) : Kd.F k46 _ (fun k_ => ((((P_ k_ ∨ w.heap.size ≤ k_) ∧ k_ ≠ g1) ∧ k_ ≠ g11) ∧ k_ ≠ g26) ∧ some k_ ≠ (v105 : Value).ownBlock) _ _ _)
     replace BKg1 := za (blk_grown (g := g1) (o := .cells #[.int .i64 a0_0, .int .i64 a0_1, .bool true, .int .i64 a0_3, .string a0_4, .string a0_5, .string a0_6, .slice (some ad76) l0_7.length c0_7] 27 (0, 0)) (by (with_reducible repeat (first | refine blk_drewN ?_ _ | refine blk_drew ?_ | refine blk_alloc ?_ _)); exact BKg1.out) hg1 (Kd.N_away (ok := (fun k_ => (((P_ k_ ∨ w.heap.size ≤ k_) ∧ k_ ≠ g1) ∧ k_ ≠ g11) ∧ k_ ≠ g26)) HN49.out (fun k_ hk_ => hk_.1.1.2)))
     replace BKg11 := za (blk_grown (g := g11) (o := .cells #[.int .i64 0, .bool false, .int .i64 0, .string (⟨#[]⟩ : ByteArray), .slice none 0 0] 57 (0, 0)) (by (with_reducible repeat (first | refine blk_drewN ?_ _ | refine blk_drew ?_ | refine blk_alloc ?_ _)); exact BKg11.out) hg1 (Kd.N_away (ok := (fun k_ => (((P_ k_ ∨ w.heap.size ≤ k_) ∧ k_ ≠ g1) ∧ k_ ≠ g11) ∧ k_ ≠ g26)) HN49.out (fun k_ hk_ => hk_.1.2)))
     replace BKg26 := za (blk_grown (g := g26) (o := .cells #[.int .i64 0, .bool false, .int .i64 0, .string (⟨#[]⟩ : ByteArray), .slice none 0 0] 57 (0, 0)) (by (with_reducible repeat (first | refine blk_drewN ?_ _ | refine blk_drew ?_ | refine blk_alloc ?_ _)); exact BKg26.out) hg1 (Kd.N_away (ok := (fun k_ => (((P_ k_ ∨ w.heap.size ≤ k_) ∧ k_ ≠ g1) ∧ k_ ≠ g11) ∧ k_ ≠ g26)) HN49.out (fun k_ hk_ => hk_.2)))
     replace HB := za hb1
     clear HN49
     have HN107 := za hn1
     clear hn1 hb1 hg1 hat1
     replace HN107 := za (by rw [NYy104.out]; exact HN107.out : Kd.N k57 57 w106 w.heap.size (fun k_ => (((P_ k_ ∨ w.heap.size ≤ k_) ∧ k_ ≠ g1) ∧ k_ ≠ g11) ∧ k_ ≠ g26) v105 y104)
     clear j1n j1o j1p j1q j1r j1s j1t j1u j1v j1w j1x j1y j1z j1A j1B j1C j1D j1E
     obtain ⟨j1K, j1L, j1M, j1N, j1O, j1P, j1Q, j1R⟩ := MB.lz8 BKg1.out
     obtain ⟨j1S, j1T, j1U, j1V, j1W⟩ := MB.lz5 BKg11.out
     obtain ⟨j1X, j1Y, j1Z, j20, j21⟩ := MB.lz5 BKg26.out
     go_wp2
     go_roundg k51
     case measure => have := HK0.out; omega
     case rel => exact ⟨y104, wrap64 (x50 + 1), (by first | rfl | (simp; done) | (simp [*]; done)), HH, ⟨by have := HK0.out; omega⟩, ⟨(Kd.F_mono (ok := (fun k_ => ((((P_ k_ ∨ w.heap.size ≤ k_) ∧ k_ ≠ g1) ∧ k_ ≠ g11) ∧ k_ ≠ g26) ∧ some k_ ≠ (v105 : Value).ownBlock)) HF0_7.out (fun k_ hk_ => ⟨⟨⟨⟨hk_.1.1.1.1, hk_.2⟩, hk_.1.1.1.2⟩, hk_.1.1.2⟩, hk_.1.2⟩))⟩, ⟨(Kd.N_mono (ok := (fun k_ => (((P_ k_ ∨ w.heap.size ≤ k_) ∧ k_ ≠ g1) ∧ k_ ≠ g11) ∧ k_ ≠ g26)) HN107.out (fun k_ hk_ => hk_))⟩, ⟨BKg1.out⟩, ⟨BKg11.out⟩, ⟨BKg26.out⟩, ⟨HB.out⟩⟩
    replace HH := zd HH
    obtain ⟨⟨t129, t130, t131, t132, t133⟩, At134, HH⟩ := HH
    dsimp only at HH
    go_wp2_with ((with_reducible refine gc 71 rfl ?_); refine zc 71 (some 27) Try.func71 #[.string a0_6] (h := ?_); (with_reducible refine (toponymref26_T.calls  a0_6 t129 t130 t131 t132 t133 _  At134.out).mono ?_); rintro e w135 ⟨v136, rfl, hn136, hb⟩; refine ⟨_, rfl, ?_⟩)
    refine zg ?_
    have hba := Kd.N_base hn136
    have HN136 := znl (ok2 := (fun k_ => ((((P_ k_ ∨ w.heap.size ≤ k_) ∧ some k_ ≠ (v48 : Value).ownBlock) ∧ k_ ≠ g1) ∧ k_ ≠ g11) ∧ k_ ≠ g26)) hn136 (below_size HB.out) (fun k_ h_ => ⟨⟨⟨⟨.inr (Nat.le_trans (below_size HB.out) h_), Kd.fresh' (Kd.N_lt HN49.out) k_ h_⟩, Kd.freshB (g := g1) BKg1.out k_ h_⟩, Kd.freshB (g := g11) BKg11.out k_ h_⟩, Kd.freshB (g := g26) BKg26.out k_ h_⟩)
    replace HN49 := znr (u := v136) HN49.out hba hb
    replace BKg1 := zbb BKg1.out hb
    replace BKg11 := zbb BKg11.out hb
    replace BKg26 := zbb BKg26.out hb
    replace HB := zhb HB.out hb
    clear hn136 hba hb
    clear jR jS jT jU jV jW jX jY jZ j10 j11 j12 j13 j14 j15 j16 j17 j18
    obtain ⟨j2d, j2e, j2f, j2g, j2h, j2i, j2j, j2k⟩ := MB.lz8 BKg1.out
    obtain ⟨j2l, j2m, j2n, j2o, j2p⟩ := MB.lz5 BKg11.out
    obtain ⟨j2q, j2r, j2s, j2t, j2u⟩ := MB.lz5 BKg26.out
    obtain ⟨A155, cp156, he_⟩ := Kd.N_slice HN49.out
    subst he_
    have HL158 := za (Kd.N_reads' HN49.out).2.1
    have HF157 := za (Kd.N_F HN49.out)
    clear HN49
    replace HN136 := za (Kd.N_mono (ok := (fun k_ => ((((P_ k_ ∨ w.heap.size ≤ k_) ∧ some k_ ≠ ((.slice A155 x47.length cp156) : Value).ownBlock) ∧ k_ ≠ g1) ∧ k_ ≠ g11) ∧ k_ ≠ g26)) HN136.out (fun k_ hk_ => ⟨⟨⟨hk_.1.1.1.1, hk_.1.1.2⟩, hk_.1.2⟩, hk_.2⟩) : Kd.N k57 _ _ _ (fun k_ => (((P_ k_ ∨ w.heap.size ≤ k_) ∧ k_ ≠ g1) ∧ k_ ≠ g11) ∧ k_ ≠ g26) _ _)
    replace HH := zd HH
    obtain ⟨⟨t159, t160, t161, t162, t163⟩, At164, HH⟩ := HH
    dsimp only at HH
    go_wp2_with ((with_reducible refine gc 70 rfl ?_); refine zc 70 (some 29) Try.func70 #[.int .i64 0, .int .i64 16, .slice A155 x47.length cp156] (h := ?_); (with_reducible refine (toponymref26_G.calls (fun k_ => ((((P_ k_ ∨ w.heap.size ≤ k_) ∧ some k_ ≠ (v136 : Value).ownBlock) ∧ k_ ≠ g1) ∧ k_ ≠ g11) ∧ k_ ≠ g26) 0 16 _ _ x47 t159 t160 t161 t162 t163 _ (Kd.F_mono (ok := (fun k_ => ((((P_ k_ ∨ w.heap.size ≤ k_) ∧ k_ ≠ g1) ∧ k_ ≠ g11) ∧ k_ ≠ g26) ∧ some k_ ≠ (v136 : Value).ownBlock)) HF157.out (fun k_ hk_ => ⟨⟨⟨⟨hk_.1.1.1.1, hk_.2⟩, hk_.1.1.1.2⟩, hk_.1.1.2⟩, hk_.1.2⟩)) HL158.out At164.out).mono ?_); rintro e w165 ⟨A166, cp166, rfl, hl166, hn166, hb⟩; refine ⟨_, rfl, ?_⟩)
    refine zg ?_
    have HL166 := za hl166
    have HF166 := za (Kd.F_mono hn166 (fun k_ hk_ => hk_.elim (fun h_ => h_) (fun h_ => ⟨⟨⟨⟨.inr (Nat.le_trans (below_size HB.out) h_), Kd.fresh' (Kd.N_lt HN136.out) k_ h_⟩, Kd.freshB (g := g1) BKg1.out k_ h_⟩, Kd.freshB (g := g11) BKg11.out k_ h_⟩, Kd.freshB (g := g26) BKg26.out k_ h_⟩)) : Kd.F k57 _ (fun k_ => ((((P_ k_ ∨ w.heap.size ≤ k_) ∧ some k_ ≠ (v136 : Value).ownBlock) ∧ k_ ≠ g1) ∧ k_ ≠ g11) ∧ k_ ≠ g26) _ _ _)
    clear hn166 hl166
    replace HN136 := znb HN136.out hb
    replace BKg1 := zbb BKg1.out hb
    replace BKg11 := zbb BKg11.out hb
    replace BKg26 := zbb BKg26.out hb
    replace HB := zhb HB.out hb
    clear hb
    clear j2d j2e j2f j2g j2h j2i j2j j2k j2l j2m j2n j2o j2p j2q j2r j2s j2t j2u
    obtain ⟨j2H, j2I, j2J, j2K, j2L, j2M, j2N, j2O⟩ := MB.lz8 BKg1.out
    obtain ⟨j2P, j2Q, j2R, j2S, j2T⟩ := MB.lz5 BKg11.out
    obtain ⟨j2U, j2V, j2W, j2X, j2Y⟩ := MB.lz5 BKg26.out
    obtain ⟨A185, cp186, he_⟩ := Kd.N_slice HN136.out
    subst he_
    have HL188 := za (Kd.N_reads' HN136.out).2.1
    have HF187 := za (Kd.N_F HN136.out)
    clear HN136
    replace HF166 := za (Kd.F_mono (ok := (fun k_ => ((((P_ k_ ∨ w.heap.size ≤ k_) ∧ some k_ ≠ ((.slice A185 t133.length cp186) : Value).ownBlock) ∧ k_ ≠ g1) ∧ k_ ≠ g11) ∧ k_ ≠ g26)) HF166.out (fun k_ hk_ => ⟨⟨⟨hk_.1.1.1.1, hk_.1.1.2⟩, hk_.1.2⟩, hk_.2⟩) : Kd.F k57 _ (fun k_ => (((P_ k_ ∨ w.heap.size ≤ k_) ∧ k_ ≠ g1) ∧ k_ ≠ g11) ∧ k_ ≠ g26) _ _ _)
    go_wp2_with (((with_reducible refine gate_dst (N := 30) rfl ?_); (try (refine gate_guard (by rfl) ?_; dsimp only)); refine Kd.N_lit k57 w.heap.size 57 rfl (N' := 30) rfl (xs := [(⟨t129, t130, t131, t132, t133⟩ : S57), (⟨t159, t160, t161, t162, t163⟩ : S57)]) (inner := [.int .i64 t129, .bool t130, .int .i64 t131, .string t132, .slice A185 t133.length cp186, .int .i64 t159, .bool t160, .int .i64 t161, .string t162, .slice A166 t163.length cp166]) (ok := (fun k_ => (((P_ k_ ∨ w.heap.size ≤ k_) ∧ k_ ≠ g1) ∧ k_ ≠ g11) ∧ k_ ≠ g26)) (okp := (fun k_ => (((P_ k_ ∨ w.heap.size ≤ k_) ∧ k_ ≠ g1) ∧ k_ ≠ g11) ∧ k_ ≠ g26)) ?hr ?hp (fun _ hk_ => hk_) ?hf HB.out (below_size HB.out) (by first | simp | decide) ?_; (case hr => first | (go_simp; done) | (go_simp; rfl)); (case hp => exact (Reps.c5 (k57_mkF _ _ (⟨t129, t130, t131, t132, t133⟩ : S57) HL188.out (Kd.F_mono (ok := (fun k_ => (((P_ k_ ∨ w.heap.size ≤ k_) ∧ k_ ≠ g1) ∧ k_ ≠ g11) ∧ k_ ≠ g26)) HF187.out (fun k_ hk_ => hk_))) (Reps.c5 (k57_mkF _ _ (⟨t159, t160, t161, t162, t163⟩ : S57) HL166.out (Kd.F_mono (ok := (fun k_ => (((P_ k_ ∨ w.heap.size ≤ k_) ∧ k_ ≠ g1) ∧ k_ ≠ g11) ∧ k_ ≠ g26)) HF166.out (fun k_ hk_ => hk_))) (Reps.none _ _)))); (case hf => exact (show ∀ k_, w165.heap.size ≤ k_ → (fun k_ => (((P_ k_ ∨ w.heap.size ≤ k_) ∧ k_ ≠ g1) ∧ k_ ≠ g11) ∧ k_ ≠ g26) k_ from fun k_ h_ => ⟨⟨⟨.inr (Nat.le_trans (below_size HB.out) h_), Kd.freshB (g := g1) BKg1.out k_ h_⟩, Kd.freshB (g := g11) BKg11.out k_ h_⟩, Kd.freshB (g := g26) BKg26.out k_ h_⟩) _ (Nat.le_refl _)); intro v189 w190 hn1 hb1 hg1 hat1); replace hat1 := za hat1; refine stop_ ?_)
    refine zg ?_
    replace hat1 := hat1.out
    have hbe := MW.grown_below hg1
    have hba := MW.base_of hat1
    replace BKg1 := za (blk_below (g := g1) BKg1.out hbe)
    replace BKg11 := za (blk_below (g := g11) BKg11.out hbe)
    replace BKg26 := za (blk_below (g := g26) BKg26.out hbe)
    replace HB := za hb1
    have HN191 := za hn1
    clear hn1 hb1 hg1 hat1 hbe hba
    clear j2H j2I j2J j2K j2L j2M j2N j2O j2P j2Q j2R j2S j2T j2U j2V j2W j2X j2Y
    obtain ⟨j36, j37, j38, j39, j3a, j3b, j3c, j3d⟩ := MB.lz8 BKg1.out
    obtain ⟨j3e, j3f, j3g, j3h, j3i⟩ := MB.lz5 BKg11.out
    obtain ⟨j3j, j3k, j3l, j3m, j3n⟩ := MB.lz5 BKg26.out
    obtain ⟨A210, cp211, he_⟩ := Kd.N_slice HN191.out
    subst he_
    have HL213 := za (Kd.N_reads' HN191.out).2.1
    have HF212 := za (Kd.N_F HN191.out)
    clear HN191
    replace HH := zd HH
    obtain ⟨⟨t214, t215, t216, t217, t218⟩, At219, HH⟩ := HH
    dsimp only at HH
    go_wp2_with ((with_reducible refine gc 70 rfl ?_); refine zc 70 (some 31) Try.func70 #[.int .i64 1, .int .i64 4, .slice A210 [(⟨t129, t130, t131, t132, t133⟩ : S57), (⟨t159, t160, t161, t162, t163⟩ : S57)].length cp211] (h := ?_); (with_reducible refine (toponymref26_G.calls (fun k_ => (((P_ k_ ∨ w.heap.size ≤ k_) ∧ k_ ≠ g1) ∧ k_ ≠ g11) ∧ k_ ≠ g26) 1 4 _ _ [(⟨t129, t130, t131, t132, t133⟩ : S57), (⟨t159, t160, t161, t162, t163⟩ : S57)] t214 t215 t216 t217 t218 _ (Kd.F_mono (ok := (fun k_ => (((P_ k_ ∨ w.heap.size ≤ k_) ∧ k_ ≠ g1) ∧ k_ ≠ g11) ∧ k_ ≠ g26)) HF212.out (fun k_ hk_ => hk_)) HL213.out At219.out).mono ?_); rintro e w220 ⟨A221, cp221, rfl, hl221, hn221, hb⟩; refine ⟨_, rfl, ?_⟩)
    refine zg ?_
    have HL221 := za hl221
    have HF221 := za (Kd.F_mono hn221 (fun k_ hk_ => hk_.elim (fun h_ => h_) (fun h_ => ⟨⟨⟨.inr (Nat.le_trans (below_size HB.out) h_), Kd.freshB (g := g1) BKg1.out k_ h_⟩, Kd.freshB (g := g11) BKg11.out k_ h_⟩, Kd.freshB (g := g26) BKg26.out k_ h_⟩)) : Kd.F k57 _ (fun k_ => (((P_ k_ ∨ w.heap.size ≤ k_) ∧ k_ ≠ g1) ∧ k_ ≠ g11) ∧ k_ ≠ g26) _ _ _)
    clear hn221 hl221
    replace BKg1 := zbb BKg1.out hb
    replace BKg11 := zbb BKg11.out hb
    replace BKg26 := zbb BKg26.out hb
    replace HB := zhb HB.out hb
    clear hb
    clear j36 j37 j38 j39 j3a j3b j3c j3d j3e j3f j3g j3h j3i j3j j3k j3l j3m j3n
    obtain ⟨j3A, j3B, j3C, j3D, j3E, j3F, j3G, j3H⟩ := MB.lz8 BKg1.out
    obtain ⟨j3I, j3J, j3K, j3L, j3M⟩ := MB.lz5 BKg11.out
    obtain ⟨j3N, j3O, j3P, j3Q, j3R⟩ := MB.lz5 BKg26.out
    go_wp2_with ((with_reducible refine gs 57 3 rfl ?_); refine zs 57 3 #[.int .i64 t214, .bool t215, .int .i64 t216, .string t217, .slice A221 t218.length cp221] BKg26.out [.int .i64 t214, .bool t215, .int .i64 t216, .string t217, .slice A221 t218.length cp221] (h := ?_); intro w240 hbk hg)
    refine zg ?_
    replace HF221 := zfg HF221.out hg fun k_ hk_ => hk_.2
    replace BKg1 := zbg BKg1.out hg NEg1_g26
    replace BKg11 := zbg BKg11.out hg NEg11_g26
    replace HB := zhg HB.out hg (below_size HB.out) GEg26
    replace BKg26 := hbk
    clear hg hbk
    clear j3A j3B j3C j3D j3E j3F j3G j3H j3I j3J j3K j3L j3M j3N j3O j3P j3Q j3R
    obtain ⟨j3T, j3U, j3V, j3W, j3X, j3Y, j3Z, j40⟩ := MB.lz8 BKg1.out
    obtain ⟨j41, j42, j43, j44, j45⟩ := MB.lz5 BKg11.out
    obtain ⟨j46, j47, j48, j49, j4a⟩ := MB.lz5 BKg26.out
    go_wp2
    have hwr_ : ∀ n_ : Int, IntKind.i64.wrap n_ = wrap64 n_ := fun n_ => IntWalk.i64_left n_
    refine wp_region_any (by kernel_rfl) ?_
    change wpAny _ _ _ _ 7 #[false, false, false, false, false, false, false] _ w240.drew
    obtain ⟨w259, hw_⟩ : ∃ w_ : World, w_ = w240.drew := ⟨_, rfl⟩
    rw [← hw_]
    have hb : Below w240.heap.size w240 w259 := by rw [hw_]; exact below_drew1 (Below.refl _ _)
    clear hw_
    replace HF221 := zfb HF221.out hb
    replace BKg1 := zbb BKg1.out hb
    replace BKg11 := zbb BKg11.out hb
    replace BKg26 := zbb BKg26.out hb
    replace HB := zhb HB.out hb
    clear hb
    clear j3T j3U j3V j3W j3X j3Y j3Z j40 j41 j42 j43 j44 j45 j46 j47 j48 j49 j4a
    obtain ⟨j4c, j4d, j4e, j4f, j4g, j4h, j4i, j4j⟩ := MB.lz8 BKg1.out
    obtain ⟨j4k, j4l, j4m, j4n, j4o⟩ := MB.lz5 BKg11.out
    obtain ⟨j4p, j4q, j4r, j4s, j4t⟩ := MB.lz5 BKg26.out
    refine MW.last_in (ds := [4, 5, 6]) (zk j4c (zk j4p (zk j4q (zk j4r (zk j4s (zk j4t z0)))))) ?_
    refine zlp 0 (.pointer (some ⟨g1, 0, none⟩)) #[_, _, _, _, _, _, _] ⟨[_, _, _, _, _, _, _, _, _, _, _, _, _, _, _, _, _, _, _, _, _, _, _, _, _, _, _, _, _, _, _, _, _, _, _, _, _, _, _, _, _, _, _, _, _, _, _, _, _, _, _, _, _, _, _, _, _, _, _, _, _, _, _].toArray, []⟩ (h := ?_)
    refine MW.last_take (i := 1) (v := .int .i64 a0_0) (listed' := #[_, _, _, _, _, _, _]) (a' := ⟨[_, _, _, _, _, _, _, _, _, _, _, _, _, _, _, _, _, _, _, _, _, _, _, _, _, _, _, _, _, _, _, _, _, _, _, _, _, _, _, _, _, _, _, _, _, _, _, _, _, _, _, _, _, _, _, _, _, _, _, _, _, _, _].toArray, []⟩) rfl (by kernel_rfl) (by kernel_rfl) (by kernel_rfl) (by kernel_rfl) (by kernel_rfl) (fun _ _ _ h_ => h_) (by kernel_rfl) (fun w_ hS_ => ?go) (zk j4c (zk j4p (zk j4q (zk j4r (zk j4s (zk j4t z0)))))) rfl rfl ?_
    case go => obtain ⟨hs0_, _, _, _, _, _, _⟩ := hS_; first | (go_simp; done) | (go_simp; rfl)
    refine MW.last_take (i := 3) (v := .agg #[.int .i64 t214, .bool t215, .int .i64 t216, .string t217, .slice A221 t218.length cp221]) (listed' := #[_, _, _, _, _, _, _]) (a' := ⟨[_, _, _, _, _, _, _, _, _, _, _, _, _, _, _, _, _, _, _, _, _, _, _, _, _, _, _, _, _, _, _, _, _, _, _, _, _, _, _, _, _, _, _, _, _, _, _, _, _, _, _, _, _, _, _, _, _, _, _, _, _, _, _].toArray, []⟩) rfl (by kernel_rfl) (by kernel_rfl) (by kernel_rfl) (by kernel_rfl) (by kernel_rfl) (fun _ _ _ h_ => h_) (by kernel_rfl) (fun w_ hS_ => ?go) (zk j4c (zk j4p (zk j4q (zk j4r (zk j4s (zk j4t z0)))))) rfl rfl ?_
    case go => obtain ⟨_, hs1_, hs2_, hs3_, hs4_, hs5_, _⟩ := hS_; first | (go_simp; done) | (go_simp; rfl)
    refine MW.last_act (i := 2) (listed' := #[true, true, true, true, false, false, false]) rfl (by kernel_rfl) (by kernel_rfl) (by decide) ?_
    replace HH := zd HH
    obtain ⟨⟨t278, t279, t280, t281, t282⟩, At283, HH⟩ := HH
    dsimp only at HH
    go_wp2_with ((with_reducible refine gc 72 rfl ?_); refine zc 72 (some 59) Try.func72 #[.int .i64 2, .int .i64 a0_0] (h := ?_); (with_reducible refine (toponymref26_I.calls k51  2 a0_0 t278 t279 t280 t281 t282 _  At283.out).mono ?_); rintro e w284 ⟨v285, rfl, hn285, hb⟩; refine ⟨_, rfl, ?_⟩)
    refine zg ?_
    have hba := Kd.N_base hn285
    have HN285 := znl (ok2 := (fun k_ => (((P_ k_ ∨ w.heap.size ≤ k_) ∧ k_ ≠ g1) ∧ k_ ≠ g11) ∧ k_ ≠ g26)) hn285 (below_size HB.out) (fun k_ h_ => ⟨⟨⟨.inr (Nat.le_trans (below_size HB.out) h_), Kd.freshB (g := g1) BKg1.out k_ h_⟩, Kd.freshB (g := g11) BKg11.out k_ h_⟩, Kd.freshB (g := g26) BKg26.out k_ h_⟩)
    replace HF221 := zfr (v := v285) HF221.out hba hb
    replace BKg1 := zbb BKg1.out hb
    replace BKg11 := zbb BKg11.out hb
    replace BKg26 := zbb BKg26.out hb
    replace HB := zhb HB.out hb
    clear hn285 hba hb
    clear j4c j4d j4e j4f j4g j4h j4i j4j j4k j4l j4m j4n j4o j4p j4q j4r j4s j4t
    obtain ⟨j4C, j4D, j4E, j4F, j4G, j4H, j4I, j4J⟩ := MB.lz8 BKg1.out
    obtain ⟨j4K, j4L, j4M, j4N, j4O⟩ := MB.lz5 BKg11.out
    obtain ⟨j4P, j4Q, j4R, j4S, j4T⟩ := MB.lz5 BKg26.out
    refine wpList_nil ?_
    change MW.Cells _ _ ∧ wpAnyLast _ _ _ _ _ _ 3 #[true, true, true, true, false, false, false] ⟨[_, _, _, _, _, _, _, _, _, _, _, _, _, _, _, _, _, _, _, _, _, _, _, _, _, _, _, _, _, _, _, _, _, _, _, _, _, _, _, _, _, _, _, _, _, _, _, _, _, _, _, _, _, _, _, _, _, _, _, _, _, _, _].toArray, []⟩ _
    refine ⟨(zk j4C (zk j4P (zk j4Q (zk j4R (zk j4S (zk j4T z0)))))), ?_⟩
    refine MW.last_fin (i := 4) (listed' := #[true, true, true, true, true, false, false]) rfl (by kernel_rfl) (by kernel_rfl) (by kernel_rfl) ?_
    obtain ⟨A304, cp305, he_⟩ := Kd.N_slice HN285.out
    subst he_
    have HL307 := za (Kd.N_reads' HN285.out).2.1
    have HF306 := za (Kd.N_F HN285.out)
    clear HN285
    replace HF221 := za (Kd.F_mono (ok := (fun k_ => ((((P_ k_ ∨ w.heap.size ≤ k_) ∧ k_ ≠ g1) ∧ k_ ≠ g11) ∧ k_ ≠ g26) ∧ some k_ ≠ ((.slice A304 t282.length cp305) : Value).ownBlock)) HF221.out (fun k_ hk_ => hk_.1) : Kd.F k57 _ (fun k_ => (((P_ k_ ∨ w.heap.size ≤ k_) ∧ k_ ≠ g1) ∧ k_ ≠ g11) ∧ k_ ≠ g26) _ _ _)
    go_wp2_with (((with_reducible refine gate_dst (N := 61) rfl ?_); (try (refine gate_guard (by rfl) ?_; dsimp only)); refine Kd.N_lit k57 w.heap.size 57 rfl (N' := 61) rfl (xs := [(⟨t278, t279, t280, t281, t282⟩ : S57), (⟨t214, t215, t216, t217, t218⟩ : S57)]) (inner := [.int .i64 t278, .bool t279, .int .i64 t280, .string t281, .slice A304 t282.length cp305, .int .i64 t214, .bool t215, .int .i64 t216, .string t217, .slice A221 t218.length cp221]) (ok := (fun k_ => (((P_ k_ ∨ w.heap.size ≤ k_) ∧ k_ ≠ g1) ∧ k_ ≠ g11) ∧ k_ ≠ g26)) (okp := (fun k_ => (((P_ k_ ∨ w.heap.size ≤ k_) ∧ k_ ≠ g1) ∧ k_ ≠ g11) ∧ k_ ≠ g26)) ?hr ?hp (fun _ hk_ => hk_) ?hf HB.out (below_size HB.out) (by first | simp | decide) ?_; (case hr => first | (go_simp; done) | (go_simp; rfl)); (case hp => exact (Reps.c5 (k57_mkF _ _ (⟨t278, t279, t280, t281, t282⟩ : S57) HL307.out (Kd.F_mono (ok := (fun k_ => (((P_ k_ ∨ w.heap.size ≤ k_) ∧ k_ ≠ g1) ∧ k_ ≠ g11) ∧ k_ ≠ g26)) HF306.out (fun k_ hk_ => hk_))) (Reps.c5 (k57_mkF _ _ (⟨t214, t215, t216, t217, t218⟩ : S57) HL221.out (Kd.F_mono (ok := (fun k_ => (((P_ k_ ∨ w.heap.size ≤ k_) ∧ k_ ≠ g1) ∧ k_ ≠ g11) ∧ k_ ≠ g26)) HF221.out (fun k_ hk_ => hk_))) (Reps.none _ _)))); (case hf => exact (show ∀ k_, w284.heap.size ≤ k_ → (fun k_ => (((P_ k_ ∨ w.heap.size ≤ k_) ∧ k_ ≠ g1) ∧ k_ ≠ g11) ∧ k_ ≠ g26) k_ from fun k_ h_ => ⟨⟨⟨.inr (Nat.le_trans (below_size HB.out) h_), Kd.freshB (g := g1) BKg1.out k_ h_⟩, Kd.freshB (g := g11) BKg11.out k_ h_⟩, Kd.freshB (g := g26) BKg26.out k_ h_⟩) _ (Nat.le_refl _)); intro v308 w309 hn1 hb1 hg1 hat1); replace hat1 := za hat1; refine stop_ ?_)
    refine zg ?_
    replace hat1 := hat1.out
    have hbe := MW.grown_below hg1
    have hba := MW.base_of hat1
    replace BKg1 := za (blk_below (g := g1) BKg1.out hbe)
    replace BKg11 := za (blk_below (g := g11) BKg11.out hbe)
    replace BKg26 := za (blk_below (g := g26) BKg26.out hbe)
    replace HB := za hb1
    have HN310 := za hn1
    clear hn1 hb1 hg1 hat1 hbe hba
    clear j4C j4D j4E j4F j4G j4H j4I j4J j4K j4L j4M j4N j4O j4P j4Q j4R j4S j4T
    obtain ⟨j51, j52, j53, j54, j55, j56, j57, j58⟩ := MB.lz8 BKg1.out
    obtain ⟨j59, j5a, j5b, j5c, j5d⟩ := MB.lz5 BKg11.out
    obtain ⟨j5e, j5f, j5g, j5h, j5i⟩ := MB.lz5 BKg26.out
    refine wpList_nil ?_
    change wpAnyLast _ _ _ _ _ _ 2 #[true, true, true, true, true, false, false] ⟨[_, _, _, _, _, _, _, _, _, _, _, _, _, _, _, _, _, _, _, _, _, _, _, _, _, _, _, _, _, _, _, _, _, _, _, _, _, _, _, _, _, _, _, _, _, _, _, _, _, _, _, _, _, _, _, _, _, _, _, _, _, _, _].toArray, []⟩ _
    refine MW.last_fin (i := 5) (listed' := #[true, true, true, true, true, true, false]) rfl (by kernel_rfl) (by kernel_rfl) (by kernel_rfl) ?_
    obtain ⟨A329, cp330, he_⟩ := Kd.N_slice HN310.out
    subst he_
    have HL332 := za (Kd.N_reads' HN310.out).2.1
    have HF331 := za (Kd.N_F HN310.out)
    clear HN310
    replace HH := zd HH
    obtain ⟨⟨t333, t334, t335, t336, t337⟩, At338, HH⟩ := HH
    dsimp only at HH
    go_wp2_with ((with_reducible refine gc 70 rfl ?_); refine zc 70 (some 62) Try.func70 #[.int .i64 0, .int .i64 16, .slice A329 [(⟨t278, t279, t280, t281, t282⟩ : S57), (⟨t214, t215, t216, t217, t218⟩ : S57)].length cp330] (h := ?_); (with_reducible refine (toponymref26_G.calls (fun k_ => (((P_ k_ ∨ w.heap.size ≤ k_) ∧ k_ ≠ g1) ∧ k_ ≠ g11) ∧ k_ ≠ g26) 0 16 _ _ [(⟨t278, t279, t280, t281, t282⟩ : S57), (⟨t214, t215, t216, t217, t218⟩ : S57)] t333 t334 t335 t336 t337 _ (Kd.F_mono (ok := (fun k_ => (((P_ k_ ∨ w.heap.size ≤ k_) ∧ k_ ≠ g1) ∧ k_ ≠ g11) ∧ k_ ≠ g26)) HF331.out (fun k_ hk_ => hk_)) HL332.out At338.out).mono ?_); rintro e w339 ⟨A340, cp340, rfl, hl340, hn340, hb⟩; refine ⟨_, rfl, ?_⟩)
    refine zg ?_
    have HL340 := za hl340
    have HF340 := za (Kd.F_mono hn340 (fun k_ hk_ => hk_.elim (fun h_ => h_) (fun h_ => ⟨⟨⟨.inr (Nat.le_trans (below_size HB.out) h_), Kd.freshB (g := g1) BKg1.out k_ h_⟩, Kd.freshB (g := g11) BKg11.out k_ h_⟩, Kd.freshB (g := g26) BKg26.out k_ h_⟩)) : Kd.F k57 _ (fun k_ => (((P_ k_ ∨ w.heap.size ≤ k_) ∧ k_ ≠ g1) ∧ k_ ≠ g11) ∧ k_ ≠ g26) _ _ _)
    clear hn340 hl340
    replace BKg1 := zbb BKg1.out hb
    replace BKg11 := zbb BKg11.out hb
    replace BKg26 := zbb BKg26.out hb
    replace HB := zhb HB.out hb
    clear hb
    clear j51 j52 j53 j54 j55 j56 j57 j58 j59 j5a j5b j5c j5d j5e j5f j5g j5h j5i
    obtain ⟨j5v, j5w, j5x, j5y, j5z, j5A, j5B, j5C⟩ := MB.lz8 BKg1.out
    obtain ⟨j5D, j5E, j5F, j5G, j5H⟩ := MB.lz5 BKg11.out
    obtain ⟨j5I, j5J, j5K, j5L, j5M⟩ := MB.lz5 BKg26.out
    refine wpList_nil ?_
    change wpAnyLast _ _ _ _ _ _ 1 #[true, true, true, true, true, true, false] ⟨[_, _, _, _, _, _, _, _, _, _, _, _, _, _, _, _, _, _, _, _, _, _, _, _, _, _, _, _, _, _, _, _, _, _, _, _, _, _, _, _, _, _, _, _, _, _, _, _, _, _, _, _, _, _, _, _, _, _, _, _, _, _, _].toArray, []⟩ _
    refine MW.last_fin (i := 6) (listed' := #[true, true, true, true, true, true, true]) rfl (by kernel_rfl) (by kernel_rfl) (by kernel_rfl) ?_
    go_wp2_with ((with_reducible refine gs 57 2 rfl ?_); refine zs 57 2 #[.int .i64 t333, .bool t334, .int .i64 t335, .string t336, .slice A340 t337.length cp340] BKg11.out [.int .i64 t333, .bool t334, .int .i64 t335, .string t336, .slice A340 t337.length cp340] (h := ?_); intro w359 hbk hg)
    refine zg ?_
    replace HF340 := zfg HF340.out hg fun k_ hk_ => hk_.1.2
    replace BKg1 := zbg BKg1.out hg NEg1_g11
    replace BKg26 := zbg BKg26.out hg NEg26_g11
    replace HB := zhg HB.out hg (below_size HB.out) GEg11
    replace BKg11 := hbk
    clear hg hbk
    clear j5v j5w j5x j5y j5z j5A j5B j5C j5D j5E j5F j5G j5H j5I j5J j5K j5L j5M
    obtain ⟨j5O, j5P, j5Q, j5R, j5S, j5T, j5U, j5V⟩ := MB.lz8 BKg1.out
    obtain ⟨j5W, j5X, j5Y, j5Z, j60⟩ := MB.lz5 BKg11.out
    obtain ⟨j61, j62, j63, j64, j65⟩ := MB.lz5 BKg26.out
    refine wpList_nil ?_
    refine ⟨(by kernel_rfl), ?_⟩
    clear hwr_
    have H := HH.out
    simp only [Option.some.injEq, Prod.mk.injEq] at H
    obtain ⟨rfl, rfl, rfl, rfl, rfl⟩ := H
    clear HH
    go_wp2
    refine bodyPost_ret (MW.results_c rfl _ _ g11 57 #[.int .i64 t333, .bool t334, .int .i64 t335, .string t336, .slice A340 t337.length cp340] (0, 0) _ rfl BKg11.out Try.underlying57 rfl (by kernel_rfl)) rfl ?_
    exact ⟨_, _, by first | rfl | (simp; done) | (simp [*]; done), HL340.out, (Kd.F_mono (ok := (fun k_ => (((P_ k_ ∨ w.heap.size ≤ k_) ∧ k_ ≠ g1) ∧ k_ ≠ g11) ∧ k_ ≠ g26)) HF340.out (fun k_ hk_ => hk_.1.1.1)), HB.out⟩
 replace HH := MW.hneg HH c46
 replace c46 := Bool.eq_false_iff.mpr c46
 subst c46
 go_wp2
 have hwr_ : ∀ n_ : Int, IntKind.i64.wrap n_ = wrap64 n_ := fun n_ => IntWalk.i64_left n_
 refine wp_region_any (by kernel_rfl) ?_
 change wpAny _ _ _ _ 11 #[false, false, false, false, false, false, false, false, false, false, false] _ w27.drew
 obtain ⟨w378, hw_⟩ : ∃ w_ : World, w_ = w27.drew := ⟨_, rfl⟩
 rw [← hw_]
 have hb : Below w27.heap.size w27 w378 := by rw [hw_]; exact below_drew1 (Below.refl _ _)
 clear hw_
 replace BKg1 := zbb BKg1.out hb
 replace BKg11 := zbb BKg11.out hb
 replace BKg26 := zbb BKg26.out hb
 replace HB := zhb HB.out hb
 clear hb
 clear js jt ju jv jw jx jy jz jA jB jC jD jE jF jG jH jI jJ
 obtain ⟨j67, j68, j69, j6a, j6b, j6c, j6d, j6e⟩ := MB.lz8 BKg1.out
 obtain ⟨j6f, j6g, j6h, j6i, j6j⟩ := MB.lz5 BKg11.out
 obtain ⟨j6k, j6l, j6m, j6n, j6o⟩ := MB.lz5 BKg26.out
 refine MW.last_in (ds := [8, 9]) (zk j6a (zk j6b (zk j6c z0))) ?_
 refine zlp 0 (.pointer (some ⟨g1, 3, none⟩)) #[_, _, _, _, _, _, _, _, _, _, _] ⟨[_, _, _, _, _, _, _, _, _, _, _, _, _, _, _, _, _, _, _, _, _, _, _, _, _, _, _, _, _, _, _, _, _, _, _, _, _, _, _, _, _, _, _, _, _, _, _, _, _, _, _, _, _, _, _, _, _, _, _, _, _, _, _].toArray, []⟩ (h := ?_)
 refine zlp 3 (.pointer (some ⟨g1, 4, none⟩)) #[_, _, _, _, _, _, _, _, _, _, _] ⟨[_, _, _, _, _, _, _, _, _, _, _, _, _, _, _, _, _, _, _, _, _, _, _, _, _, _, _, _, _, _, _, _, _, _, _, _, _, _, _, _, _, _, _, _, _, _, _, _, _, _, _, _, _, _, _, _, _, _, _, _, _, _, _].toArray, []⟩ (h := ?_)
 refine zlp 6 (.pointer (some ⟨g1, 5, none⟩)) #[_, _, _, _, _, _, _, _, _, _, _] ⟨[_, _, _, _, _, _, _, _, _, _, _, _, _, _, _, _, _, _, _, _, _, _, _, _, _, _, _, _, _, _, _, _, _, _, _, _, _, _, _, _, _, _, _, _, _, _, _, _, _, _, _, _, _, _, _, _, _, _, _, _, _, _, _].toArray, []⟩ (h := ?_)
 refine MW.last_take (i := 1) (v := .int .i64 a0_3) (listed' := #[_, _, _, _, _, _, _, _, _, _, _]) (a' := ⟨[_, _, _, _, _, _, _, _, _, _, _, _, _, _, _, _, _, _, _, _, _, _, _, _, _, _, _, _, _, _, _, _, _, _, _, _, _, _, _, _, _, _, _, _, _, _, _, _, _, _, _, _, _, _, _, _, _, _, _, _, _, _, _].toArray, []⟩) rfl (by kernel_rfl) (by kernel_rfl) (by kernel_rfl) (by kernel_rfl) (by kernel_rfl) (fun _ _ _ h_ => h_) (by kernel_rfl) (fun w_ hS_ => ?go) (zk j6a (zk j6b (zk j6c z0))) rfl rfl ?_
 case go => obtain ⟨hs0_, _, _, _⟩ := hS_; first | (go_simp; done) | (go_simp; rfl)
 refine MW.last_take (i := 4) (v := .string a0_4) (listed' := #[_, _, _, _, _, _, _, _, _, _, _]) (a' := ⟨[_, _, _, _, _, _, _, _, _, _, _, _, _, _, _, _, _, _, _, _, _, _, _, _, _, _, _, _, _, _, _, _, _, _, _, _, _, _, _, _, _, _, _, _, _, _, _, _, _, _, _, _, _, _, _, _, _, _, _, _, _, _, _].toArray, []⟩) rfl (by kernel_rfl) (by kernel_rfl) (by kernel_rfl) (by kernel_rfl) (by kernel_rfl) (fun _ _ _ h_ => h_) (by kernel_rfl) (fun w_ hS_ => ?go) (zk j6a (zk j6b (zk j6c z0))) rfl rfl ?_
 case go => obtain ⟨_, hs1_, _, _⟩ := hS_; first | (go_simp; done) | (go_simp; rfl)
 refine MW.last_take (i := 7) (v := .string a0_5) (listed' := #[_, _, _, _, _, _, _, _, _, _, _]) (a' := ⟨[_, _, _, _, _, _, _, _, _, _, _, _, _, _, _, _, _, _, _, _, _, _, _, _, _, _, _, _, _, _, _, _, _, _, _, _, _, _, _, _, _, _, _, _, _, _, _, _, _, _, _, _, _, _, _, _, _, _, _, _, _, _, _].toArray, []⟩) rfl (by kernel_rfl) (by kernel_rfl) (by kernel_rfl) (by kernel_rfl) (by kernel_rfl) (fun _ _ _ h_ => h_) (by kernel_rfl) (fun w_ hS_ => ?go) (zk j6a (zk j6b (zk j6c z0))) rfl rfl ?_
 case go => obtain ⟨_, _, hs2_, _⟩ := hS_; first | (go_simp; done) | (go_simp; rfl)
 refine MW.last_act (i := 2) (listed' := #[true, true, true, true, true, false, true, true, false, false, false]) rfl (by kernel_rfl) (by kernel_rfl) (by decide) ?_
 replace HH := zd HH
 obtain ⟨⟨t397, t398, t399, t400, t401⟩, At402, HH⟩ := HH
 dsimp only at HH
 go_wp2_with ((with_reducible refine gc 72 rfl ?_); refine zc 72 (some 34) Try.func72 #[.int .i64 10, .int .i64 a0_3] (h := ?_); (with_reducible refine (toponymref26_I.calls k  10 a0_3 t397 t398 t399 t400 t401 _  At402.out).mono ?_); rintro e w403 ⟨v404, rfl, hn404, hb⟩; refine ⟨_, rfl, ?_⟩)
 refine zg ?_
 have hba := Kd.N_base hn404
 have HN404 := znl (ok2 := (fun k_ => (((P_ k_ ∨ w.heap.size ≤ k_) ∧ k_ ≠ g1) ∧ k_ ≠ g11) ∧ k_ ≠ g26)) hn404 (below_size HB.out) (fun k_ h_ => ⟨⟨⟨.inr (Nat.le_trans (below_size HB.out) h_), Kd.freshB (g := g1) BKg1.out k_ h_⟩, Kd.freshB (g := g11) BKg11.out k_ h_⟩, Kd.freshB (g := g26) BKg26.out k_ h_⟩)
 replace BKg1 := zbb BKg1.out hb
 replace BKg11 := zbb BKg11.out hb
 replace BKg26 := zbb BKg26.out hb
 replace HB := zhb HB.out hb
 clear hn404 hba hb
 clear j67 j68 j69 j6a j6b j6c j6d j6e j6f j6g j6h j6i j6j j6k j6l j6m j6n j6o
 obtain ⟨j6x, j6y, j6z, j6A, j6B, j6C, j6D, j6E⟩ := MB.lz8 BKg1.out
 obtain ⟨j6F, j6G, j6H, j6I, j6J⟩ := MB.lz5 BKg11.out
 obtain ⟨j6K, j6L, j6M, j6N, j6O⟩ := MB.lz5 BKg26.out
 refine wpList_nil ?_
 change MW.Cells _ _ ∧ wpAnyLast _ _ _ _ _ _ 4 #[true, true, true, true, true, false, true, true, false, false, false] ⟨[_, _, _, _, _, _, _, _, _, _, _, _, _, _, _, _, _, _, _, _, _, _, _, _, _, _, _, _, _, _, _, _, _, _, _, _, _, _, _, _, _, _, _, _, _, _, _, _, _, _, _, _, _, _, _, _, _, _, _, _, _, _, _].toArray, []⟩ _
 refine ⟨(zk j6A (zk j6B (zk j6C z0))), ?_⟩
 refine MW.last_act (i := 5) (listed' := #[true, true, true, true, true, true, true, true, false, false, false]) rfl (by kernel_rfl) (by kernel_rfl) (by decide) ?_
 replace HH := zd HH
 obtain ⟨⟨t423, t424, t425, t426, t427⟩, At428, HH⟩ := HH
 dsimp only at HH
 go_wp2_with ((with_reducible refine gc 71 rfl ?_); refine zc 71 (some 37) Try.func71 #[.string a0_4] (h := ?_); (with_reducible refine (toponymref26_T.calls  a0_4 t423 t424 t425 t426 t427 _  At428.out).mono ?_); rintro e w429 ⟨v430, rfl, hn430, hb⟩; refine ⟨_, rfl, ?_⟩)
 refine zg ?_
 have hba := Kd.N_base hn430
 have HN430 := znl (ok2 := (fun k_ => ((((P_ k_ ∨ w.heap.size ≤ k_) ∧ some k_ ≠ (v404 : Value).ownBlock) ∧ k_ ≠ g1) ∧ k_ ≠ g11) ∧ k_ ≠ g26)) hn430 (below_size HB.out) (fun k_ h_ => ⟨⟨⟨⟨.inr (Nat.le_trans (below_size HB.out) h_), Kd.fresh' (Kd.N_lt HN404.out) k_ h_⟩, Kd.freshB (g := g1) BKg1.out k_ h_⟩, Kd.freshB (g := g11) BKg11.out k_ h_⟩, Kd.freshB (g := g26) BKg26.out k_ h_⟩)
 replace HN404 := znr (u := v430) HN404.out hba hb
 replace BKg1 := zbb BKg1.out hb
 replace BKg11 := zbb BKg11.out hb
 replace BKg26 := zbb BKg26.out hb
 replace HB := zhb HB.out hb
 clear hn430 hba hb
 clear j6x j6y j6z j6A j6B j6C j6D j6E j6F j6G j6H j6I j6J j6K j6L j6M j6N j6O
 obtain ⟨j6X, j6Y, j6Z, j70, j71, j72, j73, j74⟩ := MB.lz8 BKg1.out
 obtain ⟨j75, j76, j77, j78, j79⟩ := MB.lz5 BKg11.out
 obtain ⟨j7a, j7b, j7c, j7d, j7e⟩ := MB.lz5 BKg26.out
 refine wpList_nil ?_
 change MW.Cells _ _ ∧ wpAnyLast _ _ _ _ _ _ 3 #[true, true, true, true, true, true, true, true, false, false, false] ⟨[_, _, _, _, _, _, _, _, _, _, _, _, _, _, _, _, _, _, _, _, _, _, _, _, _, _, _, _, _, _, _, _, _, _, _, _, _, _, _, _, _, _, _, _, _, _, _, _, _, _, _, _, _, _, _, _, _, _, _, _, _, _, _].toArray, []⟩ _
 refine ⟨(zk j70 (zk j71 (zk j72 z0))), ?_⟩
 refine MW.last_fin (i := 8) (listed' := #[true, true, true, true, true, true, true, true, true, false, false]) rfl (by kernel_rfl) (by kernel_rfl) (by kernel_rfl) ?_
 replace HH := zd HH
 obtain ⟨⟨t449, t450, t451, t452, t453⟩, At454, HH⟩ := HH
 dsimp only at HH
 go_wp2_with ((with_reducible refine gc 71 rfl ?_); refine zc 71 (some 40) Try.func71 #[.string a0_5] (h := ?_); (with_reducible refine (toponymref26_T.calls  a0_5 t449 t450 t451 t452 t453 _  At454.out).mono ?_); rintro e w455 ⟨v456, rfl, hn456, hb⟩; refine ⟨_, rfl, ?_⟩)
 refine zg ?_
 have hba := Kd.N_base hn456
 have HN456 := znl (ok2 := (fun k_ => (((((P_ k_ ∨ w.heap.size ≤ k_) ∧ some k_ ≠ (v404 : Value).ownBlock) ∧ some k_ ≠ (v430 : Value).ownBlock) ∧ k_ ≠ g1) ∧ k_ ≠ g11) ∧ k_ ≠ g26)) hn456 (below_size HB.out) (fun k_ h_ => ⟨⟨⟨⟨⟨.inr (Nat.le_trans (below_size HB.out) h_), Kd.fresh' (Kd.N_lt HN404.out) k_ h_⟩, Kd.fresh' (Kd.N_lt HN430.out) k_ h_⟩, Kd.freshB (g := g1) BKg1.out k_ h_⟩, Kd.freshB (g := g11) BKg11.out k_ h_⟩, Kd.freshB (g := g26) BKg26.out k_ h_⟩)
 replace HN404 := znr (u := v456) HN404.out hba hb
 replace HN430 := znr (u := v456) HN430.out hba hb
 replace BKg1 := zbb BKg1.out hb
 replace BKg11 := zbb BKg11.out hb
 replace BKg26 := zbb BKg26.out hb
 replace HB := zhb HB.out hb
 clear hn456 hba hb
 clear j6X j6Y j6Z j70 j71 j72 j73 j74 j75 j76 j77 j78 j79 j7a j7b j7c j7d j7e
 obtain ⟨j7n, j7o, j7p, j7q, j7r, j7s, j7t, j7u⟩ := MB.lz8 BKg1.out
 obtain ⟨j7v, j7w, j7x, j7y, j7z⟩ := MB.lz5 BKg11.out
 obtain ⟨j7A, j7B, j7C, j7D, j7E⟩ := MB.lz5 BKg26.out
 refine wpList_nil ?_
 change wpAnyLast _ _ _ _ _ _ 2 #[true, true, true, true, true, true, true, true, true, false, false] ⟨[_, _, _, _, _, _, _, _, _, _, _, _, _, _, _, _, _, _, _, _, _, _, _, _, _, _, _, _, _, _, _, _, _, _, _, _, _, _, _, _, _, _, _, _, _, _, _, _, _, _, _, _, _, _, _, _, _, _, _, _, _, _, _].toArray, []⟩ _
 refine MW.last_fin (i := 9) (listed' := #[true, true, true, true, true, true, true, true, true, true, false]) rfl (by kernel_rfl) (by kernel_rfl) (by kernel_rfl) ?_
 obtain ⟨A475, cp476, he_⟩ := Kd.N_slice HN404.out
 subst he_
 have HL478 := za (Kd.N_reads' HN404.out).2.1
 have HF477 := za (Kd.N_F HN404.out)
 clear HN404
 replace HN430 := za (Kd.N_mono (ok := (fun k_ => (((((P_ k_ ∨ w.heap.size ≤ k_) ∧ some k_ ≠ ((.slice A475 t401.length cp476) : Value).ownBlock) ∧ k_ ≠ g1) ∧ k_ ≠ g11) ∧ k_ ≠ g26) ∧ some k_ ≠ (v456 : Value).ownBlock)) HN430.out (fun k_ hk_ => ⟨⟨⟨⟨hk_.1.1.1.1.1, hk_.1.1.1.2⟩, hk_.1.1.2⟩, hk_.1.2⟩, hk_.2⟩) : Kd.N k57 _ _ _ (fun k_ => ((((P_ k_ ∨ w.heap.size ≤ k_) ∧ k_ ≠ g1) ∧ k_ ≠ g11) ∧ k_ ≠ g26) ∧ some k_ ≠ (v456 : Value).ownBlock) _ _)
 replace HN456 := za (Kd.N_mono (ok := (fun k_ => (((((P_ k_ ∨ w.heap.size ≤ k_) ∧ some k_ ≠ ((.slice A475 t401.length cp476) : Value).ownBlock) ∧ some k_ ≠ (v430 : Value).ownBlock) ∧ k_ ≠ g1) ∧ k_ ≠ g11) ∧ k_ ≠ g26)) HN456.out (fun k_ hk_ => ⟨⟨⟨⟨hk_.1.1.1.1.1, hk_.1.1.1.2⟩, hk_.1.1.2⟩, hk_.1.2⟩, hk_.2⟩) : Kd.N k57 _ _ _ (fun k_ => ((((P_ k_ ∨ w.heap.size ≤ k_) ∧ some k_ ≠ (v430 : Value).ownBlock) ∧ k_ ≠ g1) ∧ k_ ≠ g11) ∧ k_ ≠ g26) _ _)
 obtain ⟨A479, cp480, he_⟩ := Kd.N_slice HN430.out
 subst he_
 have HL482 := za (Kd.N_reads' HN430.out).2.1
 have HF481 := za (Kd.N_F HN430.out)
 clear HN430
 replace HF477 := za (Kd.F_mono (ok := (fun k_ => (((((P_ k_ ∨ w.heap.size ≤ k_) ∧ k_ ≠ g1) ∧ k_ ≠ g11) ∧ k_ ≠ g26) ∧ some k_ ≠ ((.slice A479 t427.length cp480) : Value).ownBlock) ∧ some k_ ≠ (v456 : Value).ownBlock)) HF477.out (fun k_ hk_ => ⟨⟨⟨⟨hk_.1.1.1.1.1, hk_.1.1.1.1.2⟩, hk_.1.1.1.2⟩, hk_.1.1.2⟩, hk_.2⟩) : Kd.F k57 _ (fun k_ => ((((P_ k_ ∨ w.heap.size ≤ k_) ∧ k_ ≠ g1) ∧ k_ ≠ g11) ∧ k_ ≠ g26) ∧ some k_ ≠ (v456 : Value).ownBlock) _ _ _)
 replace HN456 := za (Kd.N_mono (ok := (fun k_ => ((((P_ k_ ∨ w.heap.size ≤ k_) ∧ some k_ ≠ ((.slice A479 t427.length cp480) : Value).ownBlock) ∧ k_ ≠ g1) ∧ k_ ≠ g11) ∧ k_ ≠ g26)) HN456.out (fun k_ hk_ => ⟨⟨⟨hk_.1.1.1.1, hk_.1.1.2⟩, hk_.1.2⟩, hk_.2⟩) : Kd.N k57 _ _ _ (fun k_ => (((P_ k_ ∨ w.heap.size ≤ k_) ∧ k_ ≠ g1) ∧ k_ ≠ g11) ∧ k_ ≠ g26) _ _)
 obtain ⟨A483, cp484, he_⟩ := Kd.N_slice HN456.out
 subst he_
 have HL486 := za (Kd.N_reads' HN456.out).2.1
 have HF485 := za (Kd.N_F HN456.out)
 clear HN456
 replace HF477 := za (Kd.F_mono (ok := (fun k_ => ((((P_ k_ ∨ w.heap.size ≤ k_) ∧ k_ ≠ g1) ∧ k_ ≠ g11) ∧ k_ ≠ g26) ∧ some k_ ≠ ((.slice A483 t453.length cp484) : Value).ownBlock)) HF477.out (fun k_ hk_ => hk_.1) : Kd.F k57 _ (fun k_ => (((P_ k_ ∨ w.heap.size ≤ k_) ∧ k_ ≠ g1) ∧ k_ ≠ g11) ∧ k_ ≠ g26) _ _ _)
 replace HF481 := za (Kd.F_mono (ok := (fun k_ => ((((P_ k_ ∨ w.heap.size ≤ k_) ∧ k_ ≠ g1) ∧ k_ ≠ g11) ∧ k_ ≠ g26) ∧ some k_ ≠ ((.slice A483 t453.length cp484) : Value).ownBlock)) HF481.out (fun k_ hk_ => hk_.1) : Kd.F k57 _ (fun k_ => (((P_ k_ ∨ w.heap.size ≤ k_) ∧ k_ ≠ g1) ∧ k_ ≠ g11) ∧ k_ ≠ g26) _ _ _)
 go_wp2_with (((with_reducible refine gate_dst (N := 41) rfl ?_); (try (refine gate_guard (by rfl) ?_; dsimp only)); refine Kd.N_lit k57 w.heap.size 57 rfl (N' := 41) rfl (xs := [(⟨t397, t398, t399, t400, t401⟩ : S57), (⟨t423, t424, t425, t426, t427⟩ : S57), (⟨t449, t450, t451, t452, t453⟩ : S57)]) (inner := [.int .i64 t397, .bool t398, .int .i64 t399, .string t400, .slice A475 t401.length cp476, .int .i64 t423, .bool t424, .int .i64 t425, .string t426, .slice A479 t427.length cp480, .int .i64 t449, .bool t450, .int .i64 t451, .string t452, .slice A483 t453.length cp484]) (ok := (fun k_ => (((P_ k_ ∨ w.heap.size ≤ k_) ∧ k_ ≠ g1) ∧ k_ ≠ g11) ∧ k_ ≠ g26)) (okp := (fun k_ => (((P_ k_ ∨ w.heap.size ≤ k_) ∧ k_ ≠ g1) ∧ k_ ≠ g11) ∧ k_ ≠ g26)) ?hr ?hp (fun _ hk_ => hk_) ?hf HB.out (below_size HB.out) (by first | simp | decide) ?_; (case hr => first | (go_simp; done) | (go_simp; rfl)); (case hp => exact (Reps.c5 (k57_mkF _ _ (⟨t397, t398, t399, t400, t401⟩ : S57) HL478.out (Kd.F_mono (ok := (fun k_ => (((P_ k_ ∨ w.heap.size ≤ k_) ∧ k_ ≠ g1) ∧ k_ ≠ g11) ∧ k_ ≠ g26)) HF477.out (fun k_ hk_ => hk_))) (Reps.c5 (k57_mkF _ _ (⟨t423, t424, t425, t426, t427⟩ : S57) HL482.out (Kd.F_mono (ok := (fun k_ => (((P_ k_ ∨ w.heap.size ≤ k_) ∧ k_ ≠ g1) ∧ k_ ≠ g11) ∧ k_ ≠ g26)) HF481.out (fun k_ hk_ => hk_))) (Reps.c5 (k57_mkF _ _ (⟨t449, t450, t451, t452, t453⟩ : S57) HL486.out (Kd.F_mono (ok := (fun k_ => (((P_ k_ ∨ w.heap.size ≤ k_) ∧ k_ ≠ g1) ∧ k_ ≠ g11) ∧ k_ ≠ g26)) HF485.out (fun k_ hk_ => hk_))) (Reps.none _ _))))); (case hf => exact (show ∀ k_, w455.heap.size ≤ k_ → (fun k_ => (((P_ k_ ∨ w.heap.size ≤ k_) ∧ k_ ≠ g1) ∧ k_ ≠ g11) ∧ k_ ≠ g26) k_ from fun k_ h_ => ⟨⟨⟨.inr (Nat.le_trans (below_size HB.out) h_), Kd.freshB (g := g1) BKg1.out k_ h_⟩, Kd.freshB (g := g11) BKg11.out k_ h_⟩, Kd.freshB (g := g26) BKg26.out k_ h_⟩) _ (Nat.le_refl _)); intro v487 w488 hn1 hb1 hg1 hat1); replace hat1 := za hat1; refine stop_ ?_)
 refine zg ?_
 replace hat1 := hat1.out
 have hbe := MW.grown_below hg1
 have hba := MW.base_of hat1
 replace BKg1 := za (blk_below (g := g1) BKg1.out hbe)
 replace BKg11 := za (blk_below (g := g11) BKg11.out hbe)
 replace BKg26 := za (blk_below (g := g26) BKg26.out hbe)
 replace HB := za hb1
 have HN489 := za hn1
 clear hn1 hb1 hg1 hat1 hbe hba
 clear j7n j7o j7p j7q j7r j7s j7t j7u j7v j7w j7x j7y j7z j7A j7B j7C j7D j7E
 obtain ⟨j7U, j7V, j7W, j7X, j7Y, j7Z, j80, j81⟩ := MB.lz8 BKg1.out
 obtain ⟨j82, j83, j84, j85, j86⟩ := MB.lz5 BKg11.out
 obtain ⟨j87, j88, j89, j8a, j8b⟩ := MB.lz5 BKg26.out
 refine wpList_nil ?_
 change wpAnyLast _ _ _ _ _ _ 1 #[true, true, true, true, true, true, true, true, true, true, false] ⟨[_, _, _, _, _, _, _, _, _, _, _, _, _, _, _, _, _, _, _, _, _, _, _, _, _, _, _, _, _, _, _, _, _, _, _, _, _, _, _, _, _, _, _, _, _, _, _, _, _, _, _, _, _, _, _, _, _, _, _, _, _, _, _].toArray, []⟩ _
 refine zlp 10 (v487) #[_, _, _, _, _, _, _, _, _, _, _] ⟨[_, _, _, _, _, _, _, _, _, _, _, _, _, _, _, _, _, _, _, _, _, _, _, _, _, _, _, _, _, _, _, _, _, _, _, _, _, _, _, _, _, _, _, _, _, _, _, _, _, _, _, _, _, _, _, _, _, _, _, _, _, _, _].toArray, []⟩ (h := ?_)
 refine MW.last_done (by kernel_rfl) ?_ _
 clear hwr_
 replace HH := zqK 0 HH
 rcases HH with ⟨HH, hk509, hk510⟩ | ⟨HH, hk723, hk724⟩
 ·(try simp only [hk509, Bool.not_true, Bool.not_false])
  (try simp only [hk510, Bool.not_true, Bool.not_false])
  obtain ⟨HH, LMc511⟩ := zlm HH
  obtain ⟨y512, hy512⟩ : ∃ y_ : List (S57), y_ = ([(⟨t397, t398, t399, t400, t401⟩ : S57), (⟨t423, t424, t425, t426, t427⟩ : S57), (⟨t449, t450, t451, t452, t453⟩ : S57)] ++ [(⟨2, false, 10, a0_6, ([] : List (S57))⟩ : S57)]) := ⟨_, rfl⟩
  have H : ((toponymref27_tag.f a0_1).bind fun t534 => ((toponymref26_G.f 1 t534 y512).bind fun bt559 => ((toponymref26_I.f k 2 a0_0).bind fun bt623 => ((toponymref26_G.f 0 16 [(⟨bt623.1, bt623.2.1, bt623.2.2.1, bt623.2.2.2.1, bt623.2.2.2.2⟩ : S57), (⟨bt559.1, bt559.2.1, bt559.2.2.1, bt559.2.2.2.1, bt559.2.2.2.2⟩ : S57)]).bind fun bt678 => (some (bt678.1, bt678.2.1, bt678.2.2.1, bt678.2.2.2.1, bt678.2.2.2.2)))))) = some (r1, r2, r3, r4, r5) := by rw [hy512]; exact HH.out
  replace HH := za H
  clear H
  have NYy512 := za hy512
  clear hy512
  go_wp2_with (((with_reducible refine gate_dst (N := 51) rfl ?_); (try (refine gate_guard (by rfl) ?_; dsimp only)); refine Kd.N_append k57 w.heap.size rfl _ _ 55 57 (.agg #[(.int .i64 0), (.bool false), (.int .i64 0), (.string ⟨#[]⟩), (.slice none 0 0)]) 64 rfl Try.underlying55 info57 rfl (by decide) (by decide) (v487) [(⟨t397, t398, t399, t400, t401⟩ : S57), (⟨t423, t424, t425, t426, t427⟩ : S57), (⟨t449, t450, t451, t452, t453⟩ : S57)] (⟨2, false, 10, a0_6, ([] : List (S57))⟩ : S57) [.int .i64 2, .bool false, .int .i64 10, .string a0_6, .slice none 0 0] (fun k_ => (((P_ k_ ∨ w.heap.size ≤ k_) ∧ k_ ≠ g1) ∧ k_ ≠ g11) ∧ k_ ≠ g26) (fun k_ => (fun k_ => (((P_ k_ ∨ w.heap.size ≤ k_) ∧ k_ ≠ g1) ∧ k_ ≠ g11) ∧ k_ ≠ g26) k_ ∧ some k_ ≠ (v487 : Value).ownBlock) rfl rfl (k57_mkF _ _ (⟨2, false, 10, a0_6, ([] : List (S57))⟩ : S57) (Nat.le_refl _) (Kd.F_nil _ _ _)) (fun _ hk_ => hk_) (fun k_ h_ => ⟨⟨⟨.inr (Nat.le_trans (below_size (by repeat (first | (with_reducible first | exact HB.out | apply below_alloc | apply pw_below_drewN | apply below_drew1) | exact HB.out))) h_), Kd.freshB (g := g1) (o := .cells #[.int .i64 a0_0, .int .i64 a0_1, .bool false, .int .i64 a0_3, .string a0_4, .string a0_5, .string a0_6, .slice A0_7 l0_7.length c0_7] 27 (0, 0)) (by (with_reducible repeat (first | refine blk_drewN ?_ _ | refine blk_drew ?_ | refine blk_alloc ?_ _)); exact BKg1.out) k_ h_⟩, Kd.freshB (g := g11) (o := .cells #[.int .i64 0, .bool false, .int .i64 0, .string (⟨#[]⟩ : ByteArray), .slice none 0 0] 57 (0, 0)) (by (with_reducible repeat (first | refine blk_drewN ?_ _ | refine blk_drew ?_ | refine blk_alloc ?_ _)); exact BKg11.out) k_ h_⟩, Kd.freshB (g := g26) (o := .cells #[.int .i64 0, .bool false, .int .i64 0, .string (⟨#[]⟩ : ByteArray), .slice none 0 0] 57 (0, 0)) (by (with_reducible repeat (first | refine blk_drewN ?_ _ | refine blk_drew ?_ | refine blk_alloc ?_ _)); exact BKg26.out) k_ h_⟩) (by (with_reducible repeat (first | apply Kd.N_alloc | apply Kd.N_drewN | apply Kd.N_drew)); exact HN489.out) (by repeat (first | (with_reducible first | exact HB.out | apply below_alloc | apply pw_below_drewN | apply below_drew1) | exact HB.out)) (below_size (by repeat (first | (with_reducible first | exact HB.out | apply below_alloc | apply pw_below_drewN | apply below_drew1) | exact HB.out))) (by first | (have := LMc511.out; omega) | (have := LMc511.out; simp at *; omega)) ?_; intro v513 w514 hn1 hb1 hg1 hat1); replace hat1 := za hat1; refine stop_ ?_)
  refine zg ?_
  replace hat1 := hat1.out
  replace BKg1 := za (blk_grown (g := g1) (o := .cells #[.int .i64 a0_0, .int .i64 a0_1, .bool false, .int .i64 a0_3, .string a0_4, .string a0_5, .string a0_6, .slice A0_7 l0_7.length c0_7] 27 (0, 0)) (by (with_reducible repeat (first | refine blk_drewN ?_ _ | refine blk_drew ?_ | refine blk_alloc ?_ _)); exact BKg1.out) hg1 (Kd.N_away (ok := (fun k_ => (((P_ k_ ∨ w.heap.size ≤ k_) ∧ k_ ≠ g1) ∧ k_ ≠ g11) ∧ k_ ≠ g26)) HN489.out (fun k_ hk_ => hk_.1.1.2)))
  replace BKg11 := za (blk_grown (g := g11) (o := .cells #[.int .i64 0, .bool false, .int .i64 0, .string (⟨#[]⟩ : ByteArray), .slice none 0 0] 57 (0, 0)) (by (with_reducible repeat (first | refine blk_drewN ?_ _ | refine blk_drew ?_ | refine blk_alloc ?_ _)); exact BKg11.out) hg1 (Kd.N_away (ok := (fun k_ => (((P_ k_ ∨ w.heap.size ≤ k_) ∧ k_ ≠ g1) ∧ k_ ≠ g11) ∧ k_ ≠ g26)) HN489.out (fun k_ hk_ => hk_.1.2)))
  replace BKg26 := za (blk_grown (g := g26) (o := .cells #[.int .i64 0, .bool false, .int .i64 0, .string (⟨#[]⟩ : ByteArray), .slice none 0 0] 57 (0, 0)) (by (with_reducible repeat (first | refine blk_drewN ?_ _ | refine blk_drew ?_ | refine blk_alloc ?_ _)); exact BKg26.out) hg1 (Kd.N_away (ok := (fun k_ => (((P_ k_ ∨ w.heap.size ≤ k_) ∧ k_ ≠ g1) ∧ k_ ≠ g11) ∧ k_ ≠ g26)) HN489.out (fun k_ hk_ => hk_.2)))
  replace HB := za hb1
  clear HN489
  have HN515 := za hn1
  clear hn1 hb1 hg1 hat1
  replace HN515 := za (by rw [NYy512.out]; exact HN515.out : Kd.N k57 57 w514 w.heap.size (fun k_ => (((P_ k_ ∨ w.heap.size ≤ k_) ∧ k_ ≠ g1) ∧ k_ ≠ g11) ∧ k_ ≠ g26) v513 y512)
  clear j7U j7V j7W j7X j7Y j7Z j80 j81 j82 j83 j84 j85 j86 j87 j88 j89 j8a j8b
  obtain ⟨j8k, j8l, j8m, j8n, j8o, j8p, j8q, j8r⟩ := MB.lz8 BKg1.out
  obtain ⟨j8s, j8t, j8u, j8v, j8w⟩ := MB.lz5 BKg11.out
  obtain ⟨j8x, j8y, j8z, j8A, j8B⟩ := MB.lz5 BKg26.out
  replace HH := zd HH
  obtain ⟨t534, At535, HH⟩ := HH
  go_wp2_with ((with_reducible refine gc 24 rfl ?_); refine zc 24 (some 54) Try.func24 #[.int .i64 a0_1] (h := ?_); (with_reducible refine (toponymref27_tag.calls  a0_1 t534 _  At535.out).mono ?_); rintro e w536 ⟨rfl, hb⟩; refine ⟨_, rfl, ?_⟩)
  refine zg ?_
  replace HN515 := znb HN515.out hb
  replace BKg1 := zbb BKg1.out hb
  replace BKg11 := zbb BKg11.out hb
  replace BKg26 := zbb BKg26.out hb
  replace HB := zhb HB.out hb
  clear hb
  clear j8k j8l j8m j8n j8o j8p j8q j8r j8s j8t j8u j8v j8w j8x j8y j8z j8A j8B
  obtain ⟨j8F, j8G, j8H, j8I, j8J, j8K, j8L, j8M⟩ := MB.lz8 BKg1.out
  obtain ⟨j8N, j8O, j8P, j8Q, j8R⟩ := MB.lz5 BKg11.out
  obtain ⟨j8S, j8T, j8U, j8V, j8W⟩ := MB.lz5 BKg26.out
  obtain ⟨A555, cp556, he_⟩ := Kd.N_slice HN515.out
  subst he_
  have HL558 := za (Kd.N_reads' HN515.out).2.1
  have HF557 := za (Kd.N_F HN515.out)
  clear HN515
  replace HH := zd HH
  obtain ⟨⟨t559, t560, t561, t562, t563⟩, At564, HH⟩ := HH
  dsimp only at HH
  go_wp2_with ((with_reducible refine gc 70 rfl ?_); refine zc 70 (some 56) Try.func70 #[.int .i64 1, .int .i64 t534, .slice A555 y512.length cp556] (h := ?_); (with_reducible refine (toponymref26_G.calls (fun k_ => (((P_ k_ ∨ w.heap.size ≤ k_) ∧ k_ ≠ g1) ∧ k_ ≠ g11) ∧ k_ ≠ g26) 1 t534 _ _ y512 t559 t560 t561 t562 t563 _ (Kd.F_mono (ok := (fun k_ => (((P_ k_ ∨ w.heap.size ≤ k_) ∧ k_ ≠ g1) ∧ k_ ≠ g11) ∧ k_ ≠ g26)) HF557.out (fun k_ hk_ => hk_)) HL558.out At564.out).mono ?_); rintro e w565 ⟨A566, cp566, rfl, hl566, hn566, hb⟩; refine ⟨_, rfl, ?_⟩)
  refine zg ?_
  have HL566 := za hl566
  have HF566 := za (Kd.F_mono hn566 (fun k_ hk_ => hk_.elim (fun h_ => h_) (fun h_ => ⟨⟨⟨.inr (Nat.le_trans (below_size HB.out) h_), Kd.freshB (g := g1) BKg1.out k_ h_⟩, Kd.freshB (g := g11) BKg11.out k_ h_⟩, Kd.freshB (g := g26) BKg26.out k_ h_⟩)) : Kd.F k57 _ (fun k_ => (((P_ k_ ∨ w.heap.size ≤ k_) ∧ k_ ≠ g1) ∧ k_ ≠ g11) ∧ k_ ≠ g26) _ _ _)
  clear hn566 hl566
  replace BKg1 := zbb BKg1.out hb
  replace BKg11 := zbb BKg11.out hb
  replace BKg26 := zbb BKg26.out hb
  replace HB := zhb HB.out hb
  clear hb
  clear j8F j8G j8H j8I j8J j8K j8L j8M j8N j8O j8P j8Q j8R j8S j8T j8U j8V j8W
  obtain ⟨j99, j9a, j9b, j9c, j9d, j9e, j9f, j9g⟩ := MB.lz8 BKg1.out
  obtain ⟨j9h, j9i, j9j, j9k, j9l⟩ := MB.lz5 BKg11.out
  obtain ⟨j9m, j9n, j9o, j9p, j9q⟩ := MB.lz5 BKg26.out
  go_wp2_with ((with_reducible refine gs 57 3 rfl ?_); refine zs 57 3 #[.int .i64 t559, .bool t560, .int .i64 t561, .string t562, .slice A566 t563.length cp566] BKg26.out [.int .i64 t559, .bool t560, .int .i64 t561, .string t562, .slice A566 t563.length cp566] (h := ?_); intro w585 hbk hg)
  refine zg ?_
  replace HF566 := zfg HF566.out hg fun k_ hk_ => hk_.2
  replace BKg1 := zbg BKg1.out hg NEg1_g26
  replace BKg11 := zbg BKg11.out hg NEg11_g26
  replace HB := zhg HB.out hg (below_size HB.out) GEg26
  replace BKg26 := hbk
  clear hg hbk
  clear j99 j9a j9b j9c j9d j9e j9f j9g j9h j9i j9j j9k j9l j9m j9n j9o j9p j9q
  obtain ⟨j9s, j9t, j9u, j9v, j9w, j9x, j9y, j9z⟩ := MB.lz8 BKg1.out
  obtain ⟨j9A, j9B, j9C, j9D, j9E⟩ := MB.lz5 BKg11.out
  obtain ⟨j9F, j9G, j9H, j9I, j9J⟩ := MB.lz5 BKg26.out
  go_wp2
  have hwr_ : ∀ n_ : Int, IntKind.i64.wrap n_ = wrap64 n_ := fun n_ => IntWalk.i64_left n_
  refine wp_region_any (by kernel_rfl) ?_
  change wpAny _ _ _ _ 7 #[false, false, false, false, false, false, false] _ w585.drew
  obtain ⟨w604, hw_⟩ : ∃ w_ : World, w_ = w585.drew := ⟨_, rfl⟩
  rw [← hw_]
  have hb : Below w585.heap.size w585 w604 := by rw [hw_]; exact below_drew1 (Below.refl _ _)
  clear hw_
  replace HF566 := zfb HF566.out hb
  replace BKg1 := zbb BKg1.out hb
  replace BKg11 := zbb BKg11.out hb
  replace BKg26 := zbb BKg26.out hb
  replace HB := zhb HB.out hb
  clear hb
  clear j9s j9t j9u j9v j9w j9x j9y j9z j9A j9B j9C j9D j9E j9F j9G j9H j9I j9J
  obtain ⟨j9L, j9M, j9N, j9O, j9P, j9Q, j9R, j9S⟩ := MB.lz8 BKg1.out
  obtain ⟨j9T, j9U, j9V, j9W, j9X⟩ := MB.lz5 BKg11.out
  obtain ⟨j9Y, j9Z, ja0, ja1, ja2⟩ := MB.lz5 BKg26.out
  refine MW.last_in (ds := [4, 5, 6]) (zk j9L (zk j9Y (zk j9Z (zk ja0 (zk ja1 (zk ja2 z0)))))) ?_
  refine MW.last_pure (i := 0) (v := .pointer (some ⟨g1, 0, none⟩)) (listed' := #[true, false, false, false, false, false, false]) (a' := ⟨[(.agg #[.int .i64 a0_0, .int .i64 a0_1, .bool false, .int .i64 a0_3, .string a0_4, .string a0_5, .string a0_6, .slice A0_7 l0_7.length c0_7]), (.pointer (some ⟨g1, 0, none⟩)), (.pointer (some ⟨g11, 0, none⟩)), (.pointer (some ⟨g26, 0, none⟩)), undef, undef, (.slice A555 y512.length cp556), (.pointer (some ⟨g1, 2, none⟩)), (.bool false), undef, undef, undef, undef, undef, undef, undef, undef, undef, undef, undef, undef, undef, undef, undef, undef, undef, undef, undef, undef, undef, undef, undef, (.pointer (some ⟨g1, 3, none⟩)), (.int .i64 a0_3), (.agg #[.int .i64 t397, .bool t398, .int .i64 t399, .string t400, .slice A475 t401.length cp476]), (.pointer (some ⟨g1, 4, none⟩)), (.string a0_4), (.agg #[.int .i64 t423, .bool t424, .int .i64 t425, .string t426, .slice A479 t427.length cp480]), (.pointer (some ⟨g1, 5, none⟩)), (.string a0_5), (.agg #[.int .i64 t449, .bool t450, .int .i64 t451, .string t452, .slice A483 t453.length cp484]), v487, (.pointer (some ⟨g1, 6, none⟩)), (.string a0_6), (.int .i64 (a0_6.size : Int)), (.bool true), v487, (.pointer (some ⟨g1, 6, none⟩)), (.string a0_6), (.agg #[.int .i64 2, .bool false, .int .i64 10, .string a0_6, .slice none 0 0]), _, (.slice A555 y512.length cp556), (.pointer (some ⟨g1, 1, none⟩)), (.int .i64 a0_1), (.int .i64 t534), (.slice A555 y512.length cp556), (.agg #[.int .i64 t559, .bool t560, .int .i64 t561, .string t562, .slice A566 t563.length cp566]), (.pointer (some ⟨g1, 0, none⟩)), undef, undef, undef, undef, undef].toArray, []⟩) rfl (by kernel_rfl) (by kernel_rfl) (by kernel_rfl) (fun _ _ _ h_ => h_) (.inl ⟨(by kernel_rfl), fun _ => (by first | rfl | (go_simp; done) | (go_simp; rfl) | (go_simp; simp only [MW.isEmpty_beq, bne, Bool.not_not]; done))⟩) (by kernel_rfl) rfl ?_
  refine MW.last_take (i := 1) (v := .int .i64 a0_0) (listed' := #[_, _, _, _, _, _, _]) (a' := ⟨[(.agg #[.int .i64 a0_0, .int .i64 a0_1, .bool false, .int .i64 a0_3, .string a0_4, .string a0_5, .string a0_6, .slice A0_7 l0_7.length c0_7]), (.pointer (some ⟨g1, 0, none⟩)), (.pointer (some ⟨g11, 0, none⟩)), (.pointer (some ⟨g26, 0, none⟩)), undef, undef, (.slice A555 y512.length cp556), (.pointer (some ⟨g1, 2, none⟩)), (.bool false), undef, undef, undef, undef, undef, undef, undef, undef, undef, undef, undef, undef, undef, undef, undef, undef, undef, undef, undef, undef, undef, undef, undef, (.pointer (some ⟨g1, 3, none⟩)), (.int .i64 a0_3), (.agg #[.int .i64 t397, .bool t398, .int .i64 t399, .string t400, .slice A475 t401.length cp476]), (.pointer (some ⟨g1, 4, none⟩)), (.string a0_4), (.agg #[.int .i64 t423, .bool t424, .int .i64 t425, .string t426, .slice A479 t427.length cp480]), (.pointer (some ⟨g1, 5, none⟩)), (.string a0_5), (.agg #[.int .i64 t449, .bool t450, .int .i64 t451, .string t452, .slice A483 t453.length cp484]), v487, (.pointer (some ⟨g1, 6, none⟩)), (.string a0_6), (.int .i64 (a0_6.size : Int)), (.bool true), v487, (.pointer (some ⟨g1, 6, none⟩)), (.string a0_6), (.agg #[.int .i64 2, .bool false, .int .i64 10, .string a0_6, .slice none 0 0]), _, (.slice A555 y512.length cp556), (.pointer (some ⟨g1, 1, none⟩)), (.int .i64 a0_1), (.int .i64 t534), (.slice A555 y512.length cp556), (.agg #[.int .i64 t559, .bool t560, .int .i64 t561, .string t562, .slice A566 t563.length cp566]), (.pointer (some ⟨g1, 0, none⟩)), (.int .i64 a0_0), undef, undef, undef, undef].toArray, []⟩) rfl (by kernel_rfl) (by kernel_rfl) (by kernel_rfl) (by kernel_rfl) (by kernel_rfl) (fun _ _ _ h_ => h_) (by kernel_rfl) (fun w_ hS_ => ?go) (zk j9L (zk j9Y (zk j9Z (zk ja0 (zk ja1 (zk ja2 z0)))))) rfl rfl ?_
  case go => obtain ⟨hs0_, _, _, _, _, _, _⟩ := hS_; first | (go_simp; done) | (go_simp; rfl)
  refine MW.last_take (i := 3) (v := .agg #[.int .i64 t559, .bool t560, .int .i64 t561, .string t562, .slice A566 t563.length cp566]) (listed' := #[_, _, _, _, _, _, _]) (a' := ⟨[(.agg #[.int .i64 a0_0, .int .i64 a0_1, .bool false, .int .i64 a0_3, .string a0_4, .string a0_5, .string a0_6, .slice A0_7 l0_7.length c0_7]), (.pointer (some ⟨g1, 0, none⟩)), (.pointer (some ⟨g11, 0, none⟩)), (.pointer (some ⟨g26, 0, none⟩)), undef, undef, (.slice A555 y512.length cp556), (.pointer (some ⟨g1, 2, none⟩)), (.bool false), undef, undef, undef, undef, undef, undef, undef, undef, undef, undef, undef, undef, undef, undef, undef, undef, undef, undef, undef, undef, undef, undef, undef, (.pointer (some ⟨g1, 3, none⟩)), (.int .i64 a0_3), (.agg #[.int .i64 t397, .bool t398, .int .i64 t399, .string t400, .slice A475 t401.length cp476]), (.pointer (some ⟨g1, 4, none⟩)), (.string a0_4), (.agg #[.int .i64 t423, .bool t424, .int .i64 t425, .string t426, .slice A479 t427.length cp480]), (.pointer (some ⟨g1, 5, none⟩)), (.string a0_5), (.agg #[.int .i64 t449, .bool t450, .int .i64 t451, .string t452, .slice A483 t453.length cp484]), v487, (.pointer (some ⟨g1, 6, none⟩)), (.string a0_6), (.int .i64 (a0_6.size : Int)), (.bool true), v487, (.pointer (some ⟨g1, 6, none⟩)), (.string a0_6), (.agg #[.int .i64 2, .bool false, .int .i64 10, .string a0_6, .slice none 0 0]), _, (.slice A555 y512.length cp556), (.pointer (some ⟨g1, 1, none⟩)), (.int .i64 a0_1), (.int .i64 t534), (.slice A555 y512.length cp556), (.agg #[.int .i64 t559, .bool t560, .int .i64 t561, .string t562, .slice A566 t563.length cp566]), (.pointer (some ⟨g1, 0, none⟩)), (.int .i64 a0_0), undef, (.agg #[.int .i64 t559, .bool t560, .int .i64 t561, .string t562, .slice A566 t563.length cp566]), undef, undef].toArray, []⟩) rfl (by kernel_rfl) (by kernel_rfl) (by kernel_rfl) (by kernel_rfl) (by kernel_rfl) (fun _ _ _ h_ => h_) (by kernel_rfl) (fun w_ hS_ => ?go) (zk j9L (zk j9Y (zk j9Z (zk ja0 (zk ja1 (zk ja2 z0)))))) rfl rfl ?_
  case go => obtain ⟨_, hs1_, hs2_, hs3_, hs4_, hs5_, _⟩ := hS_; first | (go_simp; done) | (go_simp; rfl)
  refine MW.last_act (i := 2) (listed' := #[true, true, true, true, false, false, false]) rfl (by kernel_rfl) (by kernel_rfl) (by decide) ?_
  replace HH := zd HH
  obtain ⟨⟨t623, t624, t625, t626, t627⟩, At628, HH⟩ := HH
  dsimp only at HH
  go_wp2_with ((with_reducible refine gc 72 rfl ?_); refine zc 72 (some 59) Try.func72 #[.int .i64 2, .int .i64 a0_0] (h := ?_); (with_reducible refine (toponymref26_I.calls k  2 a0_0 t623 t624 t625 t626 t627 _  At628.out).mono ?_); rintro e w629 ⟨v630, rfl, hn630, hb⟩; refine ⟨_, rfl, ?_⟩)
  refine zg ?_
  have hba := Kd.N_base hn630
  have HN630 := znl (ok2 := (fun k_ => (((P_ k_ ∨ w.heap.size ≤ k_) ∧ k_ ≠ g1) ∧ k_ ≠ g11) ∧ k_ ≠ g26)) hn630 (below_size HB.out) (fun k_ h_ => ⟨⟨⟨.inr (Nat.le_trans (below_size HB.out) h_), Kd.freshB (g := g1) BKg1.out k_ h_⟩, Kd.freshB (g := g11) BKg11.out k_ h_⟩, Kd.freshB (g := g26) BKg26.out k_ h_⟩)
  replace HF566 := zfr (v := v630) HF566.out hba hb
  replace BKg1 := zbb BKg1.out hb
  replace BKg11 := zbb BKg11.out hb
  replace BKg26 := zbb BKg26.out hb
  replace HB := zhb HB.out hb
  clear hn630 hba hb
  clear j9L j9M j9N j9O j9P j9Q j9R j9S j9T j9U j9V j9W j9X j9Y j9Z ja0 ja1 ja2
  obtain ⟨jab, jac, jad, jae, jaf, jag, jah, jai⟩ := MB.lz8 BKg1.out
  obtain ⟨jaj, jak, jal, jam, jan⟩ := MB.lz5 BKg11.out
  obtain ⟨jao, jap, jaq, jar, jas⟩ := MB.lz5 BKg26.out
  refine wpList_nil ?_
  change MW.Cells _ _ ∧ wpAnyLast _ _ _ _ _ _ 3 #[true, true, true, true, false, false, false] ⟨[_, _, _, _, _, _, _, _, _, _, _, _, _, _, _, _, _, _, _, _, _, _, _, _, _, _, _, _, _, _, _, _, _, _, _, _, _, _, _, _, _, _, _, _, _, _, _, _, _, _, _, _, _, _, _, _, _, _, _, _, _, _, _].toArray, []⟩ _
  refine ⟨(zk jab (zk jao (zk jap (zk jaq (zk jar (zk jas z0)))))), ?_⟩
  refine MW.last_fin (i := 4) (listed' := #[true, true, true, true, true, false, false]) rfl (by kernel_rfl) (by kernel_rfl) (by kernel_rfl) ?_
  obtain ⟨A649, cp650, he_⟩ := Kd.N_slice HN630.out
  subst he_
  have HL652 := za (Kd.N_reads' HN630.out).2.1
  have HF651 := za (Kd.N_F HN630.out)
  clear HN630
  replace HF566 := za (Kd.F_mono (ok := (fun k_ => ((((P_ k_ ∨ w.heap.size ≤ k_) ∧ k_ ≠ g1) ∧ k_ ≠ g11) ∧ k_ ≠ g26) ∧ some k_ ≠ ((.slice A649 t627.length cp650) : Value).ownBlock)) HF566.out (fun k_ hk_ => hk_.1) : Kd.F k57 _ (fun k_ => (((P_ k_ ∨ w.heap.size ≤ k_) ∧ k_ ≠ g1) ∧ k_ ≠ g11) ∧ k_ ≠ g26) _ _ _)
  go_wp2_with (((with_reducible refine gate_dst (N := 61) rfl ?_); (try (refine gate_guard (by rfl) ?_; dsimp only)); refine Kd.N_lit k57 w.heap.size 57 rfl (N' := 61) rfl (xs := [(⟨t623, t624, t625, t626, t627⟩ : S57), (⟨t559, t560, t561, t562, t563⟩ : S57)]) (inner := [.int .i64 t623, .bool t624, .int .i64 t625, .string t626, .slice A649 t627.length cp650, .int .i64 t559, .bool t560, .int .i64 t561, .string t562, .slice A566 t563.length cp566]) (ok := (fun k_ => (((P_ k_ ∨ w.heap.size ≤ k_) ∧ k_ ≠ g1) ∧ k_ ≠ g11) ∧ k_ ≠ g26)) (okp := (fun k_ => (((P_ k_ ∨ w.heap.size ≤ k_) ∧ k_ ≠ g1) ∧ k_ ≠ g11) ∧ k_ ≠ g26)) ?hr ?hp (fun _ hk_ => hk_) ?hf HB.out (below_size HB.out) (by first | simp | decide) ?_; (case hr => first | (go_simp; done) | (go_simp; rfl)); (case hp => exact (Reps.c5 (k57_mkF _ _ (⟨t623, t624, t625, t626, t627⟩ : S57) HL652.out (Kd.F_mono (ok := (fun k_ => (((P_ k_ ∨ w.heap.size ≤ k_) ∧ k_ ≠ g1) ∧ k_ ≠ g11) ∧ k_ ≠ g26)) HF651.out (fun k_ hk_ => hk_))) (Reps.c5 (k57_mkF _ _ (⟨t559, t560, t561, t562, t563⟩ : S57) HL566.out (Kd.F_mono (ok := (fun k_ => (((P_ k_ ∨ w.heap.size ≤ k_) ∧ k_ ≠ g1) ∧ k_ ≠ g11) ∧ k_ ≠ g26)) HF566.out (fun k_ hk_ => hk_))) (Reps.none _ _)))); (case hf => exact (show ∀ k_, w629.heap.size ≤ k_ → (fun k_ => (((P_ k_ ∨ w.heap.size ≤ k_) ∧ k_ ≠ g1) ∧ k_ ≠ g11) ∧ k_ ≠ g26) k_ from fun k_ h_ => ⟨⟨⟨.inr (Nat.le_trans (below_size HB.out) h_), Kd.freshB (g := g1) BKg1.out k_ h_⟩, Kd.freshB (g := g11) BKg11.out k_ h_⟩, Kd.freshB (g := g26) BKg26.out k_ h_⟩) _ (Nat.le_refl _)); intro v653 w654 hn1 hb1 hg1 hat1); replace hat1 := za hat1; refine stop_ ?_)
  refine zg ?_
  replace hat1 := hat1.out
  have hbe := MW.grown_below hg1
  have hba := MW.base_of hat1
  replace BKg1 := za (blk_below (g := g1) BKg1.out hbe)
  replace BKg11 := za (blk_below (g := g11) BKg11.out hbe)
  replace BKg26 := za (blk_below (g := g26) BKg26.out hbe)
  replace HB := za hb1
  have HN655 := za hn1
  clear hn1 hb1 hg1 hat1 hbe hba
  clear jab jac jad jae jaf jag jah jai jaj jak jal jam jan jao jap jaq jar jas
  obtain ⟨jaA, jaB, jaC, jaD, jaE, jaF, jaG, jaH⟩ := MB.lz8 BKg1.out
  obtain ⟨jaI, jaJ, jaK, jaL, jaM⟩ := MB.lz5 BKg11.out
  obtain ⟨jaN, jaO, jaP, jaQ, jaR⟩ := MB.lz5 BKg26.out
  refine wpList_nil ?_
  change wpAnyLast _ _ _ _ _ _ 2 #[true, true, true, true, true, false, false] ⟨[_, _, _, _, _, _, _, _, _, _, _, _, _, _, _, _, _, _, _, _, _, _, _, _, _, _, _, _, _, _, _, _, _, _, _, _, _, _, _, _, _, _, _, _, _, _, _, _, _, _, _, _, _, _, _, _, _, _, _, _, _, _, _].toArray, []⟩ _
  refine MW.last_fin (i := 5) (listed' := #[true, true, true, true, true, true, false]) rfl (by kernel_rfl) (by kernel_rfl) (by kernel_rfl) ?_
  obtain ⟨A674, cp675, he_⟩ := Kd.N_slice HN655.out
  subst he_
  have HL677 := za (Kd.N_reads' HN655.out).2.1
  have HF676 := za (Kd.N_F HN655.out)
  clear HN655
  replace HH := zd HH
  obtain ⟨⟨t678, t679, t680, t681, t682⟩, At683, HH⟩ := HH
  dsimp only at HH
  go_wp2_with ((with_reducible refine gc 70 rfl ?_); refine zc 70 (some 62) Try.func70 #[.int .i64 0, .int .i64 16, .slice A674 [(⟨t623, t624, t625, t626, t627⟩ : S57), (⟨t559, t560, t561, t562, t563⟩ : S57)].length cp675] (h := ?_); (with_reducible refine (toponymref26_G.calls (fun k_ => (((P_ k_ ∨ w.heap.size ≤ k_) ∧ k_ ≠ g1) ∧ k_ ≠ g11) ∧ k_ ≠ g26) 0 16 _ _ [(⟨t623, t624, t625, t626, t627⟩ : S57), (⟨t559, t560, t561, t562, t563⟩ : S57)] t678 t679 t680 t681 t682 _ (Kd.F_mono (ok := (fun k_ => (((P_ k_ ∨ w.heap.size ≤ k_) ∧ k_ ≠ g1) ∧ k_ ≠ g11) ∧ k_ ≠ g26)) HF676.out (fun k_ hk_ => hk_)) HL677.out At683.out).mono ?_); rintro e w684 ⟨A685, cp685, rfl, hl685, hn685, hb⟩; refine ⟨_, rfl, ?_⟩)
  refine zg ?_
  have HL685 := za hl685
  have HF685 := za (Kd.F_mono hn685 (fun k_ hk_ => hk_.elim (fun h_ => h_) (fun h_ => ⟨⟨⟨.inr (Nat.le_trans (below_size HB.out) h_), Kd.freshB (g := g1) BKg1.out k_ h_⟩, Kd.freshB (g := g11) BKg11.out k_ h_⟩, Kd.freshB (g := g26) BKg26.out k_ h_⟩)) : Kd.F k57 _ (fun k_ => (((P_ k_ ∨ w.heap.size ≤ k_) ∧ k_ ≠ g1) ∧ k_ ≠ g11) ∧ k_ ≠ g26) _ _ _)
  clear hn685 hl685
  replace BKg1 := zbb BKg1.out hb
  replace BKg11 := zbb BKg11.out hb
  replace BKg26 := zbb BKg26.out hb
  replace HB := zhb HB.out hb
  clear hb
  clear jaA jaB jaC jaD jaE jaF jaG jaH jaI jaJ jaK jaL jaM jaN jaO jaP jaQ jaR
  obtain ⟨jb4, jb5, jb6, jb7, jb8, jb9, jba, jbb⟩ := MB.lz8 BKg1.out
  obtain ⟨jbc, jbd, jbe, jbf, jbg⟩ := MB.lz5 BKg11.out
  obtain ⟨jbh, jbi, jbj, jbk, jbl⟩ := MB.lz5 BKg26.out
  refine wpList_nil ?_
  change wpAnyLast _ _ _ _ _ _ 1 #[true, true, true, true, true, true, false] ⟨[_, _, _, _, _, _, _, _, _, _, _, _, _, _, _, _, _, _, _, _, _, _, _, _, _, _, _, _, _, _, _, _, _, _, _, _, _, _, _, _, _, _, _, _, _, _, _, _, _, _, _, _, _, _, _, _, _, _, _, _, _, _, _].toArray, []⟩ _
  refine MW.last_fin (i := 6) (listed' := #[true, true, true, true, true, true, true]) rfl (by kernel_rfl) (by kernel_rfl) (by kernel_rfl) ?_
  go_wp2_with ((with_reducible refine gs 57 2 rfl ?_); refine zs 57 2 #[.int .i64 t678, .bool t679, .int .i64 t680, .string t681, .slice A685 t682.length cp685] BKg11.out [.int .i64 t678, .bool t679, .int .i64 t680, .string t681, .slice A685 t682.length cp685] (h := ?_); intro w704 hbk hg)
  refine zg ?_
  replace HF685 := zfg HF685.out hg fun k_ hk_ => hk_.1.2
  replace BKg1 := zbg BKg1.out hg NEg1_g11
  replace BKg26 := zbg BKg26.out hg NEg26_g11
  replace HB := zhg HB.out hg (below_size HB.out) GEg11
  replace BKg11 := hbk
  clear hg hbk
  clear jb4 jb5 jb6 jb7 jb8 jb9 jba jbb jbc jbd jbe jbf jbg jbh jbi jbj jbk jbl
  obtain ⟨jbn, jbo, jbp, jbq, jbr, jbs, jbt, jbu⟩ := MB.lz8 BKg1.out
  obtain ⟨jbv, jbw, jbx, jby, jbz⟩ := MB.lz5 BKg11.out
  obtain ⟨jbA, jbB, jbC, jbD, jbE⟩ := MB.lz5 BKg26.out
  refine wpList_nil ?_
  refine ⟨(by kernel_rfl), ?_⟩
  clear hwr_
  have H := HH.out
  simp only [Option.some.injEq, Prod.mk.injEq] at H
  obtain ⟨rfl, rfl, rfl, rfl, rfl⟩ := H
  clear HH
  go_wp2
  refine bodyPost_ret (MW.results_c rfl _ _ g11 57 #[.int .i64 t678, .bool t679, .int .i64 t680, .string t681, .slice A685 t682.length cp685] (0, 0) _ rfl BKg11.out Try.underlying57 rfl (by kernel_rfl)) rfl ?_
  exact ⟨_, _, by first | rfl | (simp; done) | (simp [*]; done), HL685.out, (Kd.F_mono (ok := (fun k_ => (((P_ k_ ∨ w.heap.size ≤ k_) ∧ k_ ≠ g1) ∧ k_ ≠ g11) ∧ k_ ≠ g26)) HF685.out (fun k_ hk_ => hk_.1.1.1)), HB.out⟩
 (try simp only [hk723, Bool.not_true, Bool.not_false])
 (try simp only [hk724, Bool.not_true, Bool.not_false])
 replace HH := zd HH
 obtain ⟨t725, At726, HH⟩ := HH
 go_wp2_with ((with_reducible refine gc 24 rfl ?_); refine zc 24 (some 54) Try.func24 #[.int .i64 a0_1] (h := ?_); (with_reducible refine (toponymref27_tag.calls  a0_1 t725 _  At726.out).mono ?_); rintro e w727 ⟨rfl, hb⟩; refine ⟨_, rfl, ?_⟩)
 refine zg ?_
 replace HN489 := znb HN489.out hb
 replace BKg1 := zbb BKg1.out hb
 replace BKg11 := zbb BKg11.out hb
 replace BKg26 := zbb BKg26.out hb
 replace HB := zhb HB.out hb
 clear hb
 clear j7U j7V j7W j7X j7Y j7Z j80 j81 j82 j83 j84 j85 j86 j87 j88 j89 j8a j8b
 obtain ⟨jbK, jbL, jbM, jbN, jbO, jbP, jbQ, jbR⟩ := MB.lz8 BKg1.out
 obtain ⟨jbS, jbT, jbU, jbV, jbW⟩ := MB.lz5 BKg11.out
 obtain ⟨jbX, jbY, jbZ, jc0, jc1⟩ := MB.lz5 BKg26.out
 obtain ⟨A746, cp747, he_⟩ := Kd.N_slice HN489.out
 subst he_
 have HL749 := za (Kd.N_reads' HN489.out).2.1
 have HF748 := za (Kd.N_F HN489.out)
 clear HN489
 replace HH := zd HH
 obtain ⟨⟨t750, t751, t752, t753, t754⟩, At755, HH⟩ := HH
 dsimp only at HH
 go_wp2_with ((with_reducible refine gc 70 rfl ?_); refine zc 70 (some 56) Try.func70 #[.int .i64 1, .int .i64 t725, .slice A746 [(⟨t397, t398, t399, t400, t401⟩ : S57), (⟨t423, t424, t425, t426, t427⟩ : S57), (⟨t449, t450, t451, t452, t453⟩ : S57)].length cp747] (h := ?_); (with_reducible refine (toponymref26_G.calls (fun k_ => (((P_ k_ ∨ w.heap.size ≤ k_) ∧ k_ ≠ g1) ∧ k_ ≠ g11) ∧ k_ ≠ g26) 1 t725 _ _ [(⟨t397, t398, t399, t400, t401⟩ : S57), (⟨t423, t424, t425, t426, t427⟩ : S57), (⟨t449, t450, t451, t452, t453⟩ : S57)] t750 t751 t752 t753 t754 _ (Kd.F_mono (ok := (fun k_ => (((P_ k_ ∨ w.heap.size ≤ k_) ∧ k_ ≠ g1) ∧ k_ ≠ g11) ∧ k_ ≠ g26)) HF748.out (fun k_ hk_ => hk_)) HL749.out At755.out).mono ?_); rintro e w756 ⟨A757, cp757, rfl, hl757, hn757, hb⟩; refine ⟨_, rfl, ?_⟩)
 refine zg ?_
 have HL757 := za hl757
 have HF757 := za (Kd.F_mono hn757 (fun k_ hk_ => hk_.elim (fun h_ => h_) (fun h_ => ⟨⟨⟨.inr (Nat.le_trans (below_size HB.out) h_), Kd.freshB (g := g1) BKg1.out k_ h_⟩, Kd.freshB (g := g11) BKg11.out k_ h_⟩, Kd.freshB (g := g26) BKg26.out k_ h_⟩)) : Kd.F k57 _ (fun k_ => (((P_ k_ ∨ w.heap.size ≤ k_) ∧ k_ ≠ g1) ∧ k_ ≠ g11) ∧ k_ ≠ g26) _ _ _)
 clear hn757 hl757
 replace BKg1 := zbb BKg1.out hb
 replace BKg11 := zbb BKg11.out hb
 replace BKg26 := zbb BKg26.out hb
 replace HB := zhb HB.out hb
 clear hb
 clear jbK jbL jbM jbN jbO jbP jbQ jbR jbS jbT jbU jbV jbW jbX jbY jbZ jc0 jc1
 obtain ⟨jce, jcf, jcg, jch, jci, jcj, jck, jcl⟩ := MB.lz8 BKg1.out
 obtain ⟨jcm, jcn, jco, jcp, jcq⟩ := MB.lz5 BKg11.out
 obtain ⟨jcr, jcs, jct, jcu, jcv⟩ := MB.lz5 BKg26.out
 go_wp2_with ((with_reducible refine gs 57 3 rfl ?_); refine zs 57 3 #[.int .i64 t750, .bool t751, .int .i64 t752, .string t753, .slice A757 t754.length cp757] BKg26.out [.int .i64 t750, .bool t751, .int .i64 t752, .string t753, .slice A757 t754.length cp757] (h := ?_); intro w776 hbk hg)
 refine zg ?_
 replace HF757 := zfg HF757.out hg fun k_ hk_ => hk_.2
 replace BKg1 := zbg BKg1.out hg NEg1_g26
 replace BKg11 := zbg BKg11.out hg NEg11_g26
 replace HB := zhg HB.out hg (below_size HB.out) GEg26
 replace BKg26 := hbk
 clear hg hbk
 clear jce jcf jcg jch jci jcj jck jcl jcm jcn jco jcp jcq jcr jcs jct jcu jcv
 obtain ⟨jcx, jcy, jcz, jcA, jcB, jcC, jcD, jcE⟩ := MB.lz8 BKg1.out
 obtain ⟨jcF, jcG, jcH, jcI, jcJ⟩ := MB.lz5 BKg11.out
 obtain ⟨jcK, jcL, jcM, jcN, jcO⟩ := MB.lz5 BKg26.out
 go_wp2
 have hwr_ : ∀ n_ : Int, IntKind.i64.wrap n_ = wrap64 n_ := fun n_ => IntWalk.i64_left n_
 refine wp_region_any (by kernel_rfl) ?_
 change wpAny _ _ _ _ 7 #[false, false, false, false, false, false, false] _ w776.drew
 obtain ⟨w795, hw_⟩ : ∃ w_ : World, w_ = w776.drew := ⟨_, rfl⟩
 rw [← hw_]
 have hb : Below w776.heap.size w776 w795 := by rw [hw_]; exact below_drew1 (Below.refl _ _)
 clear hw_
 replace HF757 := zfb HF757.out hb
 replace BKg1 := zbb BKg1.out hb
 replace BKg11 := zbb BKg11.out hb
 replace BKg26 := zbb BKg26.out hb
 replace HB := zhb HB.out hb
 clear hb
 clear jcx jcy jcz jcA jcB jcC jcD jcE jcF jcG jcH jcI jcJ jcK jcL jcM jcN jcO
 obtain ⟨jcQ, jcR, jcS, jcT, jcU, jcV, jcW, jcX⟩ := MB.lz8 BKg1.out
 obtain ⟨jcY, jcZ, jd0, jd1, jd2⟩ := MB.lz5 BKg11.out
 obtain ⟨jd3, jd4, jd5, jd6, jd7⟩ := MB.lz5 BKg26.out
 refine MW.last_in (ds := [4, 5, 6]) (zk jcQ (zk jd3 (zk jd4 (zk jd5 (zk jd6 (zk jd7 z0)))))) ?_
 refine zlp 0 (.pointer (some ⟨g1, 0, none⟩)) #[_, _, _, _, _, _, _] ⟨[_, _, _, _, _, _, _, _, _, _, _, _, _, _, _, _, _, _, _, _, _, _, _, _, _, _, _, _, _, _, _, _, _, _, _, _, _, _, _, _, _, _, _, _, _, _, _, _, _, _, _, _, _, _, _, _, _, _, _, _, _, _, _].toArray, []⟩ (h := ?_)
 refine MW.last_take (i := 1) (v := .int .i64 a0_0) (listed' := #[_, _, _, _, _, _, _]) (a' := ⟨[_, _, _, _, _, _, _, _, _, _, _, _, _, _, _, _, _, _, _, _, _, _, _, _, _, _, _, _, _, _, _, _, _, _, _, _, _, _, _, _, _, _, _, _, _, _, _, _, _, _, _, _, _, _, _, _, _, _, _, _, _, _, _].toArray, []⟩) rfl (by kernel_rfl) (by kernel_rfl) (by kernel_rfl) (by kernel_rfl) (by kernel_rfl) (fun _ _ _ h_ => h_) (by kernel_rfl) (fun w_ hS_ => ?go) (zk jcQ (zk jd3 (zk jd4 (zk jd5 (zk jd6 (zk jd7 z0)))))) rfl rfl ?_
 case go => obtain ⟨hs0_, _, _, _, _, _, _⟩ := hS_; first | (go_simp; done) | (go_simp; rfl)
 refine MW.last_take (i := 3) (v := .agg #[.int .i64 t750, .bool t751, .int .i64 t752, .string t753, .slice A757 t754.length cp757]) (listed' := #[_, _, _, _, _, _, _]) (a' := ⟨[_, _, _, _, _, _, _, _, _, _, _, _, _, _, _, _, _, _, _, _, _, _, _, _, _, _, _, _, _, _, _, _, _, _, _, _, _, _, _, _, _, _, _, _, _, _, _, _, _, _, _, _, _, _, _, _, _, _, _, _, _, _, _].toArray, []⟩) rfl (by kernel_rfl) (by kernel_rfl) (by kernel_rfl) (by kernel_rfl) (by kernel_rfl) (fun _ _ _ h_ => h_) (by kernel_rfl) (fun w_ hS_ => ?go) (zk jcQ (zk jd3 (zk jd4 (zk jd5 (zk jd6 (zk jd7 z0)))))) rfl rfl ?_
 case go => obtain ⟨_, hs1_, hs2_, hs3_, hs4_, hs5_, _⟩ := hS_; first | (go_simp; done) | (go_simp; rfl)
 refine MW.last_act (i := 2) (listed' := #[true, true, true, true, false, false, false]) rfl (by kernel_rfl) (by kernel_rfl) (by decide) ?_
 replace HH := zd HH
 obtain ⟨⟨t814, t815, t816, t817, t818⟩, At819, HH⟩ := HH
 dsimp only at HH
 go_wp2_with ((with_reducible refine gc 72 rfl ?_); refine zc 72 (some 59) Try.func72 #[.int .i64 2, .int .i64 a0_0] (h := ?_); (with_reducible refine (toponymref26_I.calls k  2 a0_0 t814 t815 t816 t817 t818 _  At819.out).mono ?_); rintro e w820 ⟨v821, rfl, hn821, hb⟩; refine ⟨_, rfl, ?_⟩)
 refine zg ?_
 have hba := Kd.N_base hn821
 have HN821 := znl (ok2 := (fun k_ => (((P_ k_ ∨ w.heap.size ≤ k_) ∧ k_ ≠ g1) ∧ k_ ≠ g11) ∧ k_ ≠ g26)) hn821 (below_size HB.out) (fun k_ h_ => ⟨⟨⟨.inr (Nat.le_trans (below_size HB.out) h_), Kd.freshB (g := g1) BKg1.out k_ h_⟩, Kd.freshB (g := g11) BKg11.out k_ h_⟩, Kd.freshB (g := g26) BKg26.out k_ h_⟩)
 replace HF757 := zfr (v := v821) HF757.out hba hb
 replace BKg1 := zbb BKg1.out hb
 replace BKg11 := zbb BKg11.out hb
 replace BKg26 := zbb BKg26.out hb
 replace HB := zhb HB.out hb
 clear hn821 hba hb
 clear jcQ jcR jcS jcT jcU jcV jcW jcX jcY jcZ jd0 jd1 jd2 jd3 jd4 jd5 jd6 jd7
 obtain ⟨jdg, jdh, jdi, jdj, jdk, jdl, jdm, jdn⟩ := MB.lz8 BKg1.out
 obtain ⟨jdo, jdp, jdq, jdr, jds⟩ := MB.lz5 BKg11.out
 obtain ⟨jdt, jdu, jdv, jdw, jdx⟩ := MB.lz5 BKg26.out
 refine wpList_nil ?_
 change MW.Cells _ _ ∧ wpAnyLast _ _ _ _ _ _ 3 #[true, true, true, true, false, false, false] ⟨[_, _, _, _, _, _, _, _, _, _, _, _, _, _, _, _, _, _, _, _, _, _, _, _, _, _, _, _, _, _, _, _, _, _, _, _, _, _, _, _, _, _, _, _, _, _, _, _, _, _, _, _, _, _, _, _, _, _, _, _, _, _, _].toArray, []⟩ _
 refine ⟨(zk jdg (zk jdt (zk jdu (zk jdv (zk jdw (zk jdx z0)))))), ?_⟩
 refine MW.last_fin (i := 4) (listed' := #[true, true, true, true, true, false, false]) rfl (by kernel_rfl) (by kernel_rfl) (by kernel_rfl) ?_
 obtain ⟨A840, cp841, he_⟩ := Kd.N_slice HN821.out
 subst he_
 have HL843 := za (Kd.N_reads' HN821.out).2.1
 have HF842 := za (Kd.N_F HN821.out)
 clear HN821
 replace HF757 := za (Kd.F_mono (ok := (fun k_ => ((((P_ k_ ∨ w.heap.size ≤ k_) ∧ k_ ≠ g1) ∧ k_ ≠ g11) ∧ k_ ≠ g26) ∧ some k_ ≠ ((.slice A840 t818.length cp841) : Value).ownBlock)) HF757.out (fun k_ hk_ => hk_.1) : Kd.F k57 _ (fun k_ => (((P_ k_ ∨ w.heap.size ≤ k_) ∧ k_ ≠ g1) ∧ k_ ≠ g11) ∧ k_ ≠ g26) _ _ _)
 go_wp2_with (((with_reducible refine gate_dst (N := 61) rfl ?_); (try (refine gate_guard (by rfl) ?_; dsimp only)); refine Kd.N_lit k57 w.heap.size 57 rfl (N' := 61) rfl (xs := [(⟨t814, t815, t816, t817, t818⟩ : S57), (⟨t750, t751, t752, t753, t754⟩ : S57)]) (inner := [.int .i64 t814, .bool t815, .int .i64 t816, .string t817, .slice A840 t818.length cp841, .int .i64 t750, .bool t751, .int .i64 t752, .string t753, .slice A757 t754.length cp757]) (ok := (fun k_ => (((P_ k_ ∨ w.heap.size ≤ k_) ∧ k_ ≠ g1) ∧ k_ ≠ g11) ∧ k_ ≠ g26)) (okp := (fun k_ => (((P_ k_ ∨ w.heap.size ≤ k_) ∧ k_ ≠ g1) ∧ k_ ≠ g11) ∧ k_ ≠ g26)) ?hr ?hp (fun _ hk_ => hk_) ?hf HB.out (below_size HB.out) (by first | simp | decide) ?_; (case hr => first | (go_simp; done) | (go_simp; rfl)); (case hp => exact (Reps.c5 (k57_mkF _ _ (⟨t814, t815, t816, t817, t818⟩ : S57) HL843.out (Kd.F_mono (ok := (fun k_ => (((P_ k_ ∨ w.heap.size ≤ k_) ∧ k_ ≠ g1) ∧ k_ ≠ g11) ∧ k_ ≠ g26)) HF842.out (fun k_ hk_ => hk_))) (Reps.c5 (k57_mkF _ _ (⟨t750, t751, t752, t753, t754⟩ : S57) HL757.out (Kd.F_mono (ok := (fun k_ => (((P_ k_ ∨ w.heap.size ≤ k_) ∧ k_ ≠ g1) ∧ k_ ≠ g11) ∧ k_ ≠ g26)) HF757.out (fun k_ hk_ => hk_))) (Reps.none _ _)))); (case hf => exact (show ∀ k_, w820.heap.size ≤ k_ → (fun k_ => (((P_ k_ ∨ w.heap.size ≤ k_) ∧ k_ ≠ g1) ∧ k_ ≠ g11) ∧ k_ ≠ g26) k_ from fun k_ h_ => ⟨⟨⟨.inr (Nat.le_trans (below_size HB.out) h_), Kd.freshB (g := g1) BKg1.out k_ h_⟩, Kd.freshB (g := g11) BKg11.out k_ h_⟩, Kd.freshB (g := g26) BKg26.out k_ h_⟩) _ (Nat.le_refl _)); intro v844 w845 hn1 hb1 hg1 hat1); replace hat1 := za hat1; refine stop_ ?_)
 refine zg ?_
 replace hat1 := hat1.out
 have hbe := MW.grown_below hg1
 have hba := MW.base_of hat1
 replace BKg1 := za (blk_below (g := g1) BKg1.out hbe)
 replace BKg11 := za (blk_below (g := g11) BKg11.out hbe)
 replace BKg26 := za (blk_below (g := g26) BKg26.out hbe)
 replace HB := za hb1
 have HN846 := za hn1
 clear hn1 hb1 hg1 hat1 hbe hba
 clear jdg jdh jdi jdj jdk jdl jdm jdn jdo jdp jdq jdr jds jdt jdu jdv jdw jdx
 obtain ⟨jdF, jdG, jdH, jdI, jdJ, jdK, jdL, jdM⟩ := MB.lz8 BKg1.out
 obtain ⟨jdN, jdO, jdP, jdQ, jdR⟩ := MB.lz5 BKg11.out
 obtain ⟨jdS, jdT, jdU, jdV, jdW⟩ := MB.lz5 BKg26.out
 refine wpList_nil ?_
 change wpAnyLast _ _ _ _ _ _ 2 #[true, true, true, true, true, false, false] ⟨[_, _, _, _, _, _, _, _, _, _, _, _, _, _, _, _, _, _, _, _, _, _, _, _, _, _, _, _, _, _, _, _, _, _, _, _, _, _, _, _, _, _, _, _, _, _, _, _, _, _, _, _, _, _, _, _, _, _, _, _, _, _, _].toArray, []⟩ _
 refine MW.last_fin (i := 5) (listed' := #[true, true, true, true, true, true, false]) rfl (by kernel_rfl) (by kernel_rfl) (by kernel_rfl) ?_
 obtain ⟨A865, cp866, he_⟩ := Kd.N_slice HN846.out
 subst he_
 have HL868 := za (Kd.N_reads' HN846.out).2.1
 have HF867 := za (Kd.N_F HN846.out)
 clear HN846
 replace HH := zd HH
 obtain ⟨⟨t869, t870, t871, t872, t873⟩, At874, HH⟩ := HH
 dsimp only at HH
 go_wp2_with ((with_reducible refine gc 70 rfl ?_); refine zc 70 (some 62) Try.func70 #[.int .i64 0, .int .i64 16, .slice A865 [(⟨t814, t815, t816, t817, t818⟩ : S57), (⟨t750, t751, t752, t753, t754⟩ : S57)].length cp866] (h := ?_); (with_reducible refine (toponymref26_G.calls (fun k_ => (((P_ k_ ∨ w.heap.size ≤ k_) ∧ k_ ≠ g1) ∧ k_ ≠ g11) ∧ k_ ≠ g26) 0 16 _ _ [(⟨t814, t815, t816, t817, t818⟩ : S57), (⟨t750, t751, t752, t753, t754⟩ : S57)] t869 t870 t871 t872 t873 _ (Kd.F_mono (ok := (fun k_ => (((P_ k_ ∨ w.heap.size ≤ k_) ∧ k_ ≠ g1) ∧ k_ ≠ g11) ∧ k_ ≠ g26)) HF867.out (fun k_ hk_ => hk_)) HL868.out At874.out).mono ?_); rintro e w875 ⟨A876, cp876, rfl, hl876, hn876, hb⟩; refine ⟨_, rfl, ?_⟩)
 refine zg ?_
 have HL876 := za hl876
 have HF876 := za (Kd.F_mono hn876 (fun k_ hk_ => hk_.elim (fun h_ => h_) (fun h_ => ⟨⟨⟨.inr (Nat.le_trans (below_size HB.out) h_), Kd.freshB (g := g1) BKg1.out k_ h_⟩, Kd.freshB (g := g11) BKg11.out k_ h_⟩, Kd.freshB (g := g26) BKg26.out k_ h_⟩)) : Kd.F k57 _ (fun k_ => (((P_ k_ ∨ w.heap.size ≤ k_) ∧ k_ ≠ g1) ∧ k_ ≠ g11) ∧ k_ ≠ g26) _ _ _)
 clear hn876 hl876
 replace BKg1 := zbb BKg1.out hb
 replace BKg11 := zbb BKg11.out hb
 replace BKg26 := zbb BKg26.out hb
 replace HB := zhb HB.out hb
 clear hb
 clear jdF jdG jdH jdI jdJ jdK jdL jdM jdN jdO jdP jdQ jdR jdS jdT jdU jdV jdW
 obtain ⟨je9, jea, jeb, jec, jed, jee, jef, jeg⟩ := MB.lz8 BKg1.out
 obtain ⟨jeh, jei, jej, jek, jel⟩ := MB.lz5 BKg11.out
 obtain ⟨jem, jen, jeo, jep, jeq⟩ := MB.lz5 BKg26.out
 refine wpList_nil ?_
 change wpAnyLast _ _ _ _ _ _ 1 #[true, true, true, true, true, true, false] ⟨[_, _, _, _, _, _, _, _, _, _, _, _, _, _, _, _, _, _, _, _, _, _, _, _, _, _, _, _, _, _, _, _, _, _, _, _, _, _, _, _, _, _, _, _, _, _, _, _, _, _, _, _, _, _, _, _, _, _, _, _, _, _, _].toArray, []⟩ _
 refine MW.last_fin (i := 6) (listed' := #[true, true, true, true, true, true, true]) rfl (by kernel_rfl) (by kernel_rfl) (by kernel_rfl) ?_
 go_wp2_with ((with_reducible refine gs 57 2 rfl ?_); refine zs 57 2 #[.int .i64 t869, .bool t870, .int .i64 t871, .string t872, .slice A876 t873.length cp876] BKg11.out [.int .i64 t869, .bool t870, .int .i64 t871, .string t872, .slice A876 t873.length cp876] (h := ?_); intro w895 hbk hg)
 refine zg ?_
 replace HF876 := zfg HF876.out hg fun k_ hk_ => hk_.1.2
 replace BKg1 := zbg BKg1.out hg NEg1_g11
 replace BKg26 := zbg BKg26.out hg NEg26_g11
 replace HB := zhg HB.out hg (below_size HB.out) GEg11
 replace BKg11 := hbk
 clear hg hbk
 clear je9 jea jeb jec jed jee jef jeg jeh jei jej jek jel jem jen jeo jep jeq
 obtain ⟨jes, jet, jeu, jev, jew, jex, jey, jez⟩ := MB.lz8 BKg1.out
 obtain ⟨jeA, jeB, jeC, jeD, jeE⟩ := MB.lz5 BKg11.out
 obtain ⟨jeF, jeG, jeH, jeI, jeJ⟩ := MB.lz5 BKg26.out
 refine wpList_nil ?_
 refine ⟨(by kernel_rfl), ?_⟩
 clear hwr_
 have H := HH.out
 simp only [Option.some.injEq, Prod.mk.injEq] at H
 obtain ⟨rfl, rfl, rfl, rfl, rfl⟩ := H
 clear HH
 go_wp2
 refine bodyPost_ret (MW.results_c rfl _ _ g11 57 #[.int .i64 t869, .bool t870, .int .i64 t871, .string t872, .slice A876 t873.length cp876] (0, 0) _ rfl BKg11.out Try.underlying57 rfl (by kernel_rfl)) rfl ?_
 exact ⟨_, _, by first | rfl | (simp; done) | (simp [*]; done), HL876.out, (Kd.F_mono (ok := (fun k_ => (((P_ k_ ∨ w.heap.size ≤ k_) ∧ k_ ≠ g1) ∧ k_ ≠ g11) ∧ k_ ≠ g26)) HF876.out (fun k_ hk_ => hk_.1.1.1)), HB.out⟩
end Go.Proofs.Ytdjkemhmhkpmkaa.GA
