import Derived.Test.YtdjkemhmhkpmkaaGA0
import Derived.Test.YtdjkemhmhkpmkaaGAB
import Derived.Test.YtdjkemhmhkpmkaaGAF34
import Derived.Test.YtdjkemhmhkpmkaaGAF49
import Derived.Test.YtdjkemhmhkpmkaaGAF63
import Derived.Test.YtdjkemhmhkpmkaaGM1
import Derived.Test.YtdjkemhmhkpmkaaMX
namespace Go.Proofs.Ytdjkemhmhkpmkaa.GA
open Go.RowKit Go.Proofs.Ytdjkemhmhkpmkaa Go.Proofs.Ytdjkemhmhkpmkaa.MW Go.Proofs.YtdjkemhmhkpmkaaW.PrintWords Go.Proofs.YtdjkemhmhkpmkaaW.PrintLast Go.Proofs.YtdjkemhmhkpmkaaW.PrintMore
attribute [local go_sem] max2_int min2_int max_two min_two
set_option linter.unusedVariables false
set_option linter.unusedSimpArgs false
/-! ### ber_one: function 88 -/
def ber_one.f (k : Nat) (a0_0 : Int) (a0_1 : Bool) (a0_2 : Int) (a0_3 : ByteArray) (l0_4 : List (S57)) : Option (ByteArray × Bool) := (ber_sheaf_lay.f k ([] : List Int) false a0_0 a0_1 a0_2 a0_3 l0_4).bind fun bt31 => (some (strOfNums bt31.1, !bt31.2))
theorem ber_one.mono : ∀ a0_ a1_ a2_ a3_ a4_ k, LeO (ber_one.f k a0_ a1_ a2_ a3_ a4_) (ber_one.f (k + 1) a0_ a1_ a2_ a3_ a4_) := by
 intro a0_ a1_ a2_ a3_ a4_ k
 unfold ber_one.f
 repeat' first
   | (with_reducible exact ber_sheaf_lay.mono _ _ _ _ _ _ _ _)
   | (with_reducible exact LeO.refl _)
   | (with_reducible exact LeO.none _)
   | (with_reducible refine LeO.ite ?_ ?_)
   | (with_reducible refine LeO.bind ?_ (fun _ => ?_))
set_option maxHeartbeats 8000000 in
set_option maxRecDepth 100000 in
theorem ber_one.calls (k : Nat) (P_ : Nat → Prop) (a0_0 : Int) (a0_1 : Bool) (a0_2 : Int) (a0_3 : ByteArray) (A0_4 : Option Addr) (c0_4 : Nat) (l0_4 : List (S57)) (r1 : ByteArray) (r2 : Bool) (w : World) (hs0_4 : Kd.F k57 w P_ A0_4 l0_4.length l0_4) (hc0_4 : l0_4.length ≤ c0_4) (h : ber_one.f k a0_0 a0_1 a0_2 a0_3 l0_4 = some (r1, r2)) :
  Calls Try.prog 88 #[.agg #[.int .i64 a0_0, .bool a0_1, .int .i64 a0_2, .string a0_3, .slice A0_4 l0_4.length c0_4]] w (fun e w' => e = .returned (.tuple #[.string r1, .bool r2]) ∧ Below w.heap.size w w') := by
 have HH := Aside0.mk (show ((ber_sheaf_lay.f k ([] : List Int) false a0_0 a0_1 a0_2 a0_3 l0_4).bind fun bt31 => (some (strOfNums bt31.1, !bt31.2))) = some (r1, r2) from h)
 clear h
 have HF0_4 := zfp hs0_4
 have HL0_4 := Aside0.mk hc0_4
 clear hs0_4 hc0_4
 have HB := Aside0.mk (Below.refl w.heap.size w)
 have hu57 := Try.underlying57
 have hu99 := Try.underlying99
 go_enter Try.func88, Try.ntmps88
 go_wp2_with ((with_reducible refine gd 1 rfl ?_); refine zb 1 57 #[.int .i64 a0_0, .bool a0_1, .int .i64 a0_2, .string a0_3, .slice A0_4 l0_4.length c0_4] (h := ?_); intro g1 hg w2 BKg1 hb)
 refine Stop.go ?_
 replace HF0_4 := zfe HF0_4.out hg hb
 replace HB := zhb HB.out hb
 clear hg hb
 obtain ⟨j3, j4, j5, j6, j7, j8, j9, ja, jb, jc⟩ := MB.lay5 BKg1.out
 go_wp2_with ((with_reducible refine gd 4 rfl ?_); refine zb 4 99 #[.pointer none, .slice none 0 0, .bool false] (h := ?_); intro g13 hg w14 BKg13 hb)
 refine Stop.go ?_
 have GEg13 := zge hg (below_size HB.out)
 have NEg1_g13 := znq hg BKg1.out
 replace HF0_4 := zfe HF0_4.out hg hb
 replace BKg1 := zbb BKg1.out hb
 replace HB := zhb HB.out hb
 clear hg hb
 clear j3 j4 j5 j6 j7 j8 j9 ja jb jc
 obtain ⟨jf, jg, jh, ji, jj, jk, jl, jm, jn, jo⟩ := MB.lay5 BKg1.out
 obtain ⟨jp, jq, jr, js, jt, ju⟩ := MB.lay3 BKg13.out
 replace HH := zd HH
 obtain ⟨⟨t31, t32⟩, At33, HH⟩ := HH
 dsimp only at HH
 go_wp2_with (((with_reducible refine gc 63 rfl ?_); refine zc 63 (some 6) Try.func63 #[.pointer (some ⟨g13, 0, none⟩), .agg #[.int .i64 a0_0, .bool a0_1, .int .i64 a0_2, .string a0_3, .slice A0_4 l0_4.length c0_4]] (h := ?_); refine (ber_sheaf_lay.calls k (fun k_ => ((P_ k_ ∨ w.heap.size ≤ k_) ∧ k_ ≠ g1) ∧ k_ ≠ g13) w.heap.size g13 (.pointer none) (.slice none 0 0) ([] : List Int) false a0_0 a0_1 a0_2 a0_3 _ _ l0_4 t31 t32 _ (below_size HB.out) (fun k_ hk_ => hk_.2) (fun k_ hk_ => (by simp [Value.ownBlock])) BKg13.out GEg13.out (.inl rfl) (Kd.N_nil _ _ _ _ _) (Kd.F_mono (ok := (fun k_ => ((P_ k_ ∨ w.heap.size ≤ k_) ∧ k_ ≠ g1) ∧ k_ ≠ g13)) HF0_4.out (fun k_ hk_ => hk_)) HL0_4.out At33.out).mono ?_; rintro e w34 ⟨v35, p36, rfl, hn1, hp1, hbk, hfr, hb⟩; refine ⟨_, rfl, ?_⟩); replace hbk := Aside0.mk hbk; replace hfr := Aside0.mk hfr; replace hp1 := Aside0.mk hp1)
 refine Stop.go ?_
 replace hbk := hbk.out
 replace hfr := hfr.out
 replace hp1 := hp1.out
 have hat1 : ∀ k_ : Nat, (v35 : Value).ownBlock = some k_ → some k_ = (.slice none 0 0 : Value).ownBlock ∨ w14.heap.size ≤ k_ := fun k_ h_ => (hn1.1 k_ h_).1.2
 have HN37 := Aside0.mk (Kd.N_mono hn1 (fun k_ hk_ => hk_.1.2.elim (fun h_ => absurd h_ (by simp [Value.ownBlock])) (fun h_ => ⟨⟨.inr (Nat.le_trans (below_size HB.out) h_), Kd.freshB (g := g1) BKg1.out k_ h_⟩, Kd.freshB (g := g13) BKg13.out k_ h_⟩)) : Kd.N (Kd.int .u8) 5 w34 w.heap.size (fun k_ => ((P_ k_ ∨ w.heap.size ≤ k_) ∧ k_ ≠ g1) ∧ k_ ≠ g13) v35 t31)
 replace BKg1 := Aside0.mk (MB.blk_ptr BKg1.out hfr NEg1_g13.out (by simp [Value.ownBlock]))
 replace HB := Aside0.mk (Below.trans HB.out hb)
 replace BKg13 := Aside0.mk hbk
 have HPp36 := Aside0.mk hp1
 clear hbk hfr hb hp1 hn1 hat1
 clear jf jg jh ji jj jk jl jm jn jo jp jq jr js jt ju
 obtain ⟨jC, jD, jE, jF, jG, jH, jI, jJ, jK, jL⟩ := MB.lay5 BKg1.out
 obtain ⟨jM, jN, jO, jP, jQ, jR⟩ := MB.lay3 BKg13.out
 go_wp2
 have hwr_ : ∀ n_ : Int, IntKind.i64.wrap n_ = wrap64 n_ := fun n_ => IntWalk.i64_left n_
 refine wp_region_any (by kernel_rfl) ?_
 change wpAny _ _ _ _ 7 #[false, false, false, false, false, false, false] _ w34.drew
 obtain ⟨w54, hw_⟩ : ∃ w_ : World, w_ = w34.drew := ⟨_, rfl⟩
 rw [← hw_]
 have hb : Below w34.heap.size w34 w54 := by rw [hw_]; exact below_drew1 (Below.refl _ _)
 clear hw_
 replace HN37 := znb HN37.out hb
 replace BKg1 := zbb BKg1.out hb
 replace BKg13 := zbb BKg13.out hb
 replace HB := zhb HB.out hb
 clear hb
 clear jC jD jE jF jG jH jI jJ jK jL jM jN jO jP jQ jR
 obtain ⟨jT, jU, jV, jW, jX, jY, jZ, j10, j11, j12⟩ := MB.lay5 BKg1.out
 obtain ⟨j13, j14, j15, j16, j17, j18⟩ := MB.lay3 BKg13.out
 refine MW.any_take (i := 0) (v := .pointer (some ⟨g13, 0, none⟩)) (listed' := #[true, false, false, false, false, false, false]) (a' := ⟨[_, _, _, _, _, _, _, _, _, _, _, _].toArray, []⟩) rfl (by kernel_rfl) (by kernel_rfl) (by kernel_rfl) (fun _ _ _ h_ => h_) (.inl ⟨(by kernel_rfl), fun _ => (by first | rfl | (go_simp; done) | (go_simp; rfl))⟩) (by kernel_rfl) rfl ?_
 refine MW.any_take (i := 2) (v := .pointer (some ⟨g13, 2, none⟩)) (listed' := #[true, false, true, false, false, false, false]) (a' := ⟨[_, _, _, _, _, _, _, _, _, _, _, _].toArray, []⟩) rfl (by kernel_rfl) (by kernel_rfl) (by kernel_rfl) (fun _ _ _ h_ => h_) (.inl ⟨(by kernel_rfl), fun _ => (by first | rfl | (go_simp; done) | (go_simp; rfl))⟩) (by kernel_rfl) rfl ?_
 refine MW.any_fork (i := 1) (j := 3) (vj := .bool t32) (Li := #[true, true, true, false, false, false, false]) (Lj := #[true, false, true, true, false, false, false]) (aj := ⟨[(.agg #[.int .i64 a0_0, .bool a0_1, .int .i64 a0_2, .string a0_3, .slice A0_4 l0_4.length c0_4]), (.pointer (some ⟨g1, 0, none⟩)), (.string (⟨#[]⟩ : ByteArray)), (.bool false), (.pointer (some ⟨g13, 0, none⟩)), (.agg #[.int .i64 a0_0, .bool a0_1, .int .i64 a0_2, .string a0_3, .slice A0_4 l0_4.length c0_4]), (.tuple #[]), (.pointer (some ⟨g13, 0, none⟩)), undef, (.pointer (some ⟨g13, 2, none⟩)), (.bool t32), undef].toArray, []⟩) rfl rfl (by first | (left; kernel_rfl) | (right; kernel_rfl)) (by kernel_rfl) (by first | rfl | (go_simp; done) | (go_simp; rfl)) (by kernel_rfl) (by kernel_rfl) (by kernel_rfl) ?fa71 ?fb72
 case fa71 =>
  obtain ⟨A73, cp74, he_⟩ := Kd.N_slice HN37.out
  subst he_
  go_wp2_with (((with_reducible refine gc 64 rfl ?_); refine zc 64 (some 8) Try.func64 #[.pointer (some ⟨g13, 0, none⟩)] (h := ?_); refine (bString64 g13 99 (p36) ((.slice A73 t31.length cp74)) [.bool t32] w.heap.size (fun k_ => ((P_ k_ ∨ w.heap.size ≤ k_) ∧ k_ ≠ g1) ∧ k_ ≠ g13) t31 _ BKg13.out HN37.out).mono ?_; rintro e w75 ⟨rfl, hg⟩; refine ⟨_, rfl, ?_⟩))
  refine Stop.go ?_
  replace BKg1 := Aside0.mk (blk_grown (g := g1) BKg1.out hg (Kd.N_away (ok := (fun k_ => ((P_ k_ ∨ w.heap.size ≤ k_) ∧ k_ ≠ g1) ∧ k_ ≠ g13)) HN37.out (fun k_ hk_ => hk_.1.2)))
  replace BKg13 := Aside0.mk (blk_grown (g := g13) BKg13.out hg (Kd.N_away (ok := (fun k_ => ((P_ k_ ∨ w.heap.size ≤ k_) ∧ k_ ≠ g1) ∧ k_ ≠ g13)) HN37.out (fun k_ hk_ => hk_.2)))
  replace HB := Aside0.mk (Below.grown HB.out hg (below_size HB.out) (Kd.N_base HN37.out))
  clear hg HN37
  clear jT jU jV jW jX jY jZ j10 j11 j12 j13 j14 j15 j16 j17 j18
  obtain ⟨j1e, j1f, j1g, j1h, j1i, j1j, j1k, j1l, j1m, j1n⟩ := MB.lay5 BKg1.out
  obtain ⟨j1o, j1p, j1q, j1r, j1s, j1t⟩ := MB.lay3 BKg13.out
  refine wpList_nil ?_
  change wpAny _ _ _ _ 4 #[true, true, true, false, false, false, false] ⟨[(.agg #[.int .i64 a0_0, .bool a0_1, .int .i64 a0_2, .string a0_3, .slice A0_4 l0_4.length c0_4]), (.pointer (some ⟨g1, 0, none⟩)), (.string (⟨#[]⟩ : ByteArray)), (.bool false), (.pointer (some ⟨g13, 0, none⟩)), (.agg #[.int .i64 a0_0, .bool a0_1, .int .i64 a0_2, .string a0_3, .slice A0_4 l0_4.length c0_4]), (.tuple #[]), (.pointer (some ⟨g13, 0, none⟩)), (.string (strOfNums t31)), (.pointer (some ⟨g13, 2, none⟩)), undef, undef].toArray, []⟩ _
  refine MW.any_take (i := 5) (v := .string (strOfNums t31)) (listed' := #[true, true, true, false, false, true, false]) (a' := ⟨[_, _, _, _, _, _, _, _, _, _, _, _].toArray, []⟩) rfl (by kernel_rfl) (by kernel_rfl) (by kernel_rfl) (fun _ _ _ h_ => h_) (.inl ⟨(by kernel_rfl), fun _ => (by first | rfl | (go_simp; done) | (go_simp; rfl))⟩) (by kernel_rfl) rfl ?_
  refine MW.any_one (i := 3) (v := .bool t32) (listed' := #[true, true, true, true, false, true, false]) (a' := ⟨[(.agg #[.int .i64 a0_0, .bool a0_1, .int .i64 a0_2, .string a0_3, .slice A0_4 l0_4.length c0_4]), (.pointer (some ⟨g1, 0, none⟩)), (.string (strOfNums t31)), (.bool false), (.pointer (some ⟨g13, 0, none⟩)), (.agg #[.int .i64 a0_0, .bool a0_1, .int .i64 a0_2, .string a0_3, .slice A0_4 l0_4.length c0_4]), (.tuple #[]), (.pointer (some ⟨g13, 0, none⟩)), (.string (strOfNums t31)), (.pointer (some ⟨g13, 2, none⟩)), (.bool t32), undef].toArray, []⟩) rfl (by kernel_rfl) (by kernel_rfl) (by first | rfl | (go_simp; done) | (go_simp; rfl)) (by kernel_rfl) (by kernel_rfl) ?_
  refine MW.any_take (i := 4) (v := .bool (!t32)) (listed' := #[true, true, true, true, true, true, false]) (a' := ⟨[_, _, _, _, _, _, _, _, _, _, _, _].toArray, []⟩) rfl (by kernel_rfl) (by kernel_rfl) (by kernel_rfl) (fun _ _ _ h_ => h_) (.inl ⟨(by kernel_rfl), fun _ => (by first | rfl | (go_simp; done) | (go_simp; rfl))⟩) (by kernel_rfl) rfl ?_
  refine MW.any_take (i := 6) (v := .bool (!t32)) (listed' := #[true, true, true, true, true, true, true]) (a' := ⟨[_, _, _, _, _, _, _, _, _, _, _, _].toArray, []⟩) rfl (by kernel_rfl) (by kernel_rfl) (by kernel_rfl) (fun _ _ _ h_ => h_) (.inl ⟨(by kernel_rfl), fun _ => (by first | rfl | (go_simp; done) | (go_simp; rfl))⟩) (by kernel_rfl) rfl ?_
  refine wpAny_done (by kernel_rfl) ?_ _
  clear hwr_
  have H := HH.out
  simp only [Option.some.injEq, Prod.mk.injEq] at H
  obtain ⟨rfl, rfl⟩ := H
  clear HH
  go_wp2
  go_ret2
  exact ⟨by first | rfl | (simp; done) | (simp [*]; done), HB.out⟩
 case fb72 =>
  refine MW.any_take (i := 4) (v := .bool (!t32)) (listed' := #[true, false, true, true, true, false, false]) (a' := ⟨[_, _, _, _, _, _, _, _, _, _, _, _].toArray, []⟩) rfl (by kernel_rfl) (by kernel_rfl) (by kernel_rfl) (fun _ _ _ h_ => h_) (.inl ⟨(by kernel_rfl), fun _ => (by first | rfl | (go_simp; done) | (go_simp; rfl))⟩) (by kernel_rfl) rfl ?_
  refine MW.any_act (i := 1) (listed' := #[true, true, true, true, true, false, false]) rfl (by kernel_rfl) (by kernel_rfl) ?_
  obtain ⟨A92, cp93, he_⟩ := Kd.N_slice HN37.out
  subst he_
  go_wp2_with (((with_reducible refine gc 64 rfl ?_); refine zc 64 (some 8) Try.func64 #[.pointer (some ⟨g13, 0, none⟩)] (h := ?_); refine (bString64 g13 99 (p36) ((.slice A92 t31.length cp93)) [.bool t32] w.heap.size (fun k_ => ((P_ k_ ∨ w.heap.size ≤ k_) ∧ k_ ≠ g1) ∧ k_ ≠ g13) t31 _ BKg13.out HN37.out).mono ?_; rintro e w94 ⟨rfl, hg⟩; refine ⟨_, rfl, ?_⟩))
  refine Stop.go ?_
  replace BKg1 := Aside0.mk (blk_grown (g := g1) BKg1.out hg (Kd.N_away (ok := (fun k_ => ((P_ k_ ∨ w.heap.size ≤ k_) ∧ k_ ≠ g1) ∧ k_ ≠ g13)) HN37.out (fun k_ hk_ => hk_.1.2)))
  replace BKg13 := Aside0.mk (blk_grown (g := g13) BKg13.out hg (Kd.N_away (ok := (fun k_ => ((P_ k_ ∨ w.heap.size ≤ k_) ∧ k_ ≠ g1) ∧ k_ ≠ g13)) HN37.out (fun k_ hk_ => hk_.2)))
  replace HB := Aside0.mk (Below.grown HB.out hg (below_size HB.out) (Kd.N_base HN37.out))
  clear hg HN37
  clear jT jU jV jW jX jY jZ j10 j11 j12 j13 j14 j15 j16 j17 j18
  obtain ⟨j1x, j1y, j1z, j1A, j1B, j1C, j1D, j1E, j1F, j1G⟩ := MB.lay5 BKg1.out
  obtain ⟨j1H, j1I, j1J, j1K, j1L, j1M⟩ := MB.lay3 BKg13.out
  refine wpList_nil ?_
  change wpAny _ _ _ _ 2 #[true, true, true, true, true, false, false] ⟨[(.agg #[.int .i64 a0_0, .bool a0_1, .int .i64 a0_2, .string a0_3, .slice A0_4 l0_4.length c0_4]), (.pointer (some ⟨g1, 0, none⟩)), (.string (⟨#[]⟩ : ByteArray)), (.bool false), (.pointer (some ⟨g13, 0, none⟩)), (.agg #[.int .i64 a0_0, .bool a0_1, .int .i64 a0_2, .string a0_3, .slice A0_4 l0_4.length c0_4]), (.tuple #[]), (.pointer (some ⟨g13, 0, none⟩)), (.string (strOfNums t31)), (.pointer (some ⟨g13, 2, none⟩)), (.bool t32), (.bool (!t32))].toArray, []⟩ _
  refine MW.any_take (i := 5) (v := .string (strOfNums t31)) (listed' := #[true, true, true, true, true, true, false]) (a' := ⟨[_, _, _, _, _, _, _, _, _, _, _, _].toArray, []⟩) rfl (by kernel_rfl) (by kernel_rfl) (by kernel_rfl) (fun _ _ _ h_ => h_) (.inl ⟨(by kernel_rfl), fun _ => (by first | rfl | (go_simp; done) | (go_simp; rfl))⟩) (by kernel_rfl) rfl ?_
  refine MW.any_take (i := 6) (v := .bool (!t32)) (listed' := #[true, true, true, true, true, true, true]) (a' := ⟨[_, _, _, _, _, _, _, _, _, _, _, _].toArray, []⟩) rfl (by kernel_rfl) (by kernel_rfl) (by kernel_rfl) (fun _ _ _ h_ => h_) (.inl ⟨(by kernel_rfl), fun _ => (by first | rfl | (go_simp; done) | (go_simp; rfl))⟩) (by kernel_rfl) rfl ?_
  refine wpAny_done (by kernel_rfl) ?_ _
  clear hwr_
  have H := HH.out
  simp only [Option.some.injEq, Prod.mk.injEq] at H
  obtain ⟨rfl, rfl⟩ := H
  clear HH
  go_wp2
  go_ret2
  exact ⟨by first | rfl | (simp; done) | (simp [*]; done), HB.out⟩

/-! ### ber_Check: function 62 -/
def ber_Check.f (k : Nat) (a0_0 : Int) (a0_1 : Bool) (a0_2 : Int) (a0_3 : ByteArray) (l0_4 : List (S57)) : Option (Int) := (ber_Deep.f k a0_0 a0_1 a0_2 a0_3 l0_4).bind fun t13 => (if t13 > 12 then (some 153) else ((ber_sane.f k a0_0 a0_1 a0_2 a0_3 l0_4).bind fun t29 => (if t29 = true then ((ber_one.f k a0_0 a0_1 a0_2 a0_3 l0_4).bind fun bt43 => (if bt43.2 = true then (some 0) else (some 3))) else (some 2))))
theorem ber_Check.mono : ∀ a0_ a1_ a2_ a3_ a4_ k, LeO (ber_Check.f k a0_ a1_ a2_ a3_ a4_) (ber_Check.f (k + 1) a0_ a1_ a2_ a3_ a4_) := by
 intro a0_ a1_ a2_ a3_ a4_ k
 unfold ber_Check.f
 repeat' first
   | (with_reducible exact ber_Deep.mono _ _ _ _ _ _)
   | (with_reducible exact ber_one.mono _ _ _ _ _ _)
   | (with_reducible exact ber_sane.mono _ _ _ _ _ _)
   | (with_reducible exact LeO.refl _)
   | (with_reducible exact LeO.none _)
   | (with_reducible refine LeO.ite ?_ ?_)
   | (with_reducible refine LeO.bind ?_ (fun _ => ?_))
set_option maxHeartbeats 8000000 in
set_option maxRecDepth 100000 in
theorem ber_Check.calls (k : Nat) (P_ : Nat → Prop) (a0_0 : Int) (a0_1 : Bool) (a0_2 : Int) (a0_3 : ByteArray) (A0_4 : Option Addr) (c0_4 : Nat) (l0_4 : List (S57)) (r : Int) (w : World) (hs0_4 : Kd.F k57 w P_ A0_4 l0_4.length l0_4) (hc0_4 : l0_4.length ≤ c0_4) (h : ber_Check.f k a0_0 a0_1 a0_2 a0_3 l0_4 = some r) :
  Calls Try.prog 62 #[.agg #[.int .i64 a0_0, .bool a0_1, .int .i64 a0_2, .string a0_3, .slice A0_4 l0_4.length c0_4]] w (fun e w' => e = .returned (.int .i64 r) ∧ Below w.heap.size w w') := by
 have HH := Aside0.mk (show ((ber_Deep.f k a0_0 a0_1 a0_2 a0_3 l0_4).bind fun t13 => (if t13 > 12 then (some 153) else ((ber_sane.f k a0_0 a0_1 a0_2 a0_3 l0_4).bind fun t29 => (if t29 = true then ((ber_one.f k a0_0 a0_1 a0_2 a0_3 l0_4).bind fun bt43 => (if bt43.2 = true then (some 0) else (some 3))) else (some 2))))) = some r from h)
 clear h
 have HF0_4 := zfp hs0_4
 have HL0_4 := Aside0.mk hc0_4
 clear hs0_4 hc0_4
 have HB := Aside0.mk (Below.refl w.heap.size w)
 have hu57 := Try.underlying57
 go_enter Try.func62, Try.ntmps62
 go_wp2_with ((with_reducible refine gd 1 rfl ?_); refine zb 1 57 #[.int .i64 a0_0, .bool a0_1, .int .i64 a0_2, .string a0_3, .slice A0_4 l0_4.length c0_4] (h := ?_); intro g1 hg w2 BKg1 hb)
 refine Stop.go ?_
 replace HF0_4 := zfe HF0_4.out hg hb
 replace HB := zhb HB.out hb
 clear hg hb
 obtain ⟨j3, j4, j5, j6, j7, j8, j9, ja, jb, jc⟩ := MB.lay5 BKg1.out
 replace HH := zd HH
 obtain ⟨t13, At14, HH⟩ := HH
 go_wp2_with ((with_reducible refine gc 86 rfl ?_); refine zc 86 (some 7) Try.func86 #[.agg #[.int .i64 a0_0, .bool a0_1, .int .i64 a0_2, .string a0_3, .slice A0_4 l0_4.length c0_4]] (h := ?_); (with_reducible refine (ber_Deep.calls k (fun k_ => (P_ k_ ∨ w.heap.size ≤ k_) ∧ k_ ≠ g1) a0_0 a0_1 a0_2 a0_3 _ _ l0_4 t13 _ (Kd.F_mono (ok := (fun k_ => (P_ k_ ∨ w.heap.size ≤ k_) ∧ k_ ≠ g1)) HF0_4.out (fun k_ hk_ => hk_)) HL0_4.out At14.out).mono ?_); rintro e w15 ⟨rfl, hb⟩; refine ⟨_, rfl, ?_⟩)
 refine Stop.go ?_
 replace HF0_4 := zfb HF0_4.out hb
 replace BKg1 := zbb BKg1.out hb
 replace HB := zhb HB.out hb
 clear hb
 clear j3 j4 j5 j6 j7 j8 j9 ja jb jc
 obtain ⟨jg, jh, ji, jj, jk, jl, jm, jn, jo, jp⟩ := MB.lay5 BKg1.out
 replace HH := zqg HH
 rcases HH with ⟨HH, hk27⟩ | ⟨HH, hk28⟩
 ·have H := HH.out
  obtain rfl := Option.some.inj H
  clear HH
  go_wp2
  go_ret
  exact ⟨by first | rfl | (simp; done) | (simp [*]; done), HB.out⟩
 replace HH := zd HH
 obtain ⟨t29, At30, HH⟩ := HH
 go_wp2_with ((with_reducible refine gc 87 rfl ?_); refine zc 87 (some 11) Try.func87 #[.agg #[.int .i64 a0_0, .bool a0_1, .int .i64 a0_2, .string a0_3, .slice A0_4 l0_4.length c0_4]] (h := ?_); (with_reducible refine (ber_sane.calls k (fun k_ => (P_ k_ ∨ w.heap.size ≤ k_) ∧ k_ ≠ g1) a0_0 a0_1 a0_2 a0_3 _ _ l0_4 t29 _ (Kd.F_mono (ok := (fun k_ => (P_ k_ ∨ w.heap.size ≤ k_) ∧ k_ ≠ g1)) HF0_4.out (fun k_ hk_ => hk_)) HL0_4.out At30.out).mono ?_); rintro e w31 ⟨rfl, hb⟩; refine ⟨_, rfl, ?_⟩)
 refine Stop.go ?_
 replace HF0_4 := zfb HF0_4.out hb
 replace BKg1 := zbb BKg1.out hb
 replace HB := zhb HB.out hb
 clear hb
 clear jg jh ji jj jk jl jm jn jo jp
 obtain ⟨jw, jx, jy, jz, jA, jB, jC, jD, jE, jF⟩ := MB.lay5 BKg1.out
 by_cases c42 : t29 = true
 ·replace HH := MW.hpos HH c42
  subst c42
  replace HH := zd HH
  obtain ⟨⟨t43, t44⟩, At45, HH⟩ := HH
  dsimp only at HH
  go_wp2_with ((with_reducible refine gc 88 rfl ?_); refine zc 88 (some 15) Try.func88 #[.agg #[.int .i64 a0_0, .bool a0_1, .int .i64 a0_2, .string a0_3, .slice A0_4 l0_4.length c0_4]] (h := ?_); (with_reducible refine (ber_one.calls k (fun k_ => (P_ k_ ∨ w.heap.size ≤ k_) ∧ k_ ≠ g1) a0_0 a0_1 a0_2 a0_3 _ _ l0_4 t43 t44 _ (Kd.F_mono (ok := (fun k_ => (P_ k_ ∨ w.heap.size ≤ k_) ∧ k_ ≠ g1)) HF0_4.out (fun k_ hk_ => hk_)) HL0_4.out At45.out).mono ?_); rintro e w46 ⟨rfl, hb⟩; refine ⟨_, rfl, ?_⟩)
  refine Stop.go ?_
  replace BKg1 := zbb BKg1.out hb
  replace HB := zhb HB.out hb
  clear hb
  clear jw jx jy jz jA jB jC jD jE jF
  obtain ⟨jL, jM, jN, jO, jP, jQ, jR, jS, jT, jU⟩ := MB.lay5 BKg1.out
  by_cases c57 : t44 = true
  ·replace HH := MW.hpos HH c57
   subst c57
   have H := HH.out
   obtain rfl := Option.some.inj H
   clear HH
   go_wp2
   go_ret
   exact ⟨by first | rfl | (simp; done) | (simp [*]; done), HB.out⟩
  replace HH := MW.hneg HH c57
  replace c57 := Bool.eq_false_iff.mpr c57
  subst c57
  have H := HH.out
  obtain rfl := Option.some.inj H
  clear HH
  go_wp2
  go_ret
  exact ⟨by first | rfl | (simp; done) | (simp [*]; done), HB.out⟩
 replace HH := MW.hneg HH c42
 replace c42 := Bool.eq_false_iff.mpr c42
 subst c42
 have H := HH.out
 obtain rfl := Option.some.inj H
 clear HH
 go_wp2
 go_ret
 exact ⟨by first | rfl | (simp; done) | (simp [*]; done), HB.out⟩

/-! ### ber_Encode: function 44 -/
mutual
def ber_Encode.l0 : Nat → Int → (List (S57)) → Option (ByteArray × Int)
 | 0, _, _ => none
 | k + 1, x1, l0 => if x1 < (l0.length : Int) then (if 0 ≤ x1 then ((ber_Check.f k ((rd_T57 l0 x1).f0) ((rd_T57 l0 x1).f1) ((rd_T57 l0 x1).f2) ((rd_T57 l0 x1).f3) ((rd_T57 l0 x1).f4)).bind fun t33 => (if t33 = 0 then ((ber_Encode.l0 k (wrap64 (x1 + 1)) l0)) else (some ((⟨#[]⟩ : ByteArray), t33)))) else (none)) else ((ber_Encode.l1 k 0 ([] : List Int) false l0))
def ber_Encode.l1 : Nat → Int → (List Int) → Bool → (List (S57)) → Option (ByteArray × Int)
 | 0, _, _, _, _ => none
 | k + 1, x64, x65, x67, l0 => if x64 < (l0.length : Int) then (if 0 ≤ x64 then ((ber_sheaf_lay.f k x65 x67 ((rd_T57 l0 x64).f0) ((rd_T57 l0 x64).f1) ((rd_T57 l0 x64).f2) ((rd_T57 l0 x64).f3) ((rd_T57 l0 x64).f4)).bind fun bt119 => ((ber_Encode.l1 k (wrap64 (x64 + 1)) bt119.1 bt119.2 l0))) else (none)) else (if x67 = true then (some ((⟨#[]⟩ : ByteArray), 3)) else (some (strOfNums x65, 0)))
end
def ber_Encode.f (k : Nat) (l0 : List (S57)) : Option (ByteArray × Int) := (ber_Encode.l0 k 0 l0)
theorem ber_Encode.mono_l : ∀ k, (∀ y0 y1, LeO (ber_Encode.l0 k y0 y1) (ber_Encode.l0 (k + 1) y0 y1)) ∧ (∀ y0 y1 y2 y3, LeO (ber_Encode.l1 k y0 y1 y2 y3) (ber_Encode.l1 (k + 1) y0 y1 y2 y3))
 | 0 => ⟨fun _ _ r h => by simp [ber_Encode.l0] at h, fun _ _ _ _ r h => by simp [ber_Encode.l1] at h⟩
 | k + 1 => by
  obtain ⟨ih0, ih1⟩ := ber_Encode.mono_l k
  refine ⟨?_, ?_⟩
  ·intro y0 y1
   unfold ber_Encode.l0
   repeat' first
   | (with_reducible exact ih0 _ _)
   | (with_reducible exact ih1 _ _ _ _)
   | (with_reducible exact ber_Check.mono _ _ _ _ _ _)
   | (with_reducible exact ber_sheaf_lay.mono _ _ _ _ _ _ _ _)
   | (with_reducible exact LeO.refl _)
   | (with_reducible exact LeO.none _)
   | (with_reducible refine LeO.ite ?_ ?_)
   | (with_reducible refine LeO.bind ?_ (fun _ => ?_))
  intro y0 y1 y2 y3
  unfold ber_Encode.l1
  repeat' first
  | (with_reducible exact ih0 _ _)
  | (with_reducible exact ih1 _ _ _ _)
  | (with_reducible exact ber_Check.mono _ _ _ _ _ _)
  | (with_reducible exact ber_sheaf_lay.mono _ _ _ _ _ _ _ _)
  | (with_reducible exact LeO.refl _)
  | (with_reducible exact LeO.none _)
  | (with_reducible refine LeO.ite ?_ ?_)
  | (with_reducible refine LeO.bind ?_ (fun _ => ?_))
theorem ber_Encode.mono : ∀ a0_ k, LeO (ber_Encode.f k a0_) (ber_Encode.f (k + 1) a0_) := by
 intro a0_ k
 obtain ⟨ih0, ih1⟩ := ber_Encode.mono_l k
 unfold ber_Encode.f
 repeat' first
   | (with_reducible exact ih0 _ _)
   | (with_reducible exact ih1 _ _ _ _)
   | (with_reducible exact ber_Check.mono _ _ _ _ _ _)
   | (with_reducible exact ber_sheaf_lay.mono _ _ _ _ _ _ _ _)
   | (with_reducible exact LeO.refl _)
   | (with_reducible exact LeO.none _)
   | (with_reducible refine LeO.ite ?_ ?_)
   | (with_reducible refine LeO.bind ?_ (fun _ => ?_))
set_option maxHeartbeats 8000000 in
set_option maxRecDepth 100000 in
theorem ber_Encode.calls (k : Nat) (P_ : Nat → Prop) (A0 : Option Addr) (c0 : Nat) (l0 : List (S57)) (r1 : ByteArray) (r2 : Int) (w : World) (hs0 : Kd.F k57 w P_ A0 l0.length l0) (hc0 : l0.length ≤ c0) (h : ber_Encode.f k l0 = some (r1, r2)) :
  Calls Try.prog 44 #[.slice A0 l0.length c0] w (fun e w' => e = .returned (.tuple #[.string r1, .int .i64 r2]) ∧ Below w.heap.size w w') := by
 have HH := Aside0.mk (show ((ber_Encode.l0 k 0 l0)) = some (r1, r2) from h)
 clear h
 have HF0 := zfp hs0
 clear hs0 hc0
 have HB := Aside0.mk (Below.refl w.heap.size w)
 have hu57 := Try.underlying57
 have hu99 := Try.underlying99
 go_enter Try.func44, Try.ntmps44
 go_wp2
 go_loopg [12] k (fun kq u12 w' => ∃ (x1 : Int), u12 = .int .i64 x1 ∧ Aside0 ((ber_Encode.l0 kq x1 l0) = some (r1, r2)) ∧ Aside0 (kq ≤ k) ∧ Aside0 (Kd.F k57 w' (fun k_ => (P_ k_ ∨ w.heap.size ≤ k_)) A0 l0.length l0) ∧ Aside0 (Below w.heap.size w w'))
 case atStart => exact ⟨0, (by first | rfl | (simp; done) | (simp [*]; done)), HH, ⟨Nat.le_refl _⟩, ⟨(Kd.F_mono (ok := (fun k_ => (P_ k_ ∨ w.heap.size ≤ k_))) HF0.out (fun k_ hk_ => hk_))⟩, ⟨HB.out⟩⟩
 case round =>
  clear HH
  clear HF0 HB
  obtain ⟨x1, rfl, HA, HK0, HF0, HB⟩ := hrel
  obtain ⟨w3, rfl⟩ : ∃ wo_ : World, wo_ = wr := ⟨_, rfl⟩
  cases gk with
  | zero => exact absurd HA.out (by simp [ber_Encode.l0])
  | succ k2 =>
   have H := HA.out
   clear HA
   simp only [ber_Encode.l0] at H
   have HH := Aside0.mk H
   clear H
   replace HH := zqt HH
   rcases HH with ⟨HH, hk5, hk6⟩ | ⟨HH, hk52, hk53⟩
   ·replace HH := zqdo HH
    obtain ⟨HH, hk8⟩ := HH
    have p9 : 0 ≤ (x1 : Int) := of_decide_eq_true (by first | (with_reducible assumption) | assumption)
    have q9 : x1 < (l0.length : Int) := of_decide_eq_true (by first | (with_reducible assumption) | assumption)
    obtain ⟨ad9, A9_4, c9_4, e9, hx9_0, hx9_1, hx9_2, hx9_3, hx9_4, hl9_4, hi9_4⟩ := atF_T57 HF0.out x1 p9 q9
    cases e9
    have HF9_4 := Aside0.mk hi9_4
    have HL9_4 := Aside0.mk hl9_4
    clear hi9_4 hl9_4
    replace p9 := eq_true p9
    replace q9 := eq_true q9
    go_wp2_with ((with_reducible refine gd 5 rfl ?_); refine zb 5 57 #[.int .i64 0, .bool false, .int .i64 0, .string (⟨#[]⟩ : ByteArray), .slice none 0 0] (h := ?_); intro g10 hg w11 BKg10 hb)
    refine Stop.go ?_
    have GEg10 := zge hg (below_size HB.out)
    replace HF0 := zfe HF0.out hg hb
    replace HF9_4 := zfe HF9_4.out hg hb
    replace HB := zhb HB.out hb
    clear hg hb
    clear hx9_0 hx9_1 hx9_2 hx9_3 hx9_4 p9 q9
    obtain ⟨jc, jd, je, jf, jg, jh, ji, jj, jk, jl⟩ := MB.lay5 BKg10.out
    go_wp2_with ((with_reducible refine gs 57 5 rfl ?_); refine zs 57 5 #[.int .i64 ((rd_T57 l0 x1).f0), .bool ((rd_T57 l0 x1).f1), .int .i64 ((rd_T57 l0 x1).f2), .string ((rd_T57 l0 x1).f3), .slice A9_4 ((rd_T57 l0 x1).f4).length c9_4] BKg10.out [.int .i64 ((rd_T57 l0 x1).f0), .bool ((rd_T57 l0 x1).f1), .int .i64 ((rd_T57 l0 x1).f2), .string ((rd_T57 l0 x1).f3), .slice A9_4 ((rd_T57 l0 x1).f4).length c9_4] (h := ?_); intro w22 hbk hg)
    refine Stop.go ?_
    replace HF0 := zfg HF0.out hg fun k_ hk_ => hk_.2
    replace HF9_4 := zfg HF9_4.out hg fun k_ hk_ => hk_.2
    replace HB := zhg HB.out hg (below_size HB.out) GEg10
    replace BKg10 := hbk
    clear hg hbk
    clear jc jd je jf jg jh ji jj jk jl
    obtain ⟨jn, jo, jp, jq, jr, js, jt, ju, jv, jw⟩ := MB.lay5 BKg10.out
    replace HH := zd HH
    obtain ⟨t33, At34, HH⟩ := HH
    go_wp2_with ((with_reducible refine gc 62 rfl ?_); refine zc 62 (some 17) Try.func62 #[.agg #[.int .i64 ((rd_T57 l0 x1).f0), .bool ((rd_T57 l0 x1).f1), .int .i64 ((rd_T57 l0 x1).f2), .string ((rd_T57 l0 x1).f3), .slice A9_4 ((rd_T57 l0 x1).f4).length c9_4]] (h := ?_); (with_reducible refine (ber_Check.calls k2 (fun k_ => (P_ k_ ∨ w.heap.size ≤ k_) ∧ k_ ≠ g10) ((rd_T57 l0 x1).f0) ((rd_T57 l0 x1).f1) ((rd_T57 l0 x1).f2) ((rd_T57 l0 x1).f3) _ _ ((rd_T57 l0 x1).f4) t33 _ (Kd.F_mono (ok := (fun k_ => (P_ k_ ∨ w.heap.size ≤ k_) ∧ k_ ≠ g10)) HF9_4.out (fun k_ hk_ => hk_)) HL9_4.out At34.out).mono ?_); rintro e w35 ⟨rfl, hb⟩; refine ⟨_, rfl, ?_⟩)
    refine Stop.go ?_
    replace HF0 := zfb HF0.out hb
    replace BKg10 := zbb BKg10.out hb
    replace HB := zhb HB.out hb
    clear hb
    clear jn jo jp jq jr js jt ju jv jw
    obtain ⟨jA, jB, jC, jD, jE, jF, jG, jH, jI, jJ⟩ := MB.lay5 BKg10.out
    replace HH := zqe HH
    rcases HH with ⟨HH, hk47, hk48⟩ | ⟨HH, hk49, hk50⟩
    ·go_wp2
     go_roundg k2
     case measure => have := HK0.out; omega
     case rel => exact ⟨wrap64 (x1 + 1), (by first | rfl | (simp; done) | (simp [*]; done)), HH, ⟨by have := HK0.out; omega⟩, ⟨(Kd.F_mono (ok := (fun k_ => (P_ k_ ∨ w.heap.size ≤ k_) ∧ k_ ≠ g10)) HF0.out (fun k_ hk_ => hk_.1))⟩, ⟨HB.out⟩⟩
    have H := HH.out
    simp only [Option.some.injEq, Prod.mk.injEq] at H
    obtain ⟨rfl, rfl⟩ := H
    clear HH
    go_wp2
    go_ret2
    exact ⟨by first | rfl | (simp; done) | (simp [*]; done), HB.out⟩
   go_wp2_with ((with_reducible refine gd 7 rfl ?_); refine zb 7 99 #[.pointer none, .slice none 0 0, .bool false] (h := ?_); intro g54 hg w55 BKg54 hb)
   refine Stop.go ?_
   have GEg54 := zge hg (below_size HB.out)
   replace HF0 := zfe HF0.out hg hb
   replace HB := zhb HB.out hb
   clear hg hb
   obtain ⟨jU, jV, jW, jX, jY, jZ⟩ := MB.lay3 BKg54.out
   go_wp2
   go_loopg [24] k2 (fun kq u24 w' => ∃ (x64 : Int) (x65 : List Int) (x67 : Bool) (v62 : Value) (p63 : Value), u24 = .int .i64 x64 ∧ Aside0 ((ber_Encode.l1 kq x64 x65 x67 l0) = some (r1, r2)) ∧ Aside0 (kq ≤ k2) ∧ Aside0 (Kd.F k57 w' (fun k_ => ((P_ k_ ∨ w.heap.size ≤ k_) ∧ some k_ ≠ (v62 : Value).ownBlock) ∧ k_ ≠ g54) A0 l0.length l0) ∧ Aside0 (Kd.N (Kd.int .u8) 5 w' w.heap.size (fun k_ => (P_ k_ ∨ w.heap.size ≤ k_) ∧ k_ ≠ g54) v62 x65) ∧ Aside0 (p63 = .pointer none ∨ p63 = .pointer (some ⟨g54, 0, none⟩)) ∧ Aside0 (w'.heap[g54]? = some (.cells #[p63, v62, .bool x67] 99 (0, 0))) ∧ Aside0 (Below w.heap.size w w'))
   case atStart => exact ⟨0, ([] : List Int), false, .slice none 0 0, .pointer none, (by first | rfl | (simp; done) | (simp [*]; done)), HH, ⟨Nat.le_refl _⟩, ⟨(Kd.F_mono (ok := (fun k_ => (P_ k_ ∨ w.heap.size ≤ k_) ∧ k_ ≠ g54)) HF0.out (fun k_ hk_ => ⟨⟨hk_.1, (by simp [Value.ownBlock])⟩, hk_.2⟩))⟩, ⟨Kd.N_nil _ _ _ _ _⟩, ⟨(.inl rfl)⟩, ⟨BKg54.out⟩, ⟨HB.out⟩⟩
   case round =>
    clear jU jV jW jX jY jZ
    clear hk52
    clear hk53
    clear HH
    clear HF0 BKg54 HB
    obtain ⟨x64, x65, x67, v62, p63, rfl, HA, HK1, HF0, HN66, HPp63, BKg54, HB⟩ := hrel
    obtain ⟨w69, rfl⟩ : ∃ wo_ : World, wo_ = wr := ⟨_, rfl⟩
    cases gk with
    | zero => exact absurd HA.out (by simp [ber_Encode.l1])
    | succ k68 =>
     have H := HA.out
     clear HA
     simp only [ber_Encode.l1] at H
     have HH := Aside0.mk H
     clear H
     obtain ⟨j18, j19, j1a, j1b, j1c, j1d⟩ := MB.lay3 BKg54.out
     replace HH := zqt HH
     rcases HH with ⟨HH, hk77, hk78⟩ | ⟨HH, hk143, hk144⟩
     ·replace HH := zqdo HH
      obtain ⟨HH, hk80⟩ := HH
      have p81 : 0 ≤ (x64 : Int) := of_decide_eq_true (by first | (with_reducible assumption) | assumption)
      have q81 : x64 < (l0.length : Int) := of_decide_eq_true (by first | (with_reducible assumption) | assumption)
      obtain ⟨ad81, A81_4, c81_4, e81, hx81_0, hx81_1, hx81_2, hx81_3, hx81_4, hl81_4, hi81_4⟩ := atF_T57 HF0.out x64 p81 q81
      cases e81
      have HF81_4 := Aside0.mk hi81_4
      have HL81_4 := Aside0.mk hl81_4
      clear hi81_4 hl81_4
      replace p81 := eq_true p81
      replace q81 := eq_true q81
      go_wp2_with ((with_reducible refine gd 9 rfl ?_); refine zb 9 57 #[.int .i64 0, .bool false, .int .i64 0, .string (⟨#[]⟩ : ByteArray), .slice none 0 0] (h := ?_); intro g82 hg w83 BKg82 hb)
      refine Stop.go ?_
      have GEg82 := zge hg (below_size HB.out)
      have NEg54_g82 := znq hg BKg54.out
      have NEg82_g54 := zsy NEg54_g82
      replace HF0 := zfe HF0.out hg hb
      replace HF81_4 := zfe HF81_4.out hg hb
      replace HN66 := zne HN66.out hg hb
      replace BKg54 := zbb BKg54.out hb
      replace HB := zhb HB.out hb
      clear hg hb
      clear j18 j19 j1a j1b j1c j1d hx81_0 hx81_1 hx81_2 hx81_3 hx81_4 p81 q81
      obtain ⟨j1m, j1n, j1o, j1p, j1q, j1r⟩ := MB.lay3 BKg54.out
      obtain ⟨j1s, j1t, j1u, j1v, j1w, j1x, j1y, j1z, j1A, j1B⟩ := MB.lay5 BKg82.out
      go_wp2_with ((with_reducible refine gs 57 9 rfl ?_); refine zs 57 9 #[.int .i64 ((rd_T57 l0 x64).f0), .bool ((rd_T57 l0 x64).f1), .int .i64 ((rd_T57 l0 x64).f2), .string ((rd_T57 l0 x64).f3), .slice A81_4 ((rd_T57 l0 x64).f4).length c81_4] BKg82.out [.int .i64 ((rd_T57 l0 x64).f0), .bool ((rd_T57 l0 x64).f1), .int .i64 ((rd_T57 l0 x64).f2), .string ((rd_T57 l0 x64).f3), .slice A81_4 ((rd_T57 l0 x64).f4).length c81_4] (h := ?_); intro w100 hbk hg)
      refine Stop.go ?_
      replace HF0 := zfg HF0.out hg fun k_ hk_ => hk_.2
      replace HF81_4 := zfg HF81_4.out hg fun k_ hk_ => hk_.2
      replace HN66 := zng HN66.out hg fun k_ hk_ => hk_.2
      replace BKg54 := zbg BKg54.out hg NEg54_g82
      replace HB := zhg HB.out hg (below_size HB.out) GEg82
      replace BKg82 := hbk
      clear hg hbk
      clear j1m j1n j1o j1p j1q j1r j1s j1t j1u j1v j1w j1x j1y j1z j1A j1B
      obtain ⟨j1D, j1E, j1F, j1G, j1H, j1I⟩ := MB.lay3 BKg54.out
      obtain ⟨j1J, j1K, j1L, j1M, j1N, j1O, j1P, j1Q, j1R, j1S⟩ := MB.lay5 BKg82.out
      obtain ⟨A117, cp118, he_⟩ := Kd.N_slice HN66.out
      subst he_
      replace HH := zd HH
      obtain ⟨⟨t119, t120⟩, At121, HH⟩ := HH
      dsimp only at HH
      go_wp2_with (((with_reducible refine gc 63 rfl ?_); refine zc 63 (some 29) Try.func63 #[.pointer (some ⟨g54, 0, none⟩), .agg #[.int .i64 ((rd_T57 l0 x64).f0), .bool ((rd_T57 l0 x64).f1), .int .i64 ((rd_T57 l0 x64).f2), .string ((rd_T57 l0 x64).f3), .slice A81_4 ((rd_T57 l0 x64).f4).length c81_4]] (h := ?_); refine (ber_sheaf_lay.calls k68 (fun k_ => (((P_ k_ ∨ w.heap.size ≤ k_) ∧ some k_ ≠ ((.slice A117 x65.length cp118) : Value).ownBlock) ∧ k_ ≠ g54) ∧ k_ ≠ g82) w.heap.size g54 (p63) ((.slice A117 x65.length cp118)) x65 x67 ((rd_T57 l0 x64).f0) ((rd_T57 l0 x64).f1) ((rd_T57 l0 x64).f2) ((rd_T57 l0 x64).f3) _ _ ((rd_T57 l0 x64).f4) t119 t120 _ (below_size HB.out) (fun k_ hk_ => hk_.1.2) (fun k_ hk_ => hk_.1.1.2) BKg54.out GEg54.out HPp63.out (Kd.N_mono (MB.N_only HN66.out) (fun k_ hk_ => ⟨⟨trivial, .inl hk_⟩, (fun hk_ => hk_.1.2) (HN66.out.1 k_ hk_.symm)⟩)) (Kd.F_mono (ok := (fun k_ => (((P_ k_ ∨ w.heap.size ≤ k_) ∧ some k_ ≠ ((.slice A117 x65.length cp118) : Value).ownBlock) ∧ k_ ≠ g54) ∧ k_ ≠ g82)) HF81_4.out (fun k_ hk_ => hk_)) HL81_4.out At121.out).mono ?_; rintro e w122 ⟨v123, p124, rfl, hn1, hp1, hbk, hfr, hb⟩; refine ⟨_, rfl, ?_⟩); replace hbk := Aside0.mk hbk; replace hfr := Aside0.mk hfr; replace hp1 := Aside0.mk hp1)
      refine Stop.go ?_
      replace hbk := hbk.out
      replace hfr := hfr.out
      replace hp1 := hp1.out
      have hat1 : ∀ k_ : Nat, (v123 : Value).ownBlock = some k_ → some k_ = ((.slice A117 x65.length cp118) : Value).ownBlock ∨ w100.heap.size ≤ k_ := fun k_ h_ => (hn1.1 k_ h_).1.2
      have HN125 := Aside0.mk (Kd.N_mono hn1 (fun k_ hk_ => hk_.1.2.elim (fun h_ => HN66.out.1 k_ h_.symm) (fun h_ => ⟨⟨.inr (Nat.le_trans (below_size HB.out) h_), Kd.freshB (g := g54) BKg54.out k_ h_⟩, Kd.freshB (g := g82) BKg82.out k_ h_⟩)) : Kd.N (Kd.int .u8) 5 w122 w.heap.size (fun k_ => ((P_ k_ ∨ w.heap.size ≤ k_) ∧ k_ ≠ g54) ∧ k_ ≠ g82) v123 t119)
      replace HF0 := Aside0.mk (Kd.F_mono (MB.F_ptr (ok := (fun k_ => (((P_ k_ ∨ w.heap.size ≤ k_) ∧ some k_ ≠ ((.slice A117 x65.length cp118) : Value).ownBlock) ∧ k_ ≠ g54) ∧ k_ ≠ g82)) HF0.out hfr (fun k_ hk_ => hk_.1.2) (fun k_ hk_ => hk_.1.1.2)) (fun k_ hk_ => ⟨⟨⟨hk_.1.1.1.1, hk_.1.1.2⟩, hk_.1.2⟩, (fun he_ => (hat1 k_ he_.symm).elim (fun h_ => absurd h_ (hk_.1.1.1.2)) (fun h_ => absurd hk_.2 (Nat.not_lt.2 h_)))⟩) : Kd.F k57 _ (fun k_ => (((P_ k_ ∨ w.heap.size ≤ k_) ∧ k_ ≠ g54) ∧ k_ ≠ g82) ∧ some k_ ≠ (v123 : Value).ownBlock) _ _ _)
      replace BKg82 := Aside0.mk (MB.blk_ptr BKg82.out hfr NEg82_g54.out (Kd.N_away (ok := (fun k_ => ((P_ k_ ∨ w.heap.size ≤ k_) ∧ k_ ≠ g54) ∧ k_ ≠ g82)) HN66.out (fun k_ hk_ => hk_.2)))
      replace HB := Aside0.mk (Below.trans HB.out hb)
      replace BKg54 := Aside0.mk hbk
      have HPp124 := Aside0.mk hp1
      clear hbk hfr hb hp1 hn1 hat1
      clear HN66
      clear j1D j1E j1F j1G j1H j1I j1J j1K j1L j1M j1N j1O j1P j1Q j1R j1S
      obtain ⟨j22, j23, j24, j25, j26, j27⟩ := MB.lay3 BKg54.out
      obtain ⟨j28, j29, j2a, j2b, j2c, j2d, j2e, j2f, j2g, j2h⟩ := MB.lay5 BKg82.out
      go_wp2
      go_roundg k68
      case measure => have := HK0.out; have := HK1.out; omega
      case rel => exact ⟨wrap64 (x64 + 1), t119, t120, v123, p124, (by first | rfl | (simp; done) | (simp [*]; done)), HH, ⟨by have := HK0.out; have := HK1.out; omega⟩, ⟨(Kd.F_mono (ok := (fun k_ => (((P_ k_ ∨ w.heap.size ≤ k_) ∧ k_ ≠ g54) ∧ k_ ≠ g82) ∧ some k_ ≠ (v123 : Value).ownBlock)) HF0.out (fun k_ hk_ => ⟨⟨hk_.1.1.1, hk_.2⟩, hk_.1.1.2⟩))⟩, ⟨(Kd.N_mono (ok := (fun k_ => ((P_ k_ ∨ w.heap.size ≤ k_) ∧ k_ ≠ g54) ∧ k_ ≠ g82)) HN125.out (fun k_ hk_ => ⟨hk_.1.1, hk_.1.2⟩))⟩, ⟨HPp124.out⟩, ⟨BKg54.out⟩, ⟨HB.out⟩⟩
     by_cases c145 : x67 = true
     ·replace HH := MW.hpos HH c145
      subst c145
      have H := HH.out
      simp only [Option.some.injEq, Prod.mk.injEq] at H
      obtain ⟨rfl, rfl⟩ := H
      clear HH
      go_wp2
      go_ret2
      exact ⟨by first | rfl | (simp; done) | (simp [*]; done), HB.out⟩
     replace HH := MW.hneg HH c145
     replace c145 := Bool.eq_false_iff.mpr c145
     subst c145
     obtain ⟨A146, cp147, he_⟩ := Kd.N_slice HN66.out
     subst he_
     go_wp2_with (((with_reducible refine gc 64 rfl ?_); refine zc 64 (some 34) Try.func64 #[.pointer (some ⟨g54, 0, none⟩)] (h := ?_); refine (bString64 g54 99 (p63) ((.slice A146 x65.length cp147)) [.bool false] w.heap.size (fun k_ => (P_ k_ ∨ w.heap.size ≤ k_) ∧ k_ ≠ g54) x65 _ BKg54.out HN66.out).mono ?_; rintro e w148 ⟨rfl, hg⟩; refine ⟨_, rfl, ?_⟩))
     refine Stop.go ?_
     replace BKg54 := Aside0.mk (blk_grown (g := g54) BKg54.out hg (Kd.N_away (ok := (fun k_ => (P_ k_ ∨ w.heap.size ≤ k_) ∧ k_ ≠ g54)) HN66.out (fun k_ hk_ => hk_.2)))
     replace HB := Aside0.mk (Below.grown HB.out hg (below_size HB.out) (Kd.N_base HN66.out))
     clear hg HN66
     clear j18 j19 j1a j1b j1c j1d
     obtain ⟨j2p, j2q, j2r, j2s, j2t, j2u⟩ := MB.lay3 BKg54.out
     have H := HH.out
     simp only [Option.some.injEq, Prod.mk.injEq] at H
     obtain ⟨rfl, rfl⟩ := H
     clear HH
     go_wp2
     go_ret2
     exact ⟨by first | rfl | (simp; done) | (simp [*]; done), HB.out⟩

/-! ### ber_Decode: function 27 -/
def ber_Decode.f (k : Nat) (a0 : ByteArray) (a1 : Int) : Option (Int × Bool × Int × ByteArray × (List (S57)) × Int × Int) := if a1 < 0 then (some (0, false, 0, (⟨#[]⟩ : ByteArray), ([] : List (S57)), 0, 2)) else (if a1 > (a0.size : Int) then (some (0, false, 0, (⟨#[]⟩ : ByteArray), ([] : List (S57)), 0, 2)) else ((ber_take.f k a0 a1 12).bind fun bt43 => (some (bt43.1, bt43.2.1, bt43.2.2.1, bt43.2.2.2.1, bt43.2.2.2.2.1, bt43.2.2.2.2.2.1, bt43.2.2.2.2.2.2))))
theorem ber_Decode.mono : ∀ a0_ a1_ k, LeO (ber_Decode.f k a0_ a1_) (ber_Decode.f (k + 1) a0_ a1_) := by
 intro a0_ a1_ k
 unfold ber_Decode.f
 repeat' first
   | (with_reducible exact ber_take.mono _ _ _ _)
   | (with_reducible exact LeO.refl _)
   | (with_reducible exact LeO.none _)
   | (with_reducible refine LeO.ite ?_ ?_)
   | (with_reducible refine LeO.bind ?_ (fun _ => ?_))
set_option maxHeartbeats 8000000 in
set_option maxRecDepth 100000 in
theorem ber_Decode.calls (k : Nat) (a0 : ByteArray) (a1 : Int) (r1 : Int) (r2 : Bool) (r3 : Int) (r4 : ByteArray) (r5 : List (S57)) (r6 : Int) (r7 : Int) (w : World) (h : ber_Decode.f k a0 a1 = some (r1, r2, r3, r4, r5, r6, r7)) :
  Calls Try.prog 27 #[.string a0, .int .i64 a1] w (fun e w' => ∃ v4_ : Value, e = .returned (.tuple #[.agg #[.int .i64 r1, .bool r2, .int .i64 r3, .string r4, v4_], .int .i64 r6, .int .i64 r7]) ∧ Kd.N k57 57 w' w.heap.size (fun k_ => w.heap.size ≤ k_) v4_ r5 ∧ Below w.heap.size w w') := by
 have HH := Aside0.mk (show (if a1 < 0 then (some (0, false, 0, (⟨#[]⟩ : ByteArray), ([] : List (S57)), 0, 2)) else (if a1 > (a0.size : Int) then (some (0, false, 0, (⟨#[]⟩ : ByteArray), ([] : List (S57)), 0, 2)) else ((ber_take.f k a0 a1 12).bind fun bt43 => (some (bt43.1, bt43.2.1, bt43.2.2.1, bt43.2.2.2.1, bt43.2.2.2.2.1, bt43.2.2.2.2.2.1, bt43.2.2.2.2.2.2))))) = some (r1, r2, r3, r4, r5, r6, r7) from h)
 clear h
 have HB := Aside0.mk (Below.refl w.heap.size w)
 have hu57 := Try.underlying57
 go_enter Try.func27, Try.ntmps27
 go_wp2_with ((with_reducible refine gd 4 rfl ?_); refine zb 4 57 #[.int .i64 0, .bool false, .int .i64 0, .string (⟨#[]⟩ : ByteArray), .slice none 0 0] (h := ?_); intro g1 hg w2 BKg1 hb)
 refine Stop.go ?_
 have GEg1 := zge hg (below_size HB.out)
 replace HB := zhb HB.out hb
 clear hg hb
 obtain ⟨j3, j4, j5, j6, j7, j8, j9, ja, jb, jc⟩ := MB.lay5 BKg1.out
 replace HH := zqt HH
 rcases HH with ⟨HH, hk14, hk15⟩ | ⟨HH, hk27, hk28⟩
 ·go_wp2_with ((with_reducible refine gs 57 4 rfl ?_); refine zs 57 4 #[.int .i64 0, .bool false, .int .i64 0, .string (⟨#[]⟩ : ByteArray), .slice none 0 0] BKg1.out [.int .i64 0, .bool false, .int .i64 0, .string (⟨#[]⟩ : ByteArray), .slice none 0 0] (h := ?_); intro w16 hbk hg)
  refine Stop.go ?_
  replace HB := zhg HB.out hg (below_size HB.out) GEg1
  replace BKg1 := hbk
  clear hg hbk
  clear j3 j4 j5 j6 j7 j8 j9 ja jb jc
  obtain ⟨jh, ji, jj, jk, jl, jm, jn, jo, jp, jq⟩ := MB.lay5 BKg1.out
  have H := HH.out
  simp only [Option.some.injEq, Prod.mk.injEq] at H
  obtain ⟨rfl, rfl, rfl, rfl, rfl, rfl, rfl⟩ := H
  clear HH
  go_wp2
  refine bodyPost_ret (results_ctt rfl _ _ g1 57 #[.int .i64 0, .bool false, .int .i64 0, .string (⟨#[]⟩ : ByteArray), .slice none 0 0] (0, 0) _ rfl BKg1.out Try.underlying57 rfl (by kernel_rfl)) rfl ?_
  exact ⟨_, by first | rfl | (simp; done) | (simp [*]; done), (Kd.N_nil _ _ _ _ _), HB.out⟩
 replace HH := zqg HH
 rcases HH with ⟨HH, hk30⟩ | ⟨HH, hk42⟩
 ·go_wp2_with ((with_reducible refine gs 57 4 rfl ?_); refine zs 57 4 #[.int .i64 0, .bool false, .int .i64 0, .string (⟨#[]⟩ : ByteArray), .slice none 0 0] BKg1.out [.int .i64 0, .bool false, .int .i64 0, .string (⟨#[]⟩ : ByteArray), .slice none 0 0] (h := ?_); intro w31 hbk hg)
  refine Stop.go ?_
  replace HB := zhg HB.out hg (below_size HB.out) GEg1
  replace BKg1 := hbk
  clear hg hbk
  clear j3 j4 j5 j6 j7 j8 j9 ja jb jc
  obtain ⟨jw, jx, jy, jz, jA, jB, jC, jD, jE, jF⟩ := MB.lay5 BKg1.out
  have H := HH.out
  simp only [Option.some.injEq, Prod.mk.injEq] at H
  obtain ⟨rfl, rfl, rfl, rfl, rfl, rfl, rfl⟩ := H
  clear HH
  go_wp2
  refine bodyPost_ret (results_ctt rfl _ _ g1 57 #[.int .i64 0, .bool false, .int .i64 0, .string (⟨#[]⟩ : ByteArray), .slice none 0 0] (0, 0) _ rfl BKg1.out Try.underlying57 rfl (by kernel_rfl)) rfl ?_
  exact ⟨_, by first | rfl | (simp; done) | (simp [*]; done), (Kd.N_nil _ _ _ _ _), HB.out⟩
 replace HH := zd HH
 obtain ⟨⟨t43, t44, t45, t46, t47, t48, t49⟩, At50, HH⟩ := HH
 dsimp only at HH
 go_wp2_with ((with_reducible refine gc 49 rfl ?_); refine zc 49 (some 18) Try.func49 #[.string a0, .int .i64 a1, .int .i64 12] (h := ?_); (with_reducible refine (ber_take.calls k  a0 a1 12 t43 t44 t45 t46 t47 t48 t49 _  At50.out).mono ?_); rintro e w51 ⟨v52, rfl, hn52, hb⟩; refine ⟨_, rfl, ?_⟩)
 refine Stop.go ?_
 have hba := Kd.N_base hn52
 have HN52 := znl (ok2 := (fun k_ => (w.heap.size ≤ k_) ∧ k_ ≠ g1)) hn52 (below_size HB.out) (fun k_ h_ => ⟨(Nat.le_trans (below_size HB.out) h_), Kd.freshB (g := g1) BKg1.out k_ h_⟩)
 replace BKg1 := zbb BKg1.out hb
 replace HB := zhb HB.out hb
 clear hn52 hba hb
 clear j3 j4 j5 j6 j7 j8 j9 ja jb jc
 obtain ⟨jR, jS, jT, jU, jV, jW, jX, jY, jZ, j10⟩ := MB.lay5 BKg1.out
 obtain ⟨A64, cp65, he_⟩ := Kd.N_slice HN52.out
 subst he_
 go_wp2_with ((with_reducible refine gs 57 4 rfl ?_); refine zs 57 4 #[.int .i64 t43, .bool t44, .int .i64 t45, .string t46, (.slice A64 t47.length cp65)] BKg1.out [.int .i64 t43, .bool t44, .int .i64 t45, .string t46, (.slice A64 t47.length cp65)] (h := ?_); intro w63 hbk hg)
 refine Stop.go ?_
 replace HN52 := zng HN52.out hg fun k_ hk_ => hk_.2
 replace HB := zhg HB.out hg (below_size HB.out) GEg1
 replace BKg1 := hbk
 clear hg hbk
 clear jR jS jT jU jV jW jX jY jZ j10
 obtain ⟨j14, j15, j16, j17, j18, j19, j1a, j1b, j1c, j1d⟩ := MB.lay5 BKg1.out
 have H := HH.out
 simp only [Option.some.injEq, Prod.mk.injEq] at H
 obtain ⟨rfl, rfl, rfl, rfl, rfl, rfl, rfl⟩ := H
 clear HH
 go_wp2
 refine bodyPost_ret (results_ctt rfl _ _ g1 57 #[.int .i64 t43, .bool t44, .int .i64 t45, .string t46, (.slice A64 t47.length cp65)] (0, 0) _ rfl BKg1.out Try.underlying57 rfl (by kernel_rfl)) rfl ?_
 exact ⟨_, by first | rfl | (simp; done) | (simp [*]; done), (Kd.N_mono (ok := (fun k_ => (w.heap.size ≤ k_) ∧ k_ ≠ g1)) HN52.out (fun k_ hk_ => hk_.1)), HB.out⟩

/-! ### toponymref27_Same: function 17 -/
def toponymref27_Same.f (k : Nat) (a0_0 : Int) (a0_1 : Int) (a0_2 : Bool) (a0_3 : Int) (a0_4 : ByteArray) (a0_5 : ByteArray) (a0_6 : ByteArray) (l0_7 : List (S46)) (a1_0 : Int) (a1_1 : Int) (a1_2 : Bool) (a1_3 : Int) (a1_4 : ByteArray) (a1_5 : ByteArray) (a1_6 : ByteArray) (l1_7 : List (S46)) : Option (Bool) := if a0_0 = a1_0 then (if a0_1 = a1_1 then (if (a0_2 == a1_2) = true then (if a0_3 = a1_3 then (if a0_4.toList = a1_4.toList then (if a0_5.toList = a1_5.toList then (if a0_6.toList = a1_6.toList then ((toponymref26_SameValues.f k l0_7 l1_7).bind fun t75 => (some t75)) else (some false)) else (some false)) else (some false)) else (some false)) else (some false)) else (some false)) else (some false)
theorem toponymref27_Same.mono : ∀ a0_ a1_ a2_ a3_ a4_ a5_ a6_ a7_ a8_ a9_ a10_ a11_ a12_ a13_ a14_ a15_ k, LeO (toponymref27_Same.f k a0_ a1_ a2_ a3_ a4_ a5_ a6_ a7_ a8_ a9_ a10_ a11_ a12_ a13_ a14_ a15_) (toponymref27_Same.f (k + 1) a0_ a1_ a2_ a3_ a4_ a5_ a6_ a7_ a8_ a9_ a10_ a11_ a12_ a13_ a14_ a15_) := by
 intro a0_ a1_ a2_ a3_ a4_ a5_ a6_ a7_ a8_ a9_ a10_ a11_ a12_ a13_ a14_ a15_ k
 unfold toponymref27_Same.f
 repeat' first
   | (with_reducible exact toponymref26_SameValues.mono _ _ _)
   | (with_reducible exact LeO.refl _)
   | (with_reducible exact LeO.none _)
   | (with_reducible refine LeO.ite ?_ ?_)
   | (with_reducible refine LeO.bind ?_ (fun _ => ?_))
set_option maxHeartbeats 8000000 in
set_option maxRecDepth 100000 in
theorem toponymref27_Same.calls (k : Nat) (P_ : Nat → Prop) (a0_0 : Int) (a0_1 : Int) (a0_2 : Bool) (a0_3 : Int) (a0_4 : ByteArray) (a0_5 : ByteArray) (a0_6 : ByteArray) (A0_7 : Option Addr) (c0_7 : Nat) (l0_7 : List (S46)) (a1_0 : Int) (a1_1 : Int) (a1_2 : Bool) (a1_3 : Int) (a1_4 : ByteArray) (a1_5 : ByteArray) (a1_6 : ByteArray) (A1_7 : Option Addr) (c1_7 : Nat) (l1_7 : List (S46)) (r : Bool) (w : World) (hs0_7 : Kd.F k46 w P_ A0_7 l0_7.length l0_7) (hc0_7 : l0_7.length ≤ c0_7) (hs1_7 : Kd.F k46 w P_ A1_7 l1_7.length l1_7) (hc1_7 : l1_7.length ≤ c1_7) (h : toponymref27_Same.f k a0_0 a0_1 a0_2 a0_3 a0_4 a0_5 a0_6 l0_7 a1_0 a1_1 a1_2 a1_3 a1_4 a1_5 a1_6 l1_7 = some r) :
  Calls Try.prog 17 #[.agg #[.int .i64 a0_0, .int .i64 a0_1, .bool a0_2, .int .i64 a0_3, .string a0_4, .string a0_5, .string a0_6, .slice A0_7 l0_7.length c0_7], .agg #[.int .i64 a1_0, .int .i64 a1_1, .bool a1_2, .int .i64 a1_3, .string a1_4, .string a1_5, .string a1_6, .slice A1_7 l1_7.length c1_7]] w (fun e w' => e = .returned (.bool r) ∧ Below w.heap.size w w') := by
 have HH := Aside0.mk (show (if a0_0 = a1_0 then (if a0_1 = a1_1 then (if (a0_2 == a1_2) = true then (if a0_3 = a1_3 then (if a0_4.toList = a1_4.toList then (if a0_5.toList = a1_5.toList then (if a0_6.toList = a1_6.toList then ((toponymref26_SameValues.f k l0_7 l1_7).bind fun t75 => (some t75)) else (some false)) else (some false)) else (some false)) else (some false)) else (some false)) else (some false)) else (some false)) = some r from h)
 clear h
 have HF0_7 := zfp hs0_7
 have HL0_7 := Aside0.mk hc0_7
 clear hs0_7 hc0_7
 have HF1_7 := zfp hs1_7
 have HL1_7 := Aside0.mk hc1_7
 clear hs1_7 hc1_7
 have HB := Aside0.mk (Below.refl w.heap.size w)
 have hu27 := Try.underlying27
 go_enter Try.func17, Try.ntmps17
 go_wp2_with ((with_reducible refine gd 2 rfl ?_); refine zb 2 27 #[.int .i64 a0_0, .int .i64 a0_1, .bool a0_2, .int .i64 a0_3, .string a0_4, .string a0_5, .string a0_6, .slice A0_7 l0_7.length c0_7] (h := ?_); intro g1 hg w2 BKg1 hb)
 refine Stop.go ?_
 replace HF0_7 := zfe HF0_7.out hg hb
 replace HF1_7 := zfe HF1_7.out hg hb
 replace HB := zhb HB.out hb
 clear hg hb
 obtain ⟨j3, j4, j5, j6, j7, j8, j9, ja, jb, jc, jd, je, jf, jg, jh, ji⟩ := MB.lay8 BKg1.out
 go_wp2_with ((with_reducible refine gd 3 rfl ?_); refine zb 3 27 #[.int .i64 a1_0, .int .i64 a1_1, .bool a1_2, .int .i64 a1_3, .string a1_4, .string a1_5, .string a1_6, .slice A1_7 l1_7.length c1_7] (h := ?_); intro g19 hg w20 BKg19 hb)
 refine Stop.go ?_
 replace HF0_7 := zfe HF0_7.out hg hb
 replace HF1_7 := zfe HF1_7.out hg hb
 replace BKg1 := zbb BKg1.out hb
 replace HB := zhb HB.out hb
 clear hg hb
 clear j3 j4 j5 j6 j7 j8 j9 ja jb jc jd je jf jg jh ji
 obtain ⟨jl, jm, jn, jo, jp, jq, jr, js, jt, ju, jv, jw, jx, jy, jz, jA⟩ := MB.lay8 BKg1.out
 obtain ⟨jB, jC, jD, jE, jF, jG, jH, jI, jJ, jK, jL, jM, jN, jO, jP, jQ⟩ := MB.lay8 BKg19.out
 replace HH := zqe HH
 rcases HH with ⟨HH, hk54, hk55⟩ | ⟨HH, hk124, hk125⟩
 ·replace HH := zqe HH
  rcases HH with ⟨HH, hk57, hk58⟩ | ⟨HH, hk122, hk123⟩
  ·by_cases c59 : (a0_2 == a1_2) = true
   ·replace HH := MW.hpos HH c59
    have hk60 : (a0_2 == a1_2) = true := c59
    try have hk61 : decide (a0_2 = a1_2) = true := by simpa using c59
    try have hk62 : (a0_2 == a1_2) = true := by simpa using c59
    clear c59
    replace HH := zqe HH
    rcases HH with ⟨HH, hk64, hk65⟩ | ⟨HH, hk116, hk117⟩
    ·replace HH := zqe HH
     rcases HH with ⟨HH, hk67, hk68⟩ | ⟨HH, hk114, hk115⟩
     ·replace HH := zqe HH
      rcases HH with ⟨HH, hk70, hk71⟩ | ⟨HH, hk112, hk113⟩
      ·replace HH := zqe HH
       rcases HH with ⟨HH, hk73, hk74⟩ | ⟨HH, hk110, hk111⟩
       ·replace HH := zd HH
        obtain ⟨t75, At76, HH⟩ := HH
        go_wp2_with ((with_reducible refine gc 34 rfl ?_); refine zc 34 (some 57) Try.func34 #[.slice A0_7 l0_7.length c0_7, .slice A1_7 l1_7.length c1_7] (h := ?_); (with_reducible refine (toponymref26_SameValues.calls k (fun k_ => ((P_ k_ ∨ w.heap.size ≤ k_) ∧ k_ ≠ g1) ∧ k_ ≠ g19) _ _ l0_7 _ _ l1_7 t75 _ (Kd.F_mono (ok := (fun k_ => ((P_ k_ ∨ w.heap.size ≤ k_) ∧ k_ ≠ g1) ∧ k_ ≠ g19)) HF0_7.out (fun k_ hk_ => hk_)) HL0_7.out (Kd.F_mono (ok := (fun k_ => ((P_ k_ ∨ w.heap.size ≤ k_) ∧ k_ ≠ g1) ∧ k_ ≠ g19)) HF1_7.out (fun k_ hk_ => hk_)) HL1_7.out At76.out).mono ?_); rintro e w77 ⟨rfl, hb⟩; refine ⟨_, rfl, ?_⟩)
        refine Stop.go ?_
        replace BKg1 := zbb BKg1.out hb
        replace BKg19 := zbb BKg19.out hb
        replace HB := zhb HB.out hb
        clear hb
        clear jl jm jn jo jp jq jr js jt ju jv jw jx jy jz jA jB jC jD jE jF jG jH jI jJ jK jL jM jN jO jP jQ
        obtain ⟨j1g, j1h, j1i, j1j, j1k, j1l, j1m, j1n, j1o, j1p, j1q, j1r, j1s, j1t, j1u, j1v⟩ := MB.lay8 BKg1.out
        obtain ⟨j1w, j1x, j1y, j1z, j1A, j1B, j1C, j1D, j1E, j1F, j1G, j1H, j1I, j1J, j1K, j1L⟩ := MB.lay8 BKg19.out
        have H := HH.out
        obtain rfl := Option.some.inj H
        clear HH
        go_wp2
        go_ret
        exact ⟨by first | rfl | (simp; done) | (simp [*]; done), HB.out⟩
       have H := HH.out
       obtain rfl := Option.some.inj H
       clear HH
       go_wp2
       go_ret
       exact ⟨by first | rfl | (simp; done) | (simp [*]; done), HB.out⟩
      have H := HH.out
      obtain rfl := Option.some.inj H
      clear HH
      go_wp2
      go_ret
      exact ⟨by first | rfl | (simp; done) | (simp [*]; done), HB.out⟩
     have H := HH.out
     obtain rfl := Option.some.inj H
     clear HH
     go_wp2
     go_ret
     exact ⟨by first | rfl | (simp; done) | (simp [*]; done), HB.out⟩
    have H := HH.out
    obtain rfl := Option.some.inj H
    clear HH
    go_wp2
    go_ret
    exact ⟨by first | rfl | (simp; done) | (simp [*]; done), HB.out⟩
   replace HH := MW.hneg HH c59
   have hk118 : (a0_2 == a1_2) = false := by simpa using c59
   try have hk119 : decide (a0_2 = a1_2) = false := by simpa using c59
   try have hk120 : (a0_2 == a1_2) = false := by simpa using c59
   try have hk121 : ¬ (a0_2 = a1_2) := by simpa using c59
   clear c59
   have H := HH.out
   obtain rfl := Option.some.inj H
   clear HH
   go_wp2
   go_ret
   exact ⟨by first | rfl | (simp; done) | (simp [*]; done), HB.out⟩
  have H := HH.out
  obtain rfl := Option.some.inj H
  clear HH
  go_wp2
  go_ret
  exact ⟨by first | rfl | (simp; done) | (simp [*]; done), HB.out⟩
 have H := HH.out
 obtain rfl := Option.some.inj H
 clear HH
 go_wp2
 go_ret
 exact ⟨by first | rfl | (simp; done) | (simp [*]; done), HB.out⟩

/-! ### reply_Same: function 18 -/
def reply_Same.l0 : Nat → Int → (List (S46)) → (List (S46)) → Option (Bool)
 | 0, _, _, _ => none
 | k + 1, x79, l0_7, l1_7 => if x79 < (l0_7.length : Int) then (if 0 ≤ x79 then (if x79 < (l1_7.length : Int) then ((reply_same.f k ((rd_T46 l0_7 x79).f0) ((rd_T46 l0_7 x79).f1) ((rd_T46 l1_7 x79).f0) ((rd_T46 l1_7 x79).f1)).bind fun t282 => (if t282 = true then ((reply_Same.l0 k (wrap64 (x79 + 1)) l0_7 l1_7)) else (some false))) else (none)) else (none)) else (some true)
def reply_Same.f (k : Nat) (a0_0 : Int) (a0_1 : Int) (a0_2 : Bool) (a0_3 : Int) (a0_4 : ByteArray) (a0_5 : ByteArray) (a0_6 : ByteArray) (l0_7 : List (S46)) (a1_0 : Int) (a1_1 : Int) (a1_2 : Bool) (a1_3 : Int) (a1_4 : ByteArray) (a1_5 : ByteArray) (a1_6 : ByteArray) (l1_7 : List (S46)) : Option (Bool) := if a0_0 = a1_0 then (if a0_1 = a1_1 then (if (a0_2 == a1_2) = true then (if a0_3 = a1_3 then (if a0_4.toList = a1_4.toList then (if a0_5.toList = a1_5.toList then (if a0_6.toList = a1_6.toList then (if (l0_7.length : Int) = (l1_7.length : Int) then ((reply_Same.l0 k 0 l0_7 l1_7)) else (some false)) else (some false)) else (some false)) else (some false)) else (some false)) else (some false)) else (some false)) else (some false)
theorem reply_Same.mono_l : ∀ k, (∀ y0 y1 y2, LeO (reply_Same.l0 k y0 y1 y2) (reply_Same.l0 (k + 1) y0 y1 y2))
 | 0 => fun _ _ _ r h => by simp [reply_Same.l0] at h
 | k + 1 => by
  have ih0 := reply_Same.mono_l k
  ·intro y0 y1 y2
   unfold reply_Same.l0
   repeat' first
   | (with_reducible exact ih0 _ _ _)
   | (with_reducible exact reply_same.mono _ _ _ _ _)
   | (with_reducible exact LeO.refl _)
   | (with_reducible exact LeO.none _)
   | (with_reducible refine LeO.ite ?_ ?_)
   | (with_reducible refine LeO.bind ?_ (fun _ => ?_))
theorem reply_Same.mono : ∀ a0_ a1_ a2_ a3_ a4_ a5_ a6_ a7_ a8_ a9_ a10_ a11_ a12_ a13_ a14_ a15_ k, LeO (reply_Same.f k a0_ a1_ a2_ a3_ a4_ a5_ a6_ a7_ a8_ a9_ a10_ a11_ a12_ a13_ a14_ a15_) (reply_Same.f (k + 1) a0_ a1_ a2_ a3_ a4_ a5_ a6_ a7_ a8_ a9_ a10_ a11_ a12_ a13_ a14_ a15_) := by
 intro a0_ a1_ a2_ a3_ a4_ a5_ a6_ a7_ a8_ a9_ a10_ a11_ a12_ a13_ a14_ a15_ k
 have ih0 := reply_Same.mono_l k
 unfold reply_Same.f
 repeat' first
   | (with_reducible exact ih0 _ _ _)
   | (with_reducible exact reply_same.mono _ _ _ _ _)
   | (with_reducible exact LeO.refl _)
   | (with_reducible exact LeO.none _)
   | (with_reducible refine LeO.ite ?_ ?_)
   | (with_reducible refine LeO.bind ?_ (fun _ => ?_))
set_option maxHeartbeats 8000000 in
set_option maxRecDepth 100000 in
theorem reply_Same.calls (k : Nat) (P_ : Nat → Prop) (a0_0 : Int) (a0_1 : Int) (a0_2 : Bool) (a0_3 : Int) (a0_4 : ByteArray) (a0_5 : ByteArray) (a0_6 : ByteArray) (A0_7 : Option Addr) (c0_7 : Nat) (l0_7 : List (S46)) (a1_0 : Int) (a1_1 : Int) (a1_2 : Bool) (a1_3 : Int) (a1_4 : ByteArray) (a1_5 : ByteArray) (a1_6 : ByteArray) (A1_7 : Option Addr) (c1_7 : Nat) (l1_7 : List (S46)) (r : Bool) (w : World) (hs0_7 : Kd.F k46 w P_ A0_7 l0_7.length l0_7) (hc0_7 : l0_7.length ≤ c0_7) (hs1_7 : Kd.F k46 w P_ A1_7 l1_7.length l1_7) (hc1_7 : l1_7.length ≤ c1_7) (h : reply_Same.f k a0_0 a0_1 a0_2 a0_3 a0_4 a0_5 a0_6 l0_7 a1_0 a1_1 a1_2 a1_3 a1_4 a1_5 a1_6 l1_7 = some r) :
  Calls Try.prog 18 #[.agg #[.int .i64 a0_0, .int .i64 a0_1, .bool a0_2, .int .i64 a0_3, .string a0_4, .string a0_5, .string a0_6, .slice A0_7 l0_7.length c0_7], .agg #[.int .i64 a1_0, .int .i64 a1_1, .bool a1_2, .int .i64 a1_3, .string a1_4, .string a1_5, .string a1_6, .slice A1_7 l1_7.length c1_7]] w (fun e w' => e = .returned (.bool r) ∧ Below w.heap.size w w') := by
 have HH := Aside0.mk (show (if a0_0 = a1_0 then (if a0_1 = a1_1 then (if (a0_2 == a1_2) = true then (if a0_3 = a1_3 then (if a0_4.toList = a1_4.toList then (if a0_5.toList = a1_5.toList then (if a0_6.toList = a1_6.toList then (if (l0_7.length : Int) = (l1_7.length : Int) then ((reply_Same.l0 k 0 l0_7 l1_7)) else (some false)) else (some false)) else (some false)) else (some false)) else (some false)) else (some false)) else (some false)) else (some false)) = some r from h)
 clear h
 have HF0_7 := zfp hs0_7
 clear hs0_7 hc0_7
 have HF1_7 := zfp hs1_7
 clear hs1_7 hc1_7
 have HB := Aside0.mk (Below.refl w.heap.size w)
 have hu27 := Try.underlying27
 go_enter Try.func18, Try.ntmps18
 go_wp2_with ((with_reducible refine gd 2 rfl ?_); refine zb 2 27 #[.int .i64 a0_0, .int .i64 a0_1, .bool a0_2, .int .i64 a0_3, .string a0_4, .string a0_5, .string a0_6, .slice A0_7 l0_7.length c0_7] (h := ?_); intro g1 hg w2 BKg1 hb)
 refine Stop.go ?_
 replace HF0_7 := zfe HF0_7.out hg hb
 replace HF1_7 := zfe HF1_7.out hg hb
 replace HB := zhb HB.out hb
 clear hg hb
 obtain ⟨j3, j4, j5, j6, j7, j8, j9, ja, jb, jc, jd, je, jf, jg, jh, ji⟩ := MB.lay8 BKg1.out
 go_wp2_with ((with_reducible refine gd 3 rfl ?_); refine zb 3 27 #[.int .i64 a1_0, .int .i64 a1_1, .bool a1_2, .int .i64 a1_3, .string a1_4, .string a1_5, .string a1_6, .slice A1_7 l1_7.length c1_7] (h := ?_); intro g19 hg w20 BKg19 hb)
 refine Stop.go ?_
 replace HF0_7 := zfe HF0_7.out hg hb
 replace HF1_7 := zfe HF1_7.out hg hb
 replace BKg1 := zbb BKg1.out hb
 replace HB := zhb HB.out hb
 clear hg hb
 clear j3 j4 j5 j6 j7 j8 j9 ja jb jc jd je jf jg jh ji
 obtain ⟨jl, jm, jn, jo, jp, jq, jr, js, jt, ju, jv, jw, jx, jy, jz, jA⟩ := MB.lay8 BKg1.out
 obtain ⟨jB, jC, jD, jE, jF, jG, jH, jI, jJ, jK, jL, jM, jN, jO, jP, jQ⟩ := MB.lay8 BKg19.out
 replace HH := zqe HH
 rcases HH with ⟨HH, hk54, hk55⟩ | ⟨HH, hk348, hk349⟩
 ·replace HH := zqe HH
  rcases HH with ⟨HH, hk57, hk58⟩ | ⟨HH, hk346, hk347⟩
  ·by_cases c59 : (a0_2 == a1_2) = true
   ·replace HH := MW.hpos HH c59
    have hk60 : (a0_2 == a1_2) = true := c59
    try have hk61 : decide (a0_2 = a1_2) = true := by simpa using c59
    try have hk62 : (a0_2 == a1_2) = true := by simpa using c59
    clear c59
    replace HH := zqe HH
    rcases HH with ⟨HH, hk64, hk65⟩ | ⟨HH, hk340, hk341⟩
    ·replace HH := zqe HH
     rcases HH with ⟨HH, hk67, hk68⟩ | ⟨HH, hk338, hk339⟩
     ·replace HH := zqe HH
      rcases HH with ⟨HH, hk70, hk71⟩ | ⟨HH, hk336, hk337⟩
      ·replace HH := zqe HH
       rcases HH with ⟨HH, hk73, hk74⟩ | ⟨HH, hk334, hk335⟩
       ·go_wp2_with (((with_reducible refine gate_callee (f := 35) rfl ?_); (try (refine gate_guard (by rfl) ?_; dsimp only)); refine goesL_ (some 57) rfl rfl Try.func35 (by kernel_rfl) rfl #[.slice A0_7 l0_7.length c0_7, .slice A1_7 l1_7.length c1_7, .func (.func 36) #[] #[]] rfl (by (try simp only [List.map_toArray, List.map_cons, List.map_nil]); first | done | rfl) ?_); refine stop_ ?_)
        refine Stop.go ?_
        go_enter Try.func35, Try.ntmps35
        by_cases c75 : (l0_7.length : Int) = (l1_7.length : Int)
        ·replace HH := MW.hpos HH c75
         have hk76 : ((l0_7.length : Int) == (l1_7.length : Int)) = true := beq_iff_eq.mpr c75
         have hk77 : ((l0_7.length : Int) != (l1_7.length : Int)) = false := bne_eq_false_iff_eq.mpr c75
         have hk78 : (l0_7.length == l1_7.length) = true := by first | simpa using c75 | (simp at c75 ⊢; omega)
         clear c75
         go_wp2
         go_loopg [17] k (fun kq u17 w' => ∃ (x79 : Int), u17 = .int .i64 x79 ∧ Aside0 ((reply_Same.l0 kq x79 l0_7 l1_7) = some r) ∧ Aside0 (kq ≤ k) ∧ Aside0 (Kd.F k46 w' (fun k_ => ((P_ k_ ∨ w.heap.size ≤ k_) ∧ k_ ≠ g1) ∧ k_ ≠ g19) A0_7 l0_7.length l0_7) ∧ Aside0 (Kd.F k46 w' (fun k_ => ((P_ k_ ∨ w.heap.size ≤ k_) ∧ k_ ≠ g1) ∧ k_ ≠ g19) A1_7 l1_7.length l1_7) ∧ Aside0 (w'.heap[g1]? = some (.cells #[.int .i64 a0_0, .int .i64 a0_1, .bool a0_2, .int .i64 a0_3, .string a0_4, .string a0_5, .string a0_6, .slice A0_7 l0_7.length c0_7] 27 (0, 0))) ∧ Aside0 (w'.heap[g19]? = some (.cells #[.int .i64 a1_0, .int .i64 a1_1, .bool a1_2, .int .i64 a1_3, .string a1_4, .string a1_5, .string a1_6, .slice A1_7 l1_7.length c1_7] 27 (0, 0))) ∧ Aside0 (Below w.heap.size w w'))
         case atStart => exact ⟨0, (by first | rfl | (simp; done) | (simp [*]; done)), HH, ⟨Nat.le_refl _⟩, ⟨(Kd.F_mono (ok := (fun k_ => ((P_ k_ ∨ w.heap.size ≤ k_) ∧ k_ ≠ g1) ∧ k_ ≠ g19)) HF0_7.out (fun k_ hk_ => hk_))⟩, ⟨(Kd.F_mono (ok := (fun k_ => ((P_ k_ ∨ w.heap.size ≤ k_) ∧ k_ ≠ g1) ∧ k_ ≠ g19)) HF1_7.out (fun k_ hk_ => hk_))⟩, ⟨BKg1.out⟩, ⟨BKg19.out⟩, ⟨HB.out⟩⟩
         case round =>
          clear jl jm jn jo jp jq jr js jt ju jv jw jx jy jz jA jB jC jD jE jF jG jH jI jJ jK jL jM jN jO jP jQ
          clear hk54
          clear hk55
          clear hk57
          clear hk58
          clear hk60
          try clear hk61
          try clear hk62
          clear hk64
          clear hk65
          clear hk67
          clear hk68
          clear hk70
          clear hk71
          clear hk73
          clear hk74
          clear hk76
          clear hk77
          clear hk78
          clear HH
          clear HF0_7 HF1_7 BKg1 BKg19 HB
          obtain ⟨x79, rfl, HA, HK0, HF0_7, HF1_7, BKg1, BKg19, HB⟩ := hrel
          obtain ⟨w81, rfl⟩ : ∃ wo_ : World, wo_ = wr := ⟨_, rfl⟩
          cases gk with
          | zero => exact absurd HA.out (by simp [reply_Same.l0])
          | succ k80 =>
           have H := HA.out
           clear HA
           simp only [reply_Same.l0] at H
           have HH := Aside0.mk H
           clear H
           obtain ⟨j1k, j1l, j1m, j1n, j1o, j1p, j1q, j1r, j1s, j1t, j1u, j1v, j1w, j1x, j1y, j1z⟩ := MB.lay8 BKg1.out
           obtain ⟨j1A, j1B, j1C, j1D, j1E, j1F, j1G, j1H, j1I, j1J, j1K, j1L, j1M, j1N, j1O, j1P⟩ := MB.lay8 BKg19.out
           replace HH := zqt HH
           rcases HH with ⟨HH, hk115, hk116⟩ | ⟨HH, hk329, hk330⟩
           ·replace HH := zqdo HH
            obtain ⟨HH, hk118⟩ := HH
            have p119 : 0 ≤ (x79 : Int) := of_decide_eq_true (by first | (with_reducible assumption) | assumption)
            have q119 : x79 < (l0_7.length : Int) := of_decide_eq_true (by first | (with_reducible assumption) | assumption)
            obtain ⟨ad119, A119_1, c119_1, e119, hx119_0, hx119_1, hl119_1, hi119_1⟩ := atF_T46 HF0_7.out x79 p119 q119
            cases e119
            have HF119_1 := Aside0.mk hi119_1
            have HL119_1 := Aside0.mk hl119_1
            clear hi119_1 hl119_1
            replace p119 := eq_true p119
            replace q119 := eq_true q119
            go_wp2_with ((with_reducible refine gd 8 rfl ?_); refine zb 8 46 #[.string (⟨#[]⟩ : ByteArray), .slice none 0 0] (h := ?_); intro g120 hg w121 BKg120 hb)
            refine Stop.go ?_
            have GEg120 := zge hg (below_size HB.out)
            have NEg1_g120 := znq hg BKg1.out
            have NEg19_g120 := znq hg BKg19.out
            replace HF0_7 := zfe HF0_7.out hg hb
            replace HF1_7 := zfe HF1_7.out hg hb
            replace HF119_1 := zfe HF119_1.out hg hb
            replace BKg1 := zbb BKg1.out hb
            replace BKg19 := zbb BKg19.out hb
            replace HB := zhb HB.out hb
            clear hg hb
            clear j1k j1l j1m j1n j1o j1p j1q j1r j1s j1t j1u j1v j1w j1x j1y j1z j1A j1B j1C j1D j1E j1F j1G j1H j1I j1J j1K j1L j1M j1N j1O j1P hx119_0 hx119_1 p119 q119
            obtain ⟨j1Y, j1Z, j20, j21, j22, j23, j24, j25, j26, j27, j28, j29, j2a, j2b, j2c, j2d⟩ := MB.lay8 BKg1.out
            obtain ⟨j2e, j2f, j2g, j2h, j2i, j2j, j2k, j2l, j2m, j2n, j2o, j2p, j2q, j2r, j2s, j2t⟩ := MB.lay8 BKg19.out
            obtain ⟨j2u, j2v, j2w, j2x⟩ := MB.lay2 BKg120.out
            go_wp2_with ((with_reducible refine gs 46 8 rfl ?_); refine zs 46 8 #[.string ((rd_T46 l0_7 x79).f0), .slice A119_1 ((rd_T46 l0_7 x79).f1).length c119_1] BKg120.out [.string ((rd_T46 l0_7 x79).f0), .slice A119_1 ((rd_T46 l0_7 x79).f1).length c119_1] (h := ?_); intro w158 hbk hg)
            refine Stop.go ?_
            replace HF0_7 := zfg HF0_7.out hg fun k_ hk_ => hk_.2
            replace HF1_7 := zfg HF1_7.out hg fun k_ hk_ => hk_.2
            replace HF119_1 := zfg HF119_1.out hg fun k_ hk_ => hk_.2
            replace BKg1 := zbg BKg1.out hg NEg1_g120
            replace BKg19 := zbg BKg19.out hg NEg19_g120
            replace HB := zhg HB.out hg (below_size HB.out) GEg120
            replace BKg120 := hbk
            clear hg hbk
            clear j1Y j1Z j20 j21 j22 j23 j24 j25 j26 j27 j28 j29 j2a j2b j2c j2d j2e j2f j2g j2h j2i j2j j2k j2l j2m j2n j2o j2p j2q j2r j2s j2t j2u j2v j2w j2x
            obtain ⟨j2z, j2A, j2B, j2C, j2D, j2E, j2F, j2G, j2H, j2I, j2J, j2K, j2L, j2M, j2N, j2O⟩ := MB.lay8 BKg1.out
            obtain ⟨j2P, j2Q, j2R, j2S, j2T, j2U, j2V, j2W, j2X, j2Y, j2Z, j30, j31, j32, j33, j34⟩ := MB.lay8 BKg19.out
            obtain ⟨j35, j36, j37, j38⟩ := MB.lay2 BKg120.out
            replace HH := zqto HH
            obtain ⟨HH, hk196, hk197⟩ := HH
            have p198 : 0 ≤ (x79 : Int) := of_decide_eq_true (by first | (with_reducible assumption) | assumption)
            have q198 : x79 < (l1_7.length : Int) := of_decide_eq_true (by first | (with_reducible assumption) | assumption)
            obtain ⟨ad198, A198_1, c198_1, e198, hx198_0, hx198_1, hl198_1, hi198_1⟩ := atF_T46 HF1_7.out x79 p198 q198
            cases e198
            have HF198_1 := Aside0.mk hi198_1
            have HL198_1 := Aside0.mk hl198_1
            clear hi198_1 hl198_1
            replace p198 := eq_true p198
            replace q198 := eq_true q198
            go_wp2_with ((with_reducible refine gd 9 rfl ?_); refine zb 9 46 #[.string (⟨#[]⟩ : ByteArray), .slice none 0 0] (h := ?_); intro g199 hg w200 BKg199 hb)
            refine Stop.go ?_
            have GEg199 := zge hg (below_size HB.out)
            have NEg1_g199 := znq hg BKg1.out
            have NEg19_g199 := znq hg BKg19.out
            have NEg120_g199 := znq hg BKg120.out
            replace HF0_7 := zfe HF0_7.out hg hb
            replace HF1_7 := zfe HF1_7.out hg hb
            replace HF119_1 := zfe HF119_1.out hg hb
            replace HF198_1 := zfe HF198_1.out hg hb
            replace BKg1 := zbb BKg1.out hb
            replace BKg19 := zbb BKg19.out hb
            replace BKg120 := zbb BKg120.out hb
            replace HB := zhb HB.out hb
            clear hg hb
            clear j2z j2A j2B j2C j2D j2E j2F j2G j2H j2I j2J j2K j2L j2M j2N j2O j2P j2Q j2R j2S j2T j2U j2V j2W j2X j2Y j2Z j30 j31 j32 j33 j34 j35 j36 j37 j38 hx198_0 hx198_1 p198 q198
            obtain ⟨j3f, j3g, j3h, j3i, j3j, j3k, j3l, j3m, j3n, j3o, j3p, j3q, j3r, j3s, j3t, j3u⟩ := MB.lay8 BKg1.out
            obtain ⟨j3v, j3w, j3x, j3y, j3z, j3A, j3B, j3C, j3D, j3E, j3F, j3G, j3H, j3I, j3J, j3K⟩ := MB.lay8 BKg19.out
            obtain ⟨j3L, j3M, j3N, j3O⟩ := MB.lay2 BKg120.out
            obtain ⟨j3P, j3Q, j3R, j3S⟩ := MB.lay2 BKg199.out
            go_wp2_with ((with_reducible refine gs 46 9 rfl ?_); refine zs 46 9 #[.string ((rd_T46 l1_7 x79).f0), .slice A198_1 ((rd_T46 l1_7 x79).f1).length c198_1] BKg199.out [.string ((rd_T46 l1_7 x79).f0), .slice A198_1 ((rd_T46 l1_7 x79).f1).length c198_1] (h := ?_); intro w241 hbk hg)
            refine Stop.go ?_
            replace HF0_7 := zfg HF0_7.out hg fun k_ hk_ => hk_.2
            replace HF1_7 := zfg HF1_7.out hg fun k_ hk_ => hk_.2
            replace HF119_1 := zfg HF119_1.out hg fun k_ hk_ => hk_.2
            replace HF198_1 := zfg HF198_1.out hg fun k_ hk_ => hk_.2
            replace BKg1 := zbg BKg1.out hg NEg1_g199
            replace BKg19 := zbg BKg19.out hg NEg19_g199
            replace BKg120 := zbg BKg120.out hg NEg120_g199
            replace HB := zhg HB.out hg (below_size HB.out) GEg199
            replace BKg199 := hbk
            clear hg hbk
            clear j3f j3g j3h j3i j3j j3k j3l j3m j3n j3o j3p j3q j3r j3s j3t j3u j3v j3w j3x j3y j3z j3A j3B j3C j3D j3E j3F j3G j3H j3I j3J j3K j3L j3M j3N j3O j3P j3Q j3R j3S
            obtain ⟨j3U, j3V, j3W, j3X, j3Y, j3Z, j40, j41, j42, j43, j44, j45, j46, j47, j48, j49⟩ := MB.lay8 BKg1.out
            obtain ⟨j4a, j4b, j4c, j4d, j4e, j4f, j4g, j4h, j4i, j4j, j4k, j4l, j4m, j4n, j4o, j4p⟩ := MB.lay8 BKg19.out
            obtain ⟨j4q, j4r, j4s, j4t⟩ := MB.lay2 BKg120.out
            obtain ⟨j4u, j4v, j4w, j4x⟩ := MB.lay2 BKg199.out
            replace HH := zd HH
            obtain ⟨t282, At283, HH⟩ := HH
            go_wp2_with ((with_reducible refine gd 29 rfl ?_); refine zv 29 Try.func36 #[.agg #[.string ((rd_T46 l0_7 x79).f0), .slice A119_1 ((rd_T46 l0_7 x79).f1).length c119_1], .agg #[.string ((rd_T46 l1_7 x79).f0), .slice A198_1 ((rd_T46 l1_7 x79).f1).length c198_1]] #[] (h := ?_); (with_reducible refine (reply_same.calls k80 (fun k_ => ((((P_ k_ ∨ w.heap.size ≤ k_) ∧ k_ ≠ g1) ∧ k_ ≠ g19) ∧ k_ ≠ g120) ∧ k_ ≠ g199) ((rd_T46 l0_7 x79).f0) _ _ ((rd_T46 l0_7 x79).f1) ((rd_T46 l1_7 x79).f0) _ _ ((rd_T46 l1_7 x79).f1) t282 _ (Kd.F_mono (ok := (fun k_ => ((((P_ k_ ∨ w.heap.size ≤ k_) ∧ k_ ≠ g1) ∧ k_ ≠ g19) ∧ k_ ≠ g120) ∧ k_ ≠ g199)) HF119_1.out (fun k_ hk_ => hk_)) HL119_1.out (Kd.F_mono (ok := (fun k_ => ((((P_ k_ ∨ w.heap.size ≤ k_) ∧ k_ ≠ g1) ∧ k_ ≠ g19) ∧ k_ ≠ g120) ∧ k_ ≠ g199)) HF198_1.out (fun k_ hk_ => hk_)) HL198_1.out At283.out).mono ?_); rintro e w284 ⟨rfl, hb⟩; refine ⟨_, rfl, ?_⟩)
            refine Stop.go ?_
            replace HF0_7 := zfb HF0_7.out hb
            replace HF1_7 := zfb HF1_7.out hb
            replace BKg1 := zbb BKg1.out hb
            replace BKg19 := zbb BKg19.out hb
            replace BKg120 := zbb BKg120.out hb
            replace BKg199 := zbb BKg199.out hb
            replace HB := zhb HB.out hb
            clear hb
            clear j3U j3V j3W j3X j3Y j3Z j40 j41 j42 j43 j44 j45 j46 j47 j48 j49 j4a j4b j4c j4d j4e j4f j4g j4h j4i j4j j4k j4l j4m j4n j4o j4p j4q j4r j4s j4t j4u j4v j4w j4x
            obtain ⟨j4B, j4C, j4D, j4E, j4F, j4G, j4H, j4I, j4J, j4K, j4L, j4M, j4N, j4O, j4P, j4Q⟩ := MB.lay8 BKg1.out
            obtain ⟨j4R, j4S, j4T, j4U, j4V, j4W, j4X, j4Y, j4Z, j50, j51, j52, j53, j54, j55, j56⟩ := MB.lay8 BKg19.out
            obtain ⟨j57, j58, j59, j5a⟩ := MB.lay2 BKg120.out
            obtain ⟨j5b, j5c, j5d, j5e⟩ := MB.lay2 BKg199.out
            by_cases c325 : t282 = true
            ·replace HH := MW.hpos HH c325
             subst c325
             go_wp2
             go_roundg k80
             case measure => have := HK0.out; omega
             case rel => exact ⟨wrap64 (x79 + 1), (by first | rfl | (simp; done) | (simp [*]; done)), HH, ⟨by have := HK0.out; omega⟩, ⟨(Kd.F_mono (ok := (fun k_ => ((((P_ k_ ∨ w.heap.size ≤ k_) ∧ k_ ≠ g1) ∧ k_ ≠ g19) ∧ k_ ≠ g120) ∧ k_ ≠ g199)) HF0_7.out (fun k_ hk_ => ⟨⟨hk_.1.1.1.1, hk_.1.1.1.2⟩, hk_.1.1.2⟩))⟩, ⟨(Kd.F_mono (ok := (fun k_ => ((((P_ k_ ∨ w.heap.size ≤ k_) ∧ k_ ≠ g1) ∧ k_ ≠ g19) ∧ k_ ≠ g120) ∧ k_ ≠ g199)) HF1_7.out (fun k_ hk_ => ⟨⟨hk_.1.1.1.1, hk_.1.1.1.2⟩, hk_.1.1.2⟩))⟩, ⟨BKg1.out⟩, ⟨BKg19.out⟩, ⟨HB.out⟩⟩
            replace HH := MW.hneg HH c325
            replace c325 := Bool.eq_false_iff.mpr c325
            subst c325
            go_wp2
            go_ret
            refine ⟨_, rfl, ?_⟩
            have H := HH.out
            obtain rfl := Option.some.inj H
            clear HH
            go_wp2
            go_ret
            exact ⟨by first | rfl | (simp; done) | (simp [*]; done), HB.out⟩
           go_wp2
           go_ret
           refine ⟨_, rfl, ?_⟩
           have H := HH.out
           obtain rfl := Option.some.inj H
           clear HH
           go_wp2
           go_ret
           exact ⟨by first | rfl | (simp; done) | (simp [*]; done), HB.out⟩
        replace HH := MW.hneg HH c75
        have hk331 : ((l0_7.length : Int) == (l1_7.length : Int)) = false := beq_eq_false_iff_ne.mpr c75
        have hk332 : ((l0_7.length : Int) != (l1_7.length : Int)) = true := bne_iff_ne.mpr c75
        have hk333 : (l0_7.length == l1_7.length) = false := by first | simpa using c75 | (simp at c75 ⊢; omega)
        clear c75
        go_wp2
        go_ret
        refine ⟨_, rfl, ?_⟩
        have H := HH.out
        obtain rfl := Option.some.inj H
        clear HH
        go_wp2
        go_ret
        exact ⟨by first | rfl | (simp; done) | (simp [*]; done), HB.out⟩
       have H := HH.out
       obtain rfl := Option.some.inj H
       clear HH
       go_wp2
       go_ret
       exact ⟨by first | rfl | (simp; done) | (simp [*]; done), HB.out⟩
      have H := HH.out
      obtain rfl := Option.some.inj H
      clear HH
      go_wp2
      go_ret
      exact ⟨by first | rfl | (simp; done) | (simp [*]; done), HB.out⟩
     have H := HH.out
     obtain rfl := Option.some.inj H
     clear HH
     go_wp2
     go_ret
     exact ⟨by first | rfl | (simp; done) | (simp [*]; done), HB.out⟩
    have H := HH.out
    obtain rfl := Option.some.inj H
    clear HH
    go_wp2
    go_ret
    exact ⟨by first | rfl | (simp; done) | (simp [*]; done), HB.out⟩
   replace HH := MW.hneg HH c59
   have hk342 : (a0_2 == a1_2) = false := by simpa using c59
   try have hk343 : decide (a0_2 = a1_2) = false := by simpa using c59
   try have hk344 : (a0_2 == a1_2) = false := by simpa using c59
   try have hk345 : ¬ (a0_2 = a1_2) := by simpa using c59
   clear c59
   have H := HH.out
   obtain rfl := Option.some.inj H
   clear HH
   go_wp2
   go_ret
   exact ⟨by first | rfl | (simp; done) | (simp [*]; done), HB.out⟩
  have H := HH.out
  obtain rfl := Option.some.inj H
  clear HH
  go_wp2
  go_ret
  exact ⟨by first | rfl | (simp; done) | (simp [*]; done), HB.out⟩
 have H := HH.out
 obtain rfl := Option.some.inj H
 clear HH
 go_wp2
 go_ret
 exact ⟨by first | rfl | (simp; done) | (simp [*]; done), HB.out⟩

/-! ### reply_Result: function 19 -/
def reply_Result.f (a0 : Int) (a1 : Int) (a2 : Int) (a3 : ByteArray) : Option (Int × Int × Bool × Int × ByteArray × ByteArray × ByteArray × (List (S46))) := some (a0, a1, false, a2, (⟨#[]⟩ : ByteArray), a3, (⟨#[]⟩ : ByteArray), ([] : List (S46)))
set_option maxHeartbeats 8000000 in
set_option maxRecDepth 100000 in
theorem reply_Result.calls (a0 : Int) (a1 : Int) (a2 : Int) (a3 : ByteArray) (r1 : Int) (r2 : Int) (r3 : Bool) (r4 : Int) (r5 : ByteArray) (r6 : ByteArray) (r7 : ByteArray) (r8 : List (S46)) (w : World) (h : reply_Result.f a0 a1 a2 a3 = some (r1, r2, r3, r4, r5, r6, r7, r8)) :
  Calls Try.prog 19 #[.int .i64 a0, .int .i64 a1, .int .i64 a2, .string a3] w (fun e w' => ∃ v7_ : Value, e = .returned (.agg #[.int .i64 r1, .int .i64 r2, .bool r3, .int .i64 r4, .string r5, .string r6, .string r7, v7_]) ∧ Kd.N k46 46 w' w.heap.size (fun k_ => w.heap.size ≤ k_) v7_ r8 ∧ Below w.heap.size w w') := by
 have HH := Aside0.mk (show (some (a0, a1, false, a2, (⟨#[]⟩ : ByteArray), a3, (⟨#[]⟩ : ByteArray), ([] : List (S46)))) = some (r1, r2, r3, r4, r5, r6, r7, r8) from h)
 clear h
 have HB := Aside0.mk (Below.refl w.heap.size w)
 have hu27 := Try.underlying27
 go_enter Try.func19, Try.ntmps19
 go_wp2_with ((with_reducible refine gd 8 rfl ?_); refine zb 8 27 #[.int .i64 0, .int .i64 0, .bool false, .int .i64 0, .string (⟨#[]⟩ : ByteArray), .string (⟨#[]⟩ : ByteArray), .string (⟨#[]⟩ : ByteArray), .slice none 0 0] (h := ?_); intro g1 hg w2 BKg1 hb)
 refine Stop.go ?_
 have GEg1 := zge hg (below_size HB.out)
 replace HB := zhb HB.out hb
 clear hg hb
 obtain ⟨j3, j4, j5, j6, j7, j8, j9, ja, jb, jc, jd, je, jf, jg, jh, ji⟩ := MB.lay8 BKg1.out
 go_wp2_with ((with_reducible refine gs 27 8 rfl ?_); refine zs 27 8 #[.int .i64 a0, .int .i64 a1, .bool false, .int .i64 a2, .string (⟨#[]⟩ : ByteArray), .string a3, .string (⟨#[]⟩ : ByteArray), .slice none 0 0] BKg1.out [.int .i64 a0, .int .i64 a1, .bool false, .int .i64 a2, .string (⟨#[]⟩ : ByteArray), .string a3, .string (⟨#[]⟩ : ByteArray), .slice none 0 0] (h := ?_); intro w19 hbk hg)
 refine Stop.go ?_
 replace HB := zhg HB.out hg (below_size HB.out) GEg1
 replace BKg1 := hbk
 clear hg hbk
 clear j3 j4 j5 j6 j7 j8 j9 ja jb jc jd je jf jg jh ji
 obtain ⟨jk, jl, jm, jn, jo, jp, jq, jr, js, jt, ju, jv, jw, jx, jy, jz⟩ := MB.lay8 BKg1.out
 have H := HH.out
 simp only [Option.some.injEq, Prod.mk.injEq] at H
 obtain ⟨rfl, rfl, rfl, rfl, rfl, rfl, rfl, rfl⟩ := H
 clear HH
 go_wp2
 refine bodyPost_ret (MW.results_c rfl _ _ g1 27 #[.int .i64 a0, .int .i64 a1, .bool false, .int .i64 a2, .string (⟨#[]⟩ : ByteArray), .string a3, .string (⟨#[]⟩ : ByteArray), .slice none 0 0] (0, 0) _ rfl BKg1.out Try.underlying27 rfl (by kernel_rfl)) rfl ?_
 exact ⟨_, by first | rfl | (simp; done) | (simp [*]; done), (Kd.N_nil _ _ _ _ _), HB.out⟩

/-! ### toponymlaw27_few: function 9 -/
mutual
def toponymlaw27_few.l0 : Nat → Int → (List (S46)) → Option (Bool)
 | 0, _, _ => none
 | k + 1, x39, l0_7 => if x39 < (l0_7.length : Int) then (if 0 ≤ x39 then (if (((rd_T46 l0_7 x39).f1).length : Int) > 20 then (some false) else (if (((rd_T46 l0_7 x39).f0).size : Int) > 1000 then (some false) else ((toponymlaw27_few.l1 k 0 l0_7 x39)))) else (none)) else (some true)
def toponymlaw27_few.l1 : Nat → Int → (List (S46)) → Int → Option (Bool)
 | 0, _, _, _ => none
 | k + 1, x74, l0_7, x39 => if 0 ≤ x39 then (if x39 < (l0_7.length : Int) then (if x74 < (((rd_T46 l0_7 x39).f1).length : Int) then (if 0 ≤ x74 then (if ((rdOf ByteArray.empty ((rd_T46 l0_7 x39).f1) x74).size : Int) > 2000 then (some false) else ((toponymlaw27_few.l1 k (wrap64 (x74 + 1)) l0_7 x39))) else (none)) else ((toponymlaw27_few.l0 k (wrap64 (x39 + 1)) l0_7))) else (none)) else (none)
end
def toponymlaw27_few.f (k : Nat) (a0_0 : Int) (a0_1 : Int) (a0_2 : Bool) (a0_3 : Int) (a0_4 : ByteArray) (a0_5 : ByteArray) (a0_6 : ByteArray) (l0_7 : List (S46)) : Option (Bool) := if (l0_7.length : Int) > 40 then (some false) else (if (a0_6.size : Int) > 5000 then (some false) else (if (a0_4.size : Int) > 5000 then (some false) else (if (a0_5.size : Int) > 5000 then (some false) else ((toponymlaw27_few.l0 k 0 l0_7)))))
theorem toponymlaw27_few.mono_l : ∀ k, (∀ y0 y1, LeO (toponymlaw27_few.l0 k y0 y1) (toponymlaw27_few.l0 (k + 1) y0 y1)) ∧ (∀ y0 y1 y2, LeO (toponymlaw27_few.l1 k y0 y1 y2) (toponymlaw27_few.l1 (k + 1) y0 y1 y2))
 | 0 => ⟨fun _ _ r h => by simp [toponymlaw27_few.l0] at h, fun _ _ _ r h => by simp [toponymlaw27_few.l1] at h⟩
 | k + 1 => by
  obtain ⟨ih0, ih1⟩ := toponymlaw27_few.mono_l k
  refine ⟨?_, ?_⟩
  ·intro y0 y1
   unfold toponymlaw27_few.l0
   repeat' first
   | (with_reducible exact ih0 _ _)
   | (with_reducible exact ih1 _ _ _)
   | (with_reducible exact LeO.refl _)
   | (with_reducible exact LeO.none _)
   | (with_reducible refine LeO.ite ?_ ?_)
   | (with_reducible refine LeO.bind ?_ (fun _ => ?_))
  intro y0 y1 y2
  unfold toponymlaw27_few.l1
  repeat' first
  | (with_reducible exact ih0 _ _)
  | (with_reducible exact ih1 _ _ _)
  | (with_reducible exact LeO.refl _)
  | (with_reducible exact LeO.none _)
  | (with_reducible refine LeO.ite ?_ ?_)
  | (with_reducible refine LeO.bind ?_ (fun _ => ?_))
theorem toponymlaw27_few.mono : ∀ a0_ a1_ a2_ a3_ a4_ a5_ a6_ a7_ k, LeO (toponymlaw27_few.f k a0_ a1_ a2_ a3_ a4_ a5_ a6_ a7_) (toponymlaw27_few.f (k + 1) a0_ a1_ a2_ a3_ a4_ a5_ a6_ a7_) := by
 intro a0_ a1_ a2_ a3_ a4_ a5_ a6_ a7_ k
 obtain ⟨ih0, ih1⟩ := toponymlaw27_few.mono_l k
 unfold toponymlaw27_few.f
 repeat' first
   | (with_reducible exact ih0 _ _)
   | (with_reducible exact ih1 _ _ _)
   | (with_reducible exact LeO.refl _)
   | (with_reducible exact LeO.none _)
   | (with_reducible refine LeO.ite ?_ ?_)
   | (with_reducible refine LeO.bind ?_ (fun _ => ?_))
set_option maxHeartbeats 8000000 in
set_option maxRecDepth 100000 in
theorem toponymlaw27_few.calls (k : Nat) (P_ : Nat → Prop) (a0_0 : Int) (a0_1 : Int) (a0_2 : Bool) (a0_3 : Int) (a0_4 : ByteArray) (a0_5 : ByteArray) (a0_6 : ByteArray) (A0_7 : Option Addr) (c0_7 : Nat) (l0_7 : List (S46)) (r : Bool) (w : World) (hs0_7 : Kd.F k46 w P_ A0_7 l0_7.length l0_7) (hc0_7 : l0_7.length ≤ c0_7) (h : toponymlaw27_few.f k a0_0 a0_1 a0_2 a0_3 a0_4 a0_5 a0_6 l0_7 = some r) :
  Calls Try.prog 9 #[.agg #[.int .i64 a0_0, .int .i64 a0_1, .bool a0_2, .int .i64 a0_3, .string a0_4, .string a0_5, .string a0_6, .slice A0_7 l0_7.length c0_7]] w (fun e w' => e = .returned (.bool r) ∧ Below w.heap.size w w') := by
 have HH := Aside0.mk (show (if (l0_7.length : Int) > 40 then (some false) else (if (a0_6.size : Int) > 5000 then (some false) else (if (a0_4.size : Int) > 5000 then (some false) else (if (a0_5.size : Int) > 5000 then (some false) else ((toponymlaw27_few.l0 k 0 l0_7)))))) = some r from h)
 clear h
 have HF0_7 := zfp hs0_7
 clear hs0_7 hc0_7
 have HB := Aside0.mk (Below.refl w.heap.size w)
 have hu27 := Try.underlying27
 go_enter Try.func9, Try.ntmps9
 go_wp2_with ((with_reducible refine gd 1 rfl ?_); refine zb 1 27 #[.int .i64 a0_0, .int .i64 a0_1, .bool a0_2, .int .i64 a0_3, .string a0_4, .string a0_5, .string a0_6, .slice A0_7 l0_7.length c0_7] (h := ?_); intro g1 hg w2 BKg1 hb)
 refine Stop.go ?_
 replace HF0_7 := zfe HF0_7.out hg hb
 replace HB := zhb HB.out hb
 clear hg hb
 obtain ⟨j3, j4, j5, j6, j7, j8, j9, ja, jb, jc, jd, je, jf, jg, jh, ji⟩ := MB.lay8 BKg1.out
 replace HH := zqK 40 HH
 rcases HH with ⟨HH, hk20, hk21⟩ | ⟨HH, hk22, hk23⟩
 ·have H := HH.out
  obtain rfl := Option.some.inj H
  clear HH
  go_wp2
  go_ret
  exact ⟨by first | rfl | (simp; done) | (simp [*]; done), HB.out⟩
 replace HH := zqK 5000 HH
 rcases HH with ⟨HH, hk25, hk26⟩ | ⟨HH, hk27, hk28⟩
 ·have H := HH.out
  obtain rfl := Option.some.inj H
  clear HH
  go_wp2
  go_ret
  exact ⟨by first | rfl | (simp; done) | (simp [*]; done), HB.out⟩
 replace HH := zqK 5000 HH
 rcases HH with ⟨HH, hk30, hk31⟩ | ⟨HH, hk32, hk33⟩
 ·have H := HH.out
  obtain rfl := Option.some.inj H
  clear HH
  go_wp2
  go_ret
  exact ⟨by first | rfl | (simp; done) | (simp [*]; done), HB.out⟩
 replace HH := zqK 5000 HH
 rcases HH with ⟨HH, hk35, hk36⟩ | ⟨HH, hk37, hk38⟩
 ·have H := HH.out
  obtain rfl := Option.some.inj H
  clear HH
  go_wp2
  go_ret
  exact ⟨by first | rfl | (simp; done) | (simp [*]; done), HB.out⟩
 go_wp2
 go_loopg [3] k (fun kq u3 w' => ∃ (x39 : Int), u3 = .int .i64 x39 ∧ Aside0 ((toponymlaw27_few.l0 kq x39 l0_7) = some r) ∧ Aside0 (kq ≤ k) ∧ Aside0 (Kd.F k46 w' (fun k_ => (P_ k_ ∨ w.heap.size ≤ k_) ∧ k_ ≠ g1) A0_7 l0_7.length l0_7) ∧ Aside0 (w'.heap[g1]? = some (.cells #[.int .i64 a0_0, .int .i64 a0_1, .bool a0_2, .int .i64 a0_3, .string a0_4, .string a0_5, .string a0_6, .slice A0_7 l0_7.length c0_7] 27 (0, 0))) ∧ Aside0 (Below w.heap.size w w'))
 case atStart => exact ⟨0, (by first | rfl | (simp; done) | (simp [*]; done)), HH, ⟨Nat.le_refl _⟩, ⟨(Kd.F_mono (ok := (fun k_ => (P_ k_ ∨ w.heap.size ≤ k_) ∧ k_ ≠ g1)) HF0_7.out (fun k_ hk_ => hk_))⟩, ⟨BKg1.out⟩, ⟨HB.out⟩⟩
 case round =>
  clear j3 j4 j5 j6 j7 j8 j9 ja jb jc jd je jf jg jh ji
  clear hk22
  clear hk23
  clear hk27
  clear hk28
  clear hk32
  clear hk33
  clear hk37
  clear hk38
  clear HH
  clear HF0_7 BKg1 HB
  obtain ⟨x39, rfl, HA, HK0, HF0_7, BKg1, HB⟩ := hrel
  obtain ⟨w41, rfl⟩ : ∃ wo_ : World, wo_ = wr := ⟨_, rfl⟩
  cases gk with
  | zero => exact absurd HA.out (by simp [toponymlaw27_few.l0])
  | succ k40 =>
   have H := HA.out
   clear HA
   simp only [toponymlaw27_few.l0] at H
   have HH := Aside0.mk H
   clear H
   obtain ⟨jG, jH, jI, jJ, jK, jL, jM, jN, jO, jP, jQ, jR, jS, jT, jU, jV⟩ := MB.lay8 BKg1.out
   replace HH := zqt HH
   rcases HH with ⟨HH, hk59, hk60⟩ | ⟨HH, hk117, hk118⟩
   ·replace HH := zqdo HH
    obtain ⟨HH, hk62⟩ := HH
    have p63 : 0 ≤ (x39 : Int) := of_decide_eq_true (by first | (with_reducible assumption) | assumption)
    have q63 : x39 < (l0_7.length : Int) := of_decide_eq_true (by first | (with_reducible assumption) | assumption)
    obtain ⟨ad63, A63_1, c63_1, e63, hx63_0, hx63_1, hl63_1, hi63_1⟩ := atF_T46 HF0_7.out x39 p63 q63
    cases e63
    have HF63_1 := Aside0.mk hi63_1
    clear hi63_1 hl63_1
    replace p63 := eq_true p63
    replace q63 := eq_true q63
    replace HH := zqK 20 HH
    rcases HH with ⟨HH, hk65, hk66⟩ | ⟨HH, hk67, hk68⟩
    ·have H := HH.out
     obtain rfl := Option.some.inj H
     clear HH
     go_wp2
     go_ret
     exact ⟨by first | rfl | (simp; done) | (simp [*]; done), HB.out⟩
    replace HH := zqK 1000 HH
    rcases HH with ⟨HH, hk70, hk71⟩ | ⟨HH, hk72, hk73⟩
    ·have H := HH.out
     obtain rfl := Option.some.inj H
     clear HH
     go_wp2
     go_ret
     exact ⟨by first | rfl | (simp; done) | (simp [*]; done), HB.out⟩
    go_wp2
    go_loopg [4] k40 (fun kq u4 w' => ∃ (x74 : Int), u4 = .int .i64 x74 ∧ Aside0 ((toponymlaw27_few.l1 kq x74 l0_7 x39) = some r) ∧ Aside0 (kq ≤ k40) ∧ Aside0 (Kd.F k46 w' (fun k_ => (P_ k_ ∨ w.heap.size ≤ k_) ∧ k_ ≠ g1) (some ad63) l0_7.length l0_7) ∧ Aside0 (Kd.F Kd.string w' (fun k_ => (P_ k_ ∨ w.heap.size ≤ k_) ∧ k_ ≠ g1) A63_1 ((rd_T46 l0_7 x39).f1).length ((rd_T46 l0_7 x39).f1)) ∧ Aside0 (w'.heap[g1]? = some (.cells #[.int .i64 a0_0, .int .i64 a0_1, .bool a0_2, .int .i64 a0_3, .string a0_4, .string a0_5, .string a0_6, .slice (some ad63) l0_7.length c0_7] 27 (0, 0))) ∧ Aside0 (Below w.heap.size w w'))
    case atStart => exact ⟨0, (by first | rfl | (simp; done) | (simp [*]; done)), HH, ⟨Nat.le_refl _⟩, ⟨(Kd.F_mono (ok := (fun k_ => (P_ k_ ∨ w.heap.size ≤ k_) ∧ k_ ≠ g1)) HF0_7.out (fun k_ hk_ => hk_))⟩, ⟨(Kd.F_mono (ok := (fun k_ => (P_ k_ ∨ w.heap.size ≤ k_) ∧ k_ ≠ g1)) HF63_1.out (fun k_ hk_ => hk_))⟩, ⟨BKg1.out⟩, ⟨HB.out⟩⟩
    case round =>
     clear jG jH jI jJ jK jL jM jN jO jP jQ jR jS jT jU jV hx63_0 hx63_1 p63 q63
     clear hk59
     clear hk60
     clear hk62
     clear hk67
     clear hk68
     clear hk72
     clear hk73
     clear HH
     clear HF0_7 HF63_1 BKg1 HB
     obtain ⟨x74, rfl, HA, HK1, HF0_7, HF63_1, BKg1, HB⟩ := hrel
     obtain ⟨w76, rfl⟩ : ∃ wo_ : World, wo_ = wr := ⟨_, rfl⟩
     cases gk with
     | zero => exact absurd HA.out (by simp [toponymlaw27_few.l1])
     | succ k75 =>
      have H := HA.out
      clear HA
      simp only [toponymlaw27_few.l1] at H
      have HH := Aside0.mk H
      clear H
      obtain ⟨j1f, j1g, j1h, j1i, j1j, j1k, j1l, j1m, j1n, j1o, j1p, j1q, j1r, j1s, j1t, j1u⟩ := MB.lay8 BKg1.out
      replace HH := zqdo HH
      obtain ⟨HH, hk94⟩ := HH
      replace HH := zqto HH
      obtain ⟨HH, hk96, hk97⟩ := HH
      have p98 : 0 ≤ (x39 : Int) := of_decide_eq_true (by first | (with_reducible assumption) | assumption)
      have q98 : x39 < (l0_7.length : Int) := of_decide_eq_true (by first | (with_reducible assumption) | assumption)
      obtain ⟨ad98, A98_1, c98_1, e98, hx98_0, hx98_1, hl98_1, hi98_1⟩ := atF_T46 HF0_7.out x39 p98 q98
      cases e98
      have HF98_1 := Aside0.mk hi98_1
      clear hi98_1 hl98_1
      replace p98 := eq_true p98
      replace q98 := eq_true q98
      replace HH := zqt HH
      rcases HH with ⟨HH, hk100, hk101⟩ | ⟨HH, hk111, hk112⟩
      ·replace HH := zqdo HH
       obtain ⟨HH, hk103⟩ := HH
       have p104 : 0 ≤ (x74 : Int) := of_decide_eq_true (by first | (with_reducible assumption) | assumption)
       have q104 : x74 < (((rd_T46 l0_7 x39).f1).length : Int) := of_decide_eq_true (by first | (with_reducible assumption) | assumption)
       obtain ⟨ad104, e104, hx104_0⟩ := Kd.at_string (Kd.F_now HF98_1.out) x74 p104 q104
       cases e104
       replace p104 := eq_true p104
       replace q104 := eq_true q104
       replace HH := zqK 2000 HH
       rcases HH with ⟨HH, hk106, hk107⟩ | ⟨HH, hk108, hk109⟩
       ·have H := HH.out
        obtain rfl := Option.some.inj H
        clear HH
        go_wp2
        go_ret
        exact ⟨by first | rfl | (simp; done) | (simp [*]; done), HB.out⟩
       go_wp2
       go_roundg k75
       case measure => have := HK0.out; have := HK1.out; omega
       case rel => exact ⟨wrap64 (x74 + 1), (by first | rfl | (simp; done) | (simp [*]; done)), HH, ⟨by have := HK0.out; have := HK1.out; omega⟩, ⟨(Kd.F_mono (ok := (fun k_ => (P_ k_ ∨ w.heap.size ≤ k_) ∧ k_ ≠ g1)) HF0_7.out (fun k_ hk_ => hk_))⟩, ⟨(Kd.F_mono (ok := (fun k_ => (P_ k_ ∨ w.heap.size ≤ k_) ∧ k_ ≠ g1)) HF63_1.out (fun k_ hk_ => hk_))⟩, ⟨BKg1.out⟩, ⟨HB.out⟩⟩
      go_wp2
      go_roundg k75
      case measure => have := HK0.out; have := HK1.out; omega
      case rel => exact ⟨wrap64 (x39 + 1), (by first | rfl | (simp; done) | (simp [*]; done)), HH, ⟨by have := HK0.out; have := HK1.out; omega⟩, ⟨(Kd.F_mono (ok := (fun k_ => (P_ k_ ∨ w.heap.size ≤ k_) ∧ k_ ≠ g1)) HF0_7.out (fun k_ hk_ => hk_))⟩, ⟨BKg1.out⟩, ⟨HB.out⟩⟩
   have H := HH.out
   obtain rfl := Option.some.inj H
   clear HH
   go_wp2
   go_ret
   exact ⟨by first | rfl | (simp; done) | (simp [*]; done), HB.out⟩
end Go.Proofs.Ytdjkemhmhkpmkaa.GA
