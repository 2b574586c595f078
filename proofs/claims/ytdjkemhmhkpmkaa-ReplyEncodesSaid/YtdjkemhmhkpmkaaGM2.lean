import Derived.Test.YtdjkemhmhkpmkaaGA0
import Derived.Test.YtdjkemhmhkpmkaaGAB
import Derived.Test.YtdjkemhmhkpmkaaGAF63
import Derived.Test.YtdjkemhmhkpmkaaGAF68
import Derived.Test.YtdjkemhmhkpmkaaGM1
import Derived.Test.YtdjkemhmhkpmkaaMX
namespace Go.Proofs.Ytdjkemhmhkpmkaa.GA
open Go.RowKit Go.Proofs.Ytdjkemhmhkpmkaa Go.Proofs.Ytdjkemhmhkpmkaa.MW Go.Proofs.YtdjkemhmhkpmkaaW.PrintWords Go.Proofs.YtdjkemhmhkpmkaaW.PrintLast Go.Proofs.YtdjkemhmhkpmkaaW.PrintMore
attribute [local go_sem] max2_int min2_int max_two min_two
set_option maxHeartbeats 8000000
set_option maxRecDepth 100000
set_option linter.unusedVariables false
set_option linter.unusedSimpArgs false
def ber_one.f (k : Nat) (a0_0 : Int) (a0_1 : Bool) (a0_2 : Int) (a0_3 : ByteArray) (l0_4 : List (S57)) : Option (ByteArray × Bool) := (ber_sheaf_lay.f k ([] : List Int) false a0_0 a0_1 a0_2 a0_3 l0_4).bind fun bt18 => (some (strOfNums bt18.1, !bt18.2))
theorem ber_one.mono : ∀ a0_ a1_ a2_ a3_ a4_ k, LeO (ber_one.f k a0_ a1_ a2_ a3_ a4_) (ber_one.f (k + 1) a0_ a1_ a2_ a3_ a4_) := by
 intro a0_ a1_ a2_ a3_ a4_ k
 unfold ber_one.f
 with_reducible repeat' first | exact ber_sheaf_lay.mono _ _ _ _ _ _ _ _ | exact LeO.refl _ | exact LeO.none _ | refine LeO.ite ?_ ?_ | refine LeO.bind ?_ (fun _ => ?_)
theorem ber_one.calls (k : Nat) (P_ : Nat → Prop) (a0_0 : Int) (a0_1 : Bool) (a0_2 : Int) (a0_3 : ByteArray) (A0_4 : Option Addr) (c0_4 : Nat) (l0_4 : List (S57)) (r1 : ByteArray) (r2 : Bool) (w : World) (hs0_4 : Kd.F k57 w P_ A0_4 l0_4.length l0_4) (hc0_4 : l0_4.length ≤ c0_4) (h : ber_one.f k a0_0 a0_1 a0_2 a0_3 l0_4 = some (r1, r2)) :
  Calls Try.prog 88 #[.agg #[.int .i64 a0_0, .bool a0_1, .int .i64 a0_2, .string a0_3, .slice A0_4 l0_4.length c0_4]] w (fun e w' => e = .returned (.tuple #[.string r1, .bool r2]) ∧ Below w.heap.size w w') := by
 unfold ber_one.f at h
 have HH := za h
 clear h
 have HF0_4 := zfp hs0_4
 have HL0_4 := za hc0_4
 clear hs0_4 hc0_4
 have HB := za (Below.refl w.heap.size w)
 have hu57 := Try.underlying57
 have hu99 := Try.underlying99
 go_enter Try.func88, Try.ntmps88
 go_wp2_with ((with_reducible refine gd 1 rfl ?_); refine zb 1 57 #[.int .i64 a0_0, .bool a0_1, .int .i64 a0_2, .string a0_3, .slice A0_4 l0_4.length c0_4] (h := ?_); intro g1 hg w2 BKg1 hb)
 refine zg ?_
 replace HF0_4 := zfe HF0_4.out hg hb
 replace HB := zhb HB.out hb
 clear hg hb
 obtain ⟨j3, j4, j5, j6, j7⟩ := MB.lz5 BKg1.out
 go_wp2_with ((with_reducible refine gd 4 rfl ?_); refine zb 4 99 #[.pointer none, .slice none 0 0, .bool false] (h := ?_); intro g8 hg w9 BKg8 hb)
 refine zg ?_
 have GEg8 := zge hg (below_size HB.out)
 have NEg1_g8 := znq hg BKg1.out
 replace HF0_4 := zfe HF0_4.out hg hb
 replace BKg1 := zbb BKg1.out hb
 replace HB := zhb HB.out hb
 clear hg hb
 clear j3 j4 j5 j6 j7
 obtain ⟨ja, jb, jc, jd, je⟩ := MB.lz5 BKg1.out
 obtain ⟨jf, jg, jh⟩ := MB.lz3 BKg8.out
 replace HH := zd HH
 obtain ⟨⟨t18, t19⟩, At20, HH⟩ := HH
 dsimp only at HH
 go_wp2_with (((with_reducible refine gc 63 rfl ?_); refine zc 63 (some 6) Try.func63 #[.pointer (some ⟨g8, 0, none⟩), .agg #[.int .i64 a0_0, .bool a0_1, .int .i64 a0_2, .string a0_3, .slice A0_4 l0_4.length c0_4]] (h := ?_); refine (ber_sheaf_lay.calls k (fun k_ => ((P_ k_ ∨ w.heap.size ≤ k_) ∧ k_ ≠ g1) ∧ k_ ≠ g8) w.heap.size g8 (.pointer none) (.slice none 0 0) ([] : List Int) false a0_0 a0_1 a0_2 a0_3 _ _ l0_4 t18 t19 _ (below_size HB.out) (fun k_ hk_ => hk_.2) (fun k_ hk_ => (by simp [Value.ownBlock])) BKg8.out GEg8.out (.inl rfl) (Kd.N_nil _ _ _ _ _) (Kd.F_mono (ok := (fun k_ => ((P_ k_ ∨ w.heap.size ≤ k_) ∧ k_ ≠ g1) ∧ k_ ≠ g8)) HF0_4.out (fun k_ hk_ => hk_)) HL0_4.out At20.out).mono ?_; rintro e w21 ⟨v22, p23, rfl, hn1, hp1, hbk, hfr, hb⟩; refine ⟨_, rfl, ?_⟩); replace hbk := za hbk; replace hfr := za hfr; replace hp1 := za hp1)
 refine zg ?_
 replace hbk := hbk.out
 replace hfr := hfr.out
 replace hp1 := hp1.out
 have hat1 : ∀ k_ : Nat, (v22 : Value).ownBlock = some k_ → some k_ = (.slice none 0 0 : Value).ownBlock ∨ w9.heap.size ≤ k_ := fun k_ h_ => (hn1.1 k_ h_).1.2
 have HN24 := za (Kd.N_mono hn1 (fun k_ hk_ => hk_.1.2.elim (fun h_ => absurd h_ (by simp [Value.ownBlock])) (fun h_ => ⟨⟨.inr (Nat.le_trans (below_size HB.out) h_), Kd.freshB (g := g1) BKg1.out k_ h_⟩, Kd.freshB (g := g8) BKg8.out k_ h_⟩)) : Kd.N (Kd.int .u8) 5 w21 w.heap.size (fun k_ => ((P_ k_ ∨ w.heap.size ≤ k_) ∧ k_ ≠ g1) ∧ k_ ≠ g8) v22 t18)
 replace BKg1 := za (MB.blk_ptr BKg1.out hfr NEg1_g8.out (by simp [Value.ownBlock]))
 replace HB := za (Below.trans HB.out hb)
 replace BKg8 := za hbk
 have HPp23 := za hp1
 clear hbk hfr hb hp1 hn1 hat1
 clear ja jb jc jd je jf jg jh
 obtain ⟨jp, jq, jr, js, jt⟩ := MB.lz5 BKg1.out
 obtain ⟨ju, jv, jw⟩ := MB.lz3 BKg8.out
 go_wp2
 have hwr_ : ∀ n_ : Int, IntKind.i64.wrap n_ = wrap64 n_ := fun n_ => IntWalk.i64_left n_
 refine wp_region_any (by kernel_rfl) ?_
 change wpAny _ _ _ _ 7 #[false, false, false, false, false, false, false] _ w21.drew
 obtain ⟨w33, hw_⟩ : ∃ w_ : World, w_ = w21.drew := ⟨_, rfl⟩
 rw [← hw_]
 have hb : Below w21.heap.size w21 w33 := by rw [hw_]; exact below_drew1 (Below.refl _ _)
 clear hw_
 replace HN24 := znb HN24.out hb
 replace BKg1 := zbb BKg1.out hb
 replace BKg8 := zbb BKg8.out hb
 replace HB := zhb HB.out hb
 clear hb
 clear jp jq jr js jt ju jv jw
 obtain ⟨jy, jz, jA, jB, jC⟩ := MB.lz5 BKg1.out
 obtain ⟨jD, jE, jF⟩ := MB.lz3 BKg8.out
 refine zt 0 (.pointer (some ⟨g8, 0, none⟩)) #[_, _, _, _, _, _, _] ⟨[_, _, _, _, _, _, _, _, _, _, _, _].toArray, []⟩ (h := ?_)
 refine zt 2 (.pointer (some ⟨g8, 2, none⟩)) #[_, _, _, _, _, _, _] ⟨[_, _, _, _, _, _, _, _, _, _, _, _].toArray, []⟩ (h := ?_)
 refine MW.any_fork (i := 1) (j := 3) (vj := .bool t19) (Li := #[true, true, true, false, false, false, false]) (Lj := #[true, false, true, true, false, false, false]) (aj := ⟨[(.agg #[.int .i64 a0_0, .bool a0_1, .int .i64 a0_2, .string a0_3, .slice A0_4 l0_4.length c0_4]), (.pointer (some ⟨g1, 0, none⟩)), (.string (⟨#[]⟩ : ByteArray)), (.bool false), (.pointer (some ⟨g8, 0, none⟩)), (.agg #[.int .i64 a0_0, .bool a0_1, .int .i64 a0_2, .string a0_3, .slice A0_4 l0_4.length c0_4]), (.tuple #[]), (.pointer (some ⟨g8, 0, none⟩)), undef, (.pointer (some ⟨g8, 2, none⟩)), (.bool t19), undef].toArray, []⟩) rfl rfl (by first | (left; kernel_rfl) | (right; kernel_rfl)) (by kernel_rfl) (by first | rfl | (go_simp; done) | (go_simp; rfl)) (by kernel_rfl) (by kernel_rfl) (by kernel_rfl) ?fa42 ?fb43
 case fa42 =>
  obtain ⟨A44, cp45, he_⟩ := Kd.N_slice HN24.out
  subst he_
  go_wp2_with (((with_reducible refine gc 64 rfl ?_); refine zc 64 (some 8) Try.func64 #[.pointer (some ⟨g8, 0, none⟩)] (h := ?_); refine (bString64 g8 99 (p23) ((.slice A44 t18.length cp45)) [.bool t19] w.heap.size (fun k_ => ((P_ k_ ∨ w.heap.size ≤ k_) ∧ k_ ≠ g1) ∧ k_ ≠ g8) t18 _ BKg8.out HN24.out).mono ?_; rintro e w46 ⟨rfl, hg⟩; refine ⟨_, rfl, ?_⟩))
  refine zg ?_
  replace BKg1 := za (blk_grown (g := g1) BKg1.out hg (Kd.N_away (ok := (fun k_ => ((P_ k_ ∨ w.heap.size ≤ k_) ∧ k_ ≠ g1) ∧ k_ ≠ g8)) HN24.out (fun k_ hk_ => hk_.1.2)))
  replace BKg8 := za (blk_grown (g := g8) BKg8.out hg (Kd.N_away (ok := (fun k_ => ((P_ k_ ∨ w.heap.size ≤ k_) ∧ k_ ≠ g1) ∧ k_ ≠ g8)) HN24.out (fun k_ hk_ => hk_.2)))
  replace HB := za (Below.grown HB.out hg (below_size HB.out) (Kd.N_base HN24.out))
  clear hg HN24
  clear jy jz jA jB jC jD jE jF
  obtain ⟨jL, jM, jN, jO, jP⟩ := MB.lz5 BKg1.out
  obtain ⟨jQ, jR, jS⟩ := MB.lz3 BKg8.out
  refine wpList_nil ?_
  change wpAny _ _ _ _ 4 #[true, true, true, false, false, false, false] ⟨[(.agg #[.int .i64 a0_0, .bool a0_1, .int .i64 a0_2, .string a0_3, .slice A0_4 l0_4.length c0_4]), (.pointer (some ⟨g1, 0, none⟩)), (.string (⟨#[]⟩ : ByteArray)), (.bool false), (.pointer (some ⟨g8, 0, none⟩)), (.agg #[.int .i64 a0_0, .bool a0_1, .int .i64 a0_2, .string a0_3, .slice A0_4 l0_4.length c0_4]), (.tuple #[]), (.pointer (some ⟨g8, 0, none⟩)), (.string (strOfNums t18)), (.pointer (some ⟨g8, 2, none⟩)), undef, undef].toArray, []⟩ _
  refine zt 5 (.string (strOfNums t18)) #[_, _, _, _, _, _, _] ⟨[_, _, _, _, _, _, _, _, _, _, _, _].toArray, []⟩ (h := ?_)
  refine MW.any_one (i := 3) (v := .bool t19) (listed' := #[true, true, true, true, false, true, false]) (a' := ⟨[(.agg #[.int .i64 a0_0, .bool a0_1, .int .i64 a0_2, .string a0_3, .slice A0_4 l0_4.length c0_4]), (.pointer (some ⟨g1, 0, none⟩)), (.string (strOfNums t18)), (.bool false), (.pointer (some ⟨g8, 0, none⟩)), (.agg #[.int .i64 a0_0, .bool a0_1, .int .i64 a0_2, .string a0_3, .slice A0_4 l0_4.length c0_4]), (.tuple #[]), (.pointer (some ⟨g8, 0, none⟩)), (.string (strOfNums t18)), (.pointer (some ⟨g8, 2, none⟩)), (.bool t19), undef].toArray, []⟩) rfl (by kernel_rfl) (by kernel_rfl) (by first | rfl | (go_simp; done) | (go_simp; rfl)) (by kernel_rfl) (by kernel_rfl) ?_
  refine zt 4 (.bool (!t19)) #[_, _, _, _, _, _, _] ⟨[_, _, _, _, _, _, _, _, _, _, _, _].toArray, []⟩ (h := ?_)
  refine zt 6 (.bool (!t19)) #[_, _, _, _, _, _, _] ⟨[_, _, _, _, _, _, _, _, _, _, _, _].toArray, []⟩ (h := ?_)
  refine wpAny_done (by kernel_rfl) ?_ _
  clear hwr_
  have H := HH.out
  simp only [Option.some.injEq, Prod.mk.injEq] at H
  obtain ⟨rfl, rfl⟩ := H
  clear HH
  go_wp2
  go_ret2
  exact zfi HB.out
 case fb43 =>
  refine zt 4 (.bool (!t19)) #[_, _, _, _, _, _, _] ⟨[_, _, _, _, _, _, _, _, _, _, _, _].toArray, []⟩ (h := ?_)
  refine MW.any_act (i := 1) (listed' := #[true, true, true, true, true, false, false]) rfl (by kernel_rfl) (by kernel_rfl) ?_
  obtain ⟨A55, cp56, he_⟩ := Kd.N_slice HN24.out
  subst he_
  go_wp2_with (((with_reducible refine gc 64 rfl ?_); refine zc 64 (some 8) Try.func64 #[.pointer (some ⟨g8, 0, none⟩)] (h := ?_); refine (bString64 g8 99 (p23) ((.slice A55 t18.length cp56)) [.bool t19] w.heap.size (fun k_ => ((P_ k_ ∨ w.heap.size ≤ k_) ∧ k_ ≠ g1) ∧ k_ ≠ g8) t18 _ BKg8.out HN24.out).mono ?_; rintro e w57 ⟨rfl, hg⟩; refine ⟨_, rfl, ?_⟩))
  refine zg ?_
  replace BKg1 := za (blk_grown (g := g1) BKg1.out hg (Kd.N_away (ok := (fun k_ => ((P_ k_ ∨ w.heap.size ≤ k_) ∧ k_ ≠ g1) ∧ k_ ≠ g8)) HN24.out (fun k_ hk_ => hk_.1.2)))
  replace BKg8 := za (blk_grown (g := g8) BKg8.out hg (Kd.N_away (ok := (fun k_ => ((P_ k_ ∨ w.heap.size ≤ k_) ∧ k_ ≠ g1) ∧ k_ ≠ g8)) HN24.out (fun k_ hk_ => hk_.2)))
  replace HB := za (Below.grown HB.out hg (below_size HB.out) (Kd.N_base HN24.out))
  clear hg HN24
  clear jy jz jA jB jC jD jE jF
  obtain ⟨jW, jX, jY, jZ, j10⟩ := MB.lz5 BKg1.out
  obtain ⟨j11, j12, j13⟩ := MB.lz3 BKg8.out
  refine wpList_nil ?_
  change wpAny _ _ _ _ 2 #[true, true, true, true, true, false, false] ⟨[(.agg #[.int .i64 a0_0, .bool a0_1, .int .i64 a0_2, .string a0_3, .slice A0_4 l0_4.length c0_4]), (.pointer (some ⟨g1, 0, none⟩)), (.string (⟨#[]⟩ : ByteArray)), (.bool false), (.pointer (some ⟨g8, 0, none⟩)), (.agg #[.int .i64 a0_0, .bool a0_1, .int .i64 a0_2, .string a0_3, .slice A0_4 l0_4.length c0_4]), (.tuple #[]), (.pointer (some ⟨g8, 0, none⟩)), (.string (strOfNums t18)), (.pointer (some ⟨g8, 2, none⟩)), (.bool t19), (.bool (!t19))].toArray, []⟩ _
  refine zt 5 (.string (strOfNums t18)) #[_, _, _, _, _, _, _] ⟨[_, _, _, _, _, _, _, _, _, _, _, _].toArray, []⟩ (h := ?_)
  refine zt 6 (.bool (!t19)) #[_, _, _, _, _, _, _] ⟨[_, _, _, _, _, _, _, _, _, _, _, _].toArray, []⟩ (h := ?_)
  refine wpAny_done (by kernel_rfl) ?_ _
  clear hwr_
  have H := HH.out
  simp only [Option.some.injEq, Prod.mk.injEq] at H
  obtain ⟨rfl, rfl⟩ := H
  clear HH
  go_wp2
  go_ret2
  exact zfi HB.out

def ber_Check.f (k : Nat) (a0_0 : Int) (a0_1 : Bool) (a0_2 : Int) (a0_3 : ByteArray) (l0_4 : List (S57)) : Option (Int) := (ber_Deep.f k a0_0 a0_1 a0_2 a0_3 l0_4).bind fun t8 => (if t8 > 12 then (some 153) else ((ber_sane.f k a0_0 a0_1 a0_2 a0_3 l0_4).bind fun t19 => (if t19 = true then ((ber_one.f k a0_0 a0_1 a0_2 a0_3 l0_4).bind fun bt28 => (if bt28.2 = true then (some 0) else (some 3))) else (some 2))))
theorem ber_Check.mono : ∀ a0_ a1_ a2_ a3_ a4_ k, LeO (ber_Check.f k a0_ a1_ a2_ a3_ a4_) (ber_Check.f (k + 1) a0_ a1_ a2_ a3_ a4_) := by
 intro a0_ a1_ a2_ a3_ a4_ k
 unfold ber_Check.f
 with_reducible repeat' first | exact ber_Deep.mono _ _ _ _ _ _ | exact ber_one.mono _ _ _ _ _ _ | exact ber_sane.mono _ _ _ _ _ _ | exact LeO.refl _ | exact LeO.none _ | refine LeO.ite ?_ ?_ | refine LeO.bind ?_ (fun _ => ?_)
theorem ber_Check.calls (k : Nat) (P_ : Nat → Prop) (a0_0 : Int) (a0_1 : Bool) (a0_2 : Int) (a0_3 : ByteArray) (A0_4 : Option Addr) (c0_4 : Nat) (l0_4 : List (S57)) (r : Int) (w : World) (hs0_4 : Kd.F k57 w P_ A0_4 l0_4.length l0_4) (hc0_4 : l0_4.length ≤ c0_4) (h : ber_Check.f k a0_0 a0_1 a0_2 a0_3 l0_4 = some r) :
  Calls Try.prog 62 #[.agg #[.int .i64 a0_0, .bool a0_1, .int .i64 a0_2, .string a0_3, .slice A0_4 l0_4.length c0_4]] w (fun e w' => e = .returned (.int .i64 r) ∧ Below w.heap.size w w') := by
 unfold ber_Check.f at h
 have HH := za h
 clear h
 have HF0_4 := zfp hs0_4
 have HL0_4 := za hc0_4
 clear hs0_4 hc0_4
 have HB := za (Below.refl w.heap.size w)
 have hu57 := Try.underlying57
 go_enter Try.func62, Try.ntmps62
 go_wp2_with ((with_reducible refine gd 1 rfl ?_); refine zb 1 57 #[.int .i64 a0_0, .bool a0_1, .int .i64 a0_2, .string a0_3, .slice A0_4 l0_4.length c0_4] (h := ?_); intro g1 hg w2 BKg1 hb)
 refine zg ?_
 replace HF0_4 := zfe HF0_4.out hg hb
 replace HB := zhb HB.out hb
 clear hg hb
 obtain ⟨j3, j4, j5, j6, j7⟩ := MB.lz5 BKg1.out
 replace HH := zd HH
 obtain ⟨t8, At9, HH⟩ := HH
 go_wp2_with ((with_reducible refine gc 86 rfl ?_); refine zc 86 (some 7) Try.func86 #[.agg #[.int .i64 a0_0, .bool a0_1, .int .i64 a0_2, .string a0_3, .slice A0_4 l0_4.length c0_4]] (h := ?_); (with_reducible refine (ber_Deep.calls k (fun k_ => (P_ k_ ∨ w.heap.size ≤ k_) ∧ k_ ≠ g1) a0_0 a0_1 a0_2 a0_3 _ _ l0_4 t8 _ (Kd.F_mono (ok := (fun k_ => (P_ k_ ∨ w.heap.size ≤ k_) ∧ k_ ≠ g1)) HF0_4.out (fun k_ hk_ => hk_)) HL0_4.out At9.out).mono ?_); rintro e w10 ⟨rfl, hb⟩; refine ⟨_, rfl, ?_⟩)
 refine zg ?_
 replace HF0_4 := zfb HF0_4.out hb
 replace BKg1 := zbb BKg1.out hb
 replace HB := zhb HB.out hb
 clear hb
 clear j3 j4 j5 j6 j7
 obtain ⟨jb, jc, jd, je, jf⟩ := MB.lz5 BKg1.out
 replace HH := zqg HH
 rcases HH with ⟨HH, hk17⟩ | ⟨HH, hk18⟩
 ·obtain rfl := Option.some.inj HH.out
  clear HH
  go_wp2
  go_ret
  exact zfi HB.out
 replace HH := zd HH
 obtain ⟨t19, At20, HH⟩ := HH
 go_wp2_with ((with_reducible refine gc 87 rfl ?_); refine zc 87 (some 11) Try.func87 #[.agg #[.int .i64 a0_0, .bool a0_1, .int .i64 a0_2, .string a0_3, .slice A0_4 l0_4.length c0_4]] (h := ?_); (with_reducible refine (ber_sane.calls k (fun k_ => (P_ k_ ∨ w.heap.size ≤ k_) ∧ k_ ≠ g1) a0_0 a0_1 a0_2 a0_3 _ _ l0_4 t19 _ (Kd.F_mono (ok := (fun k_ => (P_ k_ ∨ w.heap.size ≤ k_) ∧ k_ ≠ g1)) HF0_4.out (fun k_ hk_ => hk_)) HL0_4.out At20.out).mono ?_); rintro e w21 ⟨rfl, hb⟩; refine ⟨_, rfl, ?_⟩)
 refine zg ?_
 replace HF0_4 := zfb HF0_4.out hb
 replace BKg1 := zbb BKg1.out hb
 replace HB := zhb HB.out hb
 clear hb
 clear jb jc jd je jf
 obtain ⟨jm, jn, jo, jp, jq⟩ := MB.lz5 BKg1.out
 by_cases c27 : t19 = true
 ·replace HH := MW.hpos HH c27
  subst c27
  replace HH := zd HH
  obtain ⟨⟨t28, t29⟩, At30, HH⟩ := HH
  dsimp only at HH
  go_wp2_with ((with_reducible refine gc 88 rfl ?_); refine zc 88 (some 15) Try.func88 #[.agg #[.int .i64 a0_0, .bool a0_1, .int .i64 a0_2, .string a0_3, .slice A0_4 l0_4.length c0_4]] (h := ?_); (with_reducible refine (ber_one.calls k (fun k_ => (P_ k_ ∨ w.heap.size ≤ k_) ∧ k_ ≠ g1) a0_0 a0_1 a0_2 a0_3 _ _ l0_4 t28 t29 _ (Kd.F_mono (ok := (fun k_ => (P_ k_ ∨ w.heap.size ≤ k_) ∧ k_ ≠ g1)) HF0_4.out (fun k_ hk_ => hk_)) HL0_4.out At30.out).mono ?_); rintro e w31 ⟨rfl, hb⟩; refine ⟨_, rfl, ?_⟩)
  refine zg ?_
  replace BKg1 := zbb BKg1.out hb
  replace HB := zhb HB.out hb
  clear hb
  clear jm jn jo jp jq
  obtain ⟨jw, jx, jy, jz, jA⟩ := MB.lz5 BKg1.out
  by_cases c37 : t29 = true
  ·replace HH := MW.hpos HH c37
   subst c37
   obtain rfl := Option.some.inj HH.out
   clear HH
   go_wp2
   go_ret
   exact zfi HB.out
  replace HH := MW.hneg HH c37
  replace c37 := Bool.eq_false_iff.mpr c37
  subst c37
  obtain rfl := Option.some.inj HH.out
  clear HH
  go_wp2
  go_ret
  exact zfi HB.out
 replace HH := MW.hneg HH c27
 replace c27 := Bool.eq_false_iff.mpr c27
 subst c27
 obtain rfl := Option.some.inj HH.out
 clear HH
 go_wp2
 go_ret
 exact zfi HB.out

mutual
def ber_Encode.l0 : Nat → Int → (List (S57)) → Option (ByteArray × Int)
 | 0, _, _ => none
 | k + 1, x1, l0 => if x1 < (l0.length : Int) then (if 0 ≤ x1 then ((ber_Check.f k ((rd_T57 l0 x1).f0) ((rd_T57 l0 x1).f1) ((rd_T57 l0 x1).f2) ((rd_T57 l0 x1).f3) ((rd_T57 l0 x1).f4)).bind fun t23 => (if t23 = 0 then ((ber_Encode.l0 k (wrap64 (x1 + 1)) l0)) else (some ((⟨#[]⟩ : ByteArray), t23)))) else (none)) else ((ber_Encode.l1 k 0 ([] : List Int) false l0))
def ber_Encode.l1 : Nat → Int → (List Int) → Bool → (List (S57)) → Option (ByteArray × Int)
 | 0, _, _, _, _ => none
 | k + 1, x46, x47, x49, l0 => if x46 < (l0.length : Int) then (if 0 ≤ x46 then ((ber_sheaf_lay.f k x47 x49 ((rd_T57 l0 x46).f0) ((rd_T57 l0 x46).f1) ((rd_T57 l0 x46).f2) ((rd_T57 l0 x46).f3) ((rd_T57 l0 x46).f4)).bind fun bt82 => ((ber_Encode.l1 k (wrap64 (x46 + 1)) bt82.1 bt82.2 l0))) else (none)) else (if x49 = true then (some ((⟨#[]⟩ : ByteArray), 3)) else (some (strOfNums x47, 0)))
end
def ber_Encode.f (k : Nat) (l0 : List (S57)) : Option (ByteArray × Int) := (ber_Encode.l0 k 0 l0)
theorem ber_Encode.mono_l : ∀ k, (∀ y0 y1, LeO (ber_Encode.l0 k y0 y1) (ber_Encode.l0 (k + 1) y0 y1)) ∧ (∀ y0 y1 y2 y3, LeO (ber_Encode.l1 k y0 y1 y2 y3) (ber_Encode.l1 (k + 1) y0 y1 y2 y3))
 | 0 => ⟨fun _ _ r h => by simp [ber_Encode.l0] at h, fun _ _ _ _ r h => by simp [ber_Encode.l1] at h⟩
 | k + 1 => by
  obtain ⟨ih0, ih1⟩ := ber_Encode.mono_l k
  refine ⟨?_, ?_⟩
  ·intro y0 y1
   unfold ber_Encode.l0
   with_reducible repeat' first | exact ih0 _ _ | exact ih1 _ _ _ _ | exact ber_Check.mono _ _ _ _ _ _ | exact ber_sheaf_lay.mono _ _ _ _ _ _ _ _ | exact LeO.refl _ | exact LeO.none _ | refine LeO.ite ?_ ?_ | refine LeO.bind ?_ (fun _ => ?_)
  intro y0 y1 y2 y3
  unfold ber_Encode.l1
  with_reducible repeat' first | exact ih0 _ _ | exact ih1 _ _ _ _ | exact ber_Check.mono _ _ _ _ _ _ | exact ber_sheaf_lay.mono _ _ _ _ _ _ _ _ | exact LeO.refl _ | exact LeO.none _ | refine LeO.ite ?_ ?_ | refine LeO.bind ?_ (fun _ => ?_)
theorem ber_Encode.mono : ∀ a0_ k, LeO (ber_Encode.f k a0_) (ber_Encode.f (k + 1) a0_) := by
 intro a0_ k
 obtain ⟨ih0, ih1⟩ := ber_Encode.mono_l k
 unfold ber_Encode.f
 with_reducible repeat' first | exact ih0 _ _ | exact ih1 _ _ _ _ | exact ber_Check.mono _ _ _ _ _ _ | exact ber_sheaf_lay.mono _ _ _ _ _ _ _ _ | exact LeO.refl _ | exact LeO.none _ | refine LeO.ite ?_ ?_ | refine LeO.bind ?_ (fun _ => ?_)
theorem ber_Encode.calls (k : Nat) (P_ : Nat → Prop) (A0 : Option Addr) (c0 : Nat) (l0 : List (S57)) (r1 : ByteArray) (r2 : Int) (w : World) (hs0 : Kd.F k57 w P_ A0 l0.length l0) (hc0 : l0.length ≤ c0) (h : ber_Encode.f k l0 = some (r1, r2)) :
  Calls Try.prog 44 #[.slice A0 l0.length c0] w (fun e w' => e = .returned (.tuple #[.string r1, .int .i64 r2]) ∧ Below w.heap.size w w') := by
 unfold ber_Encode.f at h
 have HH := za h
 clear h
 have HF0 := zfp hs0
 clear hs0 hc0
 have HB := za (Below.refl w.heap.size w)
 have hu57 := Try.underlying57
 have hu99 := Try.underlying99
 go_enter Try.func44, Try.ntmps44
 go_wp2
 go_loopg [12] k (fun kq u12 w' => ∃ (x1 : Int), u12 = .int .i64 x1 ∧ Aside0 ((ber_Encode.l0 kq x1 l0) = some (r1, r2)) ∧ Aside0 (kq ≤ k) ∧ Aside0 (Kd.F k57 w' (fun k_ => (P_ k_ ∨ w.heap.size ≤ k_)) A0 l0.length l0) ∧ Aside0 (Below w.heap.size w w'))
 case atStart => exact ⟨0, (by first | rfl | (simp; done) | (simp [*]; done)), HH, ⟨Nat.le_refl _⟩, ⟨(Kd.F_mono (ok := (fun k_ => (P_ k_ ∨ w.heap.size ≤ k_))) HF0.out (fun k_ hk_ => hk_))⟩, ⟨HB.out⟩⟩
 case round =>
  clear HH
  clear HF0 HB
  obtain ⟨x1, rfl, HA, HK0, HF0, HB⟩ := hrel
  obtain ⟨w3, rfl⟩ : ∃ wo_ : World, wo_ = wr := ⟨_, rfl⟩
  cases gk with
  | zero => exact absurd HA.out (by simp [ber_Encode.l0])
  | succ k2 =>
   have H := HA.out
   clear HA
   simp only [ber_Encode.l0] at H
   have HH := za H
   clear H
   replace HH := zqt HH
   rcases HH with ⟨HH, hk5, hk6⟩ | ⟨HH, hk37, hk38⟩
   ·replace HH := zqdo HH
    obtain ⟨HH, hk8⟩ := HH
    have p9 : 0 ≤ (x1 : Int) := of_decide_eq_true (by first | (with_reducible assumption) | assumption)
    have q9 : x1 < (l0.length : Int) := of_decide_eq_true (by first | (with_reducible assumption) | assumption)
    obtain ⟨ad9, A9_4, c9_4, e9, hx9_0, hx9_1, hx9_2, hx9_3, hx9_4, hl9_4, hi9_4⟩ := atF_T57 HF0.out x1 p9 q9
    cases e9
    have HF9_4 := za hi9_4
    have HL9_4 := za hl9_4
    clear hi9_4 hl9_4
    replace p9 := eq_true p9
    replace q9 := eq_true q9
    go_wp2_with ((with_reducible refine gd 5 rfl ?_); refine zb 5 57 #[.int .i64 0, .bool false, .int .i64 0, .string (⟨#[]⟩ : ByteArray), .slice none 0 0] (h := ?_); intro g10 hg w11 BKg10 hb)
    refine zg ?_
    have GEg10 := zge hg (below_size HB.out)
    replace HF0 := zfe HF0.out hg hb
    replace HF9_4 := zfe HF9_4.out hg hb
    replace HB := zhb HB.out hb
    clear hg hb
    clear hx9_0 hx9_1 hx9_2 hx9_3 hx9_4 p9 q9
    obtain ⟨jc, jd, je, jf, jg⟩ := MB.lz5 BKg10.out
    go_wp2_with ((with_reducible refine gs 57 5 rfl ?_); refine zs 57 5 #[.int .i64 ((rd_T57 l0 x1).f0), .bool ((rd_T57 l0 x1).f1), .int .i64 ((rd_T57 l0 x1).f2), .string ((rd_T57 l0 x1).f3), .slice A9_4 ((rd_T57 l0 x1).f4).length c9_4] BKg10.out [.int .i64 ((rd_T57 l0 x1).f0), .bool ((rd_T57 l0 x1).f1), .int .i64 ((rd_T57 l0 x1).f2), .string ((rd_T57 l0 x1).f3), .slice A9_4 ((rd_T57 l0 x1).f4).length c9_4] (h := ?_); intro w17 hbk hg)
    refine zg ?_
    replace HF0 := zfg HF0.out hg fun k_ hk_ => hk_.2
    replace HF9_4 := zfg HF9_4.out hg fun k_ hk_ => hk_.2
    replace HB := zhg HB.out hg (below_size HB.out) GEg10
    replace BKg10 := hbk
    clear hg hbk
    clear jc jd je jf jg
    obtain ⟨ji, jj, jk, jl, jm⟩ := MB.lz5 BKg10.out
    replace HH := zd HH
    obtain ⟨t23, At24, HH⟩ := HH
    go_wp2_with ((with_reducible refine gc 62 rfl ?_); refine zc 62 (some 17) Try.func62 #[.agg #[.int .i64 ((rd_T57 l0 x1).f0), .bool ((rd_T57 l0 x1).f1), .int .i64 ((rd_T57 l0 x1).f2), .string ((rd_T57 l0 x1).f3), .slice A9_4 ((rd_T57 l0 x1).f4).length c9_4]] (h := ?_); (with_reducible refine (ber_Check.calls k2 (fun k_ => (P_ k_ ∨ w.heap.size ≤ k_) ∧ k_ ≠ g10) ((rd_T57 l0 x1).f0) ((rd_T57 l0 x1).f1) ((rd_T57 l0 x1).f2) ((rd_T57 l0 x1).f3) _ _ ((rd_T57 l0 x1).f4) t23 _ (Kd.F_mono (ok := (fun k_ => (P_ k_ ∨ w.heap.size ≤ k_) ∧ k_ ≠ g10)) HF9_4.out (fun k_ hk_ => hk_)) HL9_4.out At24.out).mono ?_); rintro e w25 ⟨rfl, hb⟩; refine ⟨_, rfl, ?_⟩)
    refine zg ?_
    replace HF0 := zfb HF0.out hb
    replace BKg10 := zbb BKg10.out hb
    replace HB := zhb HB.out hb
    clear hb
    clear ji jj jk jl jm
    obtain ⟨jq, jr, js, jt, ju⟩ := MB.lz5 BKg10.out
    replace HH := zqe HH
    rcases HH with ⟨HH, hk32, hk33⟩ | ⟨HH, hk34, hk35⟩
    ·go_wp2
     go_roundg k2
     case measure => have := HK0.out; omega
     case rel => exact ⟨wrap64 (x1 + 1), (by first | rfl | (simp; done) | (simp [*]; done)), HH, ⟨by have := HK0.out; omega⟩, ⟨(Kd.F_mono (ok := (fun k_ => (P_ k_ ∨ w.heap.size ≤ k_) ∧ k_ ≠ g10)) HF0.out (fun k_ hk_ => hk_.1))⟩, ⟨HB.out⟩⟩
    have H := HH.out
    simp only [Option.some.injEq, Prod.mk.injEq] at H
    obtain ⟨rfl, rfl⟩ := H
    clear HH
    go_wp2
    go_ret2
    exact zfi HB.out
   go_wp2_with ((with_reducible refine gd 7 rfl ?_); refine zb 7 99 #[.pointer none, .slice none 0 0, .bool false] (h := ?_); intro g39 hg w40 BKg39 hb)
   refine zg ?_
   have GEg39 := zge hg (below_size HB.out)
   replace HF0 := zfe HF0.out hg hb
   replace HB := zhb HB.out hb
   clear hg hb
   obtain ⟨jF, jG, jH⟩ := MB.lz3 BKg39.out
   go_wp2
   go_loopg [24] k2 (fun kq u24 w' => ∃ (x46 : Int) (x47 : List Int) (x49 : Bool) (v44 : Value) (p45 : Value), u24 = .int .i64 x46 ∧ Aside0 ((ber_Encode.l1 kq x46 x47 x49 l0) = some (r1, r2)) ∧ Aside0 (kq ≤ k2) ∧ Aside0 (Kd.F k57 w' (fun k_ => ((P_ k_ ∨ w.heap.size ≤ k_) ∧ some k_ ≠ (v44 : Value).ownBlock) ∧ k_ ≠ g39) A0 l0.length l0) ∧ Aside0 (Kd.N (Kd.int .u8) 5 w' w.heap.size (fun k_ => (P_ k_ ∨ w.heap.size ≤ k_) ∧ k_ ≠ g39) v44 x47) ∧ Aside0 (p45 = .pointer none ∨ p45 = .pointer (some ⟨g39, 0, none⟩)) ∧ Aside0 (w'.heap[g39]? = some (.cells #[p45, v44, .bool x49] 99 (0, 0))) ∧ Aside0 (Below w.heap.size w w'))
   case atStart => exact ⟨0, ([] : List Int), false, .slice none 0 0, .pointer none, (by first | rfl | (simp; done) | (simp [*]; done)), HH, ⟨Nat.le_refl _⟩, ⟨(Kd.F_mono (ok := (fun k_ => (P_ k_ ∨ w.heap.size ≤ k_) ∧ k_ ≠ g39)) HF0.out (fun k_ hk_ => ⟨⟨hk_.1, (by simp [Value.ownBlock])⟩, hk_.2⟩))⟩, ⟨Kd.N_nil _ _ _ _ _⟩, ⟨(.inl rfl)⟩, ⟨BKg39.out⟩, ⟨HB.out⟩⟩
   case round =>
    clear jF jG jH
    clear hk37
    clear hk38
    clear HH
    clear HF0 BKg39 HB
    obtain ⟨x46, x47, x49, v44, p45, rfl, HA, HK1, HF0, HN48, HPp45, BKg39, HB⟩ := hrel
    obtain ⟨w51, rfl⟩ : ∃ wo_ : World, wo_ = wr := ⟨_, rfl⟩
    cases gk with
    | zero => exact absurd HA.out (by simp [ber_Encode.l1])
    | succ k50 =>
     have H := HA.out
     clear HA
     simp only [ber_Encode.l1] at H
     have HH := za H
     clear H
     obtain ⟨jQ, jR, jS⟩ := MB.lz3 BKg39.out
     replace HH := zqt HH
     rcases HH with ⟨HH, hk56, hk57⟩ | ⟨HH, hk98, hk99⟩
     ·replace HH := zqdo HH
      obtain ⟨HH, hk59⟩ := HH
      have p60 : 0 ≤ (x46 : Int) := of_decide_eq_true (by first | (with_reducible assumption) | assumption)
      have q60 : x46 < (l0.length : Int) := of_decide_eq_true (by first | (with_reducible assumption) | assumption)
      obtain ⟨ad60, A60_4, c60_4, e60, hx60_0, hx60_1, hx60_2, hx60_3, hx60_4, hl60_4, hi60_4⟩ := atF_T57 HF0.out x46 p60 q60
      cases e60
      have HF60_4 := za hi60_4
      have HL60_4 := za hl60_4
      clear hi60_4 hl60_4
      replace p60 := eq_true p60
      replace q60 := eq_true q60
      go_wp2_with ((with_reducible refine gd 9 rfl ?_); refine zb 9 57 #[.int .i64 0, .bool false, .int .i64 0, .string (⟨#[]⟩ : ByteArray), .slice none 0 0] (h := ?_); intro g61 hg w62 BKg61 hb)
      refine zg ?_
      have GEg61 := zge hg (below_size HB.out)
      have NEg39_g61 := znq hg BKg39.out
      have NEg61_g39 := zsy NEg39_g61
      replace HF0 := zfe HF0.out hg hb
      replace HF60_4 := zfe HF60_4.out hg hb
      replace HN48 := zne HN48.out hg hb
      replace BKg39 := zbb BKg39.out hb
      replace HB := zhb HB.out hb
      clear hg hb
      clear jQ jR jS hx60_0 hx60_1 hx60_2 hx60_3 hx60_4 p60 q60
      obtain ⟨j11, j12, j13⟩ := MB.lz3 BKg39.out
      obtain ⟨j14, j15, j16, j17, j18⟩ := MB.lz5 BKg61.out
      go_wp2_with ((with_reducible refine gs 57 9 rfl ?_); refine zs 57 9 #[.int .i64 ((rd_T57 l0 x46).f0), .bool ((rd_T57 l0 x46).f1), .int .i64 ((rd_T57 l0 x46).f2), .string ((rd_T57 l0 x46).f3), .slice A60_4 ((rd_T57 l0 x46).f4).length c60_4] BKg61.out [.int .i64 ((rd_T57 l0 x46).f0), .bool ((rd_T57 l0 x46).f1), .int .i64 ((rd_T57 l0 x46).f2), .string ((rd_T57 l0 x46).f3), .slice A60_4 ((rd_T57 l0 x46).f4).length c60_4] (h := ?_); intro w71 hbk hg)
      refine zg ?_
      replace HF0 := zfg HF0.out hg fun k_ hk_ => hk_.2
      replace HF60_4 := zfg HF60_4.out hg fun k_ hk_ => hk_.2
      replace HN48 := zng HN48.out hg fun k_ hk_ => hk_.2
      replace BKg39 := zbg BKg39.out hg NEg39_g61
      replace HB := zhg HB.out hg (below_size HB.out) GEg61
      replace BKg61 := hbk
      clear hg hbk
      clear j11 j12 j13 j14 j15 j16 j17 j18
      obtain ⟨j1a, j1b, j1c⟩ := MB.lz3 BKg39.out
      obtain ⟨j1d, j1e, j1f, j1g, j1h⟩ := MB.lz5 BKg61.out
      obtain ⟨A80, cp81, he_⟩ := Kd.N_slice HN48.out
      subst he_
      replace HH := zd HH
      obtain ⟨⟨t82, t83⟩, At84, HH⟩ := HH
      dsimp only at HH
      go_wp2_with (((with_reducible refine gc 63 rfl ?_); refine zc 63 (some 29) Try.func63 #[.pointer (some ⟨g39, 0, none⟩), .agg #[.int .i64 ((rd_T57 l0 x46).f0), .bool ((rd_T57 l0 x46).f1), .int .i64 ((rd_T57 l0 x46).f2), .string ((rd_T57 l0 x46).f3), .slice A60_4 ((rd_T57 l0 x46).f4).length c60_4]] (h := ?_); refine (ber_sheaf_lay.calls k50 (fun k_ => (((P_ k_ ∨ w.heap.size ≤ k_) ∧ some k_ ≠ ((.slice A80 x47.length cp81) : Value).ownBlock) ∧ k_ ≠ g39) ∧ k_ ≠ g61) w.heap.size g39 (p45) ((.slice A80 x47.length cp81)) x47 x49 ((rd_T57 l0 x46).f0) ((rd_T57 l0 x46).f1) ((rd_T57 l0 x46).f2) ((rd_T57 l0 x46).f3) _ _ ((rd_T57 l0 x46).f4) t82 t83 _ (below_size HB.out) (fun k_ hk_ => hk_.1.2) (fun k_ hk_ => hk_.1.1.2) BKg39.out GEg39.out HPp45.out (Kd.N_mono (MB.N_only HN48.out) (fun k_ hk_ => ⟨⟨trivial, .inl hk_⟩, (fun hk_ => hk_.1.2) (HN48.out.1 k_ hk_.symm)⟩)) (Kd.F_mono (ok := (fun k_ => (((P_ k_ ∨ w.heap.size ≤ k_) ∧ some k_ ≠ ((.slice A80 x47.length cp81) : Value).ownBlock) ∧ k_ ≠ g39) ∧ k_ ≠ g61)) HF60_4.out (fun k_ hk_ => hk_)) HL60_4.out At84.out).mono ?_; rintro e w85 ⟨v86, p87, rfl, hn1, hp1, hbk, hfr, hb⟩; refine ⟨_, rfl, ?_⟩); replace hbk := za hbk; replace hfr := za hfr; replace hp1 := za hp1)
      refine zg ?_
      replace hbk := hbk.out
      replace hfr := hfr.out
      replace hp1 := hp1.out
      have hat1 : ∀ k_ : Nat, (v86 : Value).ownBlock = some k_ → some k_ = ((.slice A80 x47.length cp81) : Value).ownBlock ∨ w71.heap.size ≤ k_ := fun k_ h_ => (hn1.1 k_ h_).1.2
      have HN88 := za (Kd.N_mono hn1 (fun k_ hk_ => hk_.1.2.elim (fun h_ => HN48.out.1 k_ h_.symm) (fun h_ => ⟨⟨.inr (Nat.le_trans (below_size HB.out) h_), Kd.freshB (g := g39) BKg39.out k_ h_⟩, Kd.freshB (g := g61) BKg61.out k_ h_⟩)) : Kd.N (Kd.int .u8) 5 w85 w.heap.size (fun k_ => ((P_ k_ ∨ w.heap.size ≤ k_) ∧ k_ ≠ g39) ∧ k_ ≠ g61) v86 t82)
      replace HF0 := za (Kd.F_mono (MB.F_ptr (ok := (fun k_ => (((P_ k_ ∨ w.heap.size ≤ k_) ∧ some k_ ≠ ((.slice A80 x47.length cp81) : Value).ownBlock) ∧ k_ ≠ g39) ∧ k_ ≠ g61)) HF0.out hfr (fun k_ hk_ => hk_.1.2) (fun k_ hk_ => hk_.1.1.2)) (fun k_ hk_ => ⟨⟨⟨hk_.1.1.1.1, hk_.1.1.2⟩, hk_.1.2⟩, (fun he_ => (hat1 k_ he_.symm).elim (fun h_ => absurd h_ (hk_.1.1.1.2)) (fun h_ => absurd hk_.2 (Nat.not_lt.2 h_)))⟩) : Kd.F k57 _ (fun k_ => (((P_ k_ ∨ w.heap.size ≤ k_) ∧ k_ ≠ g39) ∧ k_ ≠ g61) ∧ some k_ ≠ (v86 : Value).ownBlock) _ _ _)
      replace BKg61 := za (MB.blk_ptr BKg61.out hfr NEg61_g39.out (Kd.N_away (ok := (fun k_ => ((P_ k_ ∨ w.heap.size ≤ k_) ∧ k_ ≠ g39) ∧ k_ ≠ g61)) HN48.out (fun k_ hk_ => hk_.2)))
      replace HB := za (Below.trans HB.out hb)
      replace BKg39 := za hbk
      have HPp87 := za hp1
      clear hbk hfr hb hp1 hn1 hat1
      clear HN48
      clear j1a j1b j1c j1d j1e j1f j1g j1h
      obtain ⟨j1r, j1s, j1t⟩ := MB.lz3 BKg39.out
      obtain ⟨j1u, j1v, j1w, j1x, j1y⟩ := MB.lz5 BKg61.out
      go_wp2
      go_roundg k50
      case measure => have := HK0.out; have := HK1.out; omega
      case rel => exact ⟨wrap64 (x46 + 1), t82, t83, v86, p87, (by first | rfl | (simp; done) | (simp [*]; done)), HH, ⟨by have := HK0.out; have := HK1.out; omega⟩, ⟨(Kd.F_mono (ok := (fun k_ => (((P_ k_ ∨ w.heap.size ≤ k_) ∧ k_ ≠ g39) ∧ k_ ≠ g61) ∧ some k_ ≠ (v86 : Value).ownBlock)) HF0.out (fun k_ hk_ => ⟨⟨hk_.1.1.1, hk_.2⟩, hk_.1.1.2⟩))⟩, ⟨(Kd.N_mono (ok := (fun k_ => ((P_ k_ ∨ w.heap.size ≤ k_) ∧ k_ ≠ g39) ∧ k_ ≠ g61)) HN88.out (fun k_ hk_ => ⟨hk_.1.1, hk_.1.2⟩))⟩, ⟨HPp87.out⟩, ⟨BKg39.out⟩, ⟨HB.out⟩⟩
     by_cases c100 : x49 = true
     ·replace HH := MW.hpos HH c100
      subst c100
      have H := HH.out
      simp only [Option.some.injEq, Prod.mk.injEq] at H
      obtain ⟨rfl, rfl⟩ := H
      clear HH
      go_wp2
      go_ret2
      exact zfi HB.out
     replace HH := MW.hneg HH c100
     replace c100 := Bool.eq_false_iff.mpr c100
     subst c100
     obtain ⟨A101, cp102, he_⟩ := Kd.N_slice HN48.out
     subst he_
     go_wp2_with (((with_reducible refine gc 64 rfl ?_); refine zc 64 (some 34) Try.func64 #[.pointer (some ⟨g39, 0, none⟩)] (h := ?_); refine (bString64 g39 99 (p45) ((.slice A101 x47.length cp102)) [.bool false] w.heap.size (fun k_ => (P_ k_ ∨ w.heap.size ≤ k_) ∧ k_ ≠ g39) x47 _ BKg39.out HN48.out).mono ?_; rintro e w103 ⟨rfl, hg⟩; refine ⟨_, rfl, ?_⟩))
     refine zg ?_
     replace BKg39 := za (blk_grown (g := g39) BKg39.out hg (Kd.N_away (ok := (fun k_ => (P_ k_ ∨ w.heap.size ≤ k_) ∧ k_ ≠ g39)) HN48.out (fun k_ hk_ => hk_.2)))
     replace HB := za (Below.grown HB.out hg (below_size HB.out) (Kd.N_base HN48.out))
     clear hg HN48
     clear jQ jR jS
     obtain ⟨j1G, j1H, j1I⟩ := MB.lz3 BKg39.out
     have H := HH.out
     simp only [Option.some.injEq, Prod.mk.injEq] at H
     obtain ⟨rfl, rfl⟩ := H
     clear HH
     go_wp2
     go_ret2
     exact zfi HB.out

mutual
def toponymref15_Size.l0 : Nat → Int → Int → (List (S57)) → Option (Int)
 | 0, _, _, _ => none
 | k + 1, x8, x9, l0_4 => if x9 < (l0_4.length : Int) then (if x8 ≤ 4000 then (if 0 ≤ x9 then ((toponymref15_Size.f k ((rd_T57 l0_4 x9).f0) ((rd_T57 l0_4 x9).f1) ((rd_T57 l0_4 x9).f2) ((rd_T57 l0_4 x9).f3) ((rd_T57 l0_4 x9).f4)).bind fun t25 => ((toponymref15_Size.l0 k (wrap64 (x8 + t25)) (wrap64 (x9 + 1)) l0_4))) else (none)) else (if x8 > 4000 then (some 100000) else (if x8 ≥ 256 then (some (wrap64 (x8 + 4))) else (if x8 ≥ 128 then (some (wrap64 (x8 + 3))) else (some (wrap64 (x8 + 2))))))) else (if x8 > 4000 then (some 100000) else (if x8 ≥ 256 then (some (wrap64 (x8 + 4))) else (if x8 ≥ 128 then (some (wrap64 (x8 + 3))) else (some (wrap64 (x8 + 2))))))
def toponymref15_Size.f : Nat → Int → Bool → Int → ByteArray → (List (S57)) → Option (Int)
 | 0, _, _, _, _, _ => none
 | k + 1, a0_0, a0_1, a0_2, a0_3, l0_4 => (toponymref15_Size.l0 k (a0_3.size : Int) 0 l0_4)
end
theorem toponymref15_Size.mono_l : ∀ k, (∀ y0 y1 y2 y3 y4, LeO (toponymref15_Size.f k y0 y1 y2 y3 y4) (toponymref15_Size.f (k + 1) y0 y1 y2 y3 y4)) ∧ (∀ y0 y1 y2, LeO (toponymref15_Size.l0 k y0 y1 y2) (toponymref15_Size.l0 (k + 1) y0 y1 y2))
 | 0 => ⟨fun _ _ _ _ _ r h => by simp [toponymref15_Size.f] at h, fun _ _ _ r h => by simp [toponymref15_Size.l0] at h⟩
 | k + 1 => by
  obtain ⟨ih0, ih1⟩ := toponymref15_Size.mono_l k
  refine ⟨?_, ?_⟩
  ·intro y0 y1 y2 y3 y4
   unfold toponymref15_Size.f
   with_reducible repeat' first | exact ih0 _ _ _ _ _ | exact ih1 _ _ _ | exact LeO.refl _ | exact LeO.none _ | refine LeO.ite ?_ ?_ | refine LeO.bind ?_ (fun _ => ?_)
  intro y0 y1 y2
  unfold toponymref15_Size.l0
  with_reducible repeat' first | exact ih0 _ _ _ _ _ | exact ih1 _ _ _ | exact LeO.refl _ | exact LeO.none _ | refine LeO.ite ?_ ?_ | refine LeO.bind ?_ (fun _ => ?_)
theorem toponymref15_Size.mono : ∀ a0_ a1_ a2_ a3_ a4_ k, LeO (toponymref15_Size.f k a0_ a1_ a2_ a3_ a4_) (toponymref15_Size.f (k + 1) a0_ a1_ a2_ a3_ a4_) := by
 intro a0_ a1_ a2_ a3_ a4_ k
 obtain ⟨ih0, ih1⟩ := toponymref15_Size.mono_l k
 exact ih0 a0_ a1_ a2_ a3_ a4_
theorem toponymref15_Size.calls (k : Nat) : ∀ (P_ : Nat → Prop) (a0_0 : Int) (a0_1 : Bool) (a0_2 : Int) (a0_3 : ByteArray) (A0_4 : Option Addr) (c0_4 : Nat) (l0_4 : List (S57)) (r : Int) (w : World) (hs0_4 : Kd.F k57 w P_ A0_4 l0_4.length l0_4) (hc0_4 : l0_4.length ≤ c0_4) (h : toponymref15_Size.f k a0_0 a0_1 a0_2 a0_3 l0_4 = some r),
  Calls Try.prog 96 #[.agg #[.int .i64 a0_0, .bool a0_1, .int .i64 a0_2, .string a0_3, .slice A0_4 l0_4.length c0_4]] w (fun e w' => e = .returned (.int .i64 r) ∧ Below w.heap.size w w') := by
 induction k using Nat.strongRecOn with
 | _ k ih =>
 intro P_ a0_0 a0_1 a0_2 a0_3 A0_4 c0_4 l0_4 r w hs0_4 hc0_4 h
 cases k with
 | zero => exact absurd h (by simp [toponymref15_Size.f])
 | succ k1 =>
 simp only [toponymref15_Size.f] at h
 have HH := za h
 clear h
 have HF0_4 := zfp hs0_4
 clear hs0_4 hc0_4
 have HB := za (Below.refl w.heap.size w)
 have hu57 := Try.underlying57
 go_enter Try.func96, Try.ntmps96
 go_wp2_with ((with_reducible refine gd 1 rfl ?_); refine zb 1 57 #[.int .i64 a0_0, .bool a0_1, .int .i64 a0_2, .string a0_3, .slice A0_4 l0_4.length c0_4] (h := ?_); intro g1 hg w2 BKg1 hb)
 refine zg ?_
 replace HF0_4 := zfe HF0_4.out hg hb
 replace HB := zhb HB.out hb
 clear hg hb
 obtain ⟨j3, j4, j5, j6, j7⟩ := MB.lz5 BKg1.out
 go_wp2
 go_loopg [3, 4] k1 (fun kq u3 u4 w' => ∃ (x8 : Int) (x9 : Int), u3 = .int .i64 x8 ∧ u4 = .int .i64 x9 ∧ Aside0 ((toponymref15_Size.l0 kq x8 x9 l0_4) = some r) ∧ Aside0 (kq ≤ k1) ∧ Aside0 (Kd.F k57 w' (fun k_ => (P_ k_ ∨ w.heap.size ≤ k_) ∧ k_ ≠ g1) A0_4 l0_4.length l0_4) ∧ Aside0 (w'.heap[g1]? = some (.cells #[.int .i64 a0_0, .bool a0_1, .int .i64 a0_2, .string a0_3, .slice A0_4 l0_4.length c0_4] 57 (0, 0))) ∧ Aside0 (Below w.heap.size w w'))
 case atStart => exact ⟨(a0_3.size : Int), 0, (by first | rfl | (simp; done) | (simp [*]; done)), (by first | rfl | (simp; done) | (simp [*]; done)), HH, ⟨Nat.le_refl _⟩, ⟨(Kd.F_mono (ok := (fun k_ => (P_ k_ ∨ w.heap.size ≤ k_) ∧ k_ ≠ g1)) HF0_4.out (fun k_ hk_ => hk_))⟩, ⟨BKg1.out⟩, ⟨HB.out⟩⟩
 case round =>
  clear j3 j4 j5 j6 j7
  clear HH
  clear HF0_4 BKg1 HB
  obtain ⟨x8, x9, rfl, rfl, HA, HK0, HF0_4, BKg1, HB⟩ := hrel
  obtain ⟨w11, rfl⟩ : ∃ wo_ : World, wo_ = wr := ⟨_, rfl⟩
  cases gk with
  | zero => exact absurd HA.out (by simp [toponymref15_Size.l0])
  | succ k10 =>
   have H := HA.out
   clear HA
   simp only [toponymref15_Size.l0] at H
   have HH := za H
   clear H
   obtain ⟨jc, jd, je, jf, jg⟩ := MB.lz5 BKg1.out
   replace HH := zqt HH
   rcases HH with ⟨HH, hk18, hk19⟩ | ⟨HH, hk44, hk45⟩
   ·replace HH := zqd HH
    rcases HH with ⟨HH, hk21⟩ | ⟨HH, hk34⟩
    ·replace HH := zqdo HH
     obtain ⟨HH, hk23⟩ := HH
     have p24 : 0 ≤ (x9 : Int) := of_decide_eq_true (by first | (with_reducible assumption) | assumption)
     have q24 : x9 < (l0_4.length : Int) := of_decide_eq_true (by first | (with_reducible assumption) | assumption)
     obtain ⟨ad24, A24_4, c24_4, e24, hx24_0, hx24_1, hx24_2, hx24_3, hx24_4, hl24_4, hi24_4⟩ := atF_T57 HF0_4.out x9 p24 q24
     cases e24
     have HF24_4 := za hi24_4
     have HL24_4 := za hl24_4
     clear hi24_4 hl24_4
     replace p24 := eq_true p24
     replace q24 := eq_true q24
     replace HH := zd HH
     obtain ⟨t25, At26, HH⟩ := HH
     go_wp2_with ((with_reducible refine gc 96 rfl ?_); refine zc 96 (some 25) Try.func96 #[.agg #[.int .i64 ((rd_T57 l0_4 x9).f0), .bool ((rd_T57 l0_4 x9).f1), .int .i64 ((rd_T57 l0_4 x9).f2), .string ((rd_T57 l0_4 x9).f3), .slice A24_4 ((rd_T57 l0_4 x9).f4).length c24_4]] (h := ?_); (with_reducible refine (ih k10 (by have := HK0.out; omega) (fun k_ => (P_ k_ ∨ w.heap.size ≤ k_) ∧ k_ ≠ g1) ((rd_T57 l0_4 x9).f0) ((rd_T57 l0_4 x9).f1) ((rd_T57 l0_4 x9).f2) ((rd_T57 l0_4 x9).f3) _ _ ((rd_T57 l0_4 x9).f4) t25 _ (Kd.F_mono (ok := (fun k_ => (P_ k_ ∨ w.heap.size ≤ k_) ∧ k_ ≠ g1)) HF24_4.out (fun k_ hk_ => hk_)) HL24_4.out At26.out).mono ?_); rintro e w27 ⟨rfl, hb⟩; refine ⟨_, rfl, ?_⟩)
     refine zg ?_
     replace HF0_4 := zfb HF0_4.out hb
     replace BKg1 := zbb BKg1.out hb
     replace HB := zhb HB.out hb
     clear hb
     clear jc jd je jf jg hx24_0 hx24_1 hx24_2 hx24_3 hx24_4 p24 q24
     obtain ⟨js, jt, ju, jv, jw⟩ := MB.lz5 BKg1.out
     go_wp2
     go_roundg k10
     case measure => have := HK0.out; omega
     case rel => exact ⟨wrap64 (x8 + t25), wrap64 (x9 + 1), (by first | rfl | (simp; done) | (simp [*]; done)), (by first | rfl | (simp; done) | (simp [*]; done)), HH, ⟨by have := HK0.out; omega⟩, ⟨(Kd.F_mono (ok := (fun k_ => (P_ k_ ∨ w.heap.size ≤ k_) ∧ k_ ≠ g1)) HF0_4.out (fun k_ hk_ => hk_))⟩, ⟨BKg1.out⟩, ⟨HB.out⟩⟩
    replace HH := zqg HH
    rcases HH with ⟨HH, hk36⟩ | ⟨HH, hk37⟩
    ·obtain rfl := Option.some.inj HH.out
     clear HH
     go_wp2
     go_ret
     exact zfi HB.out
    replace HH := zqG HH
    rcases HH with ⟨HH, hk39⟩ | ⟨HH, hk40⟩
    ·obtain rfl := Option.some.inj HH.out
     clear HH
     go_wp2
     go_ret
     exact zfi HB.out
    replace HH := zqG HH
    rcases HH with ⟨HH, hk42⟩ | ⟨HH, hk43⟩
    ·obtain rfl := Option.some.inj HH.out
     clear HH
     go_wp2
     go_ret
     exact zfi HB.out
    obtain rfl := Option.some.inj HH.out
    clear HH
    go_wp2
    go_ret
    exact zfi HB.out
   replace HH := zqg HH
   rcases HH with ⟨HH, hk47⟩ | ⟨HH, hk48⟩
   ·obtain rfl := Option.some.inj HH.out
    clear HH
    go_wp2
    go_ret
    exact zfi HB.out
   replace HH := zqG HH
   rcases HH with ⟨HH, hk50⟩ | ⟨HH, hk51⟩
   ·obtain rfl := Option.some.inj HH.out
    clear HH
    go_wp2
    go_ret
    exact zfi HB.out
   replace HH := zqG HH
   rcases HH with ⟨HH, hk53⟩ | ⟨HH, hk54⟩
   ·obtain rfl := Option.some.inj HH.out
    clear HH
    go_wp2
    go_ret
    exact zfi HB.out
   obtain rfl := Option.some.inj HH.out
   clear HH
   go_wp2
   go_ret
   exact zfi HB.out

def toponymref15_Check.f (k : Nat) (a0_0 : Int) (a0_1 : Bool) (a0_2 : Int) (a0_3 : ByteArray) (l0_4 : List (S57)) : Option (Int) := (toponymref15_Deep.f k a0_0 a0_1 a0_2 a0_3 l0_4).bind fun t8 => (if t8 > 12 then (some 153) else ((toponymref15_fine.f k a0_0 a0_1 a0_2 a0_3 l0_4).bind fun t19 => (if t19 = true then ((toponymref15_Size.f k a0_0 a0_1 a0_2 a0_3 l0_4).bind fun t28 => (if t28 > 4000 then (some 3) else (some 0))) else (some 2))))
theorem toponymref15_Check.mono : ∀ a0_ a1_ a2_ a3_ a4_ k, LeO (toponymref15_Check.f k a0_ a1_ a2_ a3_ a4_) (toponymref15_Check.f (k + 1) a0_ a1_ a2_ a3_ a4_) := by
 intro a0_ a1_ a2_ a3_ a4_ k
 unfold toponymref15_Check.f
 with_reducible repeat' first | exact toponymref15_Deep.mono _ _ _ _ _ _ | exact toponymref15_Size.mono _ _ _ _ _ _ | exact toponymref15_fine.mono _ _ _ _ _ _ | exact LeO.refl _ | exact LeO.none _ | refine LeO.ite ?_ ?_ | refine LeO.bind ?_ (fun _ => ?_)
theorem toponymref15_Check.calls (k : Nat) (P_ : Nat → Prop) (a0_0 : Int) (a0_1 : Bool) (a0_2 : Int) (a0_3 : ByteArray) (A0_4 : Option Addr) (c0_4 : Nat) (l0_4 : List (S57)) (r : Int) (w : World) (hs0_4 : Kd.F k57 w P_ A0_4 l0_4.length l0_4) (hc0_4 : l0_4.length ≤ c0_4) (h : toponymref15_Check.f k a0_0 a0_1 a0_2 a0_3 l0_4 = some r) :
  Calls Try.prog 67 #[.agg #[.int .i64 a0_0, .bool a0_1, .int .i64 a0_2, .string a0_3, .slice A0_4 l0_4.length c0_4]] w (fun e w' => e = .returned (.int .i64 r) ∧ Below w.heap.size w w') := by
 unfold toponymref15_Check.f at h
 have HH := za h
 clear h
 have HF0_4 := zfp hs0_4
 have HL0_4 := za hc0_4
 clear hs0_4 hc0_4
 have HB := za (Below.refl w.heap.size w)
 have hu57 := Try.underlying57
 go_enter Try.func67, Try.ntmps67
 go_wp2_with ((with_reducible refine gd 1 rfl ?_); refine zb 1 57 #[.int .i64 a0_0, .bool a0_1, .int .i64 a0_2, .string a0_3, .slice A0_4 l0_4.length c0_4] (h := ?_); intro g1 hg w2 BKg1 hb)
 refine zg ?_
 replace HF0_4 := zfe HF0_4.out hg hb
 replace HB := zhb HB.out hb
 clear hg hb
 obtain ⟨j3, j4, j5, j6, j7⟩ := MB.lz5 BKg1.out
 replace HH := zd HH
 obtain ⟨t8, At9, HH⟩ := HH
 go_wp2_with ((with_reducible refine gc 94 rfl ?_); refine zc 94 (some 4) Try.func94 #[.agg #[.int .i64 a0_0, .bool a0_1, .int .i64 a0_2, .string a0_3, .slice A0_4 l0_4.length c0_4]] (h := ?_); (with_reducible refine (toponymref15_Deep.calls k (fun k_ => (P_ k_ ∨ w.heap.size ≤ k_) ∧ k_ ≠ g1) a0_0 a0_1 a0_2 a0_3 _ _ l0_4 t8 _ (Kd.F_mono (ok := (fun k_ => (P_ k_ ∨ w.heap.size ≤ k_) ∧ k_ ≠ g1)) HF0_4.out (fun k_ hk_ => hk_)) HL0_4.out At9.out).mono ?_); rintro e w10 ⟨rfl, hb⟩; refine ⟨_, rfl, ?_⟩)
 refine zg ?_
 replace HF0_4 := zfb HF0_4.out hb
 replace BKg1 := zbb BKg1.out hb
 replace HB := zhb HB.out hb
 clear hb
 clear j3 j4 j5 j6 j7
 obtain ⟨jb, jc, jd, je, jf⟩ := MB.lz5 BKg1.out
 replace HH := zqg HH
 rcases HH with ⟨HH, hk17⟩ | ⟨HH, hk18⟩
 ·obtain rfl := Option.some.inj HH.out
  clear HH
  go_wp2
  go_ret
  exact zfi HB.out
 replace HH := zd HH
 obtain ⟨t19, At20, HH⟩ := HH
 go_wp2_with ((with_reducible refine gc 95 rfl ?_); refine zc 95 (some 7) Try.func95 #[.agg #[.int .i64 a0_0, .bool a0_1, .int .i64 a0_2, .string a0_3, .slice A0_4 l0_4.length c0_4]] (h := ?_); (with_reducible refine (toponymref15_fine.calls k (fun k_ => (P_ k_ ∨ w.heap.size ≤ k_) ∧ k_ ≠ g1) a0_0 a0_1 a0_2 a0_3 _ _ l0_4 t19 _ (Kd.F_mono (ok := (fun k_ => (P_ k_ ∨ w.heap.size ≤ k_) ∧ k_ ≠ g1)) HF0_4.out (fun k_ hk_ => hk_)) HL0_4.out At20.out).mono ?_); rintro e w21 ⟨rfl, hb⟩; refine ⟨_, rfl, ?_⟩)
 refine zg ?_
 replace HF0_4 := zfb HF0_4.out hb
 replace BKg1 := zbb BKg1.out hb
 replace HB := zhb HB.out hb
 clear hb
 clear jb jc jd je jf
 obtain ⟨jm, jn, jo, jp, jq⟩ := MB.lz5 BKg1.out
 by_cases c27 : t19 = true
 ·replace HH := MW.hpos HH c27
  subst c27
  replace HH := zd HH
  obtain ⟨t28, At29, HH⟩ := HH
  go_wp2_with ((with_reducible refine gc 96 rfl ?_); refine zc 96 (some 10) Try.func96 #[.agg #[.int .i64 a0_0, .bool a0_1, .int .i64 a0_2, .string a0_3, .slice A0_4 l0_4.length c0_4]] (h := ?_); (with_reducible refine (toponymref15_Size.calls k (fun k_ => (P_ k_ ∨ w.heap.size ≤ k_) ∧ k_ ≠ g1) a0_0 a0_1 a0_2 a0_3 _ _ l0_4 t28 _ (Kd.F_mono (ok := (fun k_ => (P_ k_ ∨ w.heap.size ≤ k_) ∧ k_ ≠ g1)) HF0_4.out (fun k_ hk_ => hk_)) HL0_4.out At29.out).mono ?_); rintro e w30 ⟨rfl, hb⟩; refine ⟨_, rfl, ?_⟩)
  refine zg ?_
  replace BKg1 := zbb BKg1.out hb
  replace HB := zhb HB.out hb
  clear hb
  clear jm jn jo jp jq
  obtain ⟨jv, jw, jx, jy, jz⟩ := MB.lz5 BKg1.out
  replace HH := zqg HH
  rcases HH with ⟨HH, hk37⟩ | ⟨HH, hk38⟩
  ·obtain rfl := Option.some.inj HH.out
   clear HH
   go_wp2
   go_ret
   exact zfi HB.out
  obtain rfl := Option.some.inj HH.out
  clear HH
  go_wp2
  go_ret
  exact zfi HB.out
 replace HH := MW.hneg HH c27
 replace c27 := Bool.eq_false_iff.mpr c27
 subst c27
 obtain rfl := Option.some.inj HH.out
 clear HH
 go_wp2
 go_ret
 exact zfi HB.out

mutual
def toponymref15_Encode.l0 : Nat → Int → (List (S57)) → Option (ByteArray × Int)
 | 0, _, _ => none
 | k + 1, x1, l0 => if x1 < (l0.length : Int) then (if 0 ≤ x1 then ((toponymref15_Check.f k ((rd_T57 l0 x1).f0) ((rd_T57 l0 x1).f1) ((rd_T57 l0 x1).f2) ((rd_T57 l0 x1).f3) ((rd_T57 l0 x1).f4)).bind fun t10 => (if t10 = 0 then ((toponymref15_Encode.l0 k (wrap64 (x1 + 1)) l0)) else (some ((⟨#[]⟩ : ByteArray), t10)))) else (none)) else ((toponymref15_Encode.l1 k (⟨#[]⟩ : ByteArray) 0 l0))
def toponymref15_Encode.l1 : Nat → ByteArray → Int → (List (S57)) → Option (ByteArray × Int)
 | 0, _, _, _ => none
 | k + 1, x21, x22, l0 => if x22 < (l0.length : Int) then (if 0 ≤ x22 then ((toponymref15_lay.f k ((rd_T57 l0 x22).f0) ((rd_T57 l0 x22).f1) ((rd_T57 l0 x22).f2) ((rd_T57 l0 x22).f3) ((rd_T57 l0 x22).f4)).bind fun t31 => (if x21.size + t31.size ≤ 9223372036854775807 then (if ((x21 ++ t31).size : Int) > 4000 then (some ((⟨#[]⟩ : ByteArray), 3)) else ((toponymref15_Encode.l1 k (x21 ++ t31) (wrap64 (x22 + 1)) l0))) else (none))) else (none)) else (some (x21, 0))
end
def toponymref15_Encode.f (k : Nat) (l0 : List (S57)) : Option (ByteArray × Int) := (toponymref15_Encode.l0 k 0 l0)
theorem toponymref15_Encode.mono_l : ∀ k, (∀ y0 y1, LeO (toponymref15_Encode.l0 k y0 y1) (toponymref15_Encode.l0 (k + 1) y0 y1)) ∧ (∀ y0 y1 y2, LeO (toponymref15_Encode.l1 k y0 y1 y2) (toponymref15_Encode.l1 (k + 1) y0 y1 y2))
 | 0 => ⟨fun _ _ r h => by simp [toponymref15_Encode.l0] at h, fun _ _ _ r h => by simp [toponymref15_Encode.l1] at h⟩
 | k + 1 => by
  obtain ⟨ih0, ih1⟩ := toponymref15_Encode.mono_l k
  refine ⟨?_, ?_⟩
  ·intro y0 y1
   unfold toponymref15_Encode.l0
   with_reducible repeat' first | exact ih0 _ _ | exact ih1 _ _ _ | exact toponymref15_Check.mono _ _ _ _ _ _ | exact toponymref15_lay.mono _ _ _ _ _ _ | exact LeO.refl _ | exact LeO.none _ | refine LeO.ite ?_ ?_ | refine LeO.bind ?_ (fun _ => ?_)
  intro y0 y1 y2
  unfold toponymref15_Encode.l1
  with_reducible repeat' first | exact ih0 _ _ | exact ih1 _ _ _ | exact toponymref15_Check.mono _ _ _ _ _ _ | exact toponymref15_lay.mono _ _ _ _ _ _ | exact LeO.refl _ | exact LeO.none _ | refine LeO.ite ?_ ?_ | refine LeO.bind ?_ (fun _ => ?_)
theorem toponymref15_Encode.mono : ∀ a0_ k, LeO (toponymref15_Encode.f k a0_) (toponymref15_Encode.f (k + 1) a0_) := by
 intro a0_ k
 obtain ⟨ih0, ih1⟩ := toponymref15_Encode.mono_l k
 unfold toponymref15_Encode.f
 with_reducible repeat' first | exact ih0 _ _ | exact ih1 _ _ _ | exact toponymref15_Check.mono _ _ _ _ _ _ | exact toponymref15_lay.mono _ _ _ _ _ _ | exact LeO.refl _ | exact LeO.none _ | refine LeO.ite ?_ ?_ | refine LeO.bind ?_ (fun _ => ?_)
theorem toponymref15_Encode.calls (k : Nat) (P_ : Nat → Prop) (A0 : Option Addr) (c0 : Nat) (l0 : List (S57)) (r1 : ByteArray) (r2 : Int) (w : World) (hs0 : Kd.F k57 w P_ A0 l0.length l0) (hc0 : l0.length ≤ c0) (h : toponymref15_Encode.f k l0 = some (r1, r2)) :
  Calls Try.prog 47 #[.slice A0 l0.length c0] w (fun e w' => e = .returned (.tuple #[.string r1, .int .i64 r2]) ∧ Below w.heap.size w w') := by
 unfold toponymref15_Encode.f at h
 have HH := za h
 clear h
 have HF0 := zfp hs0
 clear hs0 hc0
 have HB := za (Below.refl w.heap.size w)
 have hu57 := Try.underlying57
 go_enter Try.func47, Try.ntmps47
 go_wp2
 go_loopg [4] k (fun kq u4 w' => ∃ (x1 : Int), u4 = .int .i64 x1 ∧ Aside0 ((toponymref15_Encode.l0 kq x1 l0) = some (r1, r2)) ∧ Aside0 (kq ≤ k) ∧ Aside0 (Kd.F k57 w' (fun k_ => (P_ k_ ∨ w.heap.size ≤ k_)) A0 l0.length l0) ∧ Aside0 (Below w.heap.size w w'))
 case atStart => exact ⟨0, (by first | rfl | (simp; done) | (simp [*]; done)), HH, ⟨Nat.le_refl _⟩, ⟨(Kd.F_mono (ok := (fun k_ => (P_ k_ ∨ w.heap.size ≤ k_))) HF0.out (fun k_ hk_ => hk_))⟩, ⟨HB.out⟩⟩
 case round =>
  clear HH
  clear HF0 HB
  obtain ⟨x1, rfl, HA, HK0, HF0, HB⟩ := hrel
  obtain ⟨w3, rfl⟩ : ∃ wo_ : World, wo_ = wr := ⟨_, rfl⟩
  cases gk with
  | zero => exact absurd HA.out (by simp [toponymref15_Encode.l0])
  | succ k2 =>
   have H := HA.out
   clear HA
   simp only [toponymref15_Encode.l0] at H
   have HH := za H
   clear H
   replace HH := zqt HH
   rcases HH with ⟨HH, hk5, hk6⟩ | ⟨HH, hk19, hk20⟩
   ·replace HH := zqdo HH
    obtain ⟨HH, hk8⟩ := HH
    have p9 : 0 ≤ (x1 : Int) := of_decide_eq_true (by first | (with_reducible assumption) | assumption)
    have q9 : x1 < (l0.length : Int) := of_decide_eq_true (by first | (with_reducible assumption) | assumption)
    obtain ⟨ad9, A9_4, c9_4, e9, hx9_0, hx9_1, hx9_2, hx9_3, hx9_4, hl9_4, hi9_4⟩ := atF_T57 HF0.out x1 p9 q9
    cases e9
    have HF9_4 := za hi9_4
    have HL9_4 := za hl9_4
    clear hi9_4 hl9_4
    replace p9 := eq_true p9
    replace q9 := eq_true q9
    replace HH := zd HH
    obtain ⟨t10, At11, HH⟩ := HH
    go_wp2_with ((with_reducible refine gc 67 rfl ?_); refine zc 67 (some 18) Try.func67 #[.agg #[.int .i64 ((rd_T57 l0 x1).f0), .bool ((rd_T57 l0 x1).f1), .int .i64 ((rd_T57 l0 x1).f2), .string ((rd_T57 l0 x1).f3), .slice A9_4 ((rd_T57 l0 x1).f4).length c9_4]] (h := ?_); (with_reducible refine (toponymref15_Check.calls k2 (fun k_ => (P_ k_ ∨ w.heap.size ≤ k_)) ((rd_T57 l0 x1).f0) ((rd_T57 l0 x1).f1) ((rd_T57 l0 x1).f2) ((rd_T57 l0 x1).f3) _ _ ((rd_T57 l0 x1).f4) t10 _ (Kd.F_mono (ok := (fun k_ => (P_ k_ ∨ w.heap.size ≤ k_))) HF9_4.out (fun k_ hk_ => hk_)) HL9_4.out At11.out).mono ?_); rintro e w12 ⟨rfl, hb⟩; refine ⟨_, rfl, ?_⟩)
    refine zg ?_
    replace HF0 := zfb HF0.out hb
    replace HB := zhb HB.out hb
    clear hb
    clear hx9_0 hx9_1 hx9_2 hx9_3 hx9_4 p9 q9
    replace HH := zqe HH
    rcases HH with ⟨HH, hk14, hk15⟩ | ⟨HH, hk16, hk17⟩
    ·go_wp2
     go_roundg k2
     case measure => have := HK0.out; omega
     case rel => exact ⟨wrap64 (x1 + 1), (by first | rfl | (simp; done) | (simp [*]; done)), HH, ⟨by have := HK0.out; omega⟩, ⟨(Kd.F_mono (ok := (fun k_ => (P_ k_ ∨ w.heap.size ≤ k_))) HF0.out (fun k_ hk_ => hk_))⟩, ⟨HB.out⟩⟩
    have H := HH.out
    simp only [Option.some.injEq, Prod.mk.injEq] at H
    obtain ⟨rfl, rfl⟩ := H
    clear HH
    go_wp2
    go_ret2
    exact zfi HB.out
   go_wp2
   go_loopg [6, 7] k2 (fun kq u6 u7 w' => ∃ (x21 : ByteArray) (x22 : Int), u6 = .string x21 ∧ u7 = .int .i64 x22 ∧ Aside0 ((toponymref15_Encode.l1 kq x21 x22 l0) = some (r1, r2)) ∧ Aside0 (kq ≤ k2) ∧ Aside0 (Kd.F k57 w' (fun k_ => (P_ k_ ∨ w.heap.size ≤ k_)) A0 l0.length l0) ∧ Aside0 (Below w.heap.size w w'))
   case atStart => exact ⟨(⟨#[]⟩ : ByteArray), 0, (by first | rfl | (simp; done) | (simp [*]; done)), (by first | rfl | (simp; done) | (simp [*]; done)), HH, ⟨Nat.le_refl _⟩, ⟨(Kd.F_mono (ok := (fun k_ => (P_ k_ ∨ w.heap.size ≤ k_))) HF0.out (fun k_ hk_ => hk_))⟩, ⟨HB.out⟩⟩
   case round =>
    clear hk19
    clear hk20
    clear HH
    clear HF0 HB
    obtain ⟨x21, x22, rfl, rfl, HA, HK1, HF0, HB⟩ := hrel
    obtain ⟨w24, rfl⟩ : ∃ wo_ : World, wo_ = wr := ⟨_, rfl⟩
    cases gk with
    | zero => exact absurd HA.out (by simp [toponymref15_Encode.l1])
    | succ k23 =>
     have H := HA.out
     clear HA
     simp only [toponymref15_Encode.l1] at H
     have HH := za H
     clear H
     replace HH := zqt HH
     rcases HH with ⟨HH, hk26, hk27⟩ | ⟨HH, hk49, hk50⟩
     ·replace HH := zqdo HH
      obtain ⟨HH, hk29⟩ := HH
      have p30 : 0 ≤ (x22 : Int) := of_decide_eq_true (by first | (with_reducible assumption) | assumption)
      have q30 : x22 < (l0.length : Int) := of_decide_eq_true (by first | (with_reducible assumption) | assumption)
      obtain ⟨ad30, A30_4, c30_4, e30, hx30_0, hx30_1, hx30_2, hx30_3, hx30_4, hl30_4, hi30_4⟩ := atF_T57 HF0.out x22 p30 q30
      cases e30
      have HF30_4 := za hi30_4
      have HL30_4 := za hl30_4
      clear hi30_4 hl30_4
      replace p30 := eq_true p30
      replace q30 := eq_true q30
      replace HH := zd HH
      obtain ⟨t31, At32, HH⟩ := HH
      go_wp2_with ((with_reducible refine gc 68 rfl ?_); refine zc 68 (some 33) Try.func68 #[.agg #[.int .i64 ((rd_T57 l0 x22).f0), .bool ((rd_T57 l0 x22).f1), .int .i64 ((rd_T57 l0 x22).f2), .string ((rd_T57 l0 x22).f3), .slice A30_4 ((rd_T57 l0 x22).f4).length c30_4]] (h := ?_); (with_reducible refine (toponymref15_lay.calls k23 (fun k_ => (P_ k_ ∨ w.heap.size ≤ k_)) ((rd_T57 l0 x22).f0) ((rd_T57 l0 x22).f1) ((rd_T57 l0 x22).f2) ((rd_T57 l0 x22).f3) _ _ ((rd_T57 l0 x22).f4) t31 _ (Kd.F_mono (ok := (fun k_ => (P_ k_ ∨ w.heap.size ≤ k_))) HF30_4.out (fun k_ hk_ => hk_)) HL30_4.out At32.out).mono ?_); rintro e w33 ⟨rfl, hb⟩; refine ⟨_, rfl, ?_⟩)
      refine zg ?_
      replace HF0 := zfb HF0.out hb
      replace HB := zhb HB.out hb
      clear hb
      clear hx30_0 hx30_1 hx30_2 hx30_3 hx30_4 p30 q30
      by_cases c34 : x21.size + t31.size ≤ 9223372036854775807
      ·replace HH := MW.hpos HH c34
       have hk35 : (9223372036854775807 < x21.size + t31.size) = False := eq_false (Nat.not_lt.2 c34)
       have hk36 : (x21.size + t31.size ≤ 9223372036854775807) = True := eq_true c34
       have hk37 : decide (x21.size + t31.size ≤ 9223372036854775807) = true := decide_eq_true c34
       clear c34
       by_cases c38 : ((x21 ++ t31).size : Int) > 4000
       ·replace HH := MW.hpos HH c38
        have hk39 : decide (4000 < ((x21 ++ t31).size : Int)) = true := decide_eq_true c38
        have hk40 : decide (4000 < (x21 ++ t31).size) = true := decide_eq_true (by omega)
        try have hk41 : decide (4000 < ((x21.size : Int) + (t31.size : Int))) = true := decide_eq_true (show ((x21.size : Int) + (t31.size : Int)) > 4000 from by have h_ := c38; simp only [ByteArray.size_append, Int.natCast_add] at h_; exact h_)
        try have hk42 : (((x21.size : Int) + (t31.size : Int)) > 4000) = True := eq_true (show ((x21.size : Int) + (t31.size : Int)) > 4000 from by have h_ := c38; simp only [ByteArray.size_append, Int.natCast_add] at h_; exact h_)
        clear c38
        have H := HH.out
        simp only [Option.some.injEq, Prod.mk.injEq] at H
        obtain ⟨rfl, rfl⟩ := H
        clear HH
        go_wp2
        go_ret2
        exact zfi HB.out
       replace HH := MW.hneg HH c38
       have hk43 : decide (4000 < ((x21 ++ t31).size : Int)) = false := decide_eq_false c38
       have hk44 : decide (4000 < (x21 ++ t31).size) = false := decide_eq_false (by omega)
       try have hk45 : decide (4000 < ((x21.size : Int) + (t31.size : Int))) = false := decide_eq_false (show ¬ (((x21.size : Int) + (t31.size : Int)) > 4000) from by have h_ := c38; simp only [ByteArray.size_append, Int.natCast_add] at h_; exact h_)
       try have hk46 : (((x21.size : Int) + (t31.size : Int)) > 4000) = False := eq_false (show ¬ (((x21.size : Int) + (t31.size : Int)) > 4000) from by have h_ := c38; simp only [ByteArray.size_append, Int.natCast_add] at h_; exact h_)
       clear c38
       go_wp2
       go_roundg k23
       case measure => have := HK0.out; have := HK1.out; omega
       case rel => exact ⟨x21 ++ t31, wrap64 (x22 + 1), (by first | rfl | (simp; done) | (simp [*]; done)), (by first | rfl | (simp; done) | (simp [*]; done)), HH, ⟨by have := HK0.out; have := HK1.out; omega⟩, ⟨(Kd.F_mono (ok := (fun k_ => (P_ k_ ∨ w.heap.size ≤ k_))) HF0.out (fun k_ hk_ => hk_))⟩, ⟨HB.out⟩⟩
      exact absurd HH.out (by rw [if_neg c34]; simp)
     have H := HH.out
     simp only [Option.some.injEq, Prod.mk.injEq] at H
     obtain ⟨rfl, rfl⟩ := H
     clear HH
     go_wp2
     go_ret2
     exact zfi HB.out

def toponymref26_Row.l0 : Nat → (List (S57)) → Int → Int → (List ByteArray) → Option (Int × Bool × Int × ByteArray × (List (S57)))
 | 0, _, _, _, _ => none
 | k + 1, x8, x11, a0, l1 => if x11 < (l1.length : Int) then (if 0 ≤ x11 then ((toponymref26_T.f (rdOf ByteArray.empty l1 x11)).bind fun bt25 => (if x8.length < 2199023255552 then ((some (x8 ++ [(⟨bt25.1, bt25.2.1, bt25.2.2.1, bt25.2.2.2.1, bt25.2.2.2.2⟩ : S57)] : List (S57))).bind fun y43 => ((toponymref26_Row.l0 k y43 (wrap64 (x11 + 1)) a0 l1))) else (none))) else (none)) else ((toponymref26_G.f 0 a0 x8).bind fun bt59 => (some (bt59.1, bt59.2.1, bt59.2.2.1, bt59.2.2.2.1, bt59.2.2.2.2)))
def toponymref26_Row.f (k : Nat) (a0 : Int) (l1 : List ByteArray) : Option (Int × Bool × Int × ByteArray × (List (S57))) := (toponymref26_Row.l0 k ([] : List (S57)) 0 a0 l1)
theorem toponymref26_Row.mono_l : ∀ k, (∀ y0 y1 y2 y3, LeO (toponymref26_Row.l0 k y0 y1 y2 y3) (toponymref26_Row.l0 (k + 1) y0 y1 y2 y3))
 | 0 => fun _ _ _ _ r h => by simp [toponymref26_Row.l0] at h
 | k + 1 => by
  have ih0 := toponymref26_Row.mono_l k
  ·intro y0 y1 y2 y3
   unfold toponymref26_Row.l0
   with_reducible repeat' first | exact ih0 _ _ _ _ | exact LeO.refl _ | exact LeO.none _ | refine LeO.ite ?_ ?_ | refine LeO.bind ?_ (fun _ => ?_)
theorem toponymref26_Row.mono : ∀ a0_ a1_ k, LeO (toponymref26_Row.f k a0_ a1_) (toponymref26_Row.f (k + 1) a0_ a1_) := by
 intro a0_ a1_ k
 have ih0 := toponymref26_Row.mono_l k
 unfold toponymref26_Row.f
 with_reducible repeat' first | exact ih0 _ _ _ _ | exact LeO.refl _ | exact LeO.none _ | refine LeO.ite ?_ ?_ | refine LeO.bind ?_ (fun _ => ?_)
theorem toponymref26_Row.calls (k : Nat) (P_ : Nat → Prop) (a0 : Int) (A1 : Option Addr) (c1 : Nat) (l1 : List ByteArray) (r1 : Int) (r2 : Bool) (r3 : Int) (r4 : ByteArray) (r5 : List (S57)) (w : World) (hs1 : Kd.F Kd.string w P_ A1 l1.length l1) (hc1 : l1.length ≤ c1) (h : toponymref26_Row.f k a0 l1 = some (r1, r2, r3, r4, r5)) :
  Calls Try.prog 97 #[.int .i64 a0, .slice A1 l1.length c1] w (fun e w' => ∃ (A4_ : Option Addr) (c4_ : Nat), e = .returned (.agg #[.int .i64 r1, .bool r2, .int .i64 r3, .string r4, .slice A4_ r5.length c4_]) ∧ r5.length ≤ c4_ ∧ Kd.F k57 w' (fun k_ => P_ k_ ∨ w.heap.size ≤ k_) A4_ r5.length r5 ∧ Below w.heap.size w w') := by
 unfold toponymref26_Row.f at h
 have HH := za h
 clear h
 have HF1 := zfp hs1
 clear hs1 hc1
 have HB := za (Below.refl w.heap.size w)
 have hu57 := Try.underlying57
 go_enter Try.func97, Try.ntmps97
 go_wp2_with ((with_reducible refine gd 4 rfl ?_); refine zb 4 57 #[.int .i64 0, .bool false, .int .i64 0, .string (⟨#[]⟩ : ByteArray), .slice none 0 0] (h := ?_); intro g1 hg w2 BKg1 hb)
 refine zg ?_
 have GEg1 := zge hg (below_size HB.out)
 replace HF1 := zfe HF1.out hg hb
 replace HB := zhb HB.out hb
 clear hg hb
 obtain ⟨j3, j4, j5, j6, j7⟩ := MB.lz5 BKg1.out
 go_wp2
 go_loopg [5, 6] k (fun kq u5 u6 w' => ∃ (x8 : List (S57)) (x11 : Int), u6 = .int .i64 x11 ∧ Aside0 ((toponymref26_Row.l0 kq x8 x11 a0 l1) = some (r1, r2, r3, r4, r5)) ∧ Aside0 (kq ≤ k) ∧ Aside0 (Kd.F Kd.string w' (fun k_ => ((P_ k_ ∨ w.heap.size ≤ k_) ∧ some k_ ≠ (u5 : Value).ownBlock) ∧ k_ ≠ g1) A1 l1.length l1) ∧ Aside0 (Kd.N k57 57 w' w.heap.size (fun k_ => (P_ k_ ∨ w.heap.size ≤ k_) ∧ k_ ≠ g1) u5 x8) ∧ Aside0 (w'.heap[g1]? = some (.cells #[.int .i64 0, .bool false, .int .i64 0, .string (⟨#[]⟩ : ByteArray), .slice none 0 0] 57 (0, 0))) ∧ Aside0 (Below w.heap.size w w'))
 case atStart => exact ⟨([] : List (S57)), 0, (by first | rfl | (simp; done) | (simp [*]; done)), HH, ⟨Nat.le_refl _⟩, ⟨(Kd.F_mono (ok := (fun k_ => (P_ k_ ∨ w.heap.size ≤ k_) ∧ k_ ≠ g1)) HF1.out (fun k_ hk_ => ⟨⟨hk_.1, (by simp [Value.ownBlock])⟩, hk_.2⟩))⟩, ⟨Kd.N_nil _ _ _ _ _⟩, ⟨BKg1.out⟩, ⟨HB.out⟩⟩
 case round =>
  clear j3 j4 j5 j6 j7
  clear HH
  clear HF1 BKg1 HB
  obtain ⟨x8, x11, rfl, HA, HK0, HF1, HN10, BKg1, HB⟩ := hrel
  obtain ⟨v9, rfl⟩ : ∃ z_ : Value, z_ = u5 := ⟨_, rfl⟩
  obtain ⟨w13, rfl⟩ : ∃ wo_ : World, wo_ = wr := ⟨_, rfl⟩
  cases gk with
  | zero => exact absurd HA.out (by simp [toponymref26_Row.l0])
  | succ k12 =>
   have H := HA.out
   clear HA
   simp only [toponymref26_Row.l0] at H
   have HH := za H
   clear H
   obtain ⟨je, jf, jg, jh, ji⟩ := MB.lz5 BKg1.out
   replace HH := zqt HH
   rcases HH with ⟨HH, hk20, hk21⟩ | ⟨HH, hk53, hk54⟩
   ·replace HH := zqdo HH
    obtain ⟨HH, hk23⟩ := HH
    have p24 : 0 ≤ (x11 : Int) := of_decide_eq_true (by first | (with_reducible assumption) | assumption)
    have q24 : x11 < (l1.length : Int) := of_decide_eq_true (by first | (with_reducible assumption) | assumption)
    obtain ⟨ad24, e24, hx24_0⟩ := Kd.at_string (Kd.F_now HF1.out) x11 p24 q24
    cases e24
    replace p24 := eq_true p24
    replace q24 := eq_true q24
    replace HH := zd HH
    obtain ⟨⟨t25, t26, t27, t28, t29⟩, At30, HH⟩ := HH
    dsimp only at HH
    go_wp2_with ((with_reducible refine gc 71 rfl ?_); refine zc 71 (some 18) Try.func71 #[.string (rdOf ByteArray.empty l1 x11)] (h := ?_); (with_reducible refine (toponymref26_T.calls  (rdOf ByteArray.empty l1 x11) t25 t26 t27 t28 t29 _  At30.out).mono ?_); rintro e w31 ⟨v32, rfl, hn32, hb⟩; refine ⟨_, rfl, ?_⟩)
    refine zg ?_
    have hba := Kd.N_base hn32
    have HN32 := znl (ok2 := (fun k_ => ((P_ k_ ∨ w.heap.size ≤ k_) ∧ some k_ ≠ (v9 : Value).ownBlock) ∧ k_ ≠ g1)) hn32 (below_size HB.out) (fun k_ h_ => ⟨⟨.inr (Nat.le_trans (below_size HB.out) h_), Kd.fresh' (Kd.N_lt HN10.out) k_ h_⟩, Kd.freshB (g := g1) BKg1.out k_ h_⟩)
    replace HF1 := zfr (v := v32) HF1.out hba hb
    replace HN10 := znr (u := v32) HN10.out hba hb
    replace BKg1 := zbb BKg1.out hb
    replace HB := zhb HB.out hb
    clear hn32 hba hb
    clear je jf jg jh ji hx24_0 p24 q24
    obtain ⟨jx, jy, jz, jA, jB⟩ := MB.lz5 BKg1.out
    obtain ⟨A38, cp39, he_⟩ := Kd.N_slice HN32.out
    subst he_
    have HL41 := za (Kd.N_reads' HN32.out).2.1
    have HF40 := za (Kd.N_F HN32.out)
    clear HN32
    replace HF1 := za (Kd.F_mono (ok := (fun k_ => (((P_ k_ ∨ w.heap.size ≤ k_) ∧ some k_ ≠ (v9 : Value).ownBlock) ∧ k_ ≠ g1) ∧ some k_ ≠ ((.slice A38 t29.length cp39) : Value).ownBlock)) HF1.out (fun k_ hk_ => hk_.1) : Kd.F Kd.string _ (fun k_ => ((P_ k_ ∨ w.heap.size ≤ k_) ∧ some k_ ≠ (v9 : Value).ownBlock) ∧ k_ ≠ g1) _ _ _)
    replace HN10 := za (Kd.N_mono (ok := (fun k_ => ((P_ k_ ∨ w.heap.size ≤ k_) ∧ k_ ≠ g1) ∧ some k_ ≠ ((.slice A38 t29.length cp39) : Value).ownBlock)) HN10.out (fun k_ hk_ => hk_.1) : Kd.N k57 _ _ _ (fun k_ => (P_ k_ ∨ w.heap.size ≤ k_) ∧ k_ ≠ g1) _ _)
    obtain ⟨HH, LMc42⟩ := zlm HH
    obtain ⟨y43, hy43⟩ : ∃ y_ : List (S57), y_ = (x8 ++ [(⟨t25, t26, t27, t28, t29⟩ : S57)]) := ⟨_, rfl⟩
    have H : ((toponymref26_Row.l0 k12 y43 (wrap64 (x11 + 1)) a0 l1)) = some (r1, r2, r3, r4, r5) := by rw [hy43]; exact HH.out
    replace HH := za H
    clear H
    have NYy43 := za hy43
    clear hy43
    go_wp2_with (((with_reducible refine gate_dst (N := 20) rfl ?_); (try (refine gate_guard (by rfl) ?_; dsimp only)); refine Kd.N_append k57 w.heap.size rfl _ _ 55 57 (.agg #[(.int .i64 0), (.bool false), (.int .i64 0), (.string ⟨#[]⟩), (.slice none 0 0)]) 64 rfl Try.underlying55 info57 rfl (by decide) (by decide) (v9) x8 (⟨t25, t26, t27, t28, t29⟩ : S57) [.int .i64 t25, .bool t26, .int .i64 t27, .string t28, .slice A38 t29.length cp39] (fun k_ => (P_ k_ ∨ w.heap.size ≤ k_) ∧ k_ ≠ g1) (fun k_ => (fun k_ => (P_ k_ ∨ w.heap.size ≤ k_) ∧ k_ ≠ g1) k_ ∧ some k_ ≠ (v9 : Value).ownBlock) rfl rfl (k57_mkF _ _ (⟨t25, t26, t27, t28, t29⟩ : S57) HL41.out (Kd.F_mono (ok := (fun k_ => ((P_ k_ ∨ w.heap.size ≤ k_) ∧ some k_ ≠ (v9 : Value).ownBlock) ∧ k_ ≠ g1)) (by (with_reducible repeat (first | apply Kd.F_alloc | apply Kd.F_drewN | apply Kd.F_drew)); exact HF40.out) (fun k_ hk_ => ⟨⟨hk_.1.1, hk_.2⟩, hk_.1.2⟩))) (fun _ hk_ => hk_) (fun k_ h_ => ⟨.inr (Nat.le_trans (below_size (by repeat (first | (with_reducible first | exact HB.out | apply below_alloc | apply pw_below_drewN | apply below_drew1) | exact HB.out))) h_), Kd.freshB (g := g1) (o := .cells #[.int .i64 0, .bool false, .int .i64 0, .string (⟨#[]⟩ : ByteArray), .slice none 0 0] 57 (0, 0)) (by (with_reducible repeat (first | refine blk_drewN ?_ _ | refine blk_drew ?_ | refine blk_alloc ?_ _)); exact BKg1.out) k_ h_⟩) (by (with_reducible repeat (first | apply Kd.N_alloc | apply Kd.N_drewN | apply Kd.N_drew)); exact HN10.out) (by repeat (first | (with_reducible first | exact HB.out | apply below_alloc | apply pw_below_drewN | apply below_drew1) | exact HB.out)) (below_size (by repeat (first | (with_reducible first | exact HB.out | apply below_alloc | apply pw_below_drewN | apply below_drew1) | exact HB.out))) (by first | (have := LMc42.out; omega) | (have := LMc42.out; simp at *; omega)) ?_; intro v44 w45 hn1 hb1 hg1 hat1); replace hat1 := za hat1; refine stop_ ?_)
    refine zg ?_
    replace hat1 := hat1.out
    replace HF1 := za (Kd.F_mono (Kd.F_after (v := v9) (ok := (fun k_ => (P_ k_ ∨ w.heap.size ≤ k_) ∧ k_ ≠ g1)) (Kd.F_mono (ok := (fun k_ => ((P_ k_ ∨ w.heap.size ≤ k_) ∧ some k_ ≠ (v9 : Value).ownBlock) ∧ k_ ≠ g1)) (by (with_reducible repeat (first | apply Kd.F_alloc | apply Kd.F_drewN | apply Kd.F_drew)); exact HF1.out) (fun k_ hk_ => ⟨⟨hk_.1.1, hk_.2⟩, hk_.1.2⟩)) hg1 hat1) (fun k_ hk_ => hk_) : Kd.F Kd.string _ (fun k_ => ((P_ k_ ∨ w.heap.size ≤ k_) ∧ k_ ≠ g1) ∧ some k_ ≠ (v44 : Value).ownBlock) _ _ _)
    replace BKg1 := za (blk_grown (g := g1) (o := .cells #[.int .i64 0, .bool false, .int .i64 0, .string (⟨#[]⟩ : ByteArray), .slice none 0 0] 57 (0, 0)) (by (with_reducible repeat (first | refine blk_drewN ?_ _ | refine blk_drew ?_ | refine blk_alloc ?_ _)); exact BKg1.out) hg1 (Kd.N_away (ok := (fun k_ => (P_ k_ ∨ w.heap.size ≤ k_) ∧ k_ ≠ g1)) HN10.out (fun k_ hk_ => hk_.2)))
    replace HB := za hb1
    clear HN10
    have HN46 := za hn1
    clear hn1 hb1 hg1 hat1
    replace HN46 := za (by rw [NYy43.out]; exact HN46.out : Kd.N k57 57 w45 w.heap.size (fun k_ => (P_ k_ ∨ w.heap.size ≤ k_) ∧ k_ ≠ g1) v44 y43)
    clear jx jy jz jA jB
    obtain ⟨jL, jM, jN, jO, jP⟩ := MB.lz5 BKg1.out
    go_wp2
    go_roundg k12
    case measure => have := HK0.out; omega
    case rel => exact ⟨y43, wrap64 (x11 + 1), (by first | rfl | (simp; done) | (simp [*]; done)), HH, ⟨by have := HK0.out; omega⟩, ⟨(Kd.F_mono (ok := (fun k_ => ((P_ k_ ∨ w.heap.size ≤ k_) ∧ k_ ≠ g1) ∧ some k_ ≠ (v44 : Value).ownBlock)) HF1.out (fun k_ hk_ => ⟨⟨hk_.1.1, hk_.2⟩, hk_.1.2⟩))⟩, ⟨(Kd.N_mono (ok := (fun k_ => (P_ k_ ∨ w.heap.size ≤ k_) ∧ k_ ≠ g1)) HN46.out (fun k_ hk_ => hk_))⟩, ⟨BKg1.out⟩, ⟨HB.out⟩⟩
   obtain ⟨A55, cp56, he_⟩ := Kd.N_slice HN10.out
   subst he_
   have HL58 := za (Kd.N_reads' HN10.out).2.1
   have HF57 := za (Kd.N_F HN10.out)
   clear HN10
   replace HH := zd HH
   obtain ⟨⟨t59, t60, t61, t62, t63⟩, At64, HH⟩ := HH
   dsimp only at HH
   go_wp2_with ((with_reducible refine gc 70 rfl ?_); refine zc 70 (some 23) Try.func70 #[.int .i64 0, .int .i64 a0, .slice A55 x8.length cp56] (h := ?_); (with_reducible refine (toponymref26_G.calls (fun k_ => (P_ k_ ∨ w.heap.size ≤ k_) ∧ k_ ≠ g1) 0 a0 _ _ x8 t59 t60 t61 t62 t63 _ (Kd.F_mono (ok := (fun k_ => (P_ k_ ∨ w.heap.size ≤ k_) ∧ k_ ≠ g1)) HF57.out (fun k_ hk_ => hk_)) HL58.out At64.out).mono ?_); rintro e w65 ⟨A66, cp66, rfl, hl66, hn66, hb⟩; refine ⟨_, rfl, ?_⟩)
   refine zg ?_
   have HL66 := za hl66
   have HF66 := za (Kd.F_mono hn66 (fun k_ hk_ => hk_.elim (fun h_ => h_) (fun h_ => ⟨.inr (Nat.le_trans (below_size HB.out) h_), Kd.freshB (g := g1) BKg1.out k_ h_⟩)) : Kd.F k57 _ (fun k_ => (P_ k_ ∨ w.heap.size ≤ k_) ∧ k_ ≠ g1) _ _ _)
   clear hn66 hl66
   replace BKg1 := zbb BKg1.out hb
   replace HB := zhb HB.out hb
   clear hb
   clear je jf jg jh ji
   obtain ⟨j15, j16, j17, j18, j19⟩ := MB.lz5 BKg1.out
   go_wp2_with ((with_reducible refine gs 57 4 rfl ?_); refine zs 57 4 #[.int .i64 t59, .bool t60, .int .i64 t61, .string t62, .slice A66 t63.length cp66] BKg1.out [.int .i64 t59, .bool t60, .int .i64 t61, .string t62, .slice A66 t63.length cp66] (h := ?_); intro w72 hbk hg)
   refine zg ?_
   replace HF66 := zfg HF66.out hg fun k_ hk_ => hk_.2
   replace HB := zhg HB.out hg (below_size HB.out) GEg1
   replace BKg1 := hbk
   clear hg hbk
   clear j15 j16 j17 j18 j19
   obtain ⟨j1b, j1c, j1d, j1e, j1f⟩ := MB.lz5 BKg1.out
   have H := HH.out
   simp only [Option.some.injEq, Prod.mk.injEq] at H
   obtain ⟨rfl, rfl, rfl, rfl, rfl⟩ := H
   clear HH
   go_wp2
   refine bodyPost_ret (MW.results_c rfl _ _ g1 57 #[.int .i64 t59, .bool t60, .int .i64 t61, .string t62, .slice A66 t63.length cp66] (0, 0) _ rfl BKg1.out Try.underlying57 rfl (by kernel_rfl)) rfl ?_
   exact ⟨_, _, by first | rfl | (simp; done) | (simp [*]; done), HL66.out, (Kd.F_mono (ok := (fun k_ => (P_ k_ ∨ w.heap.size ≤ k_) ∧ k_ ≠ g1)) HF66.out (fun k_ hk_ => hk_.1)), HB.out⟩

def toponymref26_Attribute.f (k : Nat) (a0_0 : ByteArray) (l0_1 : List ByteArray) : Option (Int × Bool × Int × ByteArray × (List (S57))) := (toponymref26_T.f a0_0).bind fun bt22 => ((toponymref26_Row.f k 17 l0_1).bind fun bt37 => ((toponymref26_G.f 0 16 [(⟨bt22.1, bt22.2.1, bt22.2.2.1, bt22.2.2.2.1, bt22.2.2.2.2⟩ : S57), (⟨bt37.1, bt37.2.1, bt37.2.2.1, bt37.2.2.2.1, bt37.2.2.2.2⟩ : S57)]).bind fun bt70 => (some (bt70.1, bt70.2.1, bt70.2.2.1, bt70.2.2.2.1, bt70.2.2.2.2))))
theorem toponymref26_Attribute.mono : ∀ a0_ a1_ k, LeO (toponymref26_Attribute.f k a0_ a1_) (toponymref26_Attribute.f (k + 1) a0_ a1_) := by
 intro a0_ a1_ k
 unfold toponymref26_Attribute.f
 with_reducible repeat' first | exact toponymref26_Row.mono _ _ _ | exact LeO.refl _ | exact LeO.none _ | refine LeO.ite ?_ ?_ | refine LeO.bind ?_ (fun _ => ?_)
theorem toponymref26_Attribute.calls (k : Nat) (P_ : Nat → Prop) (a0_0 : ByteArray) (A0_1 : Option Addr) (c0_1 : Nat) (l0_1 : List ByteArray) (r1 : Int) (r2 : Bool) (r3 : Int) (r4 : ByteArray) (r5 : List (S57)) (w : World) (hs0_1 : Kd.F Kd.string w P_ A0_1 l0_1.length l0_1) (hc0_1 : l0_1.length ≤ c0_1) (h : toponymref26_Attribute.f k a0_0 l0_1 = some (r1, r2, r3, r4, r5)) :
  Calls Try.prog 69 #[.agg #[.string a0_0, .slice A0_1 l0_1.length c0_1]] w (fun e w' => ∃ (A4_ : Option Addr) (c4_ : Nat), e = .returned (.agg #[.int .i64 r1, .bool r2, .int .i64 r3, .string r4, .slice A4_ r5.length c4_]) ∧ r5.length ≤ c4_ ∧ Kd.F k57 w' (fun k_ => P_ k_ ∨ w.heap.size ≤ k_) A4_ r5.length r5 ∧ Below w.heap.size w w') := by
 unfold toponymref26_Attribute.f at h
 have HH := za h
 clear h
 have HF0_1 := zfp hs0_1
 have HL0_1 := za hc0_1
 clear hs0_1 hc0_1
 have HB := za (Below.refl w.heap.size w)
 have hu46 := Try.underlying46
 have hu57 := Try.underlying57
 go_enter Try.func69, Try.ntmps69
 go_wp2_with ((with_reducible refine gd 1 rfl ?_); refine zb 1 46 #[.string a0_0, .slice A0_1 l0_1.length c0_1] (h := ?_); intro g1 hg w2 BKg1 hb)
 refine zg ?_
 replace HF0_1 := zfe HF0_1.out hg hb
 replace HB := zhb HB.out hb
 clear hg hb
 obtain ⟨j3, j4⟩ := MB.lz2 BKg1.out
 go_wp2_with ((with_reducible refine gd 2 rfl ?_); refine zb 2 57 #[.int .i64 0, .bool false, .int .i64 0, .string (⟨#[]⟩ : ByteArray), .slice none 0 0] (h := ?_); intro g5 hg w6 BKg5 hb)
 refine zg ?_
 have GEg5 := zge hg (below_size HB.out)
 have NEg1_g5 := znq hg BKg1.out
 replace HF0_1 := zfe HF0_1.out hg hb
 replace BKg1 := zbb BKg1.out hb
 replace HB := zhb HB.out hb
 clear hg hb
 clear j3 j4
 obtain ⟨j7, j8⟩ := MB.lz2 BKg1.out
 obtain ⟨j9, ja, jb, jc, jd⟩ := MB.lz5 BKg5.out
 go_wp2
 have hwr_ : ∀ n_ : Int, IntKind.i64.wrap n_ = wrap64 n_ := fun n_ => IntWalk.i64_left n_
 refine wp_region_any (by kernel_rfl) ?_
 change wpAny _ _ _ _ 9 #[false, false, false, false, false, false, false, false, false] _ w6.drew
 obtain ⟨w14, hw_⟩ : ∃ w_ : World, w_ = w6.drew := ⟨_, rfl⟩
 rw [← hw_]
 have hb : Below w6.heap.size w6 w14 := by rw [hw_]; exact below_drew1 (Below.refl _ _)
 clear hw_
 replace HF0_1 := zfb HF0_1.out hb
 replace BKg1 := zbb BKg1.out hb
 replace BKg5 := zbb BKg5.out hb
 replace HB := zhb HB.out hb
 clear hb
 clear j7 j8 j9 ja jb jc jd
 obtain ⟨jf, jg⟩ := MB.lz2 BKg1.out
 obtain ⟨jh, ji, jj, jk, jl⟩ := MB.lz5 BKg5.out
 refine MW.last_in (ds := [5, 6, 7, 8]) (zk jf (zk jg z0)) ?_
 refine zlp 0 (.pointer (some ⟨g1, 0, none⟩)) #[_, _, _, _, _, _, _, _, _] ⟨[_, _, _, _, _, _, _, _, _, _, _].toArray, []⟩ (h := ?_)
 refine zlp 3 (.pointer (some ⟨g1, 1, none⟩)) #[_, _, _, _, _, _, _, _, _] ⟨[_, _, _, _, _, _, _, _, _, _, _].toArray, []⟩ (h := ?_)
 refine MW.last_take (i := 1) (v := .string a0_0) (listed' := #[_, _, _, _, _, _, _, _, _]) (a' := ⟨[_, _, _, _, _, _, _, _, _, _, _].toArray, []⟩) rfl (by kernel_rfl) (by kernel_rfl) (by kernel_rfl) (by kernel_rfl) (by kernel_rfl) (fun _ _ _ h_ => h_) (by kernel_rfl) (fun w_ hS_ => ?go) (zk jf (zk jg z0)) rfl rfl ?_
 case go => obtain ⟨hs0_, _, _⟩ := hS_; first | (go_simp; done) | (go_simp; rfl)
 refine MW.last_take (i := 4) (v := .slice A0_1 l0_1.length c0_1) (listed' := #[_, _, _, _, _, _, _, _, _]) (a' := ⟨[_, _, _, _, _, _, _, _, _, _, _].toArray, []⟩) rfl (by kernel_rfl) (by kernel_rfl) (by kernel_rfl) (by kernel_rfl) (by kernel_rfl) (fun _ _ _ h_ => h_) (by kernel_rfl) (fun w_ hS_ => ?go) (zk jf (zk jg z0)) rfl rfl ?_
 case go => obtain ⟨_, hs1_, _⟩ := hS_; first | (go_simp; done) | (go_simp; rfl)
 refine MW.last_act (i := 2) (listed' := #[true, true, true, true, true, false, false, false, false]) rfl (by kernel_rfl) (by kernel_rfl) (by decide) ?_
 replace HH := zd HH
 obtain ⟨⟨t22, t23, t24, t25, t26⟩, At27, HH⟩ := HH
 dsimp only at HH
 go_wp2_with ((with_reducible refine gc 71 rfl ?_); refine zc 71 (some 5) Try.func71 #[.string a0_0] (h := ?_); (with_reducible refine (toponymref26_T.calls  a0_0 t22 t23 t24 t25 t26 _  At27.out).mono ?_); rintro e w28 ⟨v29, rfl, hn29, hb⟩; refine ⟨_, rfl, ?_⟩)
 refine zg ?_
 have hba := Kd.N_base hn29
 have HN29 := znl (ok2 := (fun k_ => ((P_ k_ ∨ w.heap.size ≤ k_) ∧ k_ ≠ g1) ∧ k_ ≠ g5)) hn29 (below_size HB.out) (fun k_ h_ => ⟨⟨.inr (Nat.le_trans (below_size HB.out) h_), Kd.freshB (g := g1) BKg1.out k_ h_⟩, Kd.freshB (g := g5) BKg5.out k_ h_⟩)
 replace HF0_1 := zfr (v := v29) HF0_1.out hba hb
 replace BKg1 := zbb BKg1.out hb
 replace BKg5 := zbb BKg5.out hb
 replace HB := zhb HB.out hb
 clear hn29 hba hb
 clear jf jg jh ji jj jk jl
 obtain ⟨ju, jv⟩ := MB.lz2 BKg1.out
 obtain ⟨jw, jx, jy, jz, jA⟩ := MB.lz5 BKg5.out
 refine wpList_nil ?_
 change MW.Cells _ _ ∧ wpAnyLast _ _ _ _ _ _ 4 #[true, true, true, true, true, false, false, false, false] ⟨[_, _, _, _, _, _, _, _, _, _, _].toArray, []⟩ _
 refine ⟨(zk ju (zk jv z0)), ?_⟩
 refine MW.last_fin (i := 5) (listed' := #[true, true, true, true, true, true, false, false, false]) rfl (by kernel_rfl) (by kernel_rfl) (by kernel_rfl) ?_
 replace HH := zd HH
 obtain ⟨⟨t37, t38, t39, t40, t41⟩, At42, HH⟩ := HH
 dsimp only at HH
 go_wp2_with ((with_reducible refine gc 97 rfl ?_); refine zc 97 (some 8) Try.func97 #[.int .i64 17, .slice A0_1 l0_1.length c0_1] (h := ?_); (with_reducible refine (toponymref26_Row.calls k (fun k_ => (((P_ k_ ∨ w.heap.size ≤ k_) ∧ some k_ ≠ (v29 : Value).ownBlock) ∧ k_ ≠ g1) ∧ k_ ≠ g5) 17 _ _ l0_1 t37 t38 t39 t40 t41 _ (Kd.F_mono (ok := (fun k_ => (((P_ k_ ∨ w.heap.size ≤ k_) ∧ k_ ≠ g1) ∧ k_ ≠ g5) ∧ some k_ ≠ (v29 : Value).ownBlock)) HF0_1.out (fun k_ hk_ => ⟨⟨⟨hk_.1.1.1, hk_.2⟩, hk_.1.1.2⟩, hk_.1.2⟩)) HL0_1.out At42.out).mono ?_); rintro e w43 ⟨A44, cp44, rfl, hl44, hn44, hb⟩; refine ⟨_, rfl, ?_⟩)
 refine zg ?_
 have HL44 := za hl44
 have HF44 := za (Kd.F_mono hn44 (fun k_ hk_ => hk_.elim (fun h_ => h_) (fun h_ => ⟨⟨⟨.inr (Nat.le_trans (below_size HB.out) h_), Kd.fresh' (Kd.N_lt HN29.out) k_ h_⟩, Kd.freshB (g := g1) BKg1.out k_ h_⟩, Kd.freshB (g := g5) BKg5.out k_ h_⟩)) : Kd.F k57 _ (fun k_ => (((P_ k_ ∨ w.heap.size ≤ k_) ∧ some k_ ≠ (v29 : Value).ownBlock) ∧ k_ ≠ g1) ∧ k_ ≠ g5) _ _ _)
 clear hn44 hl44
 replace HN29 := znb HN29.out hb
 replace BKg1 := zbb BKg1.out hb
 replace BKg5 := zbb BKg5.out hb
 replace HB := zhb HB.out hb
 clear hb
 clear ju jv jw jx jy jz jA
 obtain ⟨jJ, jK⟩ := MB.lz2 BKg1.out
 obtain ⟨jL, jM, jN, jO, jP⟩ := MB.lz5 BKg5.out
 refine wpList_nil ?_
 change wpAnyLast _ _ _ _ _ _ 3 #[true, true, true, true, true, true, false, false, false] ⟨[_, _, _, _, _, _, _, _, _, _, _].toArray, []⟩ _
 refine MW.last_fin (i := 6) (listed' := #[true, true, true, true, true, true, true, false, false]) rfl (by kernel_rfl) (by kernel_rfl) (by kernel_rfl) ?_
 obtain ⟨A52, cp53, he_⟩ := Kd.N_slice HN29.out
 subst he_
 have HL55 := za (Kd.N_reads' HN29.out).2.1
 have HF54 := za (Kd.N_F HN29.out)
 clear HN29
 replace HF44 := za (Kd.F_mono (ok := (fun k_ => (((P_ k_ ∨ w.heap.size ≤ k_) ∧ some k_ ≠ ((.slice A52 t26.length cp53) : Value).ownBlock) ∧ k_ ≠ g1) ∧ k_ ≠ g5)) HF44.out (fun k_ hk_ => ⟨⟨hk_.1.1.1, hk_.1.2⟩, hk_.2⟩) : Kd.F k57 _ (fun k_ => ((P_ k_ ∨ w.heap.size ≤ k_) ∧ k_ ≠ g1) ∧ k_ ≠ g5) _ _ _)
 go_wp2_with (((with_reducible refine gate_dst (N := 9) rfl ?_); (try (refine gate_guard (by rfl) ?_; dsimp only)); refine Kd.N_lit k57 w.heap.size 57 rfl (N' := 9) rfl (xs := [(⟨t22, t23, t24, t25, t26⟩ : S57), (⟨t37, t38, t39, t40, t41⟩ : S57)]) (inner := [.int .i64 t22, .bool t23, .int .i64 t24, .string t25, .slice A52 t26.length cp53, .int .i64 t37, .bool t38, .int .i64 t39, .string t40, .slice A44 t41.length cp44]) (ok := (fun k_ => ((P_ k_ ∨ w.heap.size ≤ k_) ∧ k_ ≠ g1) ∧ k_ ≠ g5)) (okp := (fun k_ => ((P_ k_ ∨ w.heap.size ≤ k_) ∧ k_ ≠ g1) ∧ k_ ≠ g5)) ?hr ?hp (fun _ hk_ => hk_) ?hf HB.out (below_size HB.out) (by first | simp | decide) ?_; (case hr => first | (go_simp; done) | (go_simp; rfl)); (case hp => exact (Reps.c5 (k57_mkF _ _ (⟨t22, t23, t24, t25, t26⟩ : S57) HL55.out (Kd.F_mono (ok := (fun k_ => ((P_ k_ ∨ w.heap.size ≤ k_) ∧ k_ ≠ g1) ∧ k_ ≠ g5)) HF54.out (fun k_ hk_ => hk_))) (Reps.c5 (k57_mkF _ _ (⟨t37, t38, t39, t40, t41⟩ : S57) HL44.out (Kd.F_mono (ok := (fun k_ => ((P_ k_ ∨ w.heap.size ≤ k_) ∧ k_ ≠ g1) ∧ k_ ≠ g5)) HF44.out (fun k_ hk_ => hk_))) (Reps.none _ _)))); (case hf => exact (show ∀ k_, w43.heap.size ≤ k_ → (fun k_ => ((P_ k_ ∨ w.heap.size ≤ k_) ∧ k_ ≠ g1) ∧ k_ ≠ g5) k_ from fun k_ h_ => ⟨⟨.inr (Nat.le_trans (below_size HB.out) h_), Kd.freshB (g := g1) BKg1.out k_ h_⟩, Kd.freshB (g := g5) BKg5.out k_ h_⟩) _ (Nat.le_refl _)); intro v56 w57 hn1 hb1 hg1 hat1); replace hat1 := za hat1; refine stop_ ?_)
 refine zg ?_
 replace hat1 := hat1.out
 have hbe := MW.grown_below hg1
 have hba := MW.base_of hat1
 replace BKg1 := za (blk_below (g := g1) BKg1.out hbe)
 replace BKg5 := za (blk_below (g := g5) BKg5.out hbe)
 replace HB := za hb1
 have HN58 := za hn1
 clear hn1 hb1 hg1 hat1 hbe hba
 clear jJ jK jL jM jN jO jP
 obtain ⟨jX, jY⟩ := MB.lz2 BKg1.out
 obtain ⟨jZ, j10, j11, j12, j13⟩ := MB.lz5 BKg5.out
 refine wpList_nil ?_
 change wpAnyLast _ _ _ _ _ _ 2 #[true, true, true, true, true, true, true, false, false] ⟨[_, _, _, _, _, _, _, _, _, _, _].toArray, []⟩ _
 refine MW.last_fin (i := 7) (listed' := #[true, true, true, true, true, true, true, true, false]) rfl (by kernel_rfl) (by kernel_rfl) (by kernel_rfl) ?_
 obtain ⟨A66, cp67, he_⟩ := Kd.N_slice HN58.out
 subst he_
 have HL69 := za (Kd.N_reads' HN58.out).2.1
 have HF68 := za (Kd.N_F HN58.out)
 clear HN58
 replace HH := zd HH
 obtain ⟨⟨t70, t71, t72, t73, t74⟩, At75, HH⟩ := HH
 dsimp only at HH
 go_wp2_with ((with_reducible refine gc 70 rfl ?_); refine zc 70 (some 10) Try.func70 #[.int .i64 0, .int .i64 16, .slice A66 [(⟨t22, t23, t24, t25, t26⟩ : S57), (⟨t37, t38, t39, t40, t41⟩ : S57)].length cp67] (h := ?_); (with_reducible refine (toponymref26_G.calls (fun k_ => ((P_ k_ ∨ w.heap.size ≤ k_) ∧ k_ ≠ g1) ∧ k_ ≠ g5) 0 16 _ _ [(⟨t22, t23, t24, t25, t26⟩ : S57), (⟨t37, t38, t39, t40, t41⟩ : S57)] t70 t71 t72 t73 t74 _ (Kd.F_mono (ok := (fun k_ => ((P_ k_ ∨ w.heap.size ≤ k_) ∧ k_ ≠ g1) ∧ k_ ≠ g5)) HF68.out (fun k_ hk_ => hk_)) HL69.out At75.out).mono ?_); rintro e w76 ⟨A77, cp77, rfl, hl77, hn77, hb⟩; refine ⟨_, rfl, ?_⟩)
 refine zg ?_
 have HL77 := za hl77
 have HF77 := za (Kd.F_mono hn77 (fun k_ hk_ => hk_.elim (fun h_ => h_) (fun h_ => ⟨⟨.inr (Nat.le_trans (below_size HB.out) h_), Kd.freshB (g := g1) BKg1.out k_ h_⟩, Kd.freshB (g := g5) BKg5.out k_ h_⟩)) : Kd.F k57 _ (fun k_ => ((P_ k_ ∨ w.heap.size ≤ k_) ∧ k_ ≠ g1) ∧ k_ ≠ g5) _ _ _)
 clear hn77 hl77
 replace BKg1 := zbb BKg1.out hb
 replace BKg5 := zbb BKg5.out hb
 replace HB := zhb HB.out hb
 clear hb
 clear jX jY jZ j10 j11 j12 j13
 obtain ⟨j1g, j1h⟩ := MB.lz2 BKg1.out
 obtain ⟨j1i, j1j, j1k, j1l, j1m⟩ := MB.lz5 BKg5.out
 refine wpList_nil ?_
 change wpAnyLast _ _ _ _ _ _ 1 #[true, true, true, true, true, true, true, true, false] ⟨[_, _, _, _, _, _, _, _, _, _, _].toArray, []⟩ _
 refine MW.last_fin (i := 8) (listed' := #[true, true, true, true, true, true, true, true, true]) rfl (by kernel_rfl) (by kernel_rfl) (by kernel_rfl) ?_
 go_wp2_with ((with_reducible refine gs 57 2 rfl ?_); refine zs 57 2 #[.int .i64 t70, .bool t71, .int .i64 t72, .string t73, .slice A77 t74.length cp77] BKg5.out [.int .i64 t70, .bool t71, .int .i64 t72, .string t73, .slice A77 t74.length cp77] (h := ?_); intro w85 hbk hg)
 refine zg ?_
 replace HF77 := zfg HF77.out hg fun k_ hk_ => hk_.2
 replace BKg1 := zbg BKg1.out hg NEg1_g5
 replace HB := zhg HB.out hg (below_size HB.out) GEg5
 replace BKg5 := hbk
 clear hg hbk
 clear j1g j1h j1i j1j j1k j1l j1m
 obtain ⟨j1o, j1p⟩ := MB.lz2 BKg1.out
 obtain ⟨j1q, j1r, j1s, j1t, j1u⟩ := MB.lz5 BKg5.out
 refine wpList_nil ?_
 refine ⟨(by kernel_rfl), ?_⟩
 clear hwr_
 have H := HH.out
 simp only [Option.some.injEq, Prod.mk.injEq] at H
 obtain ⟨rfl, rfl, rfl, rfl, rfl⟩ := H
 clear HH
 go_wp2
 refine bodyPost_ret (MW.results_c rfl _ _ g5 57 #[.int .i64 t70, .bool t71, .int .i64 t72, .string t73, .slice A77 t74.length cp77] (0, 0) _ rfl BKg5.out Try.underlying57 rfl (by kernel_rfl)) rfl ?_
 exact ⟨_, _, by first | rfl | (simp; done) | (simp [*]; done), HL77.out, (Kd.F_mono (ok := (fun k_ => ((P_ k_ ∨ w.heap.size ≤ k_) ∧ k_ ≠ g1) ∧ k_ ≠ g5)) HF77.out (fun k_ hk_ => hk_.1.1)), HB.out⟩

mutual
def toponymref16_digits.l0 : Nat → Int → Int → Int → Int → Option (ByteArray × Bool)
 | 0, _, _, _, _ => none
 | k + 1, x1, x2, a0, a1 => if x2 < a1 then ((toponymref16_digits.l0 k (wrap64 (x1 * 256)) (wrap64 (x2 + 1)) a0 a1)) else (if a0 < (wrap64 (-x1)) then (some ((⟨#[]⟩ : ByteArray), false)) else (if a0 ≥ x1 then (some ((⟨#[]⟩ : ByteArray), false)) else (if a0 < 0 then ((toponymref16_digits.l1 k (wrap64 (a0 + (wrap64 (2 * x1)))) (⟨#[]⟩ : ByteArray) 0 a1)) else ((toponymref16_digits.l2 k a0 (⟨#[]⟩ : ByteArray) 0 a1)))))
def toponymref16_digits.l1 : Nat → Int → ByteArray → Int → Int → Option (ByteArray × Bool)
 | 0, _, _, _, _ => none
 | k + 1, x21, x22, x23, a1 => if x23 < a1 then (if (strOfNums ([(Int.tmod x21 256) % 256] : List Int)).size + x22.size ≤ 9223372036854775807 then ((toponymref16_digits.l1 k (wrap64 (Int.tdiv x21 256)) ((strOfNums ([(Int.tmod x21 256) % 256] : List Int)) ++ x22) (wrap64 (x23 + 1)) a1)) else (none)) else (some (x22, true))
def toponymref16_digits.l2 : Nat → Int → ByteArray → Int → Int → Option (ByteArray × Bool)
 | 0, _, _, _, _ => none
 | k + 1, x46, x47, x48, a1 => if x48 < a1 then (if (strOfNums ([(Int.tmod x46 256) % 256] : List Int)).size + x47.size ≤ 9223372036854775807 then ((toponymref16_digits.l2 k (wrap64 (Int.tdiv x46 256)) ((strOfNums ([(Int.tmod x46 256) % 256] : List Int)) ++ x47) (wrap64 (x48 + 1)) a1)) else (none)) else (some (x47, true))
end
def toponymref16_digits.f (k : Nat) (a0 : Int) (a1 : Int) : Option (ByteArray × Bool) := (toponymref16_digits.l0 k 128 1 a0 a1)
theorem toponymref16_digits.mono_l : ∀ k, (∀ y0 y1 y2 y3, LeO (toponymref16_digits.l0 k y0 y1 y2 y3) (toponymref16_digits.l0 (k + 1) y0 y1 y2 y3)) ∧ (∀ y0 y1 y2 y3, LeO (toponymref16_digits.l1 k y0 y1 y2 y3) (toponymref16_digits.l1 (k + 1) y0 y1 y2 y3)) ∧ (∀ y0 y1 y2 y3, LeO (toponymref16_digits.l2 k y0 y1 y2 y3) (toponymref16_digits.l2 (k + 1) y0 y1 y2 y3))
 | 0 => ⟨fun _ _ _ _ r h => by simp [toponymref16_digits.l0] at h, fun _ _ _ _ r h => by simp [toponymref16_digits.l1] at h, fun _ _ _ _ r h => by simp [toponymref16_digits.l2] at h⟩
 | k + 1 => by
  obtain ⟨ih0, ih1, ih2⟩ := toponymref16_digits.mono_l k
  refine ⟨?_, ?_, ?_⟩
  ·intro y0 y1 y2 y3
   unfold toponymref16_digits.l0
   with_reducible repeat' first | exact ih0 _ _ _ _ | exact ih1 _ _ _ _ | exact ih2 _ _ _ _ | exact LeO.refl _ | exact LeO.none _ | refine LeO.ite ?_ ?_ | refine LeO.bind ?_ (fun _ => ?_)
  ·intro y0 y1 y2 y3
   unfold toponymref16_digits.l1
   with_reducible repeat' first | exact ih0 _ _ _ _ | exact ih1 _ _ _ _ | exact ih2 _ _ _ _ | exact LeO.refl _ | exact LeO.none _ | refine LeO.ite ?_ ?_ | refine LeO.bind ?_ (fun _ => ?_)
  intro y0 y1 y2 y3
  unfold toponymref16_digits.l2
  with_reducible repeat' first | exact ih0 _ _ _ _ | exact ih1 _ _ _ _ | exact ih2 _ _ _ _ | exact LeO.refl _ | exact LeO.none _ | refine LeO.ite ?_ ?_ | refine LeO.bind ?_ (fun _ => ?_)
theorem toponymref16_digits.mono : ∀ a0_ a1_ k, LeO (toponymref16_digits.f k a0_ a1_) (toponymref16_digits.f (k + 1) a0_ a1_) := by
 intro a0_ a1_ k
 obtain ⟨ih0, ih1, ih2⟩ := toponymref16_digits.mono_l k
 unfold toponymref16_digits.f
 with_reducible repeat' first | exact ih0 _ _ _ _ | exact ih1 _ _ _ _ | exact ih2 _ _ _ _ | exact LeO.refl _ | exact LeO.none _ | refine LeO.ite ?_ ?_ | refine LeO.bind ?_ (fun _ => ?_)
theorem toponymref16_digits.calls (k : Nat) (a0 : Int) (a1 : Int) (r1 : ByteArray) (r2 : Bool) (w : World) (h : toponymref16_digits.f k a0 a1 = some (r1, r2)) :
  Calls Try.prog 83 #[.int .i64 a0, .int .i64 a1] w (fun e w' => e = .returned (.tuple #[.string r1, .bool r2]) ∧ Below w.heap.size w w') := by
 unfold toponymref16_digits.f at h
 have HH := za h
 clear h
 have HB := za (Below.refl w.heap.size w)
 go_enter Try.func83, Try.ntmps83
 go_wp2
 go_loopg [6, 7] k (fun kq u6 u7 w' => ∃ (x1 : Int) (x2 : Int), u6 = .int .i64 x1 ∧ u7 = .int .i64 x2 ∧ Aside0 ((toponymref16_digits.l0 kq x1 x2 a0 a1) = some (r1, r2)) ∧ Aside0 (kq ≤ k) ∧ Aside0 (Below w.heap.size w w'))
 case atStart => exact ⟨128, 1, (by first | rfl | (simp; done) | (simp [*]; done)), (by first | rfl | (simp; done) | (simp [*]; done)), HH, ⟨Nat.le_refl _⟩, ⟨HB.out⟩⟩
 case round =>
  clear HH
  clear HB
  obtain ⟨x1, x2, rfl, rfl, HA, HK0, HB⟩ := hrel
  obtain ⟨w4, rfl⟩ : ∃ wo_ : World, wo_ = wr := ⟨_, rfl⟩
  cases gk with
  | zero => exact absurd HA.out (by simp [toponymref16_digits.l0])
  | succ k3 =>
   have H := HA.out
   clear HA
   simp only [toponymref16_digits.l0] at H
   have HH := za H
   clear H
   replace HH := zqt HH
   rcases HH with ⟨HH, hk6, hk7⟩ | ⟨HH, hk8, hk9⟩
   ·go_wp2
    go_roundg k3
    case measure => have := HK0.out; omega
    case rel => exact ⟨wrap64 (x1 * 256), wrap64 (x2 + 1), (by first | rfl | (simp; done) | (simp [*]; done)), (by first | rfl | (simp; done) | (simp [*]; done)), HH, ⟨by have := HK0.out; omega⟩, ⟨HB.out⟩⟩
   replace HH := zqt HH
   rcases HH with ⟨HH, hk11, hk12⟩ | ⟨HH, hk13, hk14⟩
   ·have H := HH.out
    simp only [Option.some.injEq, Prod.mk.injEq] at H
    obtain ⟨rfl, rfl⟩ := H
    clear HH
    go_wp2
    go_ret2
    exact zfi HB.out
   replace HH := zqG HH
   rcases HH with ⟨HH, hk16⟩ | ⟨HH, hk17⟩
   ·have H := HH.out
    simp only [Option.some.injEq, Prod.mk.injEq] at H
    obtain ⟨rfl, rfl⟩ := H
    clear HH
    go_wp2
    go_ret2
    exact zfi HB.out
   replace HH := zqt HH
   rcases HH with ⟨HH, hk19, hk20⟩ | ⟨HH, hk44, hk45⟩
   ·go_wp2
    go_loopg [0, 8, 9] k3 (fun kq u0 u8 u9 w' => ∃ (x21 : Int) (x22 : ByteArray) (x23 : Int), u0 = .int .i64 x21 ∧ u8 = .string x22 ∧ u9 = .int .i64 x23 ∧ Aside0 ((toponymref16_digits.l1 kq x21 x22 x23 a1) = some (r1, r2)) ∧ Aside0 (kq ≤ k3) ∧ Aside0 (Below w.heap.size w w'))
    case atStart => exact ⟨wrap64 (a0 + (wrap64 (2 * x1))), (⟨#[]⟩ : ByteArray), 0, (by first | rfl | (simp; done) | (simp [*]; done)), (by first | rfl | (simp; done) | (simp [*]; done)), (by first | rfl | (simp; done) | (simp [*]; done)), HH, ⟨Nat.le_refl _⟩, ⟨HB.out⟩⟩
    case round =>
     clear hk8
     clear hk9
     clear hk13
     clear hk14
     clear hk17
     clear hk19
     clear hk20
     clear HH
     clear HB
     obtain ⟨x21, x22, x23, rfl, rfl, rfl, HA, HK1, HB⟩ := hrel
     obtain ⟨w25, rfl⟩ : ∃ wo_ : World, wo_ = wr := ⟨_, rfl⟩
     cases gk with
     | zero => exact absurd HA.out (by simp [toponymref16_digits.l1])
     | succ k24 =>
      have H := HA.out
      clear HA
      simp only [toponymref16_digits.l1] at H
      have HH := za H
      clear H
      replace HH := zqt HH
      rcases HH with ⟨HH, hk27, hk28⟩ | ⟨HH, hk42, hk43⟩
      ·go_wp2_with (((with_reducible refine gate_dst (N := 40) rfl ?_); (try (refine gate_guard (by rfl) ?_; dsimp only)); refine Kd.N_lit (Kd.int .u8) w.heap.size 5 rfl (N' := 40) rfl (xs := ([(Int.tmod x21 256) % 256] : List Int)) (inner := [.int .u8 ((Int.tmod x21 256) % 256)]) (ok := (fun k_ => (w.heap.size ≤ k_))) (okp := (fun k_ => (w.heap.size ≤ k_))) ?hr ?hp (fun _ hk_ => hk_) ?hf HB.out (below_size HB.out) (by first | simp | decide) ?_; (case hr => first | (go_simp; done) | (go_simp; rfl)); (case hp => exact (Reps.one (fun _ _ => rfl) (Reps.none _ _))); (case hf => exact (show ∀ k_, w25.heap.size ≤ k_ → (fun k_ => (w.heap.size ≤ k_)) k_ from fun k_ h_ => (Nat.le_trans (below_size HB.out) h_)) _ (Nat.le_refl _)); intro v29 w30 hn1 hb1 hg1 hat1); replace hat1 := za hat1; refine stop_ ?_)
       refine zg ?_
       replace hat1 := hat1.out
       have hbe := MW.grown_below hg1
       have hba := MW.base_of hat1
       replace HB := za hb1
       have HN31 := za hn1
       clear hn1 hb1 hg1 hat1 hbe hba
       obtain ⟨A32, cp33, he_⟩ := Kd.N_slice HN31.out
       subst he_
       have HF34 := za (Kd.N_F HN31.out)
       clear HN31
       have hcv36 := Kd.C_string (P := Try.prog) (A := A32) (c := cp33) Try.underlying95 Try.underlying5 Try.underlying9 (Kd.F_now HF34.out)
       (try simp only [List.length_cons, List.length_nil, Nat.reduceAdd] at hcv36)
       by_cases c37 : (strOfNums ([(Int.tmod x21 256) % 256] : List Int)).size + x22.size ≤ 9223372036854775807
       ·replace HH := MW.hpos HH c37
        have hk38 : (9223372036854775807 < (strOfNums ([(Int.tmod x21 256) % 256] : List Int)).size + x22.size) = False := eq_false (Nat.not_lt.2 c37)
        have hk39 : ((strOfNums ([(Int.tmod x21 256) % 256] : List Int)).size + x22.size ≤ 9223372036854775807) = True := eq_true c37
        have hk40 : decide ((strOfNums ([(Int.tmod x21 256) % 256] : List Int)).size + x22.size ≤ 9223372036854775807) = true := decide_eq_true c37
        clear c37
        go_wp2
        go_roundg k24
        case measure => have := HK0.out; have := HK1.out; omega
        case rel => exact ⟨wrap64 (Int.tdiv x21 256), (strOfNums ([(Int.tmod x21 256) % 256] : List Int)) ++ x22, wrap64 (x23 + 1), (by first | rfl | (simp; done) | (simp [*]; done)), (by first | rfl | (simp; done) | (simp [*]; done)), (by first | rfl | (simp; done) | (simp [*]; done)), HH, ⟨by have := HK0.out; have := HK1.out; omega⟩, ⟨HB.out⟩⟩
       exact absurd HH.out (by rw [if_neg c37]; simp)
      have H := HH.out
      simp only [Option.some.injEq, Prod.mk.injEq] at H
      obtain ⟨rfl, rfl⟩ := H
      clear HH
      go_wp2
      go_ret2
      exact zfi HB.out
   go_wp2
   go_loopg [0, 8, 9] k3 (fun kq u0 u8 u9 w' => ∃ (x46 : Int) (x47 : ByteArray) (x48 : Int), u0 = .int .i64 x46 ∧ u8 = .string x47 ∧ u9 = .int .i64 x48 ∧ Aside0 ((toponymref16_digits.l2 kq x46 x47 x48 a1) = some (r1, r2)) ∧ Aside0 (kq ≤ k3) ∧ Aside0 (Below w.heap.size w w'))
   case atStart => exact ⟨a0, (⟨#[]⟩ : ByteArray), 0, (by first | rfl | (simp; done) | (simp [*]; done)), (by first | rfl | (simp; done) | (simp [*]; done)), (by first | rfl | (simp; done) | (simp [*]; done)), HH, ⟨Nat.le_refl _⟩, ⟨HB.out⟩⟩
   case round =>
    clear hk8
    clear hk9
    clear hk13
    clear hk14
    clear hk17
    clear hk44
    clear hk45
    clear HH
    clear HB
    obtain ⟨x46, x47, x48, rfl, rfl, rfl, HA, HK2, HB⟩ := hrel
    obtain ⟨w50, rfl⟩ : ∃ wo_ : World, wo_ = wr := ⟨_, rfl⟩
    cases gk with
    | zero => exact absurd HA.out (by simp [toponymref16_digits.l2])
    | succ k49 =>
     have H := HA.out
     clear HA
     simp only [toponymref16_digits.l2] at H
     have HH := za H
     clear H
     replace HH := zqt HH
     rcases HH with ⟨HH, hk52, hk53⟩ | ⟨HH, hk67, hk68⟩
     ·go_wp2_with (((with_reducible refine gate_dst (N := 40) rfl ?_); (try (refine gate_guard (by rfl) ?_; dsimp only)); refine Kd.N_lit (Kd.int .u8) w.heap.size 5 rfl (N' := 40) rfl (xs := ([(Int.tmod x46 256) % 256] : List Int)) (inner := [.int .u8 ((Int.tmod x46 256) % 256)]) (ok := (fun k_ => (w.heap.size ≤ k_))) (okp := (fun k_ => (w.heap.size ≤ k_))) ?hr ?hp (fun _ hk_ => hk_) ?hf HB.out (below_size HB.out) (by first | simp | decide) ?_; (case hr => first | (go_simp; done) | (go_simp; rfl)); (case hp => exact (Reps.one (fun _ _ => rfl) (Reps.none _ _))); (case hf => exact (show ∀ k_, w50.heap.size ≤ k_ → (fun k_ => (w.heap.size ≤ k_)) k_ from fun k_ h_ => (Nat.le_trans (below_size HB.out) h_)) _ (Nat.le_refl _)); intro v54 w55 hn1 hb1 hg1 hat1); replace hat1 := za hat1; refine stop_ ?_)
      refine zg ?_
      replace hat1 := hat1.out
      have hbe := MW.grown_below hg1
      have hba := MW.base_of hat1
      replace HB := za hb1
      have HN56 := za hn1
      clear hn1 hb1 hg1 hat1 hbe hba
      obtain ⟨A57, cp58, he_⟩ := Kd.N_slice HN56.out
      subst he_
      have HF59 := za (Kd.N_F HN56.out)
      clear HN56
      have hcv61 := Kd.C_string (P := Try.prog) (A := A57) (c := cp58) Try.underlying95 Try.underlying5 Try.underlying9 (Kd.F_now HF59.out)
      (try simp only [List.length_cons, List.length_nil, Nat.reduceAdd] at hcv61)
      by_cases c62 : (strOfNums ([(Int.tmod x46 256) % 256] : List Int)).size + x47.size ≤ 9223372036854775807
      ·replace HH := MW.hpos HH c62
       have hk63 : (9223372036854775807 < (strOfNums ([(Int.tmod x46 256) % 256] : List Int)).size + x47.size) = False := eq_false (Nat.not_lt.2 c62)
       have hk64 : ((strOfNums ([(Int.tmod x46 256) % 256] : List Int)).size + x47.size ≤ 9223372036854775807) = True := eq_true c62
       have hk65 : decide ((strOfNums ([(Int.tmod x46 256) % 256] : List Int)).size + x47.size ≤ 9223372036854775807) = true := decide_eq_true c62
       clear c62
       go_wp2
       go_roundg k49
       case measure => have := HK0.out; have := HK2.out; omega
       case rel => exact ⟨wrap64 (Int.tdiv x46 256), (strOfNums ([(Int.tmod x46 256) % 256] : List Int)) ++ x47, wrap64 (x48 + 1), (by first | rfl | (simp; done) | (simp [*]; done)), (by first | rfl | (simp; done) | (simp [*]; done)), (by first | rfl | (simp; done) | (simp [*]; done)), HH, ⟨by have := HK0.out; have := HK2.out; omega⟩, ⟨HB.out⟩⟩
      exact absurd HH.out (by rw [if_neg c62]; simp)
     have H := HH.out
     simp only [Option.some.injEq, Prod.mk.injEq] at H
     obtain ⟨rfl, rfl⟩ := H
     clear HH
     go_wp2
     go_ret2
     exact zfi HB.out

def toponymref16_Bytes.l0 : Nat → Int → Int → Option (ByteArray)
 | 0, _, _ => none
 | k + 1, x1, a0 => if x1 ≤ 4 then ((toponymref16_digits.f k a0 x1).bind fun bt6 => (if bt6.2 = true then (some bt6.1) else ((toponymref16_Bytes.l0 k (wrap64 (x1 + 1)) a0)))) else (some (⟨#[]⟩ : ByteArray))
def toponymref16_Bytes.f (k : Nat) (a0 : Int) : Option (ByteArray) := (toponymref16_Bytes.l0 k 1 a0)
theorem toponymref16_Bytes.mono_l : ∀ k, (∀ y0 y1, LeO (toponymref16_Bytes.l0 k y0 y1) (toponymref16_Bytes.l0 (k + 1) y0 y1))
 | 0 => fun _ _ r h => by simp [toponymref16_Bytes.l0] at h
 | k + 1 => by
  have ih0 := toponymref16_Bytes.mono_l k
  ·intro y0 y1
   unfold toponymref16_Bytes.l0
   with_reducible repeat' first | exact ih0 _ _ | exact toponymref16_digits.mono _ _ _ | exact LeO.refl _ | exact LeO.none _ | refine LeO.ite ?_ ?_ | refine LeO.bind ?_ (fun _ => ?_)
theorem toponymref16_Bytes.mono : ∀ a0_ k, LeO (toponymref16_Bytes.f k a0_) (toponymref16_Bytes.f (k + 1) a0_) := by
 intro a0_ k
 have ih0 := toponymref16_Bytes.mono_l k
 unfold toponymref16_Bytes.f
 with_reducible repeat' first | exact ih0 _ _ | exact toponymref16_digits.mono _ _ _ | exact LeO.refl _ | exact LeO.none _ | refine LeO.ite ?_ ?_ | refine LeO.bind ?_ (fun _ => ?_)
theorem toponymref16_Bytes.calls (k : Nat) (a0 : Int) (r : ByteArray) (w : World) (h : toponymref16_Bytes.f k a0 = some r) :
  Calls Try.prog 56 #[.int .i64 a0] w (fun e w' => e = .returned (.string r) ∧ Below w.heap.size w w') := by
 unfold toponymref16_Bytes.f at h
 have HH := za h
 clear h
 have HB := za (Below.refl w.heap.size w)
 go_enter Try.func56, Try.ntmps56
 go_wp2
 go_loopg [3] k (fun kq u3 w' => ∃ (x1 : Int), u3 = .int .i64 x1 ∧ Aside0 ((toponymref16_Bytes.l0 kq x1 a0) = some r) ∧ Aside0 (kq ≤ k) ∧ Aside0 (Below w.heap.size w w'))
 case atStart => exact ⟨1, (by first | rfl | (simp; done) | (simp [*]; done)), HH, ⟨Nat.le_refl _⟩, ⟨HB.out⟩⟩
 case round =>
  clear HH
  clear HB
  obtain ⟨x1, rfl, HA, HK0, HB⟩ := hrel
  obtain ⟨w3, rfl⟩ : ∃ wo_ : World, wo_ = wr := ⟨_, rfl⟩
  cases gk with
  | zero => exact absurd HA.out (by simp [toponymref16_Bytes.l0])
  | succ k2 =>
   have H := HA.out
   clear HA
   simp only [toponymref16_Bytes.l0] at H
   have HH := za H
   clear H
   replace HH := zqd HH
   rcases HH with ⟨HH, hk5⟩ | ⟨HH, hk11⟩
   ·replace HH := zd HH
    obtain ⟨⟨t6, t7⟩, At8, HH⟩ := HH
    dsimp only at HH
    go_wp2_with ((with_reducible refine gc 83 rfl ?_); refine zc 83 (some 13) Try.func83 #[.int .i64 a0, .int .i64 x1] (h := ?_); (with_reducible refine (toponymref16_digits.calls k2  a0 x1 t6 t7 _  At8.out).mono ?_); rintro e w9 ⟨rfl, hb⟩; refine ⟨_, rfl, ?_⟩)
    refine zg ?_
    replace HB := zhb HB.out hb
    clear hb
    by_cases c10 : t7 = true
    ·replace HH := MW.hpos HH c10
     subst c10
     obtain rfl := Option.some.inj HH.out
     clear HH
     go_wp2
     go_ret
     exact zfi HB.out
    replace HH := MW.hneg HH c10
    replace c10 := Bool.eq_false_iff.mpr c10
    subst c10
    go_wp2
    go_roundg k2
    case measure => have := HK0.out; omega
    case rel => exact ⟨wrap64 (x1 + 1), (by first | rfl | (simp; done) | (simp [*]; done)), HH, ⟨by have := HK0.out; omega⟩, ⟨HB.out⟩⟩
   obtain rfl := Option.some.inj HH.out
   clear HH
   go_wp2
   go_ret
   exact zfi HB.out

def toponymref26_I.f (k : Nat) (a0 : Int) (a1 : Int) : Option (Int × Bool × Int × ByteArray × (List (S57))) := (toponymref16_Bytes.f k a1).bind fun t8 => (some (0, false, a0, t8, ([] : List (S57))))
theorem toponymref26_I.mono : ∀ a0_ a1_ k, LeO (toponymref26_I.f k a0_ a1_) (toponymref26_I.f (k + 1) a0_ a1_) := by
 intro a0_ a1_ k
 unfold toponymref26_I.f
 with_reducible repeat' first | exact toponymref16_Bytes.mono _ _ | exact LeO.refl _ | exact LeO.none _ | refine LeO.ite ?_ ?_ | refine LeO.bind ?_ (fun _ => ?_)
theorem toponymref26_I.calls (k : Nat) (a0 : Int) (a1 : Int) (r1 : Int) (r2 : Bool) (r3 : Int) (r4 : ByteArray) (r5 : List (S57)) (w : World) (h : toponymref26_I.f k a0 a1 = some (r1, r2, r3, r4, r5)) :
  Calls Try.prog 72 #[.int .i64 a0, .int .i64 a1] w (fun e w' => ∃ v4_ : Value, e = .returned (.agg #[.int .i64 r1, .bool r2, .int .i64 r3, .string r4, v4_]) ∧ Kd.N k57 57 w' w.heap.size (fun k_ => w.heap.size ≤ k_) v4_ r5 ∧ Below w.heap.size w w') := by
 unfold toponymref26_I.f at h
 have HH := za h
 clear h
 have HB := za (Below.refl w.heap.size w)
 have hu57 := Try.underlying57
 go_enter Try.func72, Try.ntmps72
 go_wp2_with ((with_reducible refine gd 4 rfl ?_); refine zb 4 57 #[.int .i64 0, .bool false, .int .i64 0, .string (⟨#[]⟩ : ByteArray), .slice none 0 0] (h := ?_); intro g1 hg w2 BKg1 hb)
 refine zg ?_
 have GEg1 := zge hg (below_size HB.out)
 replace HB := zhb HB.out hb
 clear hg hb
 obtain ⟨j3, j4, j5, j6, j7⟩ := MB.lz5 BKg1.out
 replace HH := zd HH
 obtain ⟨t8, At9, HH⟩ := HH
 go_wp2_with ((with_reducible refine gc 56 rfl ?_); refine zc 56 (some 7) Try.func56 #[.int .i64 a1] (h := ?_); (with_reducible refine (toponymref16_Bytes.calls k  a1 t8 _  At9.out).mono ?_); rintro e w10 ⟨rfl, hb⟩; refine ⟨_, rfl, ?_⟩)
 refine zg ?_
 replace BKg1 := zbb BKg1.out hb
 replace HB := zhb HB.out hb
 clear hb
 clear j3 j4 j5 j6 j7
 obtain ⟨jb, jc, jd, je, jf⟩ := MB.lz5 BKg1.out
 go_wp2_with ((with_reducible refine gs 57 4 rfl ?_); refine zs 57 4 #[.int .i64 0, .bool false, .int .i64 a0, .string t8, .slice none 0 0] BKg1.out [.int .i64 0, .bool false, .int .i64 a0, .string t8, .slice none 0 0] (h := ?_); intro w16 hbk hg)
 refine zg ?_
 replace HB := zhg HB.out hg (below_size HB.out) GEg1
 replace BKg1 := hbk
 clear hg hbk
 clear jb jc jd je jf
 obtain ⟨jh, ji, jj, jk, jl⟩ := MB.lz5 BKg1.out
 have H := HH.out
 simp only [Option.some.injEq, Prod.mk.injEq] at H
 obtain ⟨rfl, rfl, rfl, rfl, rfl⟩ := H
 clear HH
 go_wp2
 refine bodyPost_ret (MW.results_c rfl _ _ g1 57 #[.int .i64 0, .bool false, .int .i64 a0, .string t8, .slice none 0 0] (0, 0) _ rfl BKg1.out Try.underlying57 rfl (by kernel_rfl)) rfl ?_
 exact ⟨_, by first | rfl | (simp; done) | (simp [*]; done), (Kd.N_nil _ _ _ _ _), HB.out⟩

def toponymref16_SameTexts.l0 : Nat → Int → (List ByteArray) → (List ByteArray) → Option (Bool)
 | 0, _, _, _ => none
 | k + 1, x5, l0, l1 => if x5 < (l0.length : Int) then (if 0 ≤ x5 then (if x5 < (l1.length : Int) then (if (rdOf ByteArray.empty l0 x5).toList = (rdOf ByteArray.empty l1 x5).toList then ((toponymref16_SameTexts.l0 k (wrap64 (x5 + 1)) l0 l1)) else (some false)) else (none)) else (none)) else (some true)
def toponymref16_SameTexts.f (k : Nat) (l0 : List ByteArray) (l1 : List ByteArray) : Option (Bool) := if (l0.length : Int) = (l1.length : Int) then ((toponymref16_SameTexts.l0 k 0 l0 l1)) else (some false)
theorem toponymref16_SameTexts.mono_l : ∀ k, (∀ y0 y1 y2, LeO (toponymref16_SameTexts.l0 k y0 y1 y2) (toponymref16_SameTexts.l0 (k + 1) y0 y1 y2))
 | 0 => fun _ _ _ r h => by simp [toponymref16_SameTexts.l0] at h
 | k + 1 => by
  have ih0 := toponymref16_SameTexts.mono_l k
  ·intro y0 y1 y2
   unfold toponymref16_SameTexts.l0
   with_reducible repeat' first | exact ih0 _ _ _ | exact LeO.refl _ | exact LeO.none _ | refine LeO.ite ?_ ?_ | refine LeO.bind ?_ (fun _ => ?_)
theorem toponymref16_SameTexts.mono : ∀ a0_ a1_ k, LeO (toponymref16_SameTexts.f k a0_ a1_) (toponymref16_SameTexts.f (k + 1) a0_ a1_) := by
 intro a0_ a1_ k
 have ih0 := toponymref16_SameTexts.mono_l k
 unfold toponymref16_SameTexts.f
 with_reducible repeat' first | exact ih0 _ _ _ | exact LeO.refl _ | exact LeO.none _ | refine LeO.ite ?_ ?_ | refine LeO.bind ?_ (fun _ => ?_)
theorem toponymref16_SameTexts.calls (k : Nat) (P_ : Nat → Prop) (A0 : Option Addr) (c0 : Nat) (l0 : List ByteArray) (A1 : Option Addr) (c1 : Nat) (l1 : List ByteArray) (r : Bool) (w : World) (hs0 : Kd.F Kd.string w P_ A0 l0.length l0) (hc0 : l0.length ≤ c0) (hs1 : Kd.F Kd.string w P_ A1 l1.length l1) (hc1 : l1.length ≤ c1) (h : toponymref16_SameTexts.f k l0 l1 = some r) :
  Calls Try.prog 14 #[.slice A0 l0.length c0, .slice A1 l1.length c1] w (fun e w' => e = .returned (.bool r) ∧ Drawn0 w w') := by
 unfold toponymref16_SameTexts.f at h
 have HH := za h
 clear h
 have HF0 := zfp hs0
 clear hs0 hc0
 have HF1 := zfp hs1
 clear hs1 hc1
 go_enter Try.func14, Try.ntmps14
 by_cases c1 : (l0.length : Int) = (l1.length : Int)
 ·replace HH := MW.hpos HH c1
  have hk2 : ((l0.length : Int) == (l1.length : Int)) = true := beq_iff_eq.mpr c1
  have hk3 : ((l0.length : Int) != (l1.length : Int)) = false := bne_eq_false_iff_eq.mpr c1
  have hk4 : (l0.length == l1.length) = true := by first | simpa using c1 | (simp at c1 ⊢; omega)
  clear c1
  go_wp2
  go_loopg [5] k (fun kq u5 w' => ∃ (x5 : Int), u5 = .int .i64 x5 ∧ Aside0 ((toponymref16_SameTexts.l0 kq x5 l0 l1) = some r) ∧ Aside0 (kq ≤ k) ∧ Drawn0 w w')
  case atStart => exact ⟨0, (by first | rfl | (simp; done) | (simp [*]; done)), HH, ⟨Nat.le_refl _⟩, by repeat (first | exact Drawn0.refl _ | apply Drawn0.step)⟩
  case round =>
   clear hk2
   clear hk3
   clear hk4
   clear HH
   obtain ⟨x5, rfl, HA, HK0, ⟨m0_, rfl⟩⟩ := hrel
   cases gk with
   | zero => exact absurd HA.out (by simp [toponymref16_SameTexts.l0])
   | succ k6 =>
    have H := HA.out
    clear HA
    simp only [toponymref16_SameTexts.l0] at H
    have HH := za H
    clear H
    replace HH := zqt HH
    rcases HH with ⟨HH, hk9, hk10⟩ | ⟨HH, hk26, hk27⟩
    ·replace HH := zqdo HH
     obtain ⟨HH, hk12⟩ := HH
     have p13 : 0 ≤ (x5 : Int) := of_decide_eq_true (by first | (with_reducible assumption) | assumption)
     have q13 : x5 < (l0.length : Int) := of_decide_eq_true (by first | (with_reducible assumption) | assumption)
     obtain ⟨ad13, e13, hx13_0⟩ := Kd.at_string (Kd.F_now HF0.out) x5 p13 q13
     cases e13
     replace p13 := eq_true p13
     replace q13 := eq_true q13
     replace HH := zqto HH
     obtain ⟨HH, hk15, hk16⟩ := HH
     have p17 : 0 ≤ (x5 : Int) := of_decide_eq_true (by first | (with_reducible assumption) | assumption)
     have q17 : x5 < (l1.length : Int) := of_decide_eq_true (by first | (with_reducible assumption) | assumption)
     obtain ⟨ad17, e17, hx17_0⟩ := Kd.at_string (Kd.F_now HF1.out) x5 p17 q17
     cases e17
     replace p17 := eq_true p17
     replace q17 := eq_true q17
     replace HH := zqe HH
     rcases HH with ⟨HH, hk19, hk20⟩ | ⟨HH, hk21, hk22⟩
     ·go_wp2
      go_quiet (fail)
      go_wp2
      go_roundg k6
      case measure => have := HK0.out; omega
      case rel => exact ⟨wrap64 (x5 + 1), (by first | rfl | (simp; done) | (simp [*]; done)), HH, ⟨by have := HK0.out; omega⟩, by repeat (first | exact Drawn0.refl _ | apply Drawn0.step)⟩
     obtain rfl := Option.some.inj HH.out
     clear HH
     go_wp2
     go_quiet (fail)
     go_wp2
     go_ret
     exact ⟨by first | rfl | (simp; done) | (simp [*]; done), by repeat (first | exact Drawn0.refl _ | apply Drawn0.step)⟩
    obtain rfl := Option.some.inj HH.out
    clear HH
    go_wp2
    go_ret
    exact ⟨by first | rfl | (simp; done) | (simp [*]; done), by repeat (first | exact Drawn0.refl _ | apply Drawn0.step)⟩
 replace HH := MW.hneg HH c1
 have hk28 : ((l0.length : Int) == (l1.length : Int)) = false := beq_eq_false_iff_ne.mpr c1
 have hk29 : ((l0.length : Int) != (l1.length : Int)) = true := bne_iff_ne.mpr c1
 have hk30 : (l0.length == l1.length) = false := by first | simpa using c1 | (simp at c1 ⊢; omega)
 clear c1
 obtain rfl := Option.some.inj HH.out
 clear HH
 go_wp2
 go_ret
 exact ⟨by first | rfl | (simp; done) | (simp [*]; done), by repeat (first | exact Drawn0.refl _ | apply Drawn0.step)⟩

def ber_sized.f (a0 : ByteArray) (a1 : Int) : Option (Int × Int × Int) := if a1 ≥ (a0.size : Int) then (some (0, 0, 150)) else (if 0 ≤ a1 then (if a1 < (a0.size : Int) then (if (wrap64 (bt a0 a1)) < 128 then (some (wrap64 (bt a0 a1), wrap64 (a1 + 1), 0)) else (if (wrap64 ((wrap64 (bt a0 a1)) - 128)) < 1 then (some (0, 0, 152)) else (if (wrap64 ((wrap64 (bt a0 a1)) - 128)) > 2 then (some (0, 0, 152)) else (if (wrap64 ((wrap64 (bt a0 a1)) - 128)) > (wrap64 ((a0.size : Int) - (wrap64 (a1 + 1)))) then (some (0, 0, 150)) else (if 0 ≤ (wrap64 (a1 + 1)) then (if (wrap64 (a1 + 1)) < (a0.size : Int) then (if (wrap64 ((wrap64 (bt a0 a1)) - 128)) = 2 then (if 0 ≤ (wrap64 ((wrap64 (a1 + 1)) + 1)) then (if (wrap64 ((wrap64 (a1 + 1)) + 1)) < (a0.size : Int) then ((ber_length.f (Go.bits .or .i64 (wrap64 ((wrap64 (bt a0 (wrap64 (a1 + 1)))) * 256)) (wrap64 (bt a0 (wrap64 ((wrap64 (a1 + 1)) + 1)))))).bind fun t41 => (if (t41.size : Int) = (wrap64 (1 + (wrap64 ((wrap64 (bt a0 a1)) - 128)))) then (some (Go.bits .or .i64 (wrap64 ((wrap64 (bt a0 (wrap64 (a1 + 1)))) * 256)) (wrap64 (bt a0 (wrap64 ((wrap64 (a1 + 1)) + 1)))), wrap64 ((wrap64 (a1 + 1)) + (wrap64 ((wrap64 (bt a0 a1)) - 128))), 0)) else (some (0, 0, 152)))) else (none)) else (none)) else ((ber_length.f (wrap64 (bt a0 (wrap64 (a1 + 1))))).bind fun t54 => (if (t54.size : Int) = (wrap64 (1 + (wrap64 ((wrap64 (bt a0 a1)) - 128)))) then (some (wrap64 (bt a0 (wrap64 (a1 + 1))), wrap64 ((wrap64 (a1 + 1)) + (wrap64 ((wrap64 (bt a0 a1)) - 128))), 0)) else (some (0, 0, 152))))) else (none)) else (none)))))) else (none)) else (none))
theorem ber_sized.calls (a0 : ByteArray) (a1 : Int) (r1 : Int) (r2 : Int) (r3 : Int) (w : World) (h : ber_sized.f a0 a1 = some (r1, r2, r3)) :
  Calls Try.prog 73 #[.string a0, .int .i64 a1] w (fun e w' => e = .returned (.tuple #[.int .i64 r1, .int .i64 r2, .int .i64 r3]) ∧ Below w.heap.size w w') := by
 unfold ber_sized.f at h
 have HH := za h
 clear h
 have HB := za (Below.refl w.heap.size w)
 go_enter Try.func73, Try.ntmps73
 replace HH := zqG HH
 rcases HH with ⟨HH, hk2⟩ | ⟨HH, hk3⟩
 ·have H := HH.out
  simp only [Option.some.injEq, Prod.mk.injEq] at H
  obtain ⟨rfl, rfl, rfl⟩ := H
  clear HH
  (try go_wp2)
  refine MW.scope_labs ?_
  go_wp2
  apply wp_goto
  refine MW.goto_labs (Eq.refl _) ?_
  go_wp2
  (try simp only [MW.backTo_ret, MW.labs_ret])
  go_ret3
  exact zfi HB.out
 replace HH := zqdo HH
 obtain ⟨HH, hk5⟩ := HH
 replace HH := zqto HH
 obtain ⟨HH, hk7, hk8⟩ := HH
 have p9 : 0 ≤ (a1 : Int) := of_decide_eq_true (by first | (with_reducible assumption) | assumption)
 have q9 : a1 < (a0.size : Int) := of_decide_eq_true (by first | (with_reducible assumption) | assumption)
 have hx9 := MW.bt_at' a0 a1
 replace p9 := eq_true p9
 replace q9 := eq_true q9
 replace HH := zqt HH
 rcases HH with ⟨HH, hk11, hk12⟩ | ⟨HH, hk13, hk14⟩
 ·have H := HH.out
  simp only [Option.some.injEq, Prod.mk.injEq] at H
  obtain ⟨rfl, rfl, rfl⟩ := H
  clear HH
  (try go_wp2)
  refine MW.scope_labs ?_
  go_wp2
  (try simp only [MW.backTo_ret, MW.labs_ret])
  go_ret3
  exact zfi HB.out
 replace HH := zqt HH
 rcases HH with ⟨HH, hk16, hk17⟩ | ⟨HH, hk18, hk19⟩
 ·have H := HH.out
  simp only [Option.some.injEq, Prod.mk.injEq] at H
  obtain ⟨rfl, rfl, rfl⟩ := H
  clear HH
  (try go_wp2)
  refine MW.scope_labs ?_
  go_wp2
  apply wp_goto
  refine MW.goto_labs (Eq.refl _) ?_
  go_wp2
  (try simp only [MW.backTo_ret, MW.labs_ret])
  go_ret3
  exact zfi HB.out
 replace HH := zqg HH
 rcases HH with ⟨HH, hk21⟩ | ⟨HH, hk22⟩
 ·have H := HH.out
  simp only [Option.some.injEq, Prod.mk.injEq] at H
  obtain ⟨rfl, rfl, rfl⟩ := H
  clear HH
  (try go_wp2)
  refine MW.scope_labs ?_
  go_wp2
  apply wp_goto
  refine MW.goto_labs (Eq.refl _) ?_
  go_wp2
  (try simp only [MW.backTo_ret, MW.labs_ret])
  go_ret3
  exact zfi HB.out
 replace HH := zqg HH
 rcases HH with ⟨HH, hk24⟩ | ⟨HH, hk25⟩
 ·have H := HH.out
  simp only [Option.some.injEq, Prod.mk.injEq] at H
  obtain ⟨rfl, rfl, rfl⟩ := H
  clear HH
  (try go_wp2)
  refine MW.scope_labs ?_
  go_wp2
  apply wp_goto
  refine MW.goto_labs (Eq.refl _) ?_
  go_wp2
  (try simp only [MW.backTo_ret, MW.labs_ret])
  go_ret3
  exact zfi HB.out
 replace HH := zqdo HH
 obtain ⟨HH, hk27⟩ := HH
 replace HH := zqto HH
 obtain ⟨HH, hk29, hk30⟩ := HH
 have p31 : 0 ≤ ((wrap64 (a1 + 1)) : Int) := of_decide_eq_true (by first | (with_reducible assumption) | assumption)
 have q31 : (wrap64 (a1 + 1)) < (a0.size : Int) := of_decide_eq_true (by first | (with_reducible assumption) | assumption)
 have hx31 := MW.bt_at' a0 (wrap64 (a1 + 1))
 replace p31 := eq_true p31
 replace q31 := eq_true q31
 replace HH := zqe HH
 rcases HH with ⟨HH, hk33, hk34⟩ | ⟨HH, hk52, hk53⟩
 ·replace HH := zqdo HH
  obtain ⟨HH, hk36⟩ := HH
  replace HH := zqto HH
  obtain ⟨HH, hk38, hk39⟩ := HH
  have p40 : 0 ≤ ((wrap64 ((wrap64 (a1 + 1)) + 1)) : Int) := of_decide_eq_true (by first | (with_reducible assumption) | assumption)
  have q40 : (wrap64 ((wrap64 (a1 + 1)) + 1)) < (a0.size : Int) := of_decide_eq_true (by first | (with_reducible assumption) | assumption)
  have hx40 := MW.bt_at' a0 (wrap64 ((wrap64 (a1 + 1)) + 1))
  replace p40 := eq_true p40
  replace q40 := eq_true q40
  replace HH := zd HH
  obtain ⟨t41, At42, HH⟩ := HH
  (try go_wp2)
  refine MW.scope_labs ?_
  go_wp2_with ((with_reducible refine gc 90 rfl ?_); refine zc 90 (some 52) Try.func90 #[.int .i64 (Go.bits .or .i64 (wrap64 ((wrap64 (bt a0 (wrap64 (a1 + 1)))) * 256)) (wrap64 (bt a0 (wrap64 ((wrap64 (a1 + 1)) + 1)))))] (h := ?_); (with_reducible refine (ber_length.calls  (Go.bits .or .i64 (wrap64 ((wrap64 (bt a0 (wrap64 (a1 + 1)))) * 256)) (wrap64 (bt a0 (wrap64 ((wrap64 (a1 + 1)) + 1))))) t41 _  At42.out).mono ?_); rintro e w43 ⟨rfl, hb⟩; refine ⟨_, rfl, ?_⟩)
  refine zg ?_
  replace HB := zhb HB.out hb
  clear hb
  replace HH := zqe HH
  rcases HH with ⟨HH, hk45, hk46⟩ | ⟨HH, hk47, hk48⟩
  ·have H := HH.out
   simp only [Option.some.injEq, Prod.mk.injEq] at H
   obtain ⟨rfl, rfl, rfl⟩ := H
   clear HH
   go_wp2
   (try simp only [MW.backTo_ret, MW.labs_ret])
   go_ret3
   exact zfi HB.out
  have H := HH.out
  simp only [Option.some.injEq, Prod.mk.injEq] at H
  obtain ⟨rfl, rfl, rfl⟩ := H
  clear HH
  go_wp2
  apply wp_goto
  refine MW.goto_labs (Eq.refl _) ?_
  go_wp2
  (try simp only [MW.backTo_ret, MW.labs_ret])
  go_ret3
  exact zfi HB.out
 replace HH := zd HH
 obtain ⟨t54, At55, HH⟩ := HH
 (try go_wp2)
 refine MW.scope_labs ?_
 go_wp2_with ((with_reducible refine gc 90 rfl ?_); refine zc 90 (some 52) Try.func90 #[.int .i64 (wrap64 (bt a0 (wrap64 (a1 + 1))))] (h := ?_); (with_reducible refine (ber_length.calls  (wrap64 (bt a0 (wrap64 (a1 + 1)))) t54 _  At55.out).mono ?_); rintro e w56 ⟨rfl, hb⟩; refine ⟨_, rfl, ?_⟩)
 refine zg ?_
 replace HB := zhb HB.out hb
 clear hb
 replace HH := zqe HH
 rcases HH with ⟨HH, hk58, hk59⟩ | ⟨HH, hk60, hk61⟩
 ·have H := HH.out
  simp only [Option.some.injEq, Prod.mk.injEq] at H
  obtain ⟨rfl, rfl, rfl⟩ := H
  clear HH
  go_wp2
  (try simp only [MW.backTo_ret, MW.labs_ret])
  go_ret3
  exact zfi HB.out
 have H := HH.out
 simp only [Option.some.injEq, Prod.mk.injEq] at H
 obtain ⟨rfl, rfl, rfl⟩ := H
 clear HH
 go_wp2
 apply wp_goto
 refine MW.goto_labs (Eq.refl _) ?_
 go_wp2
 (try simp only [MW.backTo_ret, MW.labs_ret])
 go_ret3
 exact zfi HB.out

def prims_AsInt.l0 : Nat → Int → Int → ByteArray → Option (Int × Int)
 | 0, _, _, _ => none
 | k + 1, x35, x36, a0_3 => if x36 < (a0_3.size : Int) then (if 0 ≤ x36 then ((prims_AsInt.l0 k (Go.bits .or .i32 (wrap32 (x35 * 256)) (wrap32 (bt a0_3 x36))) (wrap64 (x36 + 1)) a0_3)) else (none)) else ((prims_signed.f k x35).bind fun t53 => (if t53.toList = a0_3.toList then (some (wrap64 (x35), 0)) else (some (0, 160))))
def prims_AsInt.f (k : Nat) (a0_0 : Int) (a0_1 : Bool) (a0_2 : Int) (a0_3 : ByteArray) (l0_4 : List (S57)) : Option (Int × Int) := (prims_plain.f a0_0 a0_1 a0_2 a0_3 l0_4).bind fun t8 => (if t8 = true then (if (a0_3.size : Int) < 1 then (some (0, 160)) else (if (a0_3.size : Int) > 4 then (some (0, 160)) else (if 0 < (a0_3.size : Int) then ((prims_AsInt.l0 k (wrap32 (IntKind.i8.wrap (bt a0_3 0))) 1 a0_3)) else (none)))) else (some (0, 160)))
theorem prims_AsInt.mono_l : ∀ k, (∀ y0 y1 y2, LeO (prims_AsInt.l0 k y0 y1 y2) (prims_AsInt.l0 (k + 1) y0 y1 y2))
 | 0 => fun _ _ _ r h => by simp [prims_AsInt.l0] at h
 | k + 1 => by
  have ih0 := prims_AsInt.mono_l k
  ·intro y0 y1 y2
   unfold prims_AsInt.l0
   with_reducible repeat' first | exact ih0 _ _ _ | exact prims_signed.mono _ _ | exact LeO.refl _ | exact LeO.none _ | refine LeO.ite ?_ ?_ | refine LeO.bind ?_ (fun _ => ?_)
theorem prims_AsInt.mono : ∀ a0_ a1_ a2_ a3_ a4_ k, LeO (prims_AsInt.f k a0_ a1_ a2_ a3_ a4_) (prims_AsInt.f (k + 1) a0_ a1_ a2_ a3_ a4_) := by
 intro a0_ a1_ a2_ a3_ a4_ k
 have ih0 := prims_AsInt.mono_l k
 unfold prims_AsInt.f
 with_reducible repeat' first | exact ih0 _ _ _ | exact prims_signed.mono _ _ | exact LeO.refl _ | exact LeO.none _ | refine LeO.ite ?_ ?_ | refine LeO.bind ?_ (fun _ => ?_)
theorem prims_AsInt.calls (k : Nat) (P_ : Nat → Prop) (a0_0 : Int) (a0_1 : Bool) (a0_2 : Int) (a0_3 : ByteArray) (A0_4 : Option Addr) (c0_4 : Nat) (l0_4 : List (S57)) (r1 : Int) (r2 : Int) (w : World) (hs0_4 : Kd.F k57 w P_ A0_4 l0_4.length l0_4) (hc0_4 : l0_4.length ≤ c0_4) (h : prims_AsInt.f k a0_0 a0_1 a0_2 a0_3 l0_4 = some (r1, r2)) :
  Calls Try.prog 50 #[.agg #[.int .i64 a0_0, .bool a0_1, .int .i64 a0_2, .string a0_3, .slice A0_4 l0_4.length c0_4]] w (fun e w' => e = .returned (.tuple #[.int .i64 r1, .int .i64 r2]) ∧ Below w.heap.size w w') := by
 unfold prims_AsInt.f at h
 have HH := za h
 clear h
 have HF0_4 := zfp hs0_4
 have HL0_4 := za hc0_4
 clear hs0_4 hc0_4
 have HB := za (Below.refl w.heap.size w)
 have hu57 := Try.underlying57
 go_enter Try.func50, Try.ntmps50
 go_wp2_with ((with_reducible refine gd 1 rfl ?_); refine zb 1 57 #[.int .i64 a0_0, .bool a0_1, .int .i64 a0_2, .string a0_3, .slice A0_4 l0_4.length c0_4] (h := ?_); intro g1 hg w2 BKg1 hb)
 refine zg ?_
 replace HF0_4 := zfe HF0_4.out hg hb
 replace HB := zhb HB.out hb
 clear hg hb
 obtain ⟨j3, j4, j5, j6, j7⟩ := MB.lz5 BKg1.out
 replace HH := zd HH
 obtain ⟨t8, At9, HH⟩ := HH
 go_wp2_with ((with_reducible refine gc 75 rfl ?_); refine zc 75 (some 10) Try.func75 #[.agg #[.int .i64 a0_0, .bool a0_1, .int .i64 a0_2, .string a0_3, .slice A0_4 l0_4.length c0_4]] (h := ?_); (with_reducible refine (prims_plain.calls (fun k_ => (P_ k_ ∨ w.heap.size ≤ k_) ∧ k_ ≠ g1) a0_0 a0_1 a0_2 a0_3 _ _ l0_4 t8 _ (Kd.F_mono (ok := (fun k_ => (P_ k_ ∨ w.heap.size ≤ k_) ∧ k_ ≠ g1)) HF0_4.out (fun k_ hk_ => hk_)) HL0_4.out At9.out).mono ?_); rintro e w10 ⟨rfl, hb⟩; refine ⟨_, rfl, ?_⟩)
 refine zg ?_
 replace HF0_4 := zfb HF0_4.out hb
 replace BKg1 := zbb BKg1.out hb
 replace HB := zhb HB.out hb
 clear hb
 clear j3 j4 j5 j6 j7
 obtain ⟨jb, jc, jd, je, jf⟩ := MB.lz5 BKg1.out
 by_cases c16 : t8 = true
 ·replace HH := MW.hpos HH c16
  subst c16
  replace HH := zqN 1 HH
  rcases HH with ⟨HH, hk18, hk19, hk20⟩ | ⟨HH, hk21, hk22, hk23⟩
  ·have H := HH.out
   simp only [Option.some.injEq, Prod.mk.injEq] at H
   obtain ⟨rfl, rfl⟩ := H
   clear HH
   go_wp2
   go_ret2
   exact zfi HB.out
  replace HH := zqK 4 HH
  rcases HH with ⟨HH, hk25, hk26⟩ | ⟨HH, hk27, hk28⟩
  ·have H := HH.out
   simp only [Option.some.injEq, Prod.mk.injEq] at H
   obtain ⟨rfl, rfl⟩ := H
   clear HH
   go_wp2
   go_ret2
   exact zfi HB.out
  replace HH := zqno 0 HH
  obtain ⟨HH, hk30, hk31, hk32, hk33⟩ := HH
  have p34 : 0 ≤ (0 : Int) := (by omega)
  have q34 : 0 < a0_3.size := (by have : (0 : Int) < (a0_3.size : Int) := of_decide_eq_true (by first | (with_reducible assumption) | assumption); omega)
  have hx34 : ∀ h : 0 < a0_3.size, ((a0_3[0]'h).toNat : Int) = bt a0_3 0 := MW.bt_at' a0_3 0
  clear p34
  have qi34 : (0 < (a0_3.size : Int)) = True := eq_true (of_decide_eq_true (by first | (with_reducible assumption) | assumption))
  replace q34 := eq_true q34
  go_wp2
  go_loopg [5, 6] k (fun kq u5 u6 w' => ∃ (x35 : Int) (x36 : Int), u5 = .int .i32 x35 ∧ u6 = .int .i64 x36 ∧ Aside0 ((prims_AsInt.l0 kq x35 x36 a0_3) = some (r1, r2)) ∧ Aside0 (kq ≤ k) ∧ Aside0 (Kd.F k57 w' (fun k_ => (P_ k_ ∨ w.heap.size ≤ k_) ∧ k_ ≠ g1) A0_4 l0_4.length l0_4) ∧ Aside0 (w'.heap[g1]? = some (.cells #[.int .i64 a0_0, .bool a0_1, .int .i64 a0_2, .string a0_3, .slice A0_4 l0_4.length c0_4] 57 (0, 0))) ∧ Aside0 (Below w.heap.size w w'))
  case atStart => exact ⟨wrap32 (IntKind.i8.wrap (bt a0_3 0)), 1, (by first | rfl | (simp; done) | (simp [*]; done)), (by first | rfl | (simp; done) | (simp [*]; done)), HH, ⟨Nat.le_refl _⟩, ⟨(Kd.F_mono (ok := (fun k_ => (P_ k_ ∨ w.heap.size ≤ k_) ∧ k_ ≠ g1)) HF0_4.out (fun k_ hk_ => hk_))⟩, ⟨BKg1.out⟩, ⟨HB.out⟩⟩
  case round =>
   clear jb jc jd je jf
   clear hk21
   clear hk22
   clear hk23
   clear hk27
   clear hk28
   clear hk30
   clear hk31
   clear hk32
   clear hk33
   clear qi34
   clear q34
   clear hx34
   clear HH
   clear HF0_4 BKg1 HB
   obtain ⟨x35, x36, rfl, rfl, HA, HK0, HF0_4, BKg1, HB⟩ := hrel
   obtain ⟨w38, rfl⟩ : ∃ wo_ : World, wo_ = wr := ⟨_, rfl⟩
   cases gk with
   | zero => exact absurd HA.out (by simp [prims_AsInt.l0])
   | succ k37 =>
    have H := HA.out
    clear HA
    simp only [prims_AsInt.l0] at H
    have HH := za H
    clear H
    obtain ⟨jD, jE, jF, jG, jH⟩ := MB.lz5 BKg1.out
    replace HH := zqt HH
    rcases HH with ⟨HH, hk45, hk46⟩ | ⟨HH, hk51, hk52⟩
    ·replace HH := zqdo HH
     obtain ⟨HH, hk48⟩ := HH
     have p49 : 0 ≤ (x36 : Int) := of_decide_eq_true (by first | (with_reducible assumption) | assumption)
     have q49 : x36 < (a0_3.size : Int) := of_decide_eq_true (by first | (with_reducible assumption) | assumption)
     have hx49 := MW.bt_at' a0_3 x36
     replace p49 := eq_true p49
     replace q49 := eq_true q49
     go_wp2
     go_roundg k37
     case measure => have := HK0.out; omega
     case rel => exact ⟨Go.bits .or .i32 (wrap32 (x35 * 256)) (wrap32 (bt a0_3 x36)), wrap64 (x36 + 1), (by first | rfl | (simp; done) | (simp [*]; done)), (by first | rfl | (simp; done) | (simp [*]; done)), HH, ⟨by have := HK0.out; omega⟩, ⟨(Kd.F_mono (ok := (fun k_ => (P_ k_ ∨ w.heap.size ≤ k_) ∧ k_ ≠ g1)) HF0_4.out (fun k_ hk_ => hk_))⟩, ⟨BKg1.out⟩, ⟨HB.out⟩⟩
    replace HH := zd HH
    obtain ⟨t53, At54, HH⟩ := HH
    go_wp2_with ((with_reducible refine gc 76 rfl ?_); refine zc 76 (some 40) Try.func76 #[.int .i32 x35] (h := ?_); (with_reducible refine (prims_signed.calls k37  x35 t53 _  At54.out).mono ?_); rintro e w55 ⟨rfl, hb⟩; refine ⟨_, rfl, ?_⟩)
    refine zg ?_
    replace BKg1 := zbb BKg1.out hb
    replace HB := zhb HB.out hb
    clear hb
    clear jD jE jF jG jH
    obtain ⟨jU, jV, jW, jX, jY⟩ := MB.lz5 BKg1.out
    replace HH := zqe HH
    rcases HH with ⟨HH, hk62, hk63⟩ | ⟨HH, hk64, hk65⟩
    ·have H := HH.out
     simp only [Option.some.injEq, Prod.mk.injEq] at H
     obtain ⟨rfl, rfl⟩ := H
     clear HH
     go_wp2
     go_ret2
     exact zfi HB.out
    have H := HH.out
    simp only [Option.some.injEq, Prod.mk.injEq] at H
    obtain ⟨rfl, rfl⟩ := H
    clear HH
    go_wp2
    go_ret2
    exact zfi HB.out
 replace HH := MW.hneg HH c16
 replace c16 := Bool.eq_false_iff.mpr c16
 subst c16
 have H := HH.out
 simp only [Option.some.injEq, Prod.mk.injEq] at H
 obtain ⟨rfl, rfl⟩ := H
 clear HH
 go_wp2
 go_ret2
 exact zfi HB.out

def prims_Is.f (a0_0 : Int) (a0_1 : Bool) (a0_2 : Int) (a0_3 : ByteArray) (l0_4 : List (S57)) (a1 : Int) (a2 : Int) (a3 : Bool) : Option (Bool) := if a0_0 = a1 then (if a0_2 = a2 then (some (a0_1 == a3)) else (some false)) else (some false)
theorem prims_Is.calls (P_ : Nat → Prop) (a0_0 : Int) (a0_1 : Bool) (a0_2 : Int) (a0_3 : ByteArray) (A0_4 : Option Addr) (c0_4 : Nat) (l0_4 : List (S57)) (a1 : Int) (a2 : Int) (a3 : Bool) (r : Bool) (w : World) (hs0_4 : Kd.F k57 w P_ A0_4 l0_4.length l0_4) (hc0_4 : l0_4.length ≤ c0_4) (h : prims_Is.f a0_0 a0_1 a0_2 a0_3 l0_4 a1 a2 a3 = some r) :
  Calls Try.prog 79 #[.agg #[.int .i64 a0_0, .bool a0_1, .int .i64 a0_2, .string a0_3, .slice A0_4 l0_4.length c0_4], .int .i64 a1, .int .i64 a2, .bool a3] w (fun e w' => e = .returned (.bool r) ∧ Below w.heap.size w w') := by
 unfold prims_Is.f at h
 have HH := za h
 clear h
 clear hs0_4 hc0_4
 have HB := za (Below.refl w.heap.size w)
 have hu57 := Try.underlying57
 go_enter Try.func79, Try.ntmps79
 go_wp2_with ((with_reducible refine gd 4 rfl ?_); refine zb 4 57 #[.int .i64 a0_0, .bool a0_1, .int .i64 a0_2, .string a0_3, .slice A0_4 l0_4.length c0_4] (h := ?_); intro g1 hg w2 BKg1 hb)
 refine zg ?_
 replace HB := zhb HB.out hb
 clear hg hb
 obtain ⟨j3, j4, j5, j6, j7⟩ := MB.lz5 BKg1.out
 replace HH := zqe HH
 rcases HH with ⟨HH, hk9, hk10⟩ | ⟨HH, hk16, hk17⟩
 ·replace HH := zqe HH
  rcases HH with ⟨HH, hk12, hk13⟩ | ⟨HH, hk14, hk15⟩
  ·obtain rfl := Option.some.inj HH.out
   clear HH
   go_wp2
   go_ret
   exact zfi HB.out
  obtain rfl := Option.some.inj HH.out
  clear HH
  go_wp2
  go_ret
  exact zfi HB.out
 obtain rfl := Option.some.inj HH.out
 clear HH
 go_wp2
 go_ret
 exact zfi HB.out

def reply_texts_1.f (a0_0 : Int) (a0_1 : Bool) (a0_2 : Int) (a0_3 : ByteArray) (l0_4 : List (S57)) : Option (Bool) := (prims_Is.f a0_0 a0_1 a0_2 a0_3 l0_4 0 4 false).bind fun t8 => (some (!t8))
theorem reply_texts_1.calls (P_ : Nat → Prop) (a0_0 : Int) (a0_1 : Bool) (a0_2 : Int) (a0_3 : ByteArray) (A0_4 : Option Addr) (c0_4 : Nat) (l0_4 : List (S57)) (r : Bool) (w : World) (hs0_4 : Kd.F k57 w P_ A0_4 l0_4.length l0_4) (hc0_4 : l0_4.length ≤ c0_4) (h : reply_texts_1.f a0_0 a0_1 a0_2 a0_3 l0_4 = some r) :
  Calls Try.prog 78 #[.agg #[.int .i64 a0_0, .bool a0_1, .int .i64 a0_2, .string a0_3, .slice A0_4 l0_4.length c0_4]] w (fun e w' => e = .returned (.bool r) ∧ Below w.heap.size w w') := by
 unfold reply_texts_1.f at h
 have HH := za h
 clear h
 have HF0_4 := zfp hs0_4
 have HL0_4 := za hc0_4
 clear hs0_4 hc0_4
 have HB := za (Below.refl w.heap.size w)
 have hu57 := Try.underlying57
 go_enter Try.func78, Try.ntmps78
 go_wp2_with ((with_reducible refine gd 1 rfl ?_); refine zb 1 57 #[.int .i64 a0_0, .bool a0_1, .int .i64 a0_2, .string a0_3, .slice A0_4 l0_4.length c0_4] (h := ?_); intro g1 hg w2 BKg1 hb)
 refine zg ?_
 replace HF0_4 := zfe HF0_4.out hg hb
 replace HB := zhb HB.out hb
 clear hg hb
 obtain ⟨j3, j4, j5, j6, j7⟩ := MB.lz5 BKg1.out
 replace HH := zd HH
 obtain ⟨t8, At9, HH⟩ := HH
 go_wp2_with ((with_reducible refine gc 79 rfl ?_); refine zc 79 (some 4) Try.func79 #[.agg #[.int .i64 a0_0, .bool a0_1, .int .i64 a0_2, .string a0_3, .slice A0_4 l0_4.length c0_4], .int .i64 0, .int .i64 4, .bool false] (h := ?_); (with_reducible refine (prims_Is.calls (fun k_ => (P_ k_ ∨ w.heap.size ≤ k_) ∧ k_ ≠ g1) a0_0 a0_1 a0_2 a0_3 _ _ l0_4 0 4 false t8 _ (Kd.F_mono (ok := (fun k_ => (P_ k_ ∨ w.heap.size ≤ k_) ∧ k_ ≠ g1)) HF0_4.out (fun k_ hk_ => hk_)) HL0_4.out At9.out).mono ?_); rintro e w10 ⟨rfl, hb⟩; refine ⟨_, rfl, ?_⟩)
 refine zg ?_
 replace BKg1 := zbb BKg1.out hb
 replace HB := zhb HB.out hb
 clear hb
 clear j3 j4 j5 j6 j7
 obtain ⟨jb, jc, jd, je, jf⟩ := MB.lz5 BKg1.out
 obtain rfl := Option.some.inj HH.out
 clear HH
 go_wp2
 go_ret
 exact zfi HB.out

def reply_texts.l0 : Nat → Int → (List (S57)) → Option (Bool)
 | 0, _, _ => none
 | k + 1, x1, l0 => if x1 < (l0.length : Int) then (if 0 ≤ x1 then ((reply_texts_1.f ((rd_T57 l0 x1).f0) ((rd_T57 l0 x1).f1) ((rd_T57 l0 x1).f2) ((rd_T57 l0 x1).f3) ((rd_T57 l0 x1).f4)).bind fun t10 => (if t10 = true then (some (!(decide (x1 ≥ 0)))) else ((reply_texts.l0 k (wrap64 (x1 + 1)) l0)))) else (none)) else (some true)
def reply_texts.f (k : Nat) (l0 : List (S57)) : Option (Bool) := (reply_texts.l0 k 0 l0)
theorem reply_texts.mono_l : ∀ k, (∀ y0 y1, LeO (reply_texts.l0 k y0 y1) (reply_texts.l0 (k + 1) y0 y1))
 | 0 => fun _ _ r h => by simp [reply_texts.l0] at h
 | k + 1 => by
  have ih0 := reply_texts.mono_l k
  ·intro y0 y1
   unfold reply_texts.l0
   with_reducible repeat' first | exact ih0 _ _ | exact LeO.refl _ | exact LeO.none _ | refine LeO.ite ?_ ?_ | refine LeO.bind ?_ (fun _ => ?_)
theorem reply_texts.mono : ∀ a0_ k, LeO (reply_texts.f k a0_) (reply_texts.f (k + 1) a0_) := by
 intro a0_ k
 have ih0 := reply_texts.mono_l k
 unfold reply_texts.f
 with_reducible repeat' first | exact ih0 _ _ | exact LeO.refl _ | exact LeO.none _ | refine LeO.ite ?_ ?_ | refine LeO.bind ?_ (fun _ => ?_)
theorem reply_texts.calls (k : Nat) (P_ : Nat → Prop) (A0 : Option Addr) (c0 : Nat) (l0 : List (S57)) (r : Bool) (w : World) (hs0 : Kd.F k57 w P_ A0 l0.length l0) (hc0 : l0.length ≤ c0) (h : reply_texts.f k l0 = some r) :
  Calls Try.prog 52 #[.slice A0 l0.length c0] w (fun e w' => e = .returned (.bool r) ∧ Below w.heap.size w w') := by
 unfold reply_texts.f at h
 have HH := za h
 clear h
 have HF0 := zfp hs0
 clear hs0 hc0
 have HB := za (Below.refl w.heap.size w)
 go_enter Try.func52, Try.ntmps52
 go_wp2_with (((with_reducible refine gate_callee (f := 77) rfl ?_); (try (refine gate_guard (by rfl) ?_; dsimp only)); refine goesL_ (some 4) rfl rfl Try.func77 (by kernel_rfl) rfl #[.slice A0 l0.length c0, .func (.func 78) #[] #[]] rfl (by (try simp only [List.map_toArray, List.map_cons, List.map_nil]); first | done | rfl) ?_); refine stop_ ?_)
 refine zg ?_
 go_enter Try.func77, Try.ntmps77
 go_wp2_with (((with_reducible refine gate_callee (f := 98) rfl ?_); (try (refine gate_guard (by rfl) ?_; dsimp only)); refine goesL_ (some 7) rfl rfl Try.func98 (by kernel_rfl) rfl #[.slice A0 l0.length c0, .func (.func 78) #[] #[]] rfl (by (try simp only [List.map_toArray, List.map_cons, List.map_nil]); first | done | rfl) ?_); refine stop_ ?_)
 refine zg ?_
 go_enter Try.func98, Try.ntmps98
 go_wp2
 go_loopg [8] k (fun kq u8 w' => ∃ (x1 : Int), u8 = .int .i64 x1 ∧ Aside0 ((reply_texts.l0 kq x1 l0) = some r) ∧ Aside0 (kq ≤ k) ∧ Aside0 (Kd.F k57 w' (fun k_ => (P_ k_ ∨ w.heap.size ≤ k_)) A0 l0.length l0) ∧ Aside0 (Below w.heap.size w w'))
 case atStart => exact ⟨0, (by first | rfl | (simp; done) | (simp [*]; done)), HH, ⟨Nat.le_refl _⟩, ⟨(Kd.F_mono (ok := (fun k_ => (P_ k_ ∨ w.heap.size ≤ k_))) HF0.out (fun k_ hk_ => hk_))⟩, ⟨HB.out⟩⟩
 case round =>
  clear HH
  clear HF0 HB
  obtain ⟨x1, rfl, HA, HK0, HF0, HB⟩ := hrel
  obtain ⟨w3, rfl⟩ : ∃ wo_ : World, wo_ = wr := ⟨_, rfl⟩
  cases gk with
  | zero => exact absurd HA.out (by simp [reply_texts.l0])
  | succ k2 =>
   have H := HA.out
   clear HA
   simp only [reply_texts.l0] at H
   have HH := za H
   clear H
   replace HH := zqt HH
   rcases HH with ⟨HH, hk5, hk6⟩ | ⟨HH, hk15, hk16⟩
   ·replace HH := zqdo HH
    obtain ⟨HH, hk8⟩ := HH
    have p9 : 0 ≤ (x1 : Int) := of_decide_eq_true (by first | (with_reducible assumption) | assumption)
    have q9 : x1 < (l0.length : Int) := of_decide_eq_true (by first | (with_reducible assumption) | assumption)
    obtain ⟨ad9, A9_4, c9_4, e9, hx9_0, hx9_1, hx9_2, hx9_3, hx9_4, hl9_4, hi9_4⟩ := atF_T57 HF0.out x1 p9 q9
    cases e9
    have HF9_4 := za hi9_4
    have HL9_4 := za hl9_4
    clear hi9_4 hl9_4
    replace p9 := eq_true p9
    replace q9 := eq_true q9
    replace HH := zd HH
    obtain ⟨t10, At11, HH⟩ := HH
    go_wp2_with ((with_reducible refine gd 16 rfl ?_); refine zv 16 Try.func78 #[.agg #[.int .i64 ((rd_T57 l0 x1).f0), .bool ((rd_T57 l0 x1).f1), .int .i64 ((rd_T57 l0 x1).f2), .string ((rd_T57 l0 x1).f3), .slice A9_4 ((rd_T57 l0 x1).f4).length c9_4]] #[] (h := ?_); (with_reducible refine (reply_texts_1.calls (fun k_ => (P_ k_ ∨ w.heap.size ≤ k_)) ((rd_T57 l0 x1).f0) ((rd_T57 l0 x1).f1) ((rd_T57 l0 x1).f2) ((rd_T57 l0 x1).f3) _ _ ((rd_T57 l0 x1).f4) t10 _ (Kd.F_mono (ok := (fun k_ => (P_ k_ ∨ w.heap.size ≤ k_))) HF9_4.out (fun k_ hk_ => hk_)) HL9_4.out At11.out).mono ?_); rintro e w12 ⟨rfl, hb⟩; refine ⟨_, rfl, ?_⟩)
    refine zg ?_
    replace HF0 := zfb HF0.out hb
    replace HB := zhb HB.out hb
    clear hb
    clear hx9_0 hx9_1 hx9_2 hx9_3 hx9_4 p9 q9
    by_cases c13 : t10 = true
    ·replace HH := MW.hpos HH c13
     subst c13
     go_wp2
     go_ret
     refine ⟨_, rfl, ?_⟩
     go_wp2
     go_ret
     refine ⟨_, rfl, ?_⟩
     obtain rfl := Option.some.inj HH.out
     clear HH
     go_wp2
     go_ret
     exact zfi HB.out
    replace HH := MW.hneg HH c13
    replace c13 := Bool.eq_false_iff.mpr c13
    subst c13
    go_wp2
    go_roundg k2
    case measure => have := HK0.out; omega
    case rel => exact ⟨wrap64 (x1 + 1), (by first | rfl | (simp; done) | (simp [*]; done)), HH, ⟨by have := HK0.out; omega⟩, ⟨(Kd.F_mono (ok := (fun k_ => (P_ k_ ∨ w.heap.size ≤ k_))) HF0.out (fun k_ hk_ => hk_))⟩, ⟨HB.out⟩⟩
   go_wp2
   go_ret
   refine ⟨_, rfl, ?_⟩
   go_wp2
   go_ret
   refine ⟨_, rfl, ?_⟩
   obtain rfl := Option.some.inj HH.out
   clear HH
   go_wp2
   go_ret
   exact zfi HB.out

def toponymref26_SameValues.l0 : Nat → Int → (List (S46)) → (List (S46)) → Option (Bool)
 | 0, _, _, _ => none
 | k + 1, x5, l0, l1 => if x5 < (l0.length : Int) then (if 0 ≤ x5 then (if x5 < (l1.length : Int) then (if ((rd_T46 l0 x5).f0).toList = ((rd_T46 l1 x5).f0).toList then ((toponymref16_SameTexts.f k ((rd_T46 l0 x5).f1) ((rd_T46 l1 x5).f1)).bind fun t22 => (if t22 = true then ((toponymref26_SameValues.l0 k (wrap64 (x5 + 1)) l0 l1)) else (some false))) else (some false)) else (none)) else (none)) else (some true)
def toponymref26_SameValues.f (k : Nat) (l0 : List (S46)) (l1 : List (S46)) : Option (Bool) := if (l0.length : Int) = (l1.length : Int) then ((toponymref26_SameValues.l0 k 0 l0 l1)) else (some false)
theorem toponymref26_SameValues.mono_l : ∀ k, (∀ y0 y1 y2, LeO (toponymref26_SameValues.l0 k y0 y1 y2) (toponymref26_SameValues.l0 (k + 1) y0 y1 y2))
 | 0 => fun _ _ _ r h => by simp [toponymref26_SameValues.l0] at h
 | k + 1 => by
  have ih0 := toponymref26_SameValues.mono_l k
  ·intro y0 y1 y2
   unfold toponymref26_SameValues.l0
   with_reducible repeat' first | exact ih0 _ _ _ | exact toponymref16_SameTexts.mono _ _ _ | exact LeO.refl _ | exact LeO.none _ | refine LeO.ite ?_ ?_ | refine LeO.bind ?_ (fun _ => ?_)
theorem toponymref26_SameValues.mono : ∀ a0_ a1_ k, LeO (toponymref26_SameValues.f k a0_ a1_) (toponymref26_SameValues.f (k + 1) a0_ a1_) := by
 intro a0_ a1_ k
 have ih0 := toponymref26_SameValues.mono_l k
 unfold toponymref26_SameValues.f
 with_reducible repeat' first | exact ih0 _ _ _ | exact toponymref16_SameTexts.mono _ _ _ | exact LeO.refl _ | exact LeO.none _ | refine LeO.ite ?_ ?_ | refine LeO.bind ?_ (fun _ => ?_)
theorem toponymref26_SameValues.calls (k : Nat) (P_ : Nat → Prop) (A0 : Option Addr) (c0 : Nat) (l0 : List (S46)) (A1 : Option Addr) (c1 : Nat) (l1 : List (S46)) (r : Bool) (w : World) (hs0 : Kd.F k46 w P_ A0 l0.length l0) (hc0 : l0.length ≤ c0) (hs1 : Kd.F k46 w P_ A1 l1.length l1) (hc1 : l1.length ≤ c1) (h : toponymref26_SameValues.f k l0 l1 = some r) :
  Calls Try.prog 34 #[.slice A0 l0.length c0, .slice A1 l1.length c1] w (fun e w' => e = .returned (.bool r) ∧ Below w.heap.size w w') := by
 unfold toponymref26_SameValues.f at h
 have HH := za h
 clear h
 have HF0 := zfp hs0
 clear hs0 hc0
 have HF1 := zfp hs1
 clear hs1 hc1
 have HB := za (Below.refl w.heap.size w)
 go_enter Try.func34, Try.ntmps34
 by_cases c1 : (l0.length : Int) = (l1.length : Int)
 ·replace HH := MW.hpos HH c1
  have hk2 : ((l0.length : Int) == (l1.length : Int)) = true := beq_iff_eq.mpr c1
  have hk3 : ((l0.length : Int) != (l1.length : Int)) = false := bne_eq_false_iff_eq.mpr c1
  have hk4 : (l0.length == l1.length) = true := by first | simpa using c1 | (simp at c1 ⊢; omega)
  clear c1
  go_wp2
  go_loopg [5] k (fun kq u5 w' => ∃ (x5 : Int), u5 = .int .i64 x5 ∧ Aside0 ((toponymref26_SameValues.l0 kq x5 l0 l1) = some r) ∧ Aside0 (kq ≤ k) ∧ Aside0 (Kd.F k46 w' (fun k_ => (P_ k_ ∨ w.heap.size ≤ k_)) A0 l0.length l0) ∧ Aside0 (Kd.F k46 w' (fun k_ => (P_ k_ ∨ w.heap.size ≤ k_)) A1 l1.length l1) ∧ Aside0 (Below w.heap.size w w'))
  case atStart => exact ⟨0, (by first | rfl | (simp; done) | (simp [*]; done)), HH, ⟨Nat.le_refl _⟩, ⟨(Kd.F_mono (ok := (fun k_ => (P_ k_ ∨ w.heap.size ≤ k_))) HF0.out (fun k_ hk_ => hk_))⟩, ⟨(Kd.F_mono (ok := (fun k_ => (P_ k_ ∨ w.heap.size ≤ k_))) HF1.out (fun k_ hk_ => hk_))⟩, ⟨HB.out⟩⟩
  case round =>
   clear hk2
   clear hk3
   clear hk4
   clear HH
   clear HF0 HF1 HB
   obtain ⟨x5, rfl, HA, HK0, HF0, HF1, HB⟩ := hrel
   obtain ⟨w7, rfl⟩ : ∃ wo_ : World, wo_ = wr := ⟨_, rfl⟩
   cases gk with
   | zero => exact absurd HA.out (by simp [toponymref26_SameValues.l0])
   | succ k6 =>
    have H := HA.out
    clear HA
    simp only [toponymref26_SameValues.l0] at H
    have HH := za H
    clear H
    replace HH := zqt HH
    rcases HH with ⟨HH, hk9, hk10⟩ | ⟨HH, hk31, hk32⟩
    ·go_wp2
     have hwr_ : ∀ n_ : Int, IntKind.i64.wrap n_ = wrap64 n_ := fun n_ => IntWalk.i64_left n_
     refine wp_region_any (by kernel_rfl) ?_
     change wpAny _ _ _ _ 25 #[false, false, false, false, false, false, false, false, false, false, false, false, false, false, false, false, false, false, false, false, false, false, false, false, false] _ w7.drew
     obtain ⟨w11, hw_⟩ : ∃ w_ : World, w_ = w7.drew := ⟨_, rfl⟩
     rw [← hw_]
     have hb : Below w7.heap.size w7 w11 := by rw [hw_]; exact below_drew1 (Below.refl _ _)
     clear hw_
     replace HF0 := zfb HF0.out hb
     replace HF1 := zfb HF1.out hb
     replace HB := zhb HB.out hb
     clear hb
     replace HH := zqdo HH
     obtain ⟨HH, hk13⟩ := HH
     have p14 : 0 ≤ (x5 : Int) := of_decide_eq_true (by first | (with_reducible assumption) | assumption)
     have q14 : x5 < (l0.length : Int) := of_decide_eq_true (by first | (with_reducible assumption) | assumption)
     obtain ⟨ad14, A14_1, c14_1, e14, hx14_0, hx14_1, hl14_1, hi14_1⟩ := atF_T46 HF0.out x5 p14 q14
     cases e14
     have HF14_1 := za hi14_1
     have HL14_1 := za hl14_1
     clear hi14_1 hl14_1
     replace p14 := eq_true p14
     replace q14 := eq_true q14
     replace HH := zqto HH
     obtain ⟨HH, hk16, hk17⟩ := HH
     have p18 : 0 ≤ (x5 : Int) := of_decide_eq_true (by first | (with_reducible assumption) | assumption)
     have q18 : x5 < (l1.length : Int) := of_decide_eq_true (by first | (with_reducible assumption) | assumption)
     obtain ⟨ad18, A18_1, c18_1, e18, hx18_0, hx18_1, hl18_1, hi18_1⟩ := atF_T46 HF1.out x5 p18 q18
     cases e18
     have HF18_1 := za hi18_1
     have HL18_1 := za hl18_1
     clear hi18_1 hl18_1
     replace p18 := eq_true p18
     replace q18 := eq_true q18
     refine MW.last_in (ds := [22]) (zk hx14_0 (zk hx14_1 (zk hx18_0 (zk hx18_1 z0)))) ?_
     refine zlp 0 (.slice (some ad14) l0.length c0) #[_, _, _, _, _, _, _, _, _, _, _, _, _, _, _, _, _, _, _, _, _, _, _, _, _] ⟨[_, _, _, _, _, _, _, _, _, _, _, _, _, _, _, _, _, _, _, _, _, _, _, _, _, _, _, _, _, _, _, _, _, _, _, _, _, _, _, _, _, _].toArray, []⟩ (h := ?_)
     refine zlp 1 (.int .i64 x5) #[_, _, _, _, _, _, _, _, _, _, _, _, _, _, _, _, _, _, _, _, _, _, _, _, _] ⟨[_, _, _, _, _, _, _, _, _, _, _, _, _, _, _, _, _, _, _, _, _, _, _, _, _, _, _, _, _, _, _, _, _, _, _, _, _, _, _, _, _, _].toArray, []⟩ (h := ?_)
     refine zlp 2 (.pointer (some (ad14.add (x5.toNat * 2)))) #[_, _, _, _, _, _, _, _, _, _, _, _, _, _, _, _, _, _, _, _, _, _, _, _, _] ⟨[_, _, _, _, _, _, _, _, _, _, _, _, _, _, _, _, _, _, _, _, _, _, _, _, _, _, _, _, _, _, _, _, _, _, _, _, _, _, _, _, _, _].toArray, []⟩ (h := ?_)
     refine zlp 3 (.pointer (some (ad14.add (x5.toNat * 2)))) #[_, _, _, _, _, _, _, _, _, _, _, _, _, _, _, _, _, _, _, _, _, _, _, _, _] ⟨[_, _, _, _, _, _, _, _, _, _, _, _, _, _, _, _, _, _, _, _, _, _, _, _, _, _, _, _, _, _, _, _, _, _, _, _, _, _, _, _, _, _].toArray, []⟩ (h := ?_)
     refine zlp 5 (.slice (some ad18) l1.length c1) #[_, _, _, _, _, _, _, _, _, _, _, _, _, _, _, _, _, _, _, _, _, _, _, _, _] ⟨[_, _, _, _, _, _, _, _, _, _, _, _, _, _, _, _, _, _, _, _, _, _, _, _, _, _, _, _, _, _, _, _, _, _, _, _, _, _, _, _, _, _].toArray, []⟩ (h := ?_)
     refine zlp 6 (.int .i64 x5) #[_, _, _, _, _, _, _, _, _, _, _, _, _, _, _, _, _, _, _, _, _, _, _, _, _] ⟨[_, _, _, _, _, _, _, _, _, _, _, _, _, _, _, _, _, _, _, _, _, _, _, _, _, _, _, _, _, _, _, _, _, _, _, _, _, _, _, _, _, _].toArray, []⟩ (h := ?_)
     refine zlp 7 (.pointer (some (ad18.add (x5.toNat * 2)))) #[_, _, _, _, _, _, _, _, _, _, _, _, _, _, _, _, _, _, _, _, _, _, _, _, _] ⟨[_, _, _, _, _, _, _, _, _, _, _, _, _, _, _, _, _, _, _, _, _, _, _, _, _, _, _, _, _, _, _, _, _, _, _, _, _, _, _, _, _, _].toArray, []⟩ (h := ?_)
     refine zlp 8 (.pointer (some (ad18.add (x5.toNat * 2)))) #[_, _, _, _, _, _, _, _, _, _, _, _, _, _, _, _, _, _, _, _, _, _, _, _, _] ⟨[_, _, _, _, _, _, _, _, _, _, _, _, _, _, _, _, _, _, _, _, _, _, _, _, _, _, _, _, _, _, _, _, _, _, _, _, _, _, _, _, _, _].toArray, []⟩ (h := ?_)
     refine MW.last_take (i := 4) (v := .string ((rd_T46 l0 x5).f0)) (listed' := #[_, _, _, _, _, _, _, _, _, _, _, _, _, _, _, _, _, _, _, _, _, _, _, _, _]) (a' := ⟨[_, _, _, _, _, _, _, _, _, _, _, _, _, _, _, _, _, _, _, _, _, _, _, _, _, _, _, _, _, _, _, _, _, _, _, _, _, _, _, _, _, _].toArray, []⟩) rfl (by kernel_rfl) (by kernel_rfl) (by kernel_rfl) (by kernel_rfl) (by kernel_rfl) (fun _ _ _ h_ => h_) (by kernel_rfl) (fun w_ hS_ => ?go) (zk hx14_0 (zk hx14_1 (zk hx18_0 (zk hx18_1 z0)))) rfl rfl ?_
     case go => obtain ⟨hs0_, _, _, _, _⟩ := hS_; first | (go_simp; done) | (go_simp; rfl)
     refine MW.last_take (i := 9) (v := .string ((rd_T46 l1 x5).f0)) (listed' := #[_, _, _, _, _, _, _, _, _, _, _, _, _, _, _, _, _, _, _, _, _, _, _, _, _]) (a' := ⟨[_, _, _, _, _, _, _, _, _, _, _, _, _, _, _, _, _, _, _, _, _, _, _, _, _, _, _, _, _, _, _, _, _, _, _, _, _, _, _, _, _, _].toArray, []⟩) rfl (by kernel_rfl) (by kernel_rfl) (by kernel_rfl) (by kernel_rfl) (by kernel_rfl) (fun _ _ _ h_ => h_) (by kernel_rfl) (fun w_ hS_ => ?go) (zk hx14_0 (zk hx14_1 (zk hx18_0 (zk hx18_1 z0)))) rfl rfl ?_
     case go => obtain ⟨_, _, hs2_, _, _⟩ := hS_; first | (go_simp; done) | (go_simp; rfl)
     refine zlp 10 (.bool (((rd_T46 l0 x5).f0).toList != ((rd_T46 l1 x5).f0).toList)) #[_, _, _, _, _, _, _, _, _, _, _, _, _, _, _, _, _, _, _, _, _, _, _, _, _] ⟨[_, _, _, _, _, _, _, _, _, _, _, _, _, _, _, _, _, _, _, _, _, _, _, _, _, _, _, _, _, _, _, _, _, _, _, _, _, _, _, _, _, _].toArray, []⟩ (h := ?_)
     refine zlp 11 (.bool (((rd_T46 l0 x5).f0).toList != ((rd_T46 l1 x5).f0).toList)) #[_, _, _, _, _, _, _, _, _, _, _, _, _, _, _, _, _, _, _, _, _, _, _, _, _] ⟨[_, _, _, _, _, _, _, _, _, _, _, _, _, _, _, _, _, _, _, _, _, _, _, _, _, _, _, _, _, _, _, _, _, _, _, _, _, _, _, _, _, _].toArray, []⟩ (h := ?_)
     replace HH := zqe HH
     rcases HH with ⟨HH, hk20, hk21⟩ | ⟨HH, hk26, hk27⟩
     ·(try simp only [hk20, Bool.not_true, Bool.not_false])
      (try simp only [hk21, Bool.not_true, Bool.not_false])
      refine zlp 12 (.slice (some ad14) l0.length c0) #[_, _, _, _, _, _, _, _, _, _, _, _, _, _, _, _, _, _, _, _, _, _, _, _, _] ⟨[_, _, _, _, _, _, _, _, _, _, _, _, _, _, _, _, _, _, _, _, _, _, _, _, _, _, _, _, _, _, _, _, _, _, _, _, _, _, _, _, _, _].toArray, []⟩ (h := ?_)
      refine zlp 13 (.int .i64 x5) #[_, _, _, _, _, _, _, _, _, _, _, _, _, _, _, _, _, _, _, _, _, _, _, _, _] ⟨[_, _, _, _, _, _, _, _, _, _, _, _, _, _, _, _, _, _, _, _, _, _, _, _, _, _, _, _, _, _, _, _, _, _, _, _, _, _, _, _, _, _].toArray, []⟩ (h := ?_)
      refine zlp 14 (.pointer (some (ad14.add (x5.toNat * 2)))) #[_, _, _, _, _, _, _, _, _, _, _, _, _, _, _, _, _, _, _, _, _, _, _, _, _] ⟨[_, _, _, _, _, _, _, _, _, _, _, _, _, _, _, _, _, _, _, _, _, _, _, _, _, _, _, _, _, _, _, _, _, _, _, _, _, _, _, _, _, _].toArray, []⟩ (h := ?_)
      refine zlp 15 (.pointer (some ⟨(ad14.add (x5.toNat * 2)).block, (ad14.add (x5.toNat * 2)).off + 1, none⟩)) #[_, _, _, _, _, _, _, _, _, _, _, _, _, _, _, _, _, _, _, _, _, _, _, _, _] ⟨[_, _, _, _, _, _, _, _, _, _, _, _, _, _, _, _, _, _, _, _, _, _, _, _, _, _, _, _, _, _, _, _, _, _, _, _, _, _, _, _, _, _].toArray, []⟩ (h := ?_)
      refine zlp 17 (.slice (some ad18) l1.length c1) #[_, _, _, _, _, _, _, _, _, _, _, _, _, _, _, _, _, _, _, _, _, _, _, _, _] ⟨[_, _, _, _, _, _, _, _, _, _, _, _, _, _, _, _, _, _, _, _, _, _, _, _, _, _, _, _, _, _, _, _, _, _, _, _, _, _, _, _, _, _].toArray, []⟩ (h := ?_)
      refine zlp 18 (.int .i64 x5) #[_, _, _, _, _, _, _, _, _, _, _, _, _, _, _, _, _, _, _, _, _, _, _, _, _] ⟨[_, _, _, _, _, _, _, _, _, _, _, _, _, _, _, _, _, _, _, _, _, _, _, _, _, _, _, _, _, _, _, _, _, _, _, _, _, _, _, _, _, _].toArray, []⟩ (h := ?_)
      refine zlp 19 (.pointer (some (ad18.add (x5.toNat * 2)))) #[_, _, _, _, _, _, _, _, _, _, _, _, _, _, _, _, _, _, _, _, _, _, _, _, _] ⟨[_, _, _, _, _, _, _, _, _, _, _, _, _, _, _, _, _, _, _, _, _, _, _, _, _, _, _, _, _, _, _, _, _, _, _, _, _, _, _, _, _, _].toArray, []⟩ (h := ?_)
      refine zlp 20 (.pointer (some ⟨(ad18.add (x5.toNat * 2)).block, (ad18.add (x5.toNat * 2)).off + 1, none⟩)) #[_, _, _, _, _, _, _, _, _, _, _, _, _, _, _, _, _, _, _, _, _, _, _, _, _] ⟨[_, _, _, _, _, _, _, _, _, _, _, _, _, _, _, _, _, _, _, _, _, _, _, _, _, _, _, _, _, _, _, _, _, _, _, _, _, _, _, _, _, _].toArray, []⟩ (h := ?_)
      refine MW.last_take (i := 16) (v := .slice A14_1 ((rd_T46 l0 x5).f1).length c14_1) (listed' := #[_, _, _, _, _, _, _, _, _, _, _, _, _, _, _, _, _, _, _, _, _, _, _, _, _]) (a' := ⟨[_, _, _, _, _, _, _, _, _, _, _, _, _, _, _, _, _, _, _, _, _, _, _, _, _, _, _, _, _, _, _, _, _, _, _, _, _, _, _, _, _, _].toArray, []⟩) rfl (by kernel_rfl) (by kernel_rfl) (by kernel_rfl) (by kernel_rfl) (by kernel_rfl) (fun _ _ _ h_ => h_) (by kernel_rfl) (fun w_ hS_ => ?go) (zk hx14_0 (zk hx14_1 (zk hx18_0 (zk hx18_1 z0)))) rfl rfl ?_
      case go => obtain ⟨_, hs1_, _, _, _⟩ := hS_; first | (go_simp; done) | (go_simp; rfl)
      refine MW.last_take (i := 21) (v := .slice A18_1 ((rd_T46 l1 x5).f1).length c18_1) (listed' := #[_, _, _, _, _, _, _, _, _, _, _, _, _, _, _, _, _, _, _, _, _, _, _, _, _]) (a' := ⟨[_, _, _, _, _, _, _, _, _, _, _, _, _, _, _, _, _, _, _, _, _, _, _, _, _, _, _, _, _, _, _, _, _, _, _, _, _, _, _, _, _, _].toArray, []⟩) rfl (by kernel_rfl) (by kernel_rfl) (by kernel_rfl) (by kernel_rfl) (by kernel_rfl) (fun _ _ _ h_ => h_) (by kernel_rfl) (fun w_ hS_ => ?go) (zk hx14_0 (zk hx14_1 (zk hx18_0 (zk hx18_1 z0)))) rfl rfl ?_
      case go => obtain ⟨_, _, _, hs3_, _⟩ := hS_; first | (go_simp; done) | (go_simp; rfl)
      refine MW.last_fin (i := 22) (listed' := #[true, true, true, true, true, true, true, true, true, true, true, true, true, true, true, true, true, true, true, true, true, true, true, false, false]) rfl (by kernel_rfl) (by kernel_rfl) (by kernel_rfl) ?_
      replace HH := zd HH
      obtain ⟨t22, At23, HH⟩ := HH
      go_wp2_with ((with_reducible refine gc 14 rfl ?_); refine zc 14 (some 39) Try.func14 #[.slice A14_1 ((rd_T46 l0 x5).f1).length c14_1, .slice A18_1 ((rd_T46 l1 x5).f1).length c18_1] (h := ?_); (with_reducible refine (toponymref16_SameTexts.calls k6 (fun k_ => (P_ k_ ∨ w.heap.size ≤ k_)) _ _ ((rd_T46 l0 x5).f1) _ _ ((rd_T46 l1 x5).f1) t22 _ (Kd.F_mono (ok := (fun k_ => (P_ k_ ∨ w.heap.size ≤ k_))) HF14_1.out (fun k_ hk_ => hk_)) HL14_1.out (Kd.F_mono (ok := (fun k_ => (P_ k_ ∨ w.heap.size ≤ k_))) HF18_1.out (fun k_ hk_ => hk_)) HL18_1.out At23.out).mono ?_); rintro e w' ⟨rfl, ⟨nd, rfl⟩⟩; refine ⟨_, rfl, ?_⟩)
      refine zg ?_
      refine wpList_nil ?_
      change wpAnyLast _ _ _ _ _ _ 2 #[true, true, true, true, true, true, true, true, true, true, true, true, true, true, true, true, true, true, true, true, true, true, true, false, false] ⟨[_, _, _, _, _, _, _, _, _, _, _, _, _, _, _, _, _, _, _, _, _, _, _, _, _, _, _, _, _, _, _, _, _, _, _, _, _, _, _, _, _, _].toArray, []⟩ _
      refine zlp 23 (.bool (!t22)) #[_, _, _, _, _, _, _, _, _, _, _, _, _, _, _, _, _, _, _, _, _, _, _, _, _] ⟨[_, _, _, _, _, _, _, _, _, _, _, _, _, _, _, _, _, _, _, _, _, _, _, _, _, _, _, _, _, _, _, _, _, _, _, _, _, _, _, _, _, _].toArray, []⟩ (h := ?_)
      refine zlp 24 (.bool (!t22)) #[_, _, _, _, _, _, _, _, _, _, _, _, _, _, _, _, _, _, _, _, _, _, _, _, _] ⟨[_, _, _, _, _, _, _, _, _, _, _, _, _, _, _, _, _, _, _, _, _, _, _, _, _, _, _, _, _, _, _, _, _, _, _, _, _, _, _, _, _, _].toArray, []⟩ (h := ?_)
      refine MW.last_done (by kernel_rfl) ?_ _
      clear hwr_
      by_cases c25 : t22 = true
      ·replace HH := MW.hpos HH c25
       subst c25
       go_wp2
       go_roundg k6
       case measure => have := HK0.out; omega
       case rel => exact ⟨wrap64 (x5 + 1), (by first | rfl | (simp; done) | (simp [*]; done)), HH, ⟨by have := HK0.out; omega⟩, ⟨(Kd.F_mono (ok := (fun k_ => (P_ k_ ∨ w.heap.size ≤ k_))) (by (with_reducible repeat (first | apply Kd.F_alloc | apply Kd.F_drewN | apply Kd.F_drew)); exact HF0.out) (fun k_ hk_ => hk_))⟩, ⟨(Kd.F_mono (ok := (fun k_ => (P_ k_ ∨ w.heap.size ≤ k_))) (by (with_reducible repeat (first | apply Kd.F_alloc | apply Kd.F_drewN | apply Kd.F_drew)); exact HF1.out) (fun k_ hk_ => hk_))⟩, ⟨(by repeat (first | (with_reducible first | exact HB.out | apply below_alloc | apply pw_below_drewN | apply below_drew1) | exact HB.out))⟩⟩
      replace HH := MW.hneg HH c25
      replace c25 := Bool.eq_false_iff.mpr c25
      subst c25
      obtain rfl := Option.some.inj HH.out
      clear HH
      go_wp2
      go_ret
      exact zfi (by repeat (first | (with_reducible first | exact HB.out | apply below_alloc | apply pw_below_drewN | apply below_drew1) | exact HB.out))
     (try simp only [hk26, Bool.not_true, Bool.not_false])
     (try simp only [hk27, Bool.not_true, Bool.not_false])
     refine MW.last_pure (i := 12) (v := undef) (listed' := #[true, true, true, true, true, true, true, true, true, true, true, true, true, false, false, false, false, false, false, false, false, false, false, false, false]) (a' := ⟨[_, _, _, _, _, _, _, _, _, _, _, _, _, _, _, _, _, _, _, _, _, _, _, _, _, _, _, _, _, _, _, _, _, _, _, _, _, _, _, _, _, _].toArray, []⟩) rfl (by kernel_rfl) (by kernel_rfl) (by kernel_rfl) (fun _ _ _ h_ => h_) (.inr ⟨(by kernel_rfl), rfl⟩) (by kernel_rfl) rfl ?_
     refine MW.last_pure (i := 13) (v := undef) (listed' := #[true, true, true, true, true, true, true, true, true, true, true, true, true, true, false, false, false, false, false, false, false, false, false, false, false]) (a' := ⟨[_, _, _, _, _, _, _, _, _, _, _, _, _, _, _, _, _, _, _, _, _, _, _, _, _, _, _, _, _, _, _, _, _, _, _, _, _, _, _, _, _, _].toArray, []⟩) rfl (by kernel_rfl) (by kernel_rfl) (by kernel_rfl) (fun _ _ _ h_ => h_) (.inr ⟨(by kernel_rfl), rfl⟩) (by kernel_rfl) rfl ?_
     refine MW.last_pure (i := 14) (v := undef) (listed' := #[true, true, true, true, true, true, true, true, true, true, true, true, true, true, true, false, false, false, false, false, false, false, false, false, false]) (a' := ⟨[_, _, _, _, _, _, _, _, _, _, _, _, _, _, _, _, _, _, _, _, _, _, _, _, _, _, _, _, _, _, _, _, _, _, _, _, _, _, _, _, _, _].toArray, []⟩) rfl (by kernel_rfl) (by kernel_rfl) (by kernel_rfl) (fun _ _ _ h_ => h_) (.inr ⟨(by kernel_rfl), rfl⟩) (by kernel_rfl) rfl ?_
     refine MW.last_pure (i := 15) (v := undef) (listed' := #[true, true, true, true, true, true, true, true, true, true, true, true, true, true, true, true, false, false, false, false, false, false, false, false, false]) (a' := ⟨[_, _, _, _, _, _, _, _, _, _, _, _, _, _, _, _, _, _, _, _, _, _, _, _, _, _, _, _, _, _, _, _, _, _, _, _, _, _, _, _, _, _].toArray, []⟩) rfl (by kernel_rfl) (by kernel_rfl) (by kernel_rfl) (fun _ _ _ h_ => h_) (.inr ⟨(by kernel_rfl), rfl⟩) (by kernel_rfl) rfl ?_
     refine MW.last_pure (i := 16) (v := undef) (listed' := #[true, true, true, true, true, true, true, true, true, true, true, true, true, true, true, true, true, false, false, false, false, false, false, false, false]) (a' := ⟨[_, _, _, _, _, _, _, _, _, _, _, _, _, _, _, _, _, _, _, _, _, _, _, _, _, _, _, _, _, _, _, _, _, _, _, _, _, _, _, _, _, _].toArray, []⟩) rfl (by kernel_rfl) (by kernel_rfl) (by kernel_rfl) (fun _ _ _ h_ => h_) (.inr ⟨(by kernel_rfl), rfl⟩) (by kernel_rfl) rfl ?_
     refine MW.last_pure (i := 17) (v := undef) (listed' := #[true, true, true, true, true, true, true, true, true, true, true, true, true, true, true, true, true, true, false, false, false, false, false, false, false]) (a' := ⟨[_, _, _, _, _, _, _, _, _, _, _, _, _, _, _, _, _, _, _, _, _, _, _, _, _, _, _, _, _, _, _, _, _, _, _, _, _, _, _, _, _, _].toArray, []⟩) rfl (by kernel_rfl) (by kernel_rfl) (by kernel_rfl) (fun _ _ _ h_ => h_) (.inr ⟨(by kernel_rfl), rfl⟩) (by kernel_rfl) rfl ?_
     refine MW.last_pure (i := 18) (v := undef) (listed' := #[true, true, true, true, true, true, true, true, true, true, true, true, true, true, true, true, true, true, true, false, false, false, false, false, false]) (a' := ⟨[_, _, _, _, _, _, _, _, _, _, _, _, _, _, _, _, _, _, _, _, _, _, _, _, _, _, _, _, _, _, _, _, _, _, _, _, _, _, _, _, _, _].toArray, []⟩) rfl (by kernel_rfl) (by kernel_rfl) (by kernel_rfl) (fun _ _ _ h_ => h_) (.inr ⟨(by kernel_rfl), rfl⟩) (by kernel_rfl) rfl ?_
     refine MW.last_pure (i := 19) (v := undef) (listed' := #[true, true, true, true, true, true, true, true, true, true, true, true, true, true, true, true, true, true, true, true, false, false, false, false, false]) (a' := ⟨[_, _, _, _, _, _, _, _, _, _, _, _, _, _, _, _, _, _, _, _, _, _, _, _, _, _, _, _, _, _, _, _, _, _, _, _, _, _, _, _, _, _].toArray, []⟩) rfl (by kernel_rfl) (by kernel_rfl) (by kernel_rfl) (fun _ _ _ h_ => h_) (.inr ⟨(by kernel_rfl), rfl⟩) (by kernel_rfl) rfl ?_
     refine MW.last_pure (i := 20) (v := undef) (listed' := #[true, true, true, true, true, true, true, true, true, true, true, true, true, true, true, true, true, true, true, true, true, false, false, false, false]) (a' := ⟨[_, _, _, _, _, _, _, _, _, _, _, _, _, _, _, _, _, _, _, _, _, _, _, _, _, _, _, _, _, _, _, _, _, _, _, _, _, _, _, _, _, _].toArray, []⟩) rfl (by kernel_rfl) (by kernel_rfl) (by kernel_rfl) (fun _ _ _ h_ => h_) (.inr ⟨(by kernel_rfl), rfl⟩) (by kernel_rfl) rfl ?_
     refine MW.last_pure (i := 21) (v := undef) (listed' := #[true, true, true, true, true, true, true, true, true, true, true, true, true, true, true, true, true, true, true, true, true, true, false, false, false]) (a' := ⟨[_, _, _, _, _, _, _, _, _, _, _, _, _, _, _, _, _, _, _, _, _, _, _, _, _, _, _, _, _, _, _, _, _, _, _, _, _, _, _, _, _, _].toArray, []⟩) rfl (by kernel_rfl) (by kernel_rfl) (by kernel_rfl) (fun _ _ _ h_ => h_) (.inr ⟨(by kernel_rfl), rfl⟩) (by kernel_rfl) rfl ?_
     refine MW.last_pure (i := 22) (v := undef) (listed' := #[true, true, true, true, true, true, true, true, true, true, true, true, true, true, true, true, true, true, true, true, true, true, true, false, false]) (a' := ⟨[_, _, _, _, _, _, _, _, _, _, _, _, _, _, _, _, _, _, _, _, _, _, _, _, _, _, _, _, _, _, _, _, _, _, _, _, _, _, _, _, _, _].toArray, []⟩) rfl (by kernel_rfl) (by kernel_rfl) (by kernel_rfl) (fun _ _ _ h_ => h_) (.inr ⟨(by kernel_rfl), rfl⟩) (by kernel_rfl) rfl ?_
     refine MW.last_pure (i := 23) (v := undef) (listed' := #[true, true, true, true, true, true, true, true, true, true, true, true, true, true, true, true, true, true, true, true, true, true, true, true, false]) (a' := ⟨[_, _, _, _, _, _, _, _, _, _, _, _, _, _, _, _, _, _, _, _, _, _, _, _, _, _, _, _, _, _, _, _, _, _, _, _, _, _, _, _, _, _].toArray, []⟩) rfl (by kernel_rfl) (by kernel_rfl) (by kernel_rfl) (fun _ _ _ h_ => h_) (.inr ⟨(by kernel_rfl), rfl⟩) (by kernel_rfl) rfl ?_
     refine zlp 24 (.bool true) #[_, _, _, _, _, _, _, _, _, _, _, _, _, _, _, _, _, _, _, _, _, _, _, _, _] ⟨[_, _, _, _, _, _, _, _, _, _, _, _, _, _, _, _, _, _, _, _, _, _, _, _, _, _, _, _, _, _, _, _, _, _, _, _, _, _, _, _, _, _].toArray, []⟩ (h := ?_)
     refine MW.last_done (by kernel_rfl) ?_ _
     clear hwr_
     obtain rfl := Option.some.inj HH.out
     clear HH
     go_wp2
     go_ret
     exact zfi HB.out
    obtain rfl := Option.some.inj HH.out
    clear HH
    go_wp2
    go_ret
    exact zfi HB.out
 replace HH := MW.hneg HH c1
 have hk33 : ((l0.length : Int) == (l1.length : Int)) = false := beq_eq_false_iff_ne.mpr c1
 have hk34 : ((l0.length : Int) != (l1.length : Int)) = true := bne_iff_ne.mpr c1
 have hk35 : (l0.length == l1.length) = false := by first | simpa using c1 | (simp at c1 ⊢; omega)
 clear c1
 obtain rfl := Option.some.inj HH.out
 clear HH
 go_wp2
 go_ret
 exact zfi HB.out

def toponymref27_Same.f (k : Nat) (a0_0 : Int) (a0_1 : Int) (a0_2 : Bool) (a0_3 : Int) (a0_4 : ByteArray) (a0_5 : ByteArray) (a0_6 : ByteArray) (l0_7 : List (S46)) (a1_0 : Int) (a1_1 : Int) (a1_2 : Bool) (a1_3 : Int) (a1_4 : ByteArray) (a1_5 : ByteArray) (a1_6 : ByteArray) (l1_7 : List (S46)) : Option (Bool) := if a0_0 = a1_0 then (if a0_1 = a1_1 then (if (a0_2 == a1_2) = true then (if a0_3 = a1_3 then (if a0_4.toList = a1_4.toList then (if a0_5.toList = a1_5.toList then (if a0_6.toList = a1_6.toList then ((toponymref26_SameValues.f k l0_7 l1_7).bind fun t51 => (some t51)) else (some false)) else (some false)) else (some false)) else (some false)) else (some false)) else (some false)) else (some false)
theorem toponymref27_Same.mono : ∀ a0_ a1_ a2_ a3_ a4_ a5_ a6_ a7_ a8_ a9_ a10_ a11_ a12_ a13_ a14_ a15_ k, LeO (toponymref27_Same.f k a0_ a1_ a2_ a3_ a4_ a5_ a6_ a7_ a8_ a9_ a10_ a11_ a12_ a13_ a14_ a15_) (toponymref27_Same.f (k + 1) a0_ a1_ a2_ a3_ a4_ a5_ a6_ a7_ a8_ a9_ a10_ a11_ a12_ a13_ a14_ a15_) := by
 intro a0_ a1_ a2_ a3_ a4_ a5_ a6_ a7_ a8_ a9_ a10_ a11_ a12_ a13_ a14_ a15_ k
 unfold toponymref27_Same.f
 with_reducible repeat' first | exact toponymref26_SameValues.mono _ _ _ | exact LeO.refl _ | exact LeO.none _ | refine LeO.ite ?_ ?_ | refine LeO.bind ?_ (fun _ => ?_)
theorem toponymref27_Same.calls (k : Nat) (P_ : Nat → Prop) (a0_0 : Int) (a0_1 : Int) (a0_2 : Bool) (a0_3 : Int) (a0_4 : ByteArray) (a0_5 : ByteArray) (a0_6 : ByteArray) (A0_7 : Option Addr) (c0_7 : Nat) (l0_7 : List (S46)) (a1_0 : Int) (a1_1 : Int) (a1_2 : Bool) (a1_3 : Int) (a1_4 : ByteArray) (a1_5 : ByteArray) (a1_6 : ByteArray) (A1_7 : Option Addr) (c1_7 : Nat) (l1_7 : List (S46)) (r : Bool) (w : World) (hs0_7 : Kd.F k46 w P_ A0_7 l0_7.length l0_7) (hc0_7 : l0_7.length ≤ c0_7) (hs1_7 : Kd.F k46 w P_ A1_7 l1_7.length l1_7) (hc1_7 : l1_7.length ≤ c1_7) (h : toponymref27_Same.f k a0_0 a0_1 a0_2 a0_3 a0_4 a0_5 a0_6 l0_7 a1_0 a1_1 a1_2 a1_3 a1_4 a1_5 a1_6 l1_7 = some r) :
  Calls Try.prog 17 #[.agg #[.int .i64 a0_0, .int .i64 a0_1, .bool a0_2, .int .i64 a0_3, .string a0_4, .string a0_5, .string a0_6, .slice A0_7 l0_7.length c0_7], .agg #[.int .i64 a1_0, .int .i64 a1_1, .bool a1_2, .int .i64 a1_3, .string a1_4, .string a1_5, .string a1_6, .slice A1_7 l1_7.length c1_7]] w (fun e w' => e = .returned (.bool r) ∧ Below w.heap.size w w') := by
 unfold toponymref27_Same.f at h
 have HH := za h
 clear h
 have HF0_7 := zfp hs0_7
 have HL0_7 := za hc0_7
 clear hs0_7 hc0_7
 have HF1_7 := zfp hs1_7
 have HL1_7 := za hc1_7
 clear hs1_7 hc1_7
 have HB := za (Below.refl w.heap.size w)
 have hu27 := Try.underlying27
 go_enter Try.func17, Try.ntmps17
 go_wp2_with ((with_reducible refine gd 2 rfl ?_); refine zb 2 27 #[.int .i64 a0_0, .int .i64 a0_1, .bool a0_2, .int .i64 a0_3, .string a0_4, .string a0_5, .string a0_6, .slice A0_7 l0_7.length c0_7] (h := ?_); intro g1 hg w2 BKg1 hb)
 refine zg ?_
 replace HF0_7 := zfe HF0_7.out hg hb
 replace HF1_7 := zfe HF1_7.out hg hb
 replace HB := zhb HB.out hb
 clear hg hb
 obtain ⟨j3, j4, j5, j6, j7, j8, j9, ja⟩ := MB.lz8 BKg1.out
 go_wp2_with ((with_reducible refine gd 3 rfl ?_); refine zb 3 27 #[.int .i64 a1_0, .int .i64 a1_1, .bool a1_2, .int .i64 a1_3, .string a1_4, .string a1_5, .string a1_6, .slice A1_7 l1_7.length c1_7] (h := ?_); intro g11 hg w12 BKg11 hb)
 refine zg ?_
 replace HF0_7 := zfe HF0_7.out hg hb
 replace HF1_7 := zfe HF1_7.out hg hb
 replace BKg1 := zbb BKg1.out hb
 replace HB := zhb HB.out hb
 clear hg hb
 clear j3 j4 j5 j6 j7 j8 j9 ja
 obtain ⟨jd, je, jf, jg, jh, ji, jj, jk⟩ := MB.lz8 BKg1.out
 obtain ⟨jl, jm, jn, jo, jp, jq, jr, js⟩ := MB.lz8 BKg11.out
 replace HH := zqe HH
 rcases HH with ⟨HH, hk30, hk31⟩ | ⟨HH, hk84, hk85⟩
 ·replace HH := zqe HH
  rcases HH with ⟨HH, hk33, hk34⟩ | ⟨HH, hk82, hk83⟩
  ·by_cases c35 : (a0_2 == a1_2) = true
   ·replace HH := MW.hpos HH c35
    have hk36 : (a0_2 == a1_2) = true := c35
    try have hk37 : decide (a0_2 = a1_2) = true := by simpa using c35
    try have hk38 : (a0_2 == a1_2) = true := by simpa using c35
    clear c35
    replace HH := zqe HH
    rcases HH with ⟨HH, hk40, hk41⟩ | ⟨HH, hk76, hk77⟩
    ·replace HH := zqe HH
     rcases HH with ⟨HH, hk43, hk44⟩ | ⟨HH, hk74, hk75⟩
     ·replace HH := zqe HH
      rcases HH with ⟨HH, hk46, hk47⟩ | ⟨HH, hk72, hk73⟩
      ·replace HH := zqe HH
       rcases HH with ⟨HH, hk49, hk50⟩ | ⟨HH, hk70, hk71⟩
       ·replace HH := zd HH
        obtain ⟨t51, At52, HH⟩ := HH
        go_wp2_with ((with_reducible refine gc 34 rfl ?_); refine zc 34 (some 57) Try.func34 #[.slice A0_7 l0_7.length c0_7, .slice A1_7 l1_7.length c1_7] (h := ?_); (with_reducible refine (toponymref26_SameValues.calls k (fun k_ => ((P_ k_ ∨ w.heap.size ≤ k_) ∧ k_ ≠ g1) ∧ k_ ≠ g11) _ _ l0_7 _ _ l1_7 t51 _ (Kd.F_mono (ok := (fun k_ => ((P_ k_ ∨ w.heap.size ≤ k_) ∧ k_ ≠ g1) ∧ k_ ≠ g11)) HF0_7.out (fun k_ hk_ => hk_)) HL0_7.out (Kd.F_mono (ok := (fun k_ => ((P_ k_ ∨ w.heap.size ≤ k_) ∧ k_ ≠ g1) ∧ k_ ≠ g11)) HF1_7.out (fun k_ hk_ => hk_)) HL1_7.out At52.out).mono ?_); rintro e w53 ⟨rfl, hb⟩; refine ⟨_, rfl, ?_⟩)
        refine zg ?_
        replace BKg1 := zbb BKg1.out hb
        replace BKg11 := zbb BKg11.out hb
        replace HB := zhb HB.out hb
        clear hb
        clear jd je jf jg jh ji jj jk jl jm jn jo jp jq jr js
        obtain ⟨jS, jT, jU, jV, jW, jX, jY, jZ⟩ := MB.lz8 BKg1.out
        obtain ⟨j10, j11, j12, j13, j14, j15, j16, j17⟩ := MB.lz8 BKg11.out
        obtain rfl := Option.some.inj HH.out
        clear HH
        go_wp2
        go_ret
        exact zfi HB.out
       obtain rfl := Option.some.inj HH.out
       clear HH
       go_wp2
       go_ret
       exact zfi HB.out
      obtain rfl := Option.some.inj HH.out
      clear HH
      go_wp2
      go_ret
      exact zfi HB.out
     obtain rfl := Option.some.inj HH.out
     clear HH
     go_wp2
     go_ret
     exact zfi HB.out
    obtain rfl := Option.some.inj HH.out
    clear HH
    go_wp2
    go_ret
    exact zfi HB.out
   replace HH := MW.hneg HH c35
   have hk78 : (a0_2 == a1_2) = false := by simpa using c35
   try have hk79 : decide (a0_2 = a1_2) = false := by simpa using c35
   try have hk80 : (a0_2 == a1_2) = false := by simpa using c35
   try have hk81 : ¬ (a0_2 = a1_2) := by simpa using c35
   clear c35
   obtain rfl := Option.some.inj HH.out
   clear HH
   go_wp2
   go_ret
   exact zfi HB.out
  obtain rfl := Option.some.inj HH.out
  clear HH
  go_wp2
  go_ret
  exact zfi HB.out
 obtain rfl := Option.some.inj HH.out
 clear HH
 go_wp2
 go_ret
 exact zfi HB.out

def slices_Equal_string_string.l0 : Nat → Int → (List ByteArray) → (List ByteArray) → Option (Bool)
 | 0, _, _, _ => none
 | k + 1, x5, l0, l1 => if x5 < (l0.length : Int) then (if 0 ≤ x5 then (if x5 < (l1.length : Int) then (if (rdOf ByteArray.empty l0 x5).toList = (rdOf ByteArray.empty l1 x5).toList then ((slices_Equal_string_string.l0 k (wrap64 (x5 + 1)) l0 l1)) else (some false)) else (none)) else (none)) else (some true)
def slices_Equal_string_string.f (k : Nat) (l0 : List ByteArray) (l1 : List ByteArray) : Option (Bool) := if (l0.length : Int) = (l1.length : Int) then ((slices_Equal_string_string.l0 k 0 l0 l1)) else (some false)
theorem slices_Equal_string_string.mono_l : ∀ k, (∀ y0 y1 y2, LeO (slices_Equal_string_string.l0 k y0 y1 y2) (slices_Equal_string_string.l0 (k + 1) y0 y1 y2))
 | 0 => fun _ _ _ r h => by simp [slices_Equal_string_string.l0] at h
 | k + 1 => by
  have ih0 := slices_Equal_string_string.mono_l k
  ·intro y0 y1 y2
   unfold slices_Equal_string_string.l0
   with_reducible repeat' first | exact ih0 _ _ _ | exact LeO.refl _ | exact LeO.none _ | refine LeO.ite ?_ ?_ | refine LeO.bind ?_ (fun _ => ?_)
theorem slices_Equal_string_string.mono : ∀ a0_ a1_ k, LeO (slices_Equal_string_string.f k a0_ a1_) (slices_Equal_string_string.f (k + 1) a0_ a1_) := by
 intro a0_ a1_ k
 have ih0 := slices_Equal_string_string.mono_l k
 unfold slices_Equal_string_string.f
 with_reducible repeat' first | exact ih0 _ _ _ | exact LeO.refl _ | exact LeO.none _ | refine LeO.ite ?_ ?_ | refine LeO.bind ?_ (fun _ => ?_)
theorem slices_Equal_string_string.calls (k : Nat) (P_ : Nat → Prop) (A0 : Option Addr) (c0 : Nat) (l0 : List ByteArray) (A1 : Option Addr) (c1 : Nat) (l1 : List ByteArray) (r : Bool) (w : World) (hs0 : Kd.F Kd.string w P_ A0 l0.length l0) (hc0 : l0.length ≤ c0) (hs1 : Kd.F Kd.string w P_ A1 l1.length l1) (hc1 : l1.length ≤ c1) (h : slices_Equal_string_string.f k l0 l1 = some r) :
  Calls Try.prog 57 #[.slice A0 l0.length c0, .slice A1 l1.length c1] w (fun e w' => e = .returned (.bool r) ∧ Drawn0 w w') := by
 unfold slices_Equal_string_string.f at h
 have HH := za h
 clear h
 have HF0 := zfp hs0
 clear hs0 hc0
 have HF1 := zfp hs1
 clear hs1 hc1
 go_enter Try.func57, Try.ntmps57
 by_cases c1 : (l0.length : Int) = (l1.length : Int)
 ·replace HH := MW.hpos HH c1
  have hk2 : ((l0.length : Int) == (l1.length : Int)) = true := beq_iff_eq.mpr c1
  have hk3 : ((l0.length : Int) != (l1.length : Int)) = false := bne_eq_false_iff_eq.mpr c1
  have hk4 : (l0.length == l1.length) = true := by first | simpa using c1 | (simp at c1 ⊢; omega)
  clear c1
  go_wp2
  go_loopg [13] k (fun kq u13 w' => ∃ (x5 : Int), u13 = .int .i64 x5 ∧ Aside0 ((slices_Equal_string_string.l0 kq x5 l0 l1) = some r) ∧ Aside0 (kq ≤ k) ∧ Drawn0 w w')
  case atStart => exact ⟨0, (by first | rfl | (simp; done) | (simp [*]; done)), HH, ⟨Nat.le_refl _⟩, by repeat (first | exact Drawn0.refl _ | apply Drawn0.step)⟩
  case round =>
   clear hk2
   clear hk3
   clear hk4
   clear HH
   obtain ⟨x5, rfl, HA, HK0, ⟨m0_, rfl⟩⟩ := hrel
   cases gk with
   | zero => exact absurd HA.out (by simp [slices_Equal_string_string.l0])
   | succ k6 =>
    have H := HA.out
    clear HA
    simp only [slices_Equal_string_string.l0] at H
    have HH := za H
    clear H
    replace HH := zqt HH
    rcases HH with ⟨HH, hk9, hk10⟩ | ⟨HH, hk26, hk27⟩
    ·replace HH := zqdo HH
     obtain ⟨HH, hk12⟩ := HH
     have p13 : 0 ≤ (x5 : Int) := of_decide_eq_true (by first | (with_reducible assumption) | assumption)
     have q13 : x5 < (l0.length : Int) := of_decide_eq_true (by first | (with_reducible assumption) | assumption)
     obtain ⟨ad13, e13, hx13_0⟩ := Kd.at_string (Kd.F_now HF0.out) x5 p13 q13
     cases e13
     replace p13 := eq_true p13
     replace q13 := eq_true q13
     replace HH := zqto HH
     obtain ⟨HH, hk15, hk16⟩ := HH
     have p17 : 0 ≤ (x5 : Int) := of_decide_eq_true (by first | (with_reducible assumption) | assumption)
     have q17 : x5 < (l1.length : Int) := of_decide_eq_true (by first | (with_reducible assumption) | assumption)
     obtain ⟨ad17, e17, hx17_0⟩ := Kd.at_string (Kd.F_now HF1.out) x5 p17 q17
     cases e17
     replace p17 := eq_true p17
     replace q17 := eq_true q17
     replace HH := zqe HH
     rcases HH with ⟨HH, hk19, hk20⟩ | ⟨HH, hk21, hk22⟩
     ·go_wp2
      go_quiet (fail)
      go_wp2
      go_roundg k6
      case measure => have := HK0.out; omega
      case rel => exact ⟨wrap64 (x5 + 1), (by first | rfl | (simp; done) | (simp [*]; done)), HH, ⟨by have := HK0.out; omega⟩, by repeat (first | exact Drawn0.refl _ | apply Drawn0.step)⟩
     obtain rfl := Option.some.inj HH.out
     clear HH
     go_wp2
     go_quiet (fail)
     go_wp2
     go_ret
     exact ⟨by first | rfl | (simp; done) | (simp [*]; done), by repeat (first | exact Drawn0.refl _ | apply Drawn0.step)⟩
    obtain rfl := Option.some.inj HH.out
    clear HH
    go_wp2
    go_ret
    exact ⟨by first | rfl | (simp; done) | (simp [*]; done), by repeat (first | exact Drawn0.refl _ | apply Drawn0.step)⟩
 replace HH := MW.hneg HH c1
 have hk28 : ((l0.length : Int) == (l1.length : Int)) = false := beq_eq_false_iff_ne.mpr c1
 have hk29 : ((l0.length : Int) != (l1.length : Int)) = true := bne_iff_ne.mpr c1
 have hk30 : (l0.length == l1.length) = false := by first | simpa using c1 | (simp at c1 ⊢; omega)
 clear c1
 obtain rfl := Option.some.inj HH.out
 clear HH
 go_wp2
 go_ret
 exact ⟨by first | rfl | (simp; done) | (simp [*]; done), by repeat (first | exact Drawn0.refl _ | apply Drawn0.step)⟩

def reply_same.f (k : Nat) (a0_0 : ByteArray) (l0_1 : List ByteArray) (a1_0 : ByteArray) (l1_1 : List ByteArray) : Option (Bool) := if a0_0.toList = a1_0.toList then ((slices_Equal_string_string.f k l0_1 l1_1).bind fun t14 => (some t14)) else (some false)
theorem reply_same.mono : ∀ a0_ a1_ a2_ a3_ k, LeO (reply_same.f k a0_ a1_ a2_ a3_) (reply_same.f (k + 1) a0_ a1_ a2_ a3_) := by
 intro a0_ a1_ a2_ a3_ k
 unfold reply_same.f
 with_reducible repeat' first | exact slices_Equal_string_string.mono _ _ _ | exact LeO.refl _ | exact LeO.none _ | refine LeO.ite ?_ ?_ | refine LeO.bind ?_ (fun _ => ?_)
theorem reply_same.calls (k : Nat) (P_ : Nat → Prop) (a0_0 : ByteArray) (A0_1 : Option Addr) (c0_1 : Nat) (l0_1 : List ByteArray) (a1_0 : ByteArray) (A1_1 : Option Addr) (c1_1 : Nat) (l1_1 : List ByteArray) (r : Bool) (w : World) (hs0_1 : Kd.F Kd.string w P_ A0_1 l0_1.length l0_1) (hc0_1 : l0_1.length ≤ c0_1) (hs1_1 : Kd.F Kd.string w P_ A1_1 l1_1.length l1_1) (hc1_1 : l1_1.length ≤ c1_1) (h : reply_same.f k a0_0 l0_1 a1_0 l1_1 = some r) :
  Calls Try.prog 36 #[.agg #[.string a0_0, .slice A0_1 l0_1.length c0_1], .agg #[.string a1_0, .slice A1_1 l1_1.length c1_1]] w (fun e w' => e = .returned (.bool r) ∧ Below w.heap.size w w') := by
 unfold reply_same.f at h
 have HH := za h
 clear h
 have HF0_1 := zfp hs0_1
 have HL0_1 := za hc0_1
 clear hs0_1 hc0_1
 have HF1_1 := zfp hs1_1
 have HL1_1 := za hc1_1
 clear hs1_1 hc1_1
 have HB := za (Below.refl w.heap.size w)
 have hu46 := Try.underlying46
 go_enter Try.func36, Try.ntmps36
 go_wp2_with ((with_reducible refine gd 2 rfl ?_); refine zb 2 46 #[.string a0_0, .slice A0_1 l0_1.length c0_1] (h := ?_); intro g1 hg w2 BKg1 hb)
 refine zg ?_
 replace HF0_1 := zfe HF0_1.out hg hb
 replace HF1_1 := zfe HF1_1.out hg hb
 replace HB := zhb HB.out hb
 clear hg hb
 obtain ⟨j3, j4⟩ := MB.lz2 BKg1.out
 go_wp2_with ((with_reducible refine gd 3 rfl ?_); refine zb 3 46 #[.string a1_0, .slice A1_1 l1_1.length c1_1] (h := ?_); intro g5 hg w6 BKg5 hb)
 refine zg ?_
 replace HF0_1 := zfe HF0_1.out hg hb
 replace HF1_1 := zfe HF1_1.out hg hb
 replace BKg1 := zbb BKg1.out hb
 replace HB := zhb HB.out hb
 clear hg hb
 clear j3 j4
 obtain ⟨j7, j8⟩ := MB.lz2 BKg1.out
 obtain ⟨j9, ja⟩ := MB.lz2 BKg5.out
 replace HH := zqe HH
 rcases HH with ⟨HH, hk12, hk13⟩ | ⟨HH, hk17, hk18⟩
 ·replace HH := zd HH
  obtain ⟨t14, At15, HH⟩ := HH
  go_wp2_with ((with_reducible refine gc 57 rfl ?_); refine zc 57 (some 15) Try.func57 #[.slice A0_1 l0_1.length c0_1, .slice A1_1 l1_1.length c1_1] (h := ?_); (with_reducible refine (slices_Equal_string_string.calls k (fun k_ => ((P_ k_ ∨ w.heap.size ≤ k_) ∧ k_ ≠ g1) ∧ k_ ≠ g5) _ _ l0_1 _ _ l1_1 t14 _ (Kd.F_mono (ok := (fun k_ => ((P_ k_ ∨ w.heap.size ≤ k_) ∧ k_ ≠ g1) ∧ k_ ≠ g5)) HF0_1.out (fun k_ hk_ => hk_)) HL0_1.out (Kd.F_mono (ok := (fun k_ => ((P_ k_ ∨ w.heap.size ≤ k_) ∧ k_ ≠ g1) ∧ k_ ≠ g5)) HF1_1.out (fun k_ hk_ => hk_)) HL1_1.out At15.out).mono ?_); rintro e w' ⟨rfl, ⟨nd, rfl⟩⟩; refine ⟨_, rfl, ?_⟩)
  refine zg ?_
  obtain rfl := Option.some.inj HH.out
  clear HH
  go_wp2
  go_ret
  exact zfi (by repeat (first | (with_reducible first | exact HB.out | apply below_alloc | apply pw_below_drewN | apply below_drew1) | exact HB.out))
 obtain rfl := Option.some.inj HH.out
 clear HH
 go_wp2
 go_ret
 exact zfi HB.out

def reply_Same.l0 : Nat → Int → (List (S46)) → (List (S46)) → Option (Bool)
 | 0, _, _, _ => none
 | k + 1, x55, l0_7, l1_7 => if x55 < (l0_7.length : Int) then (if 0 ≤ x55 then (if x55 < (l1_7.length : Int) then ((reply_same.f k ((rd_T46 l0_7 x55).f0) ((rd_T46 l0_7 x55).f1) ((rd_T46 l1_7 x55).f0) ((rd_T46 l1_7 x55).f1)).bind fun t167 => (if t167 = true then ((reply_Same.l0 k (wrap64 (x55 + 1)) l0_7 l1_7)) else (some false))) else (none)) else (none)) else (some true)
def reply_Same.f (k : Nat) (a0_0 : Int) (a0_1 : Int) (a0_2 : Bool) (a0_3 : Int) (a0_4 : ByteArray) (a0_5 : ByteArray) (a0_6 : ByteArray) (l0_7 : List (S46)) (a1_0 : Int) (a1_1 : Int) (a1_2 : Bool) (a1_3 : Int) (a1_4 : ByteArray) (a1_5 : ByteArray) (a1_6 : ByteArray) (l1_7 : List (S46)) : Option (Bool) := if a0_0 = a1_0 then (if a0_1 = a1_1 then (if (a0_2 == a1_2) = true then (if a0_3 = a1_3 then (if a0_4.toList = a1_4.toList then (if a0_5.toList = a1_5.toList then (if a0_6.toList = a1_6.toList then (if (l0_7.length : Int) = (l1_7.length : Int) then ((reply_Same.l0 k 0 l0_7 l1_7)) else (some false)) else (some false)) else (some false)) else (some false)) else (some false)) else (some false)) else (some false)) else (some false)
theorem reply_Same.mono_l : ∀ k, (∀ y0 y1 y2, LeO (reply_Same.l0 k y0 y1 y2) (reply_Same.l0 (k + 1) y0 y1 y2))
 | 0 => fun _ _ _ r h => by simp [reply_Same.l0] at h
 | k + 1 => by
  have ih0 := reply_Same.mono_l k
  ·intro y0 y1 y2
   unfold reply_Same.l0
   with_reducible repeat' first | exact ih0 _ _ _ | exact reply_same.mono _ _ _ _ _ | exact LeO.refl _ | exact LeO.none _ | refine LeO.ite ?_ ?_ | refine LeO.bind ?_ (fun _ => ?_)
theorem reply_Same.mono : ∀ a0_ a1_ a2_ a3_ a4_ a5_ a6_ a7_ a8_ a9_ a10_ a11_ a12_ a13_ a14_ a15_ k, LeO (reply_Same.f k a0_ a1_ a2_ a3_ a4_ a5_ a6_ a7_ a8_ a9_ a10_ a11_ a12_ a13_ a14_ a15_) (reply_Same.f (k + 1) a0_ a1_ a2_ a3_ a4_ a5_ a6_ a7_ a8_ a9_ a10_ a11_ a12_ a13_ a14_ a15_) := by
 intro a0_ a1_ a2_ a3_ a4_ a5_ a6_ a7_ a8_ a9_ a10_ a11_ a12_ a13_ a14_ a15_ k
 have ih0 := reply_Same.mono_l k
 unfold reply_Same.f
 with_reducible repeat' first | exact ih0 _ _ _ | exact reply_same.mono _ _ _ _ _ | exact LeO.refl _ | exact LeO.none _ | refine LeO.ite ?_ ?_ | refine LeO.bind ?_ (fun _ => ?_)
theorem reply_Same.calls (k : Nat) (P_ : Nat → Prop) (a0_0 : Int) (a0_1 : Int) (a0_2 : Bool) (a0_3 : Int) (a0_4 : ByteArray) (a0_5 : ByteArray) (a0_6 : ByteArray) (A0_7 : Option Addr) (c0_7 : Nat) (l0_7 : List (S46)) (a1_0 : Int) (a1_1 : Int) (a1_2 : Bool) (a1_3 : Int) (a1_4 : ByteArray) (a1_5 : ByteArray) (a1_6 : ByteArray) (A1_7 : Option Addr) (c1_7 : Nat) (l1_7 : List (S46)) (r : Bool) (w : World) (hs0_7 : Kd.F k46 w P_ A0_7 l0_7.length l0_7) (hc0_7 : l0_7.length ≤ c0_7) (hs1_7 : Kd.F k46 w P_ A1_7 l1_7.length l1_7) (hc1_7 : l1_7.length ≤ c1_7) (h : reply_Same.f k a0_0 a0_1 a0_2 a0_3 a0_4 a0_5 a0_6 l0_7 a1_0 a1_1 a1_2 a1_3 a1_4 a1_5 a1_6 l1_7 = some r) :
  Calls Try.prog 18 #[.agg #[.int .i64 a0_0, .int .i64 a0_1, .bool a0_2, .int .i64 a0_3, .string a0_4, .string a0_5, .string a0_6, .slice A0_7 l0_7.length c0_7], .agg #[.int .i64 a1_0, .int .i64 a1_1, .bool a1_2, .int .i64 a1_3, .string a1_4, .string a1_5, .string a1_6, .slice A1_7 l1_7.length c1_7]] w (fun e w' => e = .returned (.bool r) ∧ Below w.heap.size w w') := by
 unfold reply_Same.f at h
 have HH := za h
 clear h
 have HF0_7 := zfp hs0_7
 clear hs0_7 hc0_7
 have HF1_7 := zfp hs1_7
 clear hs1_7 hc1_7
 have HB := za (Below.refl w.heap.size w)
 have hu27 := Try.underlying27
 go_enter Try.func18, Try.ntmps18
 go_wp2_with ((with_reducible refine gd 2 rfl ?_); refine zb 2 27 #[.int .i64 a0_0, .int .i64 a0_1, .bool a0_2, .int .i64 a0_3, .string a0_4, .string a0_5, .string a0_6, .slice A0_7 l0_7.length c0_7] (h := ?_); intro g1 hg w2 BKg1 hb)
 refine zg ?_
 replace HF0_7 := zfe HF0_7.out hg hb
 replace HF1_7 := zfe HF1_7.out hg hb
 replace HB := zhb HB.out hb
 clear hg hb
 obtain ⟨j3, j4, j5, j6, j7, j8, j9, ja⟩ := MB.lz8 BKg1.out
 go_wp2_with ((with_reducible refine gd 3 rfl ?_); refine zb 3 27 #[.int .i64 a1_0, .int .i64 a1_1, .bool a1_2, .int .i64 a1_3, .string a1_4, .string a1_5, .string a1_6, .slice A1_7 l1_7.length c1_7] (h := ?_); intro g11 hg w12 BKg11 hb)
 refine zg ?_
 replace HF0_7 := zfe HF0_7.out hg hb
 replace HF1_7 := zfe HF1_7.out hg hb
 replace BKg1 := zbb BKg1.out hb
 replace HB := zhb HB.out hb
 clear hg hb
 clear j3 j4 j5 j6 j7 j8 j9 ja
 obtain ⟨jd, je, jf, jg, jh, ji, jj, jk⟩ := MB.lz8 BKg1.out
 obtain ⟨jl, jm, jn, jo, jp, jq, jr, js⟩ := MB.lz8 BKg11.out
 replace HH := zqe HH
 rcases HH with ⟨HH, hk30, hk31⟩ | ⟨HH, hk213, hk214⟩
 ·replace HH := zqe HH
  rcases HH with ⟨HH, hk33, hk34⟩ | ⟨HH, hk211, hk212⟩
  ·by_cases c35 : (a0_2 == a1_2) = true
   ·replace HH := MW.hpos HH c35
    have hk36 : (a0_2 == a1_2) = true := c35
    try have hk37 : decide (a0_2 = a1_2) = true := by simpa using c35
    try have hk38 : (a0_2 == a1_2) = true := by simpa using c35
    clear c35
    replace HH := zqe HH
    rcases HH with ⟨HH, hk40, hk41⟩ | ⟨HH, hk205, hk206⟩
    ·replace HH := zqe HH
     rcases HH with ⟨HH, hk43, hk44⟩ | ⟨HH, hk203, hk204⟩
     ·replace HH := zqe HH
      rcases HH with ⟨HH, hk46, hk47⟩ | ⟨HH, hk201, hk202⟩
      ·replace HH := zqe HH
       rcases HH with ⟨HH, hk49, hk50⟩ | ⟨HH, hk199, hk200⟩
       ·go_wp2_with (((with_reducible refine gate_callee (f := 35) rfl ?_); (try (refine gate_guard (by rfl) ?_; dsimp only)); refine goesL_ (some 57) rfl rfl Try.func35 (by kernel_rfl) rfl #[.slice A0_7 l0_7.length c0_7, .slice A1_7 l1_7.length c1_7, .func (.func 36) #[] #[]] rfl (by (try simp only [List.map_toArray, List.map_cons, List.map_nil]); first | done | rfl) ?_); refine stop_ ?_)
        refine zg ?_
        go_enter Try.func35, Try.ntmps35
        by_cases c51 : (l0_7.length : Int) = (l1_7.length : Int)
        ·replace HH := MW.hpos HH c51
         have hk52 : ((l0_7.length : Int) == (l1_7.length : Int)) = true := beq_iff_eq.mpr c51
         have hk53 : ((l0_7.length : Int) != (l1_7.length : Int)) = false := bne_eq_false_iff_eq.mpr c51
         have hk54 : (l0_7.length == l1_7.length) = true := by first | simpa using c51 | (simp at c51 ⊢; omega)
         clear c51
         go_wp2
         go_loopg [17] k (fun kq u17 w' => ∃ (x55 : Int), u17 = .int .i64 x55 ∧ Aside0 ((reply_Same.l0 kq x55 l0_7 l1_7) = some r) ∧ Aside0 (kq ≤ k) ∧ Aside0 (Kd.F k46 w' (fun k_ => ((P_ k_ ∨ w.heap.size ≤ k_) ∧ k_ ≠ g1) ∧ k_ ≠ g11) A0_7 l0_7.length l0_7) ∧ Aside0 (Kd.F k46 w' (fun k_ => ((P_ k_ ∨ w.heap.size ≤ k_) ∧ k_ ≠ g1) ∧ k_ ≠ g11) A1_7 l1_7.length l1_7) ∧ Aside0 (w'.heap[g1]? = some (.cells #[.int .i64 a0_0, .int .i64 a0_1, .bool a0_2, .int .i64 a0_3, .string a0_4, .string a0_5, .string a0_6, .slice A0_7 l0_7.length c0_7] 27 (0, 0))) ∧ Aside0 (w'.heap[g11]? = some (.cells #[.int .i64 a1_0, .int .i64 a1_1, .bool a1_2, .int .i64 a1_3, .string a1_4, .string a1_5, .string a1_6, .slice A1_7 l1_7.length c1_7] 27 (0, 0))) ∧ Aside0 (Below w.heap.size w w'))
         case atStart => exact ⟨0, (by first | rfl | (simp; done) | (simp [*]; done)), HH, ⟨Nat.le_refl _⟩, ⟨(Kd.F_mono (ok := (fun k_ => ((P_ k_ ∨ w.heap.size ≤ k_) ∧ k_ ≠ g1) ∧ k_ ≠ g11)) HF0_7.out (fun k_ hk_ => hk_))⟩, ⟨(Kd.F_mono (ok := (fun k_ => ((P_ k_ ∨ w.heap.size ≤ k_) ∧ k_ ≠ g1) ∧ k_ ≠ g11)) HF1_7.out (fun k_ hk_ => hk_))⟩, ⟨BKg1.out⟩, ⟨BKg11.out⟩, ⟨HB.out⟩⟩
         case round =>
          clear jd je jf jg jh ji jj jk jl jm jn jo jp jq jr js
          clear hk30
          clear hk31
          clear hk33
          clear hk34
          clear hk36
          try clear hk37
          try clear hk38
          clear hk40
          clear hk41
          clear hk43
          clear hk44
          clear hk46
          clear hk47
          clear hk49
          clear hk50
          clear hk52
          clear hk53
          clear hk54
          clear HH
          clear HF0_7 HF1_7 BKg1 BKg11 HB
          obtain ⟨x55, rfl, HA, HK0, HF0_7, HF1_7, BKg1, BKg11, HB⟩ := hrel
          obtain ⟨w57, rfl⟩ : ∃ wo_ : World, wo_ = wr := ⟨_, rfl⟩
          cases gk with
          | zero => exact absurd HA.out (by simp [reply_Same.l0])
          | succ k58 =>
           have H := HA.out
           clear HA
           simp only [reply_Same.l0] at H
           have HH := za H
           clear H
           obtain ⟨jX, jY, jZ, j10, j11, j12, j13, j14⟩ := MB.lz8 BKg1.out
           obtain ⟨j15, j16, j17, j18, j19, j1a, j1b, j1c⟩ := MB.lz8 BKg11.out
           replace HH := zqt HH
           rcases HH with ⟨HH, hk76, hk77⟩ | ⟨HH, hk194, hk195⟩
           ·replace HH := zqdo HH
            obtain ⟨HH, hk79⟩ := HH
            have p80 : 0 ≤ (x55 : Int) := of_decide_eq_true (by first | (with_reducible assumption) | assumption)
            have q80 : x55 < (l0_7.length : Int) := of_decide_eq_true (by first | (with_reducible assumption) | assumption)
            obtain ⟨ad80, A80_1, c80_1, e80, hx80_0, hx80_1, hl80_1, hi80_1⟩ := atF_T46 HF0_7.out x55 p80 q80
            cases e80
            have HF80_1 := za hi80_1
            have HL80_1 := za hl80_1
            clear hi80_1 hl80_1
            replace p80 := eq_true p80
            replace q80 := eq_true q80
            go_wp2_with ((with_reducible refine gd 8 rfl ?_); refine zb 8 46 #[.string (⟨#[]⟩ : ByteArray), .slice none 0 0] (h := ?_); intro g81 hg w82 BKg81 hb)
            refine zg ?_
            have GEg81 := zge hg (below_size HB.out)
            have NEg1_g81 := znq hg BKg1.out
            have NEg11_g81 := znq hg BKg11.out
            replace HF0_7 := zfe HF0_7.out hg hb
            replace HF1_7 := zfe HF1_7.out hg hb
            replace HF80_1 := zfe HF80_1.out hg hb
            replace BKg1 := zbb BKg1.out hb
            replace BKg11 := zbb BKg11.out hb
            replace HB := zhb HB.out hb
            clear hg hb
            clear jX jY jZ j10 j11 j12 j13 j14 j15 j16 j17 j18 j19 j1a j1b j1c hx80_0 hx80_1 p80 q80
            obtain ⟨j1l, j1m, j1n, j1o, j1p, j1q, j1r, j1s⟩ := MB.lz8 BKg1.out
            obtain ⟨j1t, j1u, j1v, j1w, j1x, j1y, j1z, j1A⟩ := MB.lz8 BKg11.out
            obtain ⟨j1B, j1C⟩ := MB.lz2 BKg81.out
            go_wp2_with ((with_reducible refine gs 46 8 rfl ?_); refine zs 46 8 #[.string ((rd_T46 l0_7 x55).f0), .slice A80_1 ((rd_T46 l0_7 x55).f1).length c80_1] BKg81.out [.string ((rd_T46 l0_7 x55).f0), .slice A80_1 ((rd_T46 l0_7 x55).f1).length c80_1] (h := ?_); intro w101 hbk hg)
            refine zg ?_
            replace HF0_7 := zfg HF0_7.out hg fun k_ hk_ => hk_.2
            replace HF1_7 := zfg HF1_7.out hg fun k_ hk_ => hk_.2
            replace HF80_1 := zfg HF80_1.out hg fun k_ hk_ => hk_.2
            replace BKg1 := zbg BKg1.out hg NEg1_g81
            replace BKg11 := zbg BKg11.out hg NEg11_g81
            replace HB := zhg HB.out hg (below_size HB.out) GEg81
            replace BKg81 := hbk
            clear hg hbk
            clear j1l j1m j1n j1o j1p j1q j1r j1s j1t j1u j1v j1w j1x j1y j1z j1A j1B j1C
            obtain ⟨j1E, j1F, j1G, j1H, j1I, j1J, j1K, j1L⟩ := MB.lz8 BKg1.out
            obtain ⟨j1M, j1N, j1O, j1P, j1Q, j1R, j1S, j1T⟩ := MB.lz8 BKg11.out
            obtain ⟨j1U, j1V⟩ := MB.lz2 BKg81.out
            replace HH := zqto HH
            obtain ⟨HH, hk121, hk122⟩ := HH
            have p123 : 0 ≤ (x55 : Int) := of_decide_eq_true (by first | (with_reducible assumption) | assumption)
            have q123 : x55 < (l1_7.length : Int) := of_decide_eq_true (by first | (with_reducible assumption) | assumption)
            obtain ⟨ad123, A123_1, c123_1, e123, hx123_0, hx123_1, hl123_1, hi123_1⟩ := atF_T46 HF1_7.out x55 p123 q123
            cases e123
            have HF123_1 := za hi123_1
            have HL123_1 := za hl123_1
            clear hi123_1 hl123_1
            replace p123 := eq_true p123
            replace q123 := eq_true q123
            go_wp2_with ((with_reducible refine gd 9 rfl ?_); refine zb 9 46 #[.string (⟨#[]⟩ : ByteArray), .slice none 0 0] (h := ?_); intro g124 hg w125 BKg124 hb)
            refine zg ?_
            have GEg124 := zge hg (below_size HB.out)
            have NEg1_g124 := znq hg BKg1.out
            have NEg11_g124 := znq hg BKg11.out
            have NEg81_g124 := znq hg BKg81.out
            replace HF0_7 := zfe HF0_7.out hg hb
            replace HF1_7 := zfe HF1_7.out hg hb
            replace HF80_1 := zfe HF80_1.out hg hb
            replace HF123_1 := zfe HF123_1.out hg hb
            replace BKg1 := zbb BKg1.out hb
            replace BKg11 := zbb BKg11.out hb
            replace BKg81 := zbb BKg81.out hb
            replace HB := zhb HB.out hb
            clear hg hb
            clear j1E j1F j1G j1H j1I j1J j1K j1L j1M j1N j1O j1P j1Q j1R j1S j1T j1U j1V hx123_0 hx123_1 p123 q123
            obtain ⟨j22, j23, j24, j25, j26, j27, j28, j29⟩ := MB.lz8 BKg1.out
            obtain ⟨j2a, j2b, j2c, j2d, j2e, j2f, j2g, j2h⟩ := MB.lz8 BKg11.out
            obtain ⟨j2i, j2j⟩ := MB.lz2 BKg81.out
            obtain ⟨j2k, j2l⟩ := MB.lz2 BKg124.out
            go_wp2_with ((with_reducible refine gs 46 9 rfl ?_); refine zs 46 9 #[.string ((rd_T46 l1_7 x55).f0), .slice A123_1 ((rd_T46 l1_7 x55).f1).length c123_1] BKg124.out [.string ((rd_T46 l1_7 x55).f0), .slice A123_1 ((rd_T46 l1_7 x55).f1).length c123_1] (h := ?_); intro w146 hbk hg)
            refine zg ?_
            replace HF0_7 := zfg HF0_7.out hg fun k_ hk_ => hk_.2
            replace HF1_7 := zfg HF1_7.out hg fun k_ hk_ => hk_.2
            replace HF80_1 := zfg HF80_1.out hg fun k_ hk_ => hk_.2
            replace HF123_1 := zfg HF123_1.out hg fun k_ hk_ => hk_.2
            replace BKg1 := zbg BKg1.out hg NEg1_g124
            replace BKg11 := zbg BKg11.out hg NEg11_g124
            replace BKg81 := zbg BKg81.out hg NEg81_g124
            replace HB := zhg HB.out hg (below_size HB.out) GEg124
            replace BKg124 := hbk
            clear hg hbk
            clear j22 j23 j24 j25 j26 j27 j28 j29 j2a j2b j2c j2d j2e j2f j2g j2h j2i j2j j2k j2l
            obtain ⟨j2n, j2o, j2p, j2q, j2r, j2s, j2t, j2u⟩ := MB.lz8 BKg1.out
            obtain ⟨j2v, j2w, j2x, j2y, j2z, j2A, j2B, j2C⟩ := MB.lz8 BKg11.out
            obtain ⟨j2D, j2E⟩ := MB.lz2 BKg81.out
            obtain ⟨j2F, j2G⟩ := MB.lz2 BKg124.out
            replace HH := zd HH
            obtain ⟨t167, At168, HH⟩ := HH
            go_wp2_with ((with_reducible refine gd 29 rfl ?_); refine zv 29 Try.func36 #[.agg #[.string ((rd_T46 l0_7 x55).f0), .slice A80_1 ((rd_T46 l0_7 x55).f1).length c80_1], .agg #[.string ((rd_T46 l1_7 x55).f0), .slice A123_1 ((rd_T46 l1_7 x55).f1).length c123_1]] #[] (h := ?_); (with_reducible refine (reply_same.calls k58 (fun k_ => ((((P_ k_ ∨ w.heap.size ≤ k_) ∧ k_ ≠ g1) ∧ k_ ≠ g11) ∧ k_ ≠ g81) ∧ k_ ≠ g124) ((rd_T46 l0_7 x55).f0) _ _ ((rd_T46 l0_7 x55).f1) ((rd_T46 l1_7 x55).f0) _ _ ((rd_T46 l1_7 x55).f1) t167 _ (Kd.F_mono (ok := (fun k_ => ((((P_ k_ ∨ w.heap.size ≤ k_) ∧ k_ ≠ g1) ∧ k_ ≠ g11) ∧ k_ ≠ g81) ∧ k_ ≠ g124)) HF80_1.out (fun k_ hk_ => hk_)) HL80_1.out (Kd.F_mono (ok := (fun k_ => ((((P_ k_ ∨ w.heap.size ≤ k_) ∧ k_ ≠ g1) ∧ k_ ≠ g11) ∧ k_ ≠ g81) ∧ k_ ≠ g124)) HF123_1.out (fun k_ hk_ => hk_)) HL123_1.out At168.out).mono ?_); rintro e w169 ⟨rfl, hb⟩; refine ⟨_, rfl, ?_⟩)
            refine zg ?_
            replace HF0_7 := zfb HF0_7.out hb
            replace HF1_7 := zfb HF1_7.out hb
            replace BKg1 := zbb BKg1.out hb
            replace BKg11 := zbb BKg11.out hb
            replace BKg81 := zbb BKg81.out hb
            replace BKg124 := zbb BKg124.out hb
            replace HB := zhb HB.out hb
            clear hb
            clear j2n j2o j2p j2q j2r j2s j2t j2u j2v j2w j2x j2y j2z j2A j2B j2C j2D j2E j2F j2G
            obtain ⟨j2K, j2L, j2M, j2N, j2O, j2P, j2Q, j2R⟩ := MB.lz8 BKg1.out
            obtain ⟨j2S, j2T, j2U, j2V, j2W, j2X, j2Y, j2Z⟩ := MB.lz8 BKg11.out
            obtain ⟨j30, j31⟩ := MB.lz2 BKg81.out
            obtain ⟨j32, j33⟩ := MB.lz2 BKg124.out
            by_cases c190 : t167 = true
            ·replace HH := MW.hpos HH c190
             subst c190
             go_wp2
             go_roundg k58
             case measure => have := HK0.out; omega
             case rel => exact ⟨wrap64 (x55 + 1), (by first | rfl | (simp; done) | (simp [*]; done)), HH, ⟨by have := HK0.out; omega⟩, ⟨(Kd.F_mono (ok := (fun k_ => ((((P_ k_ ∨ w.heap.size ≤ k_) ∧ k_ ≠ g1) ∧ k_ ≠ g11) ∧ k_ ≠ g81) ∧ k_ ≠ g124)) HF0_7.out (fun k_ hk_ => ⟨⟨hk_.1.1.1.1, hk_.1.1.1.2⟩, hk_.1.1.2⟩))⟩, ⟨(Kd.F_mono (ok := (fun k_ => ((((P_ k_ ∨ w.heap.size ≤ k_) ∧ k_ ≠ g1) ∧ k_ ≠ g11) ∧ k_ ≠ g81) ∧ k_ ≠ g124)) HF1_7.out (fun k_ hk_ => ⟨⟨hk_.1.1.1.1, hk_.1.1.1.2⟩, hk_.1.1.2⟩))⟩, ⟨BKg1.out⟩, ⟨BKg11.out⟩, ⟨HB.out⟩⟩
            replace HH := MW.hneg HH c190
            replace c190 := Bool.eq_false_iff.mpr c190
            subst c190
            go_wp2
            go_ret
            refine ⟨_, rfl, ?_⟩
            obtain rfl := Option.some.inj HH.out
            clear HH
            go_wp2
            go_ret
            exact zfi HB.out
           go_wp2
           go_ret
           refine ⟨_, rfl, ?_⟩
           obtain rfl := Option.some.inj HH.out
           clear HH
           go_wp2
           go_ret
           exact zfi HB.out
        replace HH := MW.hneg HH c51
        have hk196 : ((l0_7.length : Int) == (l1_7.length : Int)) = false := beq_eq_false_iff_ne.mpr c51
        have hk197 : ((l0_7.length : Int) != (l1_7.length : Int)) = true := bne_iff_ne.mpr c51
        have hk198 : (l0_7.length == l1_7.length) = false := by first | simpa using c51 | (simp at c51 ⊢; omega)
        clear c51
        go_wp2
        go_ret
        refine ⟨_, rfl, ?_⟩
        obtain rfl := Option.some.inj HH.out
        clear HH
        go_wp2
        go_ret
        exact zfi HB.out
       obtain rfl := Option.some.inj HH.out
       clear HH
       go_wp2
       go_ret
       exact zfi HB.out
      obtain rfl := Option.some.inj HH.out
      clear HH
      go_wp2
      go_ret
      exact zfi HB.out
     obtain rfl := Option.some.inj HH.out
     clear HH
     go_wp2
     go_ret
     exact zfi HB.out
    obtain rfl := Option.some.inj HH.out
    clear HH
    go_wp2
    go_ret
    exact zfi HB.out
   replace HH := MW.hneg HH c35
   have hk207 : (a0_2 == a1_2) = false := by simpa using c35
   try have hk208 : decide (a0_2 = a1_2) = false := by simpa using c35
   try have hk209 : (a0_2 == a1_2) = false := by simpa using c35
   try have hk210 : ¬ (a0_2 = a1_2) := by simpa using c35
   clear c35
   obtain rfl := Option.some.inj HH.out
   clear HH
   go_wp2
   go_ret
   exact zfi HB.out
  obtain rfl := Option.some.inj HH.out
  clear HH
  go_wp2
  go_ret
  exact zfi HB.out
 obtain rfl := Option.some.inj HH.out
 clear HH
 go_wp2
 go_ret
 exact zfi HB.out

def reply_Result.f (a0 : Int) (a1 : Int) (a2 : Int) (a3 : ByteArray) : Option (Int × Int × Bool × Int × ByteArray × ByteArray × ByteArray × (List (S46))) := some (a0, a1, false, a2, (⟨#[]⟩ : ByteArray), a3, (⟨#[]⟩ : ByteArray), ([] : List (S46)))
theorem reply_Result.calls (a0 : Int) (a1 : Int) (a2 : Int) (a3 : ByteArray) (r1 : Int) (r2 : Int) (r3 : Bool) (r4 : Int) (r5 : ByteArray) (r6 : ByteArray) (r7 : ByteArray) (r8 : List (S46)) (w : World) (h : reply_Result.f a0 a1 a2 a3 = some (r1, r2, r3, r4, r5, r6, r7, r8)) :
  Calls Try.prog 19 #[.int .i64 a0, .int .i64 a1, .int .i64 a2, .string a3] w (fun e w' => ∃ v7_ : Value, e = .returned (.agg #[.int .i64 r1, .int .i64 r2, .bool r3, .int .i64 r4, .string r5, .string r6, .string r7, v7_]) ∧ Kd.N k46 46 w' w.heap.size (fun k_ => w.heap.size ≤ k_) v7_ r8 ∧ Below w.heap.size w w') := by
 unfold reply_Result.f at h
 have HH := za h
 clear h
 have HB := za (Below.refl w.heap.size w)
 have hu27 := Try.underlying27
 go_enter Try.func19, Try.ntmps19
 go_wp2_with ((with_reducible refine gd 8 rfl ?_); refine zb 8 27 #[.int .i64 0, .int .i64 0, .bool false, .int .i64 0, .string (⟨#[]⟩ : ByteArray), .string (⟨#[]⟩ : ByteArray), .string (⟨#[]⟩ : ByteArray), .slice none 0 0] (h := ?_); intro g1 hg w2 BKg1 hb)
 refine zg ?_
 have GEg1 := zge hg (below_size HB.out)
 replace HB := zhb HB.out hb
 clear hg hb
 obtain ⟨j3, j4, j5, j6, j7, j8, j9, ja⟩ := MB.lz8 BKg1.out
 go_wp2_with ((with_reducible refine gs 27 8 rfl ?_); refine zs 27 8 #[.int .i64 a0, .int .i64 a1, .bool false, .int .i64 a2, .string (⟨#[]⟩ : ByteArray), .string a3, .string (⟨#[]⟩ : ByteArray), .slice none 0 0] BKg1.out [.int .i64 a0, .int .i64 a1, .bool false, .int .i64 a2, .string (⟨#[]⟩ : ByteArray), .string a3, .string (⟨#[]⟩ : ByteArray), .slice none 0 0] (h := ?_); intro w11 hbk hg)
 refine zg ?_
 replace HB := zhg HB.out hg (below_size HB.out) GEg1
 replace BKg1 := hbk
 clear hg hbk
 clear j3 j4 j5 j6 j7 j8 j9 ja
 obtain ⟨jc, jd, je, jf, jg, jh, ji, jj⟩ := MB.lz8 BKg1.out
 have H := HH.out
 simp only [Option.some.injEq, Prod.mk.injEq] at H
 obtain ⟨rfl, rfl, rfl, rfl, rfl, rfl, rfl, rfl⟩ := H
 clear HH
 go_wp2
 refine bodyPost_ret (MW.results_c rfl _ _ g1 27 #[.int .i64 a0, .int .i64 a1, .bool false, .int .i64 a2, .string (⟨#[]⟩ : ByteArray), .string a3, .string (⟨#[]⟩ : ByteArray), .slice none 0 0] (0, 0) _ rfl BKg1.out Try.underlying27 rfl (by kernel_rfl)) rfl ?_
 exact ⟨_, by first | rfl | (simp; done) | (simp [*]; done), (Kd.N_nil _ _ _ _ _), HB.out⟩

mutual
def toponymlaw27_few.l0 : Nat → Int → (List (S46)) → Option (Bool)
 | 0, _, _ => none
 | k + 1, x31, l0_7 => if x31 < (l0_7.length : Int) then (if 0 ≤ x31 then (if (((rd_T46 l0_7 x31).f1).length : Int) > 20 then (some false) else (if (((rd_T46 l0_7 x31).f0).size : Int) > 1000 then (some false) else ((toponymlaw27_few.l1 k 0 l0_7 x31)))) else (none)) else (some true)
def toponymlaw27_few.l1 : Nat → Int → (List (S46)) → Int → Option (Bool)
 | 0, _, _, _ => none
 | k + 1, x58, l0_7, x31 => if 0 ≤ x31 then (if x31 < (l0_7.length : Int) then (if x58 < (((rd_T46 l0_7 x31).f1).length : Int) then (if 0 ≤ x58 then (if ((rdOf ByteArray.empty ((rd_T46 l0_7 x31).f1) x58).size : Int) > 2000 then (some false) else ((toponymlaw27_few.l1 k (wrap64 (x58 + 1)) l0_7 x31))) else (none)) else ((toponymlaw27_few.l0 k (wrap64 (x31 + 1)) l0_7))) else (none)) else (none)
end
def toponymlaw27_few.f (k : Nat) (a0_0 : Int) (a0_1 : Int) (a0_2 : Bool) (a0_3 : Int) (a0_4 : ByteArray) (a0_5 : ByteArray) (a0_6 : ByteArray) (l0_7 : List (S46)) : Option (Bool) := if (l0_7.length : Int) > 40 then (some false) else (if (a0_6.size : Int) > 5000 then (some false) else (if (a0_4.size : Int) > 5000 then (some false) else (if (a0_5.size : Int) > 5000 then (some false) else ((toponymlaw27_few.l0 k 0 l0_7)))))
theorem toponymlaw27_few.mono_l : ∀ k, (∀ y0 y1, LeO (toponymlaw27_few.l0 k y0 y1) (toponymlaw27_few.l0 (k + 1) y0 y1)) ∧ (∀ y0 y1 y2, LeO (toponymlaw27_few.l1 k y0 y1 y2) (toponymlaw27_few.l1 (k + 1) y0 y1 y2))
 | 0 => ⟨fun _ _ r h => by simp [toponymlaw27_few.l0] at h, fun _ _ _ r h => by simp [toponymlaw27_few.l1] at h⟩
 | k + 1 => by
  obtain ⟨ih0, ih1⟩ := toponymlaw27_few.mono_l k
  refine ⟨?_, ?_⟩
  ·intro y0 y1
   unfold toponymlaw27_few.l0
   with_reducible repeat' first | exact ih0 _ _ | exact ih1 _ _ _ | exact LeO.refl _ | exact LeO.none _ | refine LeO.ite ?_ ?_ | refine LeO.bind ?_ (fun _ => ?_)
  intro y0 y1 y2
  unfold toponymlaw27_few.l1
  with_reducible repeat' first | exact ih0 _ _ | exact ih1 _ _ _ | exact LeO.refl _ | exact LeO.none _ | refine LeO.ite ?_ ?_ | refine LeO.bind ?_ (fun _ => ?_)
theorem toponymlaw27_few.mono : ∀ a0_ a1_ a2_ a3_ a4_ a5_ a6_ a7_ k, LeO (toponymlaw27_few.f k a0_ a1_ a2_ a3_ a4_ a5_ a6_ a7_) (toponymlaw27_few.f (k + 1) a0_ a1_ a2_ a3_ a4_ a5_ a6_ a7_) := by
 intro a0_ a1_ a2_ a3_ a4_ a5_ a6_ a7_ k
 obtain ⟨ih0, ih1⟩ := toponymlaw27_few.mono_l k
 unfold toponymlaw27_few.f
 with_reducible repeat' first | exact ih0 _ _ | exact ih1 _ _ _ | exact LeO.refl _ | exact LeO.none _ | refine LeO.ite ?_ ?_ | refine LeO.bind ?_ (fun _ => ?_)
theorem toponymlaw27_few.calls (k : Nat) (P_ : Nat → Prop) (a0_0 : Int) (a0_1 : Int) (a0_2 : Bool) (a0_3 : Int) (a0_4 : ByteArray) (a0_5 : ByteArray) (a0_6 : ByteArray) (A0_7 : Option Addr) (c0_7 : Nat) (l0_7 : List (S46)) (r : Bool) (w : World) (hs0_7 : Kd.F k46 w P_ A0_7 l0_7.length l0_7) (hc0_7 : l0_7.length ≤ c0_7) (h : toponymlaw27_few.f k a0_0 a0_1 a0_2 a0_3 a0_4 a0_5 a0_6 l0_7 = some r) :
  Calls Try.prog 9 #[.agg #[.int .i64 a0_0, .int .i64 a0_1, .bool a0_2, .int .i64 a0_3, .string a0_4, .string a0_5, .string a0_6, .slice A0_7 l0_7.length c0_7]] w (fun e w' => e = .returned (.bool r) ∧ Below w.heap.size w w') := by
 unfold toponymlaw27_few.f at h
 have HH := za h
 clear h
 have HF0_7 := zfp hs0_7
 clear hs0_7 hc0_7
 have HB := za (Below.refl w.heap.size w)
 have hu27 := Try.underlying27
 go_enter Try.func9, Try.ntmps9
 go_wp2_with ((with_reducible refine gd 1 rfl ?_); refine zb 1 27 #[.int .i64 a0_0, .int .i64 a0_1, .bool a0_2, .int .i64 a0_3, .string a0_4, .string a0_5, .string a0_6, .slice A0_7 l0_7.length c0_7] (h := ?_); intro g1 hg w2 BKg1 hb)
 refine zg ?_
 replace HF0_7 := zfe HF0_7.out hg hb
 replace HB := zhb HB.out hb
 clear hg hb
 obtain ⟨j3, j4, j5, j6, j7, j8, j9, ja⟩ := MB.lz8 BKg1.out
 replace HH := zqK 40 HH
 rcases HH with ⟨HH, hk12, hk13⟩ | ⟨HH, hk14, hk15⟩
 ·obtain rfl := Option.some.inj HH.out
  clear HH
  go_wp2
  go_ret
  exact zfi HB.out
 replace HH := zqK 5000 HH
 rcases HH with ⟨HH, hk17, hk18⟩ | ⟨HH, hk19, hk20⟩
 ·obtain rfl := Option.some.inj HH.out
  clear HH
  go_wp2
  go_ret
  exact zfi HB.out
 replace HH := zqK 5000 HH
 rcases HH with ⟨HH, hk22, hk23⟩ | ⟨HH, hk24, hk25⟩
 ·obtain rfl := Option.some.inj HH.out
  clear HH
  go_wp2
  go_ret
  exact zfi HB.out
 replace HH := zqK 5000 HH
 rcases HH with ⟨HH, hk27, hk28⟩ | ⟨HH, hk29, hk30⟩
 ·obtain rfl := Option.some.inj HH.out
  clear HH
  go_wp2
  go_ret
  exact zfi HB.out
 go_wp2
 go_loopg [3] k (fun kq u3 w' => ∃ (x31 : Int), u3 = .int .i64 x31 ∧ Aside0 ((toponymlaw27_few.l0 kq x31 l0_7) = some r) ∧ Aside0 (kq ≤ k) ∧ Aside0 (Kd.F k46 w' (fun k_ => (P_ k_ ∨ w.heap.size ≤ k_) ∧ k_ ≠ g1) A0_7 l0_7.length l0_7) ∧ Aside0 (w'.heap[g1]? = some (.cells #[.int .i64 a0_0, .int .i64 a0_1, .bool a0_2, .int .i64 a0_3, .string a0_4, .string a0_5, .string a0_6, .slice A0_7 l0_7.length c0_7] 27 (0, 0))) ∧ Aside0 (Below w.heap.size w w'))
 case atStart => exact ⟨0, (by first | rfl | (simp; done) | (simp [*]; done)), HH, ⟨Nat.le_refl _⟩, ⟨(Kd.F_mono (ok := (fun k_ => (P_ k_ ∨ w.heap.size ≤ k_) ∧ k_ ≠ g1)) HF0_7.out (fun k_ hk_ => hk_))⟩, ⟨BKg1.out⟩, ⟨HB.out⟩⟩
 case round =>
  clear j3 j4 j5 j6 j7 j8 j9 ja
  clear hk14
  clear hk15
  clear hk19
  clear hk20
  clear hk24
  clear hk25
  clear hk29
  clear hk30
  clear HH
  clear HF0_7 BKg1 HB
  obtain ⟨x31, rfl, HA, HK0, HF0_7, BKg1, HB⟩ := hrel
  obtain ⟨w33, rfl⟩ : ∃ wo_ : World, wo_ = wr := ⟨_, rfl⟩
  cases gk with
  | zero => exact absurd HA.out (by simp [toponymlaw27_few.l0])
  | succ k32 =>
   have H := HA.out
   clear HA
   simp only [toponymlaw27_few.l0] at H
   have HH := za H
   clear H
   obtain ⟨jy, jz, jA, jB, jC, jD, jE, jF⟩ := MB.lz8 BKg1.out
   replace HH := zqt HH
   rcases HH with ⟨HH, hk43, hk44⟩ | ⟨HH, hk93, hk94⟩
   ·replace HH := zqdo HH
    obtain ⟨HH, hk46⟩ := HH
    have p47 : 0 ≤ (x31 : Int) := of_decide_eq_true (by first | (with_reducible assumption) | assumption)
    have q47 : x31 < (l0_7.length : Int) := of_decide_eq_true (by first | (with_reducible assumption) | assumption)
    obtain ⟨ad47, A47_1, c47_1, e47, hx47_0, hx47_1, hl47_1, hi47_1⟩ := atF_T46 HF0_7.out x31 p47 q47
    cases e47
    have HF47_1 := za hi47_1
    clear hi47_1 hl47_1
    replace p47 := eq_true p47
    replace q47 := eq_true q47
    replace HH := zqK 20 HH
    rcases HH with ⟨HH, hk49, hk50⟩ | ⟨HH, hk51, hk52⟩
    ·obtain rfl := Option.some.inj HH.out
     clear HH
     go_wp2
     go_ret
     exact zfi HB.out
    replace HH := zqK 1000 HH
    rcases HH with ⟨HH, hk54, hk55⟩ | ⟨HH, hk56, hk57⟩
    ·obtain rfl := Option.some.inj HH.out
     clear HH
     go_wp2
     go_ret
     exact zfi HB.out
    go_wp2
    go_loopg [4] k32 (fun kq u4 w' => ∃ (x58 : Int), u4 = .int .i64 x58 ∧ Aside0 ((toponymlaw27_few.l1 kq x58 l0_7 x31) = some r) ∧ Aside0 (kq ≤ k32) ∧ Aside0 (Kd.F k46 w' (fun k_ => (P_ k_ ∨ w.heap.size ≤ k_) ∧ k_ ≠ g1) (some ad47) l0_7.length l0_7) ∧ Aside0 (Kd.F Kd.string w' (fun k_ => (P_ k_ ∨ w.heap.size ≤ k_) ∧ k_ ≠ g1) A47_1 ((rd_T46 l0_7 x31).f1).length ((rd_T46 l0_7 x31).f1)) ∧ Aside0 (w'.heap[g1]? = some (.cells #[.int .i64 a0_0, .int .i64 a0_1, .bool a0_2, .int .i64 a0_3, .string a0_4, .string a0_5, .string a0_6, .slice (some ad47) l0_7.length c0_7] 27 (0, 0))) ∧ Aside0 (Below w.heap.size w w'))
    case atStart => exact ⟨0, (by first | rfl | (simp; done) | (simp [*]; done)), HH, ⟨Nat.le_refl _⟩, ⟨(Kd.F_mono (ok := (fun k_ => (P_ k_ ∨ w.heap.size ≤ k_) ∧ k_ ≠ g1)) HF0_7.out (fun k_ hk_ => hk_))⟩, ⟨(Kd.F_mono (ok := (fun k_ => (P_ k_ ∨ w.heap.size ≤ k_) ∧ k_ ≠ g1)) HF47_1.out (fun k_ hk_ => hk_))⟩, ⟨BKg1.out⟩, ⟨HB.out⟩⟩
    case round =>
     clear jy jz jA jB jC jD jE jF hx47_0 hx47_1 p47 q47
     clear hk43
     clear hk44
     clear hk46
     clear hk51
     clear hk52
     clear hk56
     clear hk57
     clear HH
     clear HF0_7 HF47_1 BKg1 HB
     obtain ⟨x58, rfl, HA, HK1, HF0_7, HF47_1, BKg1, HB⟩ := hrel
     obtain ⟨w60, rfl⟩ : ∃ wo_ : World, wo_ = wr := ⟨_, rfl⟩
     cases gk with
     | zero => exact absurd HA.out (by simp [toponymlaw27_few.l1])
     | succ k59 =>
      have H := HA.out
      clear HA
      simp only [toponymlaw27_few.l1] at H
      have HH := za H
      clear H
      obtain ⟨jZ, j10, j11, j12, j13, j14, j15, j16⟩ := MB.lz8 BKg1.out
      replace HH := zqdo HH
      obtain ⟨HH, hk70⟩ := HH
      replace HH := zqto HH
      obtain ⟨HH, hk72, hk73⟩ := HH
      have p74 : 0 ≤ (x31 : Int) := of_decide_eq_true (by first | (with_reducible assumption) | assumption)
      have q74 : x31 < (l0_7.length : Int) := of_decide_eq_true (by first | (with_reducible assumption) | assumption)
      obtain ⟨ad74, A74_1, c74_1, e74, hx74_0, hx74_1, hl74_1, hi74_1⟩ := atF_T46 HF0_7.out x31 p74 q74
      cases e74
      have HF74_1 := za hi74_1
      clear hi74_1 hl74_1
      replace p74 := eq_true p74
      replace q74 := eq_true q74
      replace HH := zqt HH
      rcases HH with ⟨HH, hk76, hk77⟩ | ⟨HH, hk87, hk88⟩
      ·replace HH := zqdo HH
       obtain ⟨HH, hk79⟩ := HH
       have p80 : 0 ≤ (x58 : Int) := of_decide_eq_true (by first | (with_reducible assumption) | assumption)
       have q80 : x58 < (((rd_T46 l0_7 x31).f1).length : Int) := of_decide_eq_true (by first | (with_reducible assumption) | assumption)
       obtain ⟨ad80, e80, hx80_0⟩ := Kd.at_string (Kd.F_now HF74_1.out) x58 p80 q80
       cases e80
       replace p80 := eq_true p80
       replace q80 := eq_true q80
       replace HH := zqK 2000 HH
       rcases HH with ⟨HH, hk82, hk83⟩ | ⟨HH, hk84, hk85⟩
       ·obtain rfl := Option.some.inj HH.out
        clear HH
        go_wp2
        go_ret
        exact zfi HB.out
       go_wp2
       go_roundg k59
       case measure => have := HK0.out; have := HK1.out; omega
       case rel => exact ⟨wrap64 (x58 + 1), (by first | rfl | (simp; done) | (simp [*]; done)), HH, ⟨by have := HK0.out; have := HK1.out; omega⟩, ⟨(Kd.F_mono (ok := (fun k_ => (P_ k_ ∨ w.heap.size ≤ k_) ∧ k_ ≠ g1)) HF0_7.out (fun k_ hk_ => hk_))⟩, ⟨(Kd.F_mono (ok := (fun k_ => (P_ k_ ∨ w.heap.size ≤ k_) ∧ k_ ≠ g1)) HF47_1.out (fun k_ hk_ => hk_))⟩, ⟨BKg1.out⟩, ⟨HB.out⟩⟩
      go_wp2
      go_roundg k59
      case measure => have := HK0.out; have := HK1.out; omega
      case rel => exact ⟨wrap64 (x31 + 1), (by first | rfl | (simp; done) | (simp [*]; done)), HH, ⟨by have := HK0.out; have := HK1.out; omega⟩, ⟨(Kd.F_mono (ok := (fun k_ => (P_ k_ ∨ w.heap.size ≤ k_) ∧ k_ ≠ g1)) HF0_7.out (fun k_ hk_ => hk_))⟩, ⟨BKg1.out⟩, ⟨HB.out⟩⟩
   obtain rfl := Option.some.inj HH.out
   clear HH
   go_wp2
   go_ret
   exact zfi HB.out
end Go.Proofs.Ytdjkemhmhkpmkaa.GA
