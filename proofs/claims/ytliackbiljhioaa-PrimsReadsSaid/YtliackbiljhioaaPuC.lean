import Derived.Test.YtliackbiljhioaaPuB
import Derived.Test.YtliackbiljhioaaOA
import Derived.Test.YtliackbiljhioaaGA10
import Derived.Test.YtliackbiljhioaaGA20
import Derived.Test.YtliackbiljhioaaGA21
import Derived.Test.YtliackbiljhioaaGA22
import Derived.Test.YtliackbiljhioaaGA23
import Derived.Test.YtliackbiljhioaaGA24
import Derived.Test.YtliackbiljhioaaGA25
import Derived.Test.YtliackbiljhioaaGA26
/- Plain laws: an element is read as the document says. -/
namespace Go.Proofs.Ytliackbiljhioaa.PuA
open Go Go.RowKit Go.Proofs.Ytliackbiljhioaa.GA Go.Proofs.Ytliackbiljhioaa.OA Go.Proofs.YtliackbiljhioaaW.PrintWords Go.Proofs.YtliackbiljhioaaW.PrintLast Go.Proofs.YtliackbiljhioaaW.PrintMore
set_option linter.unusedVariables false
set_option linter.unusedSimpArgs false
theorem up {α : Type} {f : Nat → Option α} (h : ∀ k, LeO (f k) (f (k + 1))) {r : α} {k : Nat} (hr : f k = some r) : ∀ j, f (k + j) = some r
  | 0 => hr
  | j + 1 => h _ _ (up h hr j)
theorem up_to {α : Type} {f : Nat → Option α} (h : ∀ k, LeO (f k) (f (k + 1))) {r : α} {k k' : Nat} (hr : f k = some r) (hk : k ≤ k') : f k' = some r := by
  obtain ⟨j, rfl⟩ := Nat.exists_eq_add_of_le hk
  exact up h hr j
theorem awake_k (k : Nat) (hk : 12 ≤ k) : toponymlaw16_awake.f k = some true := up_to (fun k => toponymlaw16_awake.mono k) awake_ hk
theorem few_l0_mono (k : Nat) (x i : Int) (l : List S28) : LeO (toponymlaw15_Few.l0 k x i l) (toponymlaw15_Few.l0 (k + 1) x i l) := (toponymlaw15_Few.mono_l k).2 x i l
theorem rd_mem (l : List S28) (i : Int) (h0 : 0 ≤ i) (h1 : i < l.length) : rd_T28 l i ∈ l := by
  unfold rd_T28
  rw [List.getD_eq_getElem?_getD, List.getElem?_eq_getElem (by omega)]
  exact List.getElem_mem _
theorem few_list (l : List S28) (hl : l.length ≤ 4611686018427387904) (IH : ∀ y ∈ l, ∀ a, ∃ k r, toponymlaw15_Few.f k y.f0 y.f1 y.f2 y.f3 y.f4 a = some r) :
    ∀ (j : Nat) (x i : Int), ((l.length : Int) - i).toNat = j → 0 ≤ i → i ≤ l.length → ∃ k r, toponymlaw15_Few.l0 k x i l = some r
  | 0, x, i, hj, h0, h1 => ⟨1, x, by unfold toponymlaw15_Few.l0; rw [if_neg (by omega)]⟩
  | j + 1, x, i, hj, h0, h1 => by
    by_cases hx : x ≥ 0
    · obtain ⟨k1, r1, e1⟩ := IH _ (rd_mem l i h0 (by omega)) x
      obtain ⟨k2, r2, e2⟩ := few_list l hl IH j r1 (i + 1) (by omega) (by omega) (by omega)
      refine ⟨max k1 k2 + 1, r2, ?_⟩
      unfold toponymlaw15_Few.l0
      rw [if_pos (by omega), if_pos hx, if_pos h0, up_to (f := fun k => toponymlaw15_Few.f k _ _ _ _ _ x) (fun k => toponymlaw15_Few.mono _ _ _ _ _ _ k) e1 (Nat.le_max_left k1 k2), Option.bind_some, IntWalk.wrap64_in (i + 1) (by omega)]
      exact up_to (f := fun k => toponymlaw15_Few.l0 k r1 (i + 1) l) (fun k => few_l0_mono k _ _ _) e2 (Nat.le_max_right k1 k2)
    · refine ⟨1, x, ?_⟩
      unfold toponymlaw15_Few.l0
      rw [if_pos (by omega), if_neg hx]
theorem few_f (x : S28) (h : G28 x) : ∀ a, ∃ k r, toponymlaw15_Few.f k x.f0 x.f1 x.f2 x.f3 x.f4 a = some r := by
  induction h with
  | mk x _ _ _ h4 _ ih =>
    intro a
    obtain ⟨k, r, e⟩ := few_list x.f4 (by omega) (fun y hy a => ih y hy a) _ (wrap64 (a - 1)) 0 rfl (by omega) (by omega)
    by_cases hs : (x.f3.size : Int) > 5000
    · exact ⟨k + 1, -1, by unfold toponymlaw15_Few.f; rw [if_pos hs]⟩
    · exact ⟨k + 1, r, by unfold toponymlaw15_Few.f; rw [if_neg hs]; exact e⟩
theorem or_low (y b : Int) (hy0 : -2147483648 ≤ y) (hy1 : y ≤ 2147483647) (hm : y % 256 = 0) (hb0 : 0 ≤ b) (hb1 : b ≤ 255) : Go.bits .or .i32 y b = wrap32 (y + b) := by
  unfold Go.bits
  rw [IntWalk.i32_left]
  have hb : (BitVec.ofInt IntKind.i32.bits b).toNat = b.toNat := by
    show (BitVec.ofInt 32 b).toNat = _
    rw [BitVec.toNat_ofInt]
    have : b % ((2 ^ 32 : Nat) : Int) = b := by omega
    rw [this]
  have hy : (BitVec.ofInt IntKind.i32.bits y).toNat = 2 ^ 8 * ((y % 4294967296) / 256).toNat := by
    show (BitVec.ofInt 32 y).toNat = _
    rw [BitVec.toNat_ofInt]
    have : ((2 ^ 32 : Nat) : Int) = 4294967296 := by decide
    rw [this]
    omega
  have ho : (BitVec.ofInt IntKind.i32.bits y ||| BitVec.ofInt IntKind.i32.bits b).toNat = 2 ^ 8 * ((y % 4294967296) / 256).toNat + b.toNat := by
    rw [BitVec.toNat_or, hy, hb]
    exact (Nat.two_pow_add_eq_or_of_lt (by omega) _).symm
  show wrap32 (((BitVec.ofInt IntKind.i32.bits y ||| BitVec.ofInt IntKind.i32.bits b).toNat : Nat) : Int) = _
  rw [ho]
  unfold wrap32
  omega
theorem p_step (s : ByteArray) (k : Nat) (x i j : Int) (hj : i + 1 = j) (h : i < (s.size : Int)) (h0 : 0 ≤ i) (hi : i ≤ 5) (hx0 : -8388608 ≤ x) (hx1 : x ≤ 8388607) :
    prims_AsInt.l0 (k + 1) x i s = prims_AsInt.l0 k (x * 256 + bt s i) j s := by
  subst hj
  have hr := bt_range s i
  conv => lhs; unfold prims_AsInt.l0
  rw [if_pos h, if_pos h0, IntWalk.wrap32_in (x * 256) (by omega), IntWalk.wrap32_in (bt s i) (by omega), or_low (x * 256) (bt s i) (by omega) (by omega) (by omega) hr.1 hr.2, IntWalk.wrap32_in _ (by omega), IntWalk.wrap64_in (i + 1) (by omega)]
theorem p_end (s : ByteArray) (k : Nat) (x i : Int) (h : ¬ i < (s.size : Int)) (hk : 5 ≤ k) (hx0 : -2147483648 ≤ x) (hx1 : x ≤ 2147483647) :
    prims_AsInt.l0 (k + 1) x i s = if (strOfNums (sgn (four x))).toList = s.toList then some (x, 0) else some (0, 160) := by
  unfold prims_AsInt.l0
  rw [if_neg h, signed_f k x hk, IntWalk.wrap64_in x (by omega)]
  rfl
theorem r_step (s : ByteArray) (k : Nat) (n w i j : Int) (hj : i + 1 = j) (h : i < (s.size : Int)) (h0 : 0 ≤ i) (hi : i ≤ 5) (hx0 : 0 ≤ n) (hx1 : n ≤ 4294967296) (hw0 : 0 ≤ w) (hw1 : w ≤ 4294967296) :
    toponymref16_AsInt.l0 (k + 1) n w i s = toponymref16_AsInt.l0 k (256 * n + bt s i) (256 * w) j s := by
  subst hj
  have hr := bt_range s i
  conv => lhs; unfold toponymref16_AsInt.l0
  rw [if_pos h, if_pos h0, IntWalk.wrap64_in (256 * n) (by omega), IntWalk.wrap64_in (bt s i) (by omega), IntWalk.wrap64_in (256 * n + bt s i) (by omega), IntWalk.wrap64_in (256 * w) (by omega), IntWalk.wrap64_in (i + 1) (by omega)]
theorem r_end (s : ByteArray) (k : Nat) (n w i v : Int) (h : ¬ i < (s.size : Int)) (hs : 0 < (s.size : Int)) (hk : 20 ≤ k) (hv : v = if bt s 0 > 127 then n - w else n) (hv0 : -2147483648 ≤ v) (hv1 : v ≤ 2147483647) :
    toponymref16_AsInt.l0 (k + 1) n w i s = if (strOfNums (sgn (four v))).toList = s.toList then some (v, 0) else some (0, 160) := by
  have hb : toponymref16_Bytes.f k v = some (strOfNums (sgn (four v))) := by rw [bytes_f k v (by omega) (by omega) hk, if_pos ⟨hv0, hv1⟩]
  unfold toponymref16_AsInt.l0
  rw [if_neg h, if_pos hs]
  by_cases hc : bt s 0 > 127
  · rw [if_pos hc] at hv
    rw [if_pos hc, ← hv, IntWalk.wrap64_in v (by omega), hb]
    rfl
  · rw [if_neg hc] at hv
    rw [if_neg hc, ← hv, hb]
    rfl
theorem i8w (b : Int) (h0 : 0 ≤ b) (h1 : b ≤ 255) : wrap32 (IntKind.i8.wrap b) = if b > 127 then b - 256 else b := by
  have : IntKind.i8.wrap b = if b > 127 then b - 256 else b := by
    unfold IntKind.wrap
    simp [IntKind.bits, IntKind.signed]
    split <;> split <;> omega
  rw [this]
  split <;> exact IntWalk.wrap32_in _ (by omega)
theorem fin_ {α : Type} (c : Prop) [Decidable c] (x y : α) : ∃ r, (if c then some x else some y) = some r ∧ (if c then some x else some y) = some r := by
  by_cases h : c
  · exact ⟨x, by rw [if_pos h], by rw [if_pos h]⟩
  · exact ⟨y, by rw [if_neg h], by rw [if_neg h]⟩
theorem asInt_same (k : Nat) (hk : 30 ≤ k) (a0 : Int) (a1 : Bool) (a2 : Int) (s : ByteArray) (l : List S28) : ∃ r, prims_AsInt.f k a0 a1 a2 s l = some r ∧ toponymref16_AsInt.f k a0 a1 a2 s l = some r := by
  obtain ⟨k, rfl⟩ : ∃ q, k = q + 5 := ⟨k - 5, by omega⟩
  unfold prims_AsInt.f toponymref16_AsInt.f prims_plain.f
  by_cases hm : a1 = true
  · rw [if_pos hm, if_pos hm]
    exact ⟨(0, 160), by simp, rfl⟩
  · rw [if_neg hm, if_neg hm, Option.bind_some]
    by_cases hl : (l.length : Int) > 0
    · rw [if_pos hl]
      have : ¬ (((l.length : Int) == 0) = true) := by simp; intro h; subst h; simp at hl
      rw [if_neg this]
      exact ⟨_, rfl, rfl⟩
    · rw [if_neg hl]
      have : (((l.length : Int) == 0) = true) := by simp; exact List.eq_nil_of_length_eq_zero (by omega)
      rw [if_pos this]
      by_cases h1 : (s.size : Int) < 1
      · rw [if_pos h1, if_pos h1]; exact ⟨_, rfl, rfl⟩
      · rw [if_neg h1, if_neg h1]
        by_cases h4 : (s.size : Int) > 4
        · rw [if_pos h4, if_pos h4]; exact ⟨_, rfl, rfl⟩
        · have b0 := bt_range s 0
          have b1 := bt_range s 1
          have b2 := bt_range s 2
          have b3 := bt_range s 3
          rw [if_neg h4, if_neg h4, if_pos (by omega), i8w _ b0.1 b0.2, r_step s _ 0 1 0 1 rfl (by omega) (by omega) (by omega) (by omega) (by omega) (by omega) (by omega)]
          obtain ⟨x, hx⟩ : ∃ x, x = if bt s 0 > 127 then bt s 0 - 256 else bt s 0 := ⟨_, rfl⟩
          rw [← hx]
          have hx' : (bt s 0 > 127 ∧ x = bt s 0 - 256) ∨ (bt s 0 ≤ 127 ∧ x = bt s 0) := by split at hx <;> omega
          have hsz : s.size = 1 ∨ s.size = 2 ∨ s.size = 3 ∨ s.size = 4 := by omega
          rcases hsz with hz | hz | hz | hz
          · rw [p_end s _ _ _ (by omega) (by omega) (by omega) (by omega), r_end s _ _ _ _ x (by omega) (by omega) (by omega) (by split <;> omega) (by omega) (by omega)]
            exact fin_ _ _ _
          · rw [p_step s _ _ 1 2 rfl (by omega) (by omega) (by omega) (by omega) (by omega), p_end s _ _ _ (by omega) (by omega) (by omega) (by omega), r_step s _ _ _ 1 2 rfl (by omega) (by omega) (by omega) (by omega) (by omega) (by omega) (by omega), r_end s _ _ _ _ (x * 256 + bt s 1) (by omega) (by omega) (by omega) (by split <;> omega) (by omega) (by omega)]
            exact fin_ _ _ _
          · rw [p_step s _ _ 1 2 rfl (by omega) (by omega) (by omega) (by omega) (by omega), p_step s _ _ 2 3 rfl (by omega) (by omega) (by omega) (by omega) (by omega), p_end s _ _ _ (by omega) (by omega) (by omega) (by omega), r_step s _ _ _ 1 2 rfl (by omega) (by omega) (by omega) (by omega) (by omega) (by omega) (by omega), r_step s _ _ _ 2 3 rfl (by omega) (by omega) (by omega) (by omega) (by omega) (by omega) (by omega), r_end s _ _ _ _ ((x * 256 + bt s 1) * 256 + bt s 2) (by omega) (by omega) (by omega) (by split <;> omega) (by omega) (by omega)]
            exact fin_ _ _ _
          · rw [p_step s _ _ 1 2 rfl (by omega) (by omega) (by omega) (by omega) (by omega), p_step s _ _ 2 3 rfl (by omega) (by omega) (by omega) (by omega) (by omega), p_step s _ _ 3 4 rfl (by omega) (by omega) (by omega) (by omega) (by omega), p_end s _ _ _ (by omega) (by omega) (by omega) (by omega), r_step s _ _ _ 1 2 rfl (by omega) (by omega) (by omega) (by omega) (by omega) (by omega) (by omega), r_step s _ _ _ 2 3 rfl (by omega) (by omega) (by omega) (by omega) (by omega) (by omega) (by omega), r_step s _ _ _ 3 4 rfl (by omega) (by omega) (by omega) (by omega) (by omega) (by omega) (by omega), r_end s _ _ _ _ (((x * 256 + bt s 1) * 256 + bt s 2) * 256 + bt s 3) (by omega) (by omega) (by omega) (by split <;> omega) (by omega) (by omega)]
            exact fin_ _ _ _
/-- An element's texts. -/
def texts : List S28 → List ByteArray → List ByteArray × Int
  | [], acc => (acc, 0)
  | e :: r, acc => if e.f0 = 0 ∧ e.f2 = 4 ∧ e.f1 = false then texts r (acc ++ [e.f3]) else ([], 160)
theorem rd_cons (l : List S28) (i : Int) (h0 : 0 ≤ i) (h1 : i < l.length) : l.drop i.toNat = rd_T28 l i :: l.drop (i + 1).toNat := by
  have e : (i + 1).toNat = i.toNat + 1 := by omega
  rw [e, List.drop_eq_getElem_cons (by omega)]
  congr 1
  unfold rd_T28
  rw [List.getD_eq_getElem?_getD, List.getElem?_eq_getElem (by omega)]
  rfl
theorem texts_go (e : S28) (r : List S28) (acc : List ByteArray) (c0 : e.f0 = 0) (c2 : e.f2 = 4) (c1 : e.f1 = false) : texts (e :: r) acc = texts r (acc ++ [e.f3]) := by rw [texts, if_pos ⟨c0, c2, c1⟩]
theorem texts_no (e : S28) (r : List S28) (acc : List ByteArray) (c : ¬ (e.f0 = 0 ∧ e.f2 = 4 ∧ e.f1 = false)) : texts (e :: r) acc = ([], 160) := by rw [texts, if_neg c]
theorem p_texts (l : List S28) (hl : l.length ≤ 4398046511104) : ∀ (j k : Nat) (acc : List ByteArray) (i : Int), ((l.length : Int) - i).toNat = j → 0 ≤ i → i ≤ l.length → (acc.length : Int) ≤ i → j < k → prims_Texts.l0 k acc i l = some (texts (l.drop i.toNat) acc)
  | j, 0, _, _, _, _, _, _, h => by omega
  | 0, k + 1, acc, i, hj, h0, h1, ha, hk => by
    unfold prims_Texts.l0
    rw [if_neg (by omega), List.drop_eq_nil_of_le (by omega)]
    rfl
  | j + 1, k + 1, acc, i, hj, h0, h1, ha, hk => by
    have hi : i < (l.length : Int) := by omega
    have hcap : acc.length < 8796093022208 := by omega
    unfold prims_Texts.l0 prims_Is.f
    rw [if_pos hi, if_pos h0, rd_cons l i h0 hi]
    by_cases c0 : (rd_T28 l i).f0 = 0
    · by_cases c2 : (rd_T28 l i).f2 = 4
      · by_cases c1 : (rd_T28 l i).f1 = false
        · rw [texts_go _ _ _ c0 c2 c1, if_pos c0, if_pos c2, c1, Option.bind_some, if_pos (show (false == false) = true from rfl), if_pos hcap, Option.bind_some, IntWalk.wrap64_in (i + 1) (by omega)]
          exact p_texts l hl j k _ (i + 1) (by omega) (by omega) (by omega) (by simp; omega) (by omega)
        · have c1' : (rd_T28 l i).f1 = true := by cases h : (rd_T28 l i).f1 <;> simp_all
          rw [texts_no _ _ _ (by simp [c1']), if_pos c0, if_pos c2, c1', Option.bind_some]
          rfl
      · rw [texts_no _ _ _ (by simp [c2]), if_pos c0, if_neg c2]
        rfl
    · rw [texts_no _ _ _ (by simp [c0]), if_neg c0]
      rfl
theorem r_texts (l : List S28) (hl : l.length ≤ 4398046511104) : ∀ (j k : Nat) (acc : List ByteArray) (i : Int), ((l.length : Int) - i).toNat = j → 0 ≤ i → i ≤ l.length → (acc.length : Int) ≤ i → j < k → toponymref16_Texts.l0 k acc i true l = some (texts (l.drop i.toNat) acc)
  | j, 0, _, _, _, _, _, _, h => by omega
  | 0, k + 1, acc, i, hj, h0, h1, ha, hk => by
    unfold toponymref16_Texts.l0
    rw [if_neg (by omega), List.drop_eq_nil_of_le (by omega)]
    rfl
  | j + 1, k + 1, acc, i, hj, h0, h1, ha, hk => by
    have hi : i < (l.length : Int) := by omega
    have hcap : acc.length < 8796093022208 := by omega
    unfold toponymref16_Texts.l0
    rw [if_pos hi, if_pos h0, rd_cons l i h0 hi]
    by_cases c0 : (rd_T28 l i).f0 = 0
    · by_cases c2 : (rd_T28 l i).f2 = 4
      · by_cases c1 : (rd_T28 l i).f1 = false
        · have c1' : ¬ ((rd_T28 l i).f1 = true) := by simp [c1]
          rw [texts_go _ _ _ c0 c2 c1, if_pos c0, if_pos c2, if_neg c1', if_pos hcap, Option.bind_some, IntWalk.wrap64_in (i + 1) (by omega)]
          exact r_texts l hl j k _ (i + 1) (by omega) (by omega) (by omega) (by simp; omega) (by omega)
        · have c1' : (rd_T28 l i).f1 = true := by cases h : (rd_T28 l i).f1 <;> simp_all
          rw [texts_no _ _ _ (by simp [c1']), if_pos c0, if_pos c2, if_pos c1']
      · rw [texts_no _ _ _ (by simp [c2]), if_pos c0, if_neg c2]
    · rw [texts_no _ _ _ (by simp [c0]), if_neg c0]
theorem r_texts_not (l : List S28) (hl : l.length ≤ 4398046511104) : ∀ (j k : Nat) (acc : List ByteArray) (i : Int), ((l.length : Int) - i).toNat = j → 0 ≤ i → i ≤ l.length → (acc.length : Int) ≤ i → j < k → toponymref16_Texts.l0 k acc i false l = some ([], 160)
  | j, 0, _, _, _, _, _, _, h => by omega
  | 0, k + 1, acc, i, hj, h0, h1, ha, hk => by
    unfold toponymref16_Texts.l0
    rw [if_neg (by omega)]
    rfl
  | j + 1, k + 1, acc, i, hj, h0, h1, ha, hk => by
    unfold toponymref16_Texts.l0
    rw [if_pos (by omega), if_pos h0]
    split
    · split
      · split
        · rfl
        · rw [if_pos (by omega), Option.bind_some, IntWalk.wrap64_in (i + 1) (by omega)]
          exact r_texts_not l hl j k _ (i + 1) (by omega) (by omega) (by omega) (by simp; omega) (by omega)
      · rfl
    · rfl
theorem texts_length : ∀ (l : List S28) (acc : List ByteArray), (texts l acc).1.length ≤ acc.length + l.length
  | [], acc => by simp [texts]
  | e :: r, acc => by
    unfold texts
    split
    · have := texts_length r (acc ++ [e.f3])
      simp at this ⊢
      omega
    · simp
theorem sameTexts_l0 (a : List ByteArray) (ha : a.length ≤ 4398046511104) : ∀ (j k : Nat) (i : Int), ((a.length : Int) - i).toNat = j → 0 ≤ i → i ≤ a.length → j < k → toponymref16_SameTexts.l0 k i a a = some true
  | j, 0, _, _, _, _, h => by omega
  | 0, k + 1, i, hj, h0, h1, hk => by
    unfold toponymref16_SameTexts.l0
    rw [if_neg (by omega)]
  | j + 1, k + 1, i, hj, h0, h1, hk => by
    unfold toponymref16_SameTexts.l0
    rw [if_pos (by omega), if_pos h0, if_pos (by omega), if_pos rfl, IntWalk.wrap64_in (i + 1) (by omega)]
    exact sameTexts_l0 a ha j k (i + 1) (by omega) (by omega) (by omega) (by omega)
theorem toList_one (s : ByteArray) (h : s.size = 1) : (s.toList != ([0] : List UInt8)) = (bt s 0 != 0) := by
  have hb := bt_range s 0
  have h0 : (0 : Int).toNat < s.size := by rw [h]; decide
  rw [ByteArray.toList_eq, ← bt_at s 0 h0]
  obtain ⟨d⟩ := s
  have hd : d.size = 1 := h
  obtain ⟨x, rfl⟩ : ∃ x, d = #[x] := by
    refine ⟨d[0]'(by omega), ?_⟩
    apply Array.ext
    · simp [hd]
    · intro i h1 h2
      have : i = 0 := by omega
      subst this
      rfl
  show ([x] != [0]) = (((x.toNat : Nat) : Int) != 0)
  by_cases hx : x = 0
  · subst hx
    rfl
  · have hn : x.toNat ≠ 0 := fun hz => hx (by apply UInt8.toNat_inj.1; exact hz)
    have e1 : ([x] != [0]) = true := by simp [hx]
    have e2 : (((x.toNat : Nat) : Int) != 0) = true := by simp; omega
    rw [e1, e2]
theorem reads (e : S28) (g : G28 e) : ∃ k, toponymlaw16_PrimsReads.f k e.f0 e.f1 e.f2 e.f3 e.f4 = some true := by
  obtain ⟨k0, r0, h0⟩ := few_f e g 200
  have hl : e.f4.length ≤ 4398046511104 := by cases g; omega
  obtain ⟨k, hk⟩ : ∃ k, k = k0 + e.f4.length + 40 := ⟨_, rfl⟩
  refine ⟨k, ?_⟩
  unfold toponymlaw16_PrimsReads.f
  rw [up_to (f := fun k => toponymlaw15_Few.f k _ _ _ _ _ _) (fun k => toponymlaw15_Few.mono _ _ _ _ _ _ k) h0 (show k0 ≤ k by omega), Option.bind_some]
  by_cases hr : r0 < 0
  · rw [if_pos hr, awake_k k (by omega)]
    rfl
  rw [if_neg hr]
  obtain ⟨x, hp, hq⟩ := asInt_same k (by omega) e.f0 e.f1 e.f2 e.f3 e.f4
  rw [hp, Option.bind_some, hq, Option.bind_some]
  obtain ⟨y, hb, hc⟩ : ∃ y, prims_AsBool.f e.f0 e.f1 e.f2 e.f3 e.f4 = some y ∧ toponymref16_AsBool.f e.f0 e.f1 e.f2 e.f3 e.f4 = some y := by
    unfold prims_AsBool.f toponymref16_AsBool.f prims_plain.f
    by_cases hm : e.f1 = true
    · rw [if_pos hm, if_pos hm]
      exact ⟨_, rfl, rfl⟩
    · rw [if_neg hm, if_neg hm, Option.bind_some]
      by_cases hg : (e.f4.length : Int) > 0
      · have : ¬ (((e.f4.length : Int) == 0) = true) := by simp; intro h; rw [h] at hg; simp at hg
        rw [if_pos hg, if_neg this]
        exact ⟨_, rfl, rfl⟩
      · have : (((e.f4.length : Int) == 0) = true) := by simp; exact List.eq_nil_of_length_eq_zero (by omega)
        rw [if_neg hg, if_pos this]
        by_cases h1 : (e.f3.size : Int) = 1
        · rw [if_pos h1, if_pos h1, if_pos (by omega), toList_one _ (by omega)]
          exact ⟨_, rfl, rfl⟩
        · rw [if_neg h1, if_neg h1]
          exact ⟨_, rfl, rfl⟩
  rw [hb, Option.bind_some, hc, Option.bind_some]
  obtain ⟨z, ht, hu, hz⟩ : ∃ z, prims_Texts.f k e.f0 e.f1 e.f2 e.f3 e.f4 = some z ∧ toponymref16_Texts.f k e.f0 e.f1 e.f2 e.f3 e.f4 = some z ∧ z.1.length ≤ e.f4.length := by
    unfold prims_Texts.f toponymref16_Texts.f
    by_cases hm : e.f1 = true
    · rw [if_pos hm, hm]
      refine ⟨_, p_texts e.f4 hl _ k [] 0 rfl (by omega) (by omega) (by simp) (by omega), r_texts e.f4 hl _ k [] 0 rfl (by omega) (by omega) (by simp) (by omega), ?_⟩
      have := texts_length (e.f4.drop (0 : Int).toNat) []
      simpa using this
    · have hm' : e.f1 = false := by cases h : e.f1 <;> simp_all
      rw [if_neg hm, hm']
      exact ⟨_, rfl, r_texts_not e.f4 hl _ k [] 0 rfl (by omega) (by omega) (by simp) (by omega), by simp⟩
  rw [ht, Option.bind_some, hu, Option.bind_some]
  rw [if_pos rfl, if_pos rfl, if_pos (by simp), if_pos rfl]
  unfold toponymref16_SameTexts.f
  rw [if_pos rfl, sameTexts_l0 z.1 (by omega) _ k 0 rfl (by omega) (by omega) (by omega), Option.bind_some, if_pos rfl, if_pos rfl, awake_k k (by omega)]
  rfl
#print axioms reads
end Go.Proofs.Ytliackbiljhioaa.PuA
