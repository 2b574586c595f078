import Derived.Test.YtliackbiljhioaaGAF35
import Derived.Test.YtliackbiljhioaaGAF14
import Derived.Test.YtliackbiljhioaaGAF15
import Derived.Test.YtliackbiljhioaaGAF8
/- Plain laws of whole numbers' contents: what the program's functions tell, with no program in sight. -/
namespace Go.Proofs.Ytliackbiljhioaa.PuA
open Go Go.RowKit Go.Proofs.Ytliackbiljhioaa.GA Go.Proofs.YtliackbiljhioaaW.PrintWords Go.Proofs.YtliackbiljhioaaW.PrintLast Go.Proofs.YtliackbiljhioaaW.PrintMore
set_option linter.unusedVariables false
set_option linter.unusedSimpArgs false
/-- The fewest bytes of a number. -/
def sgn : List Int → List Int
  | a :: b :: l => if (a = 0 ∧ b < 128) ∨ (a = 255 ∧ b ≥ 128) then sgn (b :: l) else a :: b :: l
  | l => l
theorem signed_l0 : ∀ (l : List Int) (k : Nat), l.length < k → prims_signed.l0 k l = some (strOfNums (sgn l))
  | [], k + 1, _ => by simp [prims_signed.l0, sgn]
  | [a], k + 1, _ => by simp [prims_signed.l0, sgn]
  | a :: b :: l, k + 1, h => by
    have ih := signed_l0 (b :: l) k (by simp at h ⊢; omega)
    have h1 : ((a :: b :: l).length : Int) > 1 := by simp; omega
    have h0 : 0 < ((a :: b :: l).length : Int) := by omega
    have h2 : (1 : Int) < ((a :: b :: l).length : Int) := by omega
    have h3 : (1 : Int) ≤ ((a :: b :: l).length : Int) := by omega
    have r0 : rd (a :: b :: l) 0 = a := rfl
    have r1 : rd (a :: b :: l) 1 = b := rfl
    have hd : List.drop 1 (a :: b :: l) = b :: l := rfl
    simp only [prims_signed.l0, if_pos h1, if_pos h0, if_pos h2, if_pos h3, r0, r1, hd, ih, sgn]
    by_cases ha : a = 0
    · subst ha
      by_cases hb : b < 128
      · simp [hb, ih]
      · simp [hb, ih]
    · by_cases ha' : a = 255
      · subst ha'
        by_cases hb : b ≥ 128
        · simp [hb, ih]
        · simp [hb, ih]
      · simp [ha, ha']
def four (n : Int) : List Int := [n / 16777216 % 256, n / 65536 % 256, n / 256 % 256, n % 256]
theorem signed_f (k : Nat) (n : Int) (h : 5 ≤ k) : prims_signed.f k n = some (strOfNums (sgn (four n))) := by
  unfold prims_signed.f
  exact signed_l0 _ k (by simp; omega)
theorem awake_ : toponymlaw16_awake.f 12 = some true := by decide +kernel
theorem wrap32_range (n : Int) : -2147483648 ≤ wrap32 n ∧ wrap32 n ≤ 2147483647 := by unfold wrap32; omega
theorem bits32_range (a b : Int) : -2147483648 ≤ Go.bits .or .i32 a b ∧ Go.bits .or .i32 a b ≤ 2147483647 := by
  unfold Go.bits
  rw [IntWalk.i32_left]
  exact wrap32_range _
/-- What AsInt tells. -/
def Told (s : ByteArray) (n x : Int) : Prop := (x = 0 ∧ -2147483648 ≤ n ∧ n ≤ 2147483647 ∧ (strOfNums (sgn (four n))).toList = s.toList) ∨ (n = 0 ∧ x = 160)
theorem asInt_l0 (s : ByteArray) : ∀ (k : Nat) (x i : Int), -2147483648 ≤ x → x ≤ 2147483647 → 0 ≤ i → i ≤ 5 → (s.size : Int) ≤ 4 → 11 - i.toNat ≤ k → ∃ n e, prims_AsInt.l0 k x i s = some (n, e) ∧ Told s n e
  | 0, x, i, _, _, _, _, _, hk => by omega
  | k + 1, x, i, hx0, hx1, hi, hi5, hs, hk => by
    unfold prims_AsInt.l0
    by_cases h : i < (s.size : Int)
    · rw [if_pos h, if_pos hi]
      have hw : wrap64 (i + 1) = i + 1 := IntWalk.wrap64_in _ (by omega)
      rw [hw]
      obtain ⟨h1, h2⟩ := bits32_range (wrap32 (x * 256)) (wrap32 (bt s i))
      exact asInt_l0 s k _ (i + 1) h1 h2 (by omega) (by omega) hs (by omega)
    · rw [if_neg h, signed_f k x (by omega)]
      simp only [Option.bind_some]
      by_cases ht : (strOfNums (sgn (four x))).toList = s.toList
      · rw [if_pos ht]
        exact ⟨_, _, rfl, .inl ⟨rfl, by rw [IntWalk.wrap64_in _ (by omega)]; exact hx0, by rw [IntWalk.wrap64_in _ (by omega)]; exact hx1, by rw [IntWalk.wrap64_in _ (by omega)]; exact ht⟩⟩
      · rw [if_neg ht]
        exact ⟨_, _, rfl, .inr ⟨rfl, rfl⟩⟩
theorem asInt_f (s : ByteArray) : ∃ n e, prims_AsInt.f 12 0 false 0 s [] = some (n, e) ∧ Told s n e := by
  unfold prims_AsInt.f prims_plain.f
  simp only [Bool.false_eq_true, if_false, List.length_nil]
  by_cases h1 : (s.size : Int) < 1
  · exact ⟨0, 160, by simp [h1], .inr ⟨rfl, rfl⟩⟩
  · by_cases h4 : (s.size : Int) > 4
    · exact ⟨0, 160, by simp [h1, h4], .inr ⟨rfl, rfl⟩⟩
    · have h0 : 0 < (s.size : Int) := by omega
      obtain ⟨a, b⟩ := wrap32_range (IntKind.i8.wrap (bt s 0))
      obtain ⟨n, e, h, ht⟩ := asInt_l0 s 12 _ 1 a b (by omega) (by omega) (by omega) (by decide)
      refine ⟨n, e, ?_, ht⟩
      rw [← h]
      simp [h1, h4, h0]
      intro he
      subst he
      exact absurd h0 (by decide)
end Go.Proofs.Ytliackbiljhioaa.PuA
