import Derived.Test.YtliackbiljhioaaPbT
import Derived.Test.YtliackbiljhioaaPbH
import Derived.Test.YtliackbiljhioaaGAF13
import Derived.Test.YtliackbiljhioaaGAF14
import Derived.Test.YtliackbiljhioaaGAF17
import Derived.Test.YtliackbiljhioaaGAF22
import Derived.Test.YtliackbiljhioaaGAF34
import Derived.Test.YtliackbiljhioaaGAF7
/- Plain laws of whole numbers and truths in elements: they are read as they were made, also through bytes. -/
namespace Go.Proofs.Ytliackbiljhioaa.PbA
open Go Go.RowKit Go.Proofs.Ytliackbiljhioaa.GA Go.Proofs.Ytliackbiljhioaa.OA Go.Proofs.Ytliackbiljhioaa.PuE Go.Proofs.YtliackbiljhioaaW.PrintWords Go.Proofs.YtliackbiljhioaaW.PrintLast Go.Proofs.YtliackbiljhioaaW.PrintMore
set_option linter.unusedVariables false
set_option linter.unusedSimpArgs false
theorem wrap32_in (x : Int) (h : -2147483648 ≤ x ∧ x ≤ 2147483647) : wrap32 x = x := by unfold wrap32; omega
theorem shift_or (x : Int) (b : Nat) (hx : -8388608 ≤ x ∧ x ≤ 8388607) (hb : b < 256) : Go.bits .or .i32 (wrap32 (x * 256)) (wrap32 (b : Int)) = x * 256 + b := by
  rw [wrap32_in (x * 256) (by omega), wrap32_in (b : Int) (by omega)]
  obtain ⟨y, hy, hyx⟩ : ∃ y : Nat, y < 16777216 ∧ (y : Int) = x % 16777216 := ⟨(x % 16777216).toNat, by omega, by omega⟩
  have h1 : (BitVec.ofInt 32 (x * 256)).toNat = y * 256 := by
    rw [BitVec.toNat_ofInt]
    have : (x * 256) % ((2 ^ 32 : Nat) : Int) = ((y * 256 : Nat) : Int) := by
      rw [show ((2 ^ 32 : Nat) : Int) = 4294967296 from rfl]
      omega
    rw [this]
    rfl
  have h2 : (BitVec.ofInt 32 (b : Int)).toNat = b := by
    rw [BitVec.ofInt_natCast, BitVec.toNat_ofNat]; exact Nat.mod_eq_of_lt (by omega)
  show IntKind.i32.wrap ((BitVec.ofInt 32 (x * 256) ||| BitVec.ofInt 32 (b : Int)).toNat : Int) = _
  rw [BitVec.toNat_or, h1, h2]
  have h3 := Nat.shiftLeft_add_eq_or_of_lt (b := b) (i := 8) hb y
  rw [Nat.shiftLeft_eq] at h3
  rw [show y * 256 ||| b = y * 256 + b from h3.symm, IntWalk.i32_left]
  unfold wrap32
  omega
def s8 (a : Int) : Int := if a < 128 then a else a - 256
theorem s8B : ((List.range 256).all fun b => wrap32 (IntKind.i8.wrap (b : Int)) == s8 (b : Int)) = true := by kernel_rfl
theorem s8_eq (b : Nat) (h : b < 256) : wrap32 (IntKind.i8.wrap (b : Int)) = s8 (b : Int) := by
  have := List.all_eq_true.1 s8B b (List.mem_range.2 h)
  simpa using this
def vl : List Int → Int
  | [] => 0
  | a :: l => l.foldl (fun x b => x * 256 + b) (s8 a)
theorem sgn_in : ∀ l : List Int, (∀ x ∈ PuA.sgn l, x ∈ l) ∧ (PuA.sgn l).length ≤ l.length ∧ (l ≠ [] → PuA.sgn l ≠ [])
  | [] => by simp [PuA.sgn]
  | [a] => by simp [PuA.sgn]
  | a :: b :: l => by
    obtain ⟨h1, h2, h3⟩ := sgn_in (b :: l)
    unfold PuA.sgn
    split
    · exact ⟨fun x hx => List.mem_cons_of_mem _ (h1 x hx), by simp at h2 ⊢; omega, fun _ => h3 (by simp)⟩
    · exact ⟨fun x hx => hx, Nat.le_refl _, fun _ => by simp⟩
theorem vl_sgn : ∀ l : List Int, (∀ x ∈ l, 0 ≤ x ∧ x < 256) → vl (PuA.sgn l) = vl l
  | [], _ => rfl
  | [a], _ => rfl
  | a :: b :: l, h => by
    have hb := h b (by simp)
    unfold PuA.sgn
    split
    · rename_i hc
      rw [vl_sgn (b :: l) (fun x hx => h x (List.mem_cons_of_mem _ hx))]
      show l.foldl _ (s8 b) = l.foldl _ (s8 a * 256 + b)
      congr 1
      unfold s8
      rcases hc with ⟨rfl, h2⟩ | ⟨rfl, h2⟩
      · simp [h2]
      · rw [if_neg (show ¬ b < 128 by omega), if_neg (by decide)]
        omega
    · rfl
theorem vl_four (n : Int) (h : -2147483648 ≤ n ∧ n ≤ 2147483647) : vl (PuA.four n) = n := by
  unfold PuA.four vl s8
  simp only [List.foldl_cons, List.foldl_nil]
  split <;> omega
theorem four_in (n : Int) : ∀ x ∈ PuA.four n, 0 ≤ x ∧ x < 256 := by
  intro x hx
  simp only [PuA.four, List.mem_cons, List.not_mem_nil, or_false] at hx
  omega
theorem bt_son (l : List Int) (h : ∀ x ∈ l, 0 ≤ x ∧ x < 256) (p r : List Int) (b : Int) (hl : l = p ++ b :: r) : bt (strOfNums l) (p.length : Int) = b := by
  have hsz : (strOfNums l).size = l.length := by rw [son, size_A8, List.length_map]
  rw [bt_B _ _ (by rw [hsz, hl]; simp)]
  have hb := h b (by rw [hl]; simp)
  have hB : B (strOfNums l) = l.map fun n => UInt8.ofNat n.toNat := by rw [son, B_A8]
  have hg : (B (strOfNums l))[p.length]? = some (UInt8.ofNat b.toNat) := by rw [hB, hl]; simp
  obtain ⟨_, hg3⟩ := List.getElem?_eq_some_iff.1 hg
  rw [hg3]
  simp
  omega
theorem asInt_loop (l : List Int) (h : ∀ x ∈ l, 0 ≤ x ∧ x < 256) (h4 : l.length ≤ 4) : ∀ (r p : List Int) (x : Int), l = p ++ r → 1 ≤ p.length → (p.length = 1 → -128 ≤ x ∧ x ≤ 127) → (p.length = 2 → -32768 ≤ x ∧ x ≤ 32767) → (p.length = 3 → -8388608 ≤ x ∧ x ≤ 8388607) → (p.length = 4 → -2147483648 ≤ x ∧ x ≤ 2147483647) →
    ∀ k, prims_AsInt.l0 (k + 10 + r.length) x (p.length : Int) (strOfNums l) = (if (strOfNums (PuA.sgn (PuA.four (r.foldl (fun x b => x * 256 + b) x)))).toList = (strOfNums l).toList then some (r.foldl (fun x b => x * 256 + b) x, 0) else some (0, 160)) := by
  have hsz : (strOfNums l).size = l.length := by rw [son, size_A8, List.length_map]
  intro r
  induction r with
  | nil =>
    intro p x hp h1 b1 b2 b3 b4 k
    have hpl : p.length = l.length := by rw [hp]; simp
    have hx : -2147483648 ≤ x ∧ x ≤ 2147483647 := by omega
    rw [show k + 10 + ([] : List Int).length = (k + 9) + 1 by simp]
    unfold prims_AsInt.l0
    rw [if_neg (by rw [hsz]; omega), PuA.signed_f (k + 9) x (by omega)]
    simp only [Option.bind_some, List.foldl_nil]
    rw [w64 x (by omega)]
    rfl
  | cons b r ih =>
    intro p x hp h1 b1 b2 b3 b4 k
    have hpl : p.length + 1 + r.length = l.length := by rw [hp]; simp; omega
    have hb := h b (by rw [hp]; simp)
    have hx : -8388608 ≤ x ∧ x ≤ 8388607 := by omega
    rw [show k + 10 + (b :: r).length = (k + 10 + r.length) + 1 by simp; omega]
    unfold prims_AsInt.l0
    rw [if_pos (by rw [hsz]; omega), if_pos (by omega), bt_son l h p r b hp]
    obtain ⟨n, hn⟩ : ∃ n : Nat, b = (n : Int) := ⟨b.toNat, by omega⟩
    have hpl2 : (p ++ [b]).length = p.length + 1 := by simp
    rw [hn, shift_or x n hx (by omega), w64 ((p.length : Int) + 1) (by omega), ← hn]
    have := ih (p ++ [b]) (x * 256 + b) (by rw [hp]; simp) (by rw [hpl2]; omega) (fun hq => by rw [hpl2] at hq; omega) (fun hq => by rw [hpl2] at hq; omega) (fun hq => by rw [hpl2] at hq; omega) (fun hq => by rw [hpl2] at hq; omega) k
    rw [show ((p ++ [b]).length : Int) = (p.length : Int) + 1 by simp] at this
    rw [this, List.foldl_cons]
/-- A whole number's contents are read as it. -/
theorem asInt_of (n : Int) (h : -2147483648 ≤ n ∧ n ≤ 2147483647) (c m : Int) : Evt (fun k => prims_AsInt.f k c false m (strOfNums (PuA.sgn (PuA.four n))) ([] : List S28)) (n, 0) := by
  obtain ⟨g1, g2, g3⟩ := sgn_in (PuA.four n)
  have hin : ∀ x ∈ PuA.sgn (PuA.four n), 0 ≤ x ∧ x < 256 := fun x hx => four_in n x (g1 x hx)
  have hv : vl (PuA.sgn (PuA.four n)) = n := by rw [vl_sgn _ (four_in n), vl_four n h]
  have h4 : (PuA.sgn (PuA.four n)).length ≤ 4 := g2
  have hne := g3 (by simp [PuA.four])
  have hsz : (strOfNums (PuA.sgn (PuA.four n))).size = (PuA.sgn (PuA.four n)).length := by rw [son, size_A8, List.length_map]
  cases hl : PuA.sgn (PuA.four n) with
  | nil => exact absurd hl hne
  | cons a r =>
    rw [hl] at hin hv h4 hsz
    have ha := hin a (by simp)
    have hb0 : bt (strOfNums (a :: r)) 0 = a := bt_son (a :: r) hin [] r a rfl
    obtain ⟨q, hq⟩ : ∃ q : Nat, a = (q : Int) := ⟨a.toNat, by omega⟩
    have hlen : (a :: r).length = r.length + 1 := rfl
    refine ⟨10 + r.length, fun k hk => ?_⟩
    obtain ⟨j, rfl⟩ : ∃ j, k = j + 10 + r.length := ⟨k - 10 - r.length, by omega⟩
    unfold prims_AsInt.f prims_plain.f
    simp only [Bool.false_eq_true, if_false, List.length_nil, Option.bind_some]
    rw [if_pos (by rfl), if_neg (by omega), if_neg (by omega), if_pos (by omega), hb0, hq, s8_eq q (by omega), ← hq]
    have hs8 : -128 ≤ s8 a ∧ s8 a ≤ 127 := by unfold s8; split <;> omega
    have := asInt_loop (a :: r) hin h4 r [a] (s8 a) rfl (by simp) (fun _ => hs8) (by simp) (by simp) (by simp) j
    rw [show (([a] : List Int).length : Int) = 1 from rfl] at this
    rw [this]
    have hvr : r.foldl (fun x b => x * 256 + b) (s8 a) = n := hv
    rw [hvr, hl, if_pos rfl]
theorem enc_one (e : S28) : enc [e] = if chk e = 0 then (A8 (lay 12 e), 0) else (⟨#[]⟩, chk e) := by
  unfold enc fb fb
  by_cases hc : chk e = 0
  · obtain ⟨_, h4⟩ := (chk_zero e).1 hc
    simp [hc, h4]
  · simp [hc]
theorem awake_ev : Evt (fun k => toponymlaw16_awake.f k) true := Evt.mono_ (fun k => toponymlaw16_awake.mono k) PuA.awake_
/-- The second half: truths. -/
theorem truths (c m : Int) (b : Bool) : Evt (fun k => (prims_Bool.f c m b).bind fun bt551 => (if bt551.2.2.2.2.2 = 0 then ((prims_AsBool.f bt551.1 bt551.2.1 bt551.2.2.1 bt551.2.2.2.1 bt551.2.2.2.2.1).bind fun bt634 => (if (bt634.1 == b) = true then (if bt634.2 = 0 then ((prims_Is.f bt551.1 bt551.2.1 bt551.2.2.1 bt551.2.2.2.1 bt551.2.2.2.2.1 c m false).bind fun t669 => (if t669 = true then ((toponymlaw16_awake.f k ).bind fun t697 => (some t697)) else (some false))) else (some false)) else (some false))) else (if bt551.2.2.2.2.2 = 2 then ((toponymlaw16_awake.f k ).bind fun t735 => (some t735)) else (some false)))) true := by
  have no : ∀ (r : Int × Bool × Int × ByteArray × List S28 × Int), r.2.2.2.2.2 = 2 → Evt (fun _ => prims_Bool.f c m b) r → Evt (fun k => (prims_Bool.f c m b).bind fun bt551 => (if bt551.2.2.2.2.2 = 0 then ((prims_AsBool.f bt551.1 bt551.2.1 bt551.2.2.1 bt551.2.2.2.1 bt551.2.2.2.2.1).bind fun bt634 => (if (bt634.1 == b) = true then (if bt634.2 = 0 then ((prims_Is.f bt551.1 bt551.2.1 bt551.2.2.1 bt551.2.2.2.1 bt551.2.2.2.2.1 c m false).bind fun t669 => (if t669 = true then ((toponymlaw16_awake.f k ).bind fun t697 => (some t697)) else (some false))) else (some false)) else (some false))) else (if bt551.2.2.2.2.2 = 2 then ((toponymlaw16_awake.f k ).bind fun t735 => (some t735)) else (some false)))) true := by
    intro r hr he
    refine Evt.bind he ?_
    refine Evt.ifn (by rw [hr]; decide) ?_
    refine Evt.ifp hr ?_
    exact Evt.bind awake_ev (Evt.now _)
  by_cases h0 : c < 0
  · exact no _ rfl (Evt.of_all fun _ => by unfold prims_Bool.f; rw [if_pos h0])
  · by_cases h1 : c > 3
    · exact no _ rfl (Evt.of_all fun _ => by unfold prims_Bool.f; rw [if_neg h0, if_pos h1])
    · by_cases h2 : m < 0
      · exact no _ rfl (Evt.of_all fun _ => by unfold prims_Bool.f; rw [if_neg h0, if_neg h1, if_pos h2])
      · by_cases h3 : m > 30
        · exact no _ rfl (Evt.of_all fun _ => by unfold prims_Bool.f; rw [if_neg h0, if_neg h1, if_neg h2, if_pos h3])
        · have yes : ∀ s : ByteArray, s.size = 1 → (s.toList != ([0] : List UInt8)) = b → Evt (fun _ => prims_Bool.f c m b) (c, false, m, s, ([] : List S28), (0 : Int)) → Evt (fun k => (prims_Bool.f c m b).bind fun bt551 => (if bt551.2.2.2.2.2 = 0 then ((prims_AsBool.f bt551.1 bt551.2.1 bt551.2.2.1 bt551.2.2.2.1 bt551.2.2.2.2.1).bind fun bt634 => (if (bt634.1 == b) = true then (if bt634.2 = 0 then ((prims_Is.f bt551.1 bt551.2.1 bt551.2.2.1 bt551.2.2.2.1 bt551.2.2.2.2.1 c m false).bind fun t669 => (if t669 = true then ((toponymlaw16_awake.f k ).bind fun t697 => (some t697)) else (some false))) else (some false)) else (some false))) else (if bt551.2.2.2.2.2 = 2 then ((toponymlaw16_awake.f k ).bind fun t735 => (some t735)) else (some false)))) true := by
            intro s hs hb he
            refine Evt.bind he ?_
            refine Evt.ifp rfl ?_
            refine Evt.bind (v := (b, 0)) (Evt.of_all fun _ => by unfold prims_AsBool.f prims_plain.f; simp only [Bool.false_eq_true, if_false, List.length_nil, Option.bind_some]; rw [if_pos (by rfl), if_pos (by rw [hs]; rfl), hb]) ?_
            refine Evt.ifp (by simp) ?_
            refine Evt.ifp rfl ?_
            refine Evt.bind (v := true) (Evt.of_all fun _ => by unfold prims_Is.f; rw [if_pos rfl, if_pos rfl]; rfl) ?_
            refine Evt.ifp rfl ?_
            exact Evt.bind awake_ev (Evt.now _)
          cases b with
          | false => exact yes ⟨#[0]⟩ rfl (by rw [toList_B]; rfl) (Evt.of_all fun _ => by unfold prims_Bool.f; rw [if_neg h0, if_neg h1, if_neg h2, if_neg h3, if_neg (by decide)])
          | true => exact yes ⟨#[255]⟩ rfl (by rw [toList_B]; rfl) (Evt.of_all fun _ => by unfold prims_Bool.f; rw [if_neg h0, if_neg h1, if_neg h2, if_neg h3, if_pos rfl])
theorem primsBack (t : S23) (n : Int) (b : Bool) (_ : G23 t) (_ : (Lit.int .i64 n).wf = true) : ∃ k, toponymlaw16_PrimsBack.f k t.f0 t.f1 n b = some true := by
  refine Evt.get (f := fun k => toponymlaw16_PrimsBack.f k t.f0 t.f1 n b) ?_
  unfold toponymlaw16_PrimsBack.f
  have tr := truths t.f0 t.f1 b
  by_cases hn : -2147483648 ≤ n ∧ n ≤ 2147483647
  · by_cases ht : 0 ≤ t.f0 ∧ t.f0 ≤ 3 ∧ 0 ≤ t.f1 ∧ t.f1 ≤ 30
    · obtain ⟨sg, hsg⟩ : ∃ sg, sg = strOfNums (PuA.sgn (PuA.four n)) := ⟨_, rfl⟩
      have hI : Evt (fun k => prims_Int.f k t.f0 t.f1 n) (t.f0, false, t.f1, sg, ([] : List S28), (0 : Int)) := by
        refine ⟨5, fun k hk => ?_⟩
        show prims_Int.f k t.f0 t.f1 n = _
        unfold prims_Int.f
        rw [if_neg (by omega), if_neg (by omega), if_neg (by omega), if_neg (by omega), if_neg (by omega), if_neg (by omega), wrap32_in n hn, PuA.signed_f k n hk, hsg]
        rfl
      obtain ⟨g1, g2, g3⟩ := sgn_in (PuA.four n)
      have hsz : sg.size ≤ 4 := by rw [hsg, son, size_A8, List.length_map]; exact g2
      obtain ⟨e, he⟩ : ∃ e : S28, e = ⟨t.f0, false, t.f1, sg, []⟩ := ⟨_, rfl⟩
      have hsan : san 12 e = true := by
        simp only [san, he, okL, List.all_nil, Bool.and_true, Bool.and_eq_true, decide_eq_true_eq]
        exact ⟨⟨⟨⟨ht.1, ht.2.1⟩, ht.2.2.1⟩, ht.2.2.2⟩, by simp⟩
      have hlen : (lay 12 e).length ≤ 4000 := by
        rw [lay_plain 11 e (by rw [he]), List.length_append, hb_len, len_B]
        have : e.f3.size ≤ 4 := by rw [he]; exact hsz
        split <;> omega
      have hc : chk e = 0 := (chk_zero e).2 ⟨hsan, hlen⟩
      have hw := W_of_lay 12 e hsan hlen
      have hAs : Evt (fun k => prims_AsInt.f k t.f0 false t.f1 sg ([] : List S28)) (n, 0) := by rw [hsg]; exact asInt_of n hn _ _
      refine Evt.bind hI ?_
      refine Evt.ifp rfl ?_
      refine Evt.bind hAs ?_
      have hE := Encode_ev [e] (fun y hy => by rw [List.mem_singleton.1 hy]; exact hw) (by simp)
      rw [enc_one, if_pos hc, he] at hE
      refine Evt.bind hE ?_
      have hD := Decode_ev (A8 (lay 12 e)) 0 (by rw [size_A8]; omega) (by omega)
      have hk := tk_back 12 e [] hsan hlen
      rw [List.append_nil] at hk
      rw [B_A8, List.drop_zero, hk] at hD
      simp only [tkR] at hD
      rw [he] at hD
      refine Evt.bind hD ?_
      refine Evt.bind hAs ?_
      refine Evt.ifp rfl ?_
      refine Evt.ifp rfl ?_
      refine Evt.ifp rfl ?_
      refine Evt.ifp (show ((0 + (lay 12 (⟨t.f0, false, t.f1, sg, []⟩ : S28)).length : Nat) : Int) = ((A8 (lay 12 (⟨t.f0, false, t.f1, sg, []⟩ : S28))).size : Int) by rw [size_A8]; omega) ?_
      refine Evt.ifp rfl ?_
      refine Evt.ifp rfl ?_
      refine Evt.ifp rfl ?_
      refine Evt.ifn (show ¬ (sg.size : Int) > 4 by omega) ?_
      exact tr
    · have hI : ∃ r : Int × Bool × Int × ByteArray × List S28 × Int, r.2.2.2.2.2 = 2 ∧ ∀ k, prims_Int.f k t.f0 t.f1 n = some r := by
        refine ⟨(0, false, 0, (⟨#[]⟩ : ByteArray), ([] : List S28), 2), rfl, fun k => ?_⟩
        unfold prims_Int.f
        rw [if_neg (by omega), if_neg (by omega)]
        by_cases h0 : t.f0 < 0
        · rw [if_pos h0]
        · by_cases h1 : t.f0 > 3
          · rw [if_neg h0, if_pos h1]
          · by_cases h2 : t.f1 < 0
            · rw [if_neg h0, if_neg h1, if_pos h2]
            · rw [if_neg h0, if_neg h1, if_neg h2, if_pos (by omega)]
      obtain ⟨r, hr, hI⟩ := hI
      refine Evt.bind (Evt.of_all hI) ?_
      refine Evt.ifn (by rw [hr]; decide) ?_
      exact tr
  · have hI : ∃ r : Int × Bool × Int × ByteArray × List S28 × Int, r.2.2.2.2.2 = 2 ∧ ∀ k, prims_Int.f k t.f0 t.f1 n = some r := by
      refine ⟨(0, false, 0, (⟨#[]⟩ : ByteArray), ([] : List S28), 2), rfl, fun k => ?_⟩
      unfold prims_Int.f
      by_cases h0 : n < -2147483648
      · rw [if_pos h0]
      · rw [if_neg h0, if_pos (by omega)]
    obtain ⟨r, hr, hI⟩ := hI
    refine Evt.bind (Evt.of_all hI) ?_
    refine Evt.ifn (by rw [hr]; decide) ?_
    exact tr
end Go.Proofs.Ytliackbiljhioaa.PbA
