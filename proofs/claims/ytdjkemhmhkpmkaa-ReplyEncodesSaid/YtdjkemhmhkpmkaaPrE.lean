import Derived.Test.YtdjkemhmhkpmkaaPbR
import Derived.Test.YtdjkemhmhkpmkaaPrB
import Derived.Test.YtdjkemhmhkpmkaaPrJ
import Derived.Test.YtdjkemhmhkpmkaaGM1
import Derived.Test.YtdjkemhmhkpmkaaGM3
import Derived.Test.YtdjkemhmhkpmkaaGM1
import Derived.Test.YtdjkemhmhkpmkaaGM1
import Derived.Test.YtdjkemhmhkpmkaaGM3
import Derived.Test.YtdjkemhmhkpmkaaGM1
import Derived.Test.YtdjkemhmhkpmkaaGAF48
import Derived.Test.YtdjkemhmhkpmkaaGM2
import Derived.Test.YtdjkemhmhkpmkaaGM2
import Derived.Test.YtdjkemhmhkpmkaaGM2
/- Plain laws of replies: the document's answers: what may be, and the bytes. -/
namespace Go.Proofs.Ytdjkemhmhkpmkaa.PrE
open Go Go.RowKit Go.Proofs.Ytdjkemhmhkpmkaa.GA Go.Proofs.Ytdjkemhmhkpmkaa.OA Go.Proofs.Ytdjkemhmhkpmkaa.PuE Go.Proofs.Ytdjkemhmhkpmkaa.PrI Go.Proofs.Ytdjkemhmhkpmkaa.PrS Go.Proofs.Ytdjkemhmhkpmkaa.PrB Go.Proofs.YtdjkemhmhkpmkaaW.PrintWords Go.Proofs.YtdjkemhmhkpmkaaW.PrintLast Go.Proofs.YtdjkemhmhkpmkaaW.PrintMore
set_option linter.unusedVariables false
set_option linter.unusedSimpArgs false
/-! ### words -/
theorem word_same (s : ByteArray) : ∀ (k : Nat) (i : Int), 1 ≤ i → i ≤ 100 → (s.size : Int) ≤ 16 → dn_Word.l0 k i s = toponymref18_Word.l0 k i s
 | 0, _, _, _, _ => rfl
 | k + 1, i, h1, h2, hs => by
  unfold dn_Word.l0 toponymref18_Word.l0
  by_cases h : i < (s.size : Int)
  ·have hw : wrap64 (i + 1) = i + 1 := w64 _ (by omega)
   have ih := word_same s k (i + 1) (by omega) (by omega) hs
   have hi1 : 0 ≤ i := by omega
   simp only [if_pos h, if_pos hi1, hw, ih]
   unfold dn_small.f
   have hi0 : ¬ i = 0 := by omega
   generalize toponymref18_Word.l0 k (i + 1) s = X
   generalize bt s i = b
   by_cases c1 : b ≥ 97
   ·by_cases c2 : b ≤ 122
    ·have c3 : b ≥ 48 := by omega
     have c4 : ¬ b ≤ 57 := by omega
     simp [c1, c2, c3, c4]
    ·have c3 : b ≥ 48 := by omega
     have c4 : ¬ b ≤ 57 := by omega
     have c5 : ¬ b < 48 := by omega
     have c6 : b > 57 := by omega
     have c7 : ¬ b = 45 := by omega
     simp [c1, c2, c3, c4, c5, c6, c7, hi0]
   ·by_cases c3 : b ≥ 48
    ·by_cases c4 : b ≤ 57
     ·have c5 : ¬ b < 48 := by omega
      have c6 : ¬ b > 57 := by omega
      simp [c1, c3, c4, c5, c6, hi0]
     ·have c5 : ¬ b < 48 := by omega
      have c6 : b > 57 := by omega
      have c7 : ¬ b = 45 := by omega
      simp [c1, c3, c4, c5, c6, c7, hi0]
    ·have c5 : b < 48 := by omega
     by_cases c7 : b = 45
     ·subst c7; simp [hi0]
     ·simp [c1, c3, c5, c7, hi0]
  ·rw [if_neg h, if_neg h]
/-- Is it a word? -/
def wd (s : ByteArray) : Bool := (dn_Word.f 20 s).getD false
theorem wd_own (s : ByteArray) : dn_Word.f 20 s = some (wd s) := by
 obtain ⟨b, _, h⟩ := word_ev s
 have : ∃ b, dn_Word.f 20 s = some b := by
  unfold dn_Word.f
  by_cases h0 : s.toList = ([] : List UInt8)
  ·exact ⟨false, if_pos h0⟩
  ·rw [if_neg h0]
   by_cases h1 : (s.size : Int) > 16
   ·exact ⟨false, if_pos h1⟩
   ·have hz := (not_congr (PbA.toList_nil s)).1 h0
    rw [if_neg h1, if_pos (by omega)]
    obtain ⟨t, ht⟩ := small_ev (bt s 0)
    obtain ⟨b, hb⟩ := word_l0 s (by omega) 20 1 (by omega) (by omega) (by decide)
    rw [ht, hb]
    simp only [Option.bind_some]
    split
    ·exact ⟨b, rfl⟩
    ·exact ⟨false, rfl⟩
 obtain ⟨c, hc⟩ := this
 unfold wd
 rw [hc]
 rfl
theorem wd_ev (s : ByteArray) : Evt (fun k => dn_Word.f k s) (wd s) := Evt.mono_ (fun k => dn_Word.mono s k) (wd_own s)
theorem wd_ref (s : ByteArray) : Evt (fun k => toponymref18_Word.f k s) (wd s) := by
 have key : toponymref18_Word.f 21 s = some (wd s) := by
  rw [← wd_own s]
  unfold toponymref18_Word.f dn_Word.f
  by_cases h0 : s.toList = ([] : List UInt8)
  ·have hz := (PbA.toList_nil s).1 h0
   rw [if_pos h0, if_pos (by omega)]
  ·have hz := (not_congr (PbA.toList_nil s)).1 h0
   rw [if_neg h0, if_neg (by omega)]
   by_cases h1 : (s.size : Int) > 16
   ·rw [if_pos h1, if_pos h1]
   ·have hp : (0 : Int) < (s.size : Int) := by omega
    have hw : wrap64 ((0 : Int) + 1) = 1 := by rw [w64 _ (by omega)]; rfl
    rw [if_neg h1, if_neg h1, if_pos hp, word_same s 20 1 (by omega) (by omega) (by omega)]
    generalize hX : toponymref18_Word.l0 20 1 s = X
    unfold toponymref18_Word.l0
    simp only [if_pos hp, if_pos (show (0 : Int) ≤ 0 by omega), hw, hX]
    unfold dn_small.f
    generalize bt s 0 = b
    by_cases c1 : b ≥ 97
    ·have c3 : b ≥ 48 := by omega
     have c4 : ¬ b ≤ 57 := by omega
     by_cases c2 : b ≤ 122
     ·simp [c1, c2, c3, c4]
     ·simp [c1, c2, c3, c4]
    ·by_cases c3 : b ≥ 48
     ·by_cases c4 : b ≤ 57
      ·simp [c1, c3, c4]
      ·simp [c1, c3, c4]
     ·simp [c1, c3]
 exact Evt.mono_ (fun k => toponymref18_Word.mono s k) key
/-! ### what may be -/
def av (v : S46) : Bool := wd v.f0 && (decide (v.f1.length ≤ 8) && v.f1.all fun s => decide (s.size ≤ 400))
theorem wrong_eq (v : S46) (hl : v.f1.length ≤ 140737488351232) : Evt (fun k => reply_wrong.f k v.f0 v.f1) (!av v) := by
 have loop : ∀ (r p : List ByteArray), v.f1 = p ++ r → Evt (fun k => reply_wrong.l0 k (p.length : Int) v.f1) (!(r.all fun s => decide (s.size ≤ 400))) := by
  intro r
  induction r with
  | nil =>
   intro p hp
   refine Evt.step ?_
   rw [hp]
   simp only [reply_wrong.l0, if_neg (nlt_end p)]
   exact Evt.now _
  | cons y r ih =>
   intro p hp
   have hi := ih (p ++ [y]) (by rw [hp, snoc])
   have hnx := next_len p y r (by rw [← hp]; exact hl)
   refine Evt.step ?_
   by_cases hy : (y.size : Int) > 400
   ·rw [hp]
    simp only [reply_wrong.l0, if_pos (lt_mid p y r), if_pos (Int.natCast_nonneg p.length), rdO, reply_wrong_1.f, Option.bind_some, decide_eq_true hy, if_true]
    refine (Evt.now _).val ?_
    have : ¬ y.size ≤ 400 := by omega
    simp [this]
   ·rw [hp] at hi ⊢
    simp only [reply_wrong.l0, if_pos (lt_mid p y r), if_pos (Int.natCast_nonneg p.length), rdO, reply_wrong_1.f, Option.bind_some, decide_eq_false hy, Bool.false_eq_true, if_false, hnx]
    refine hi.val ?_
    have : y.size ≤ 400 := by omega
    simp [this]
 have h2 := loop v.f1 [] rfl
 unfold reply_wrong.f
 refine Evt.bind (wd_ev v.f0) ?_
 unfold av
 cases wd v.f0
 ·simp only [Bool.false_eq_true, if_false]
  exact (Evt.now _).val rfl
 ·by_cases h8 : (v.f1.length : Int) > 8
  ·simp only [if_true, if_pos h8]
   refine (Evt.now _).val ?_
   have : ¬ v.f1.length ≤ 8 := by omega
   simp [this]
  ·simp only [if_true, if_neg h8]
   refine h2.val ?_
   have : v.f1.length ≤ 8 := by omega
   simp [this]
theorem own_l0 (l : List S46) (hb : l.length ≤ 140737488351232) (hy : ∀ y ∈ l, y.f1.length ≤ 140737488351232) : Evt (fun k => reply_Check.l0 k 0 l) (if l.all av = true then 0 else 270) := by
 have loop : ∀ (t p : List S46), l = p ++ t → Evt (fun k => reply_Check.l0 k (p.length : Int) l) (if t.all av = true then 0 else 270) := by
  intro t
  induction t with
  | nil =>
   intro p hp
   refine Evt.step ?_
   rw [hp]
   simp only [reply_Check.l0, if_neg (nlt_end p)]
   exact Evt.now _
  | cons y t ih =>
   intro p hp
   have hi := ih (p ++ [y]) (by rw [hp, snoc])
   have hnx := next_len p y t (by rw [← hp]; exact hb)
   refine Evt.step ?_
   rw [hp] at hi ⊢
   simp only [reply_Check.l0, if_pos (lt_mid p y t), if_pos (Int.natCast_nonneg p.length), rd46, hnx]
   refine Evt.bind (wrong_eq y (hy y (by rw [hp]; simp))) ?_
   cases ha : av y
   ·simp only [Bool.not_false, if_true]
    exact (Evt.now _).val (by simp [ha])
   ·simp only [Bool.not_true, Bool.false_eq_true, if_false]
    exact hi.val (by simp [ha])
 exact loop l [] rfl
theorem ref_attrs (l : List S46) (hy : ∀ y ∈ l, y.f1.length ≤ 140737488351232) : Evt (fun k => toponymref27_attrs.f k l) (decide (l.length ≤ 24) && l.all av) := by
 unfold toponymref27_attrs.f
 by_cases h24 : (l.length : Int) > 24
 ·simp only [if_pos h24]
  refine (Evt.now _).val ?_
  have : ¬ l.length ≤ 24 := by omega
  simp [this]
 ·simp only [if_neg h24]
  have loop : ∀ (t p : List S46), l = p ++ t → Evt (fun k => toponymref27_attrs.l0 k (p.length : Int) l) (t.all av) := by
   intro t
   induction t with
   | nil =>
    intro p hp
    refine Evt.step ?_
    rw [hp]
    simp only [toponymref27_attrs.l0, if_neg (nlt_end p)]
    exact Evt.now _
   | cons y t ih =>
    intro p hp
    have hi := ih (p ++ [y]) (by rw [hp, snoc])
    have hyl := hy y (by rw [hp]; simp)
    have hnx := next_len p y t (by rw [← hp]; omega)
    have inner : ∀ (u s : List ByteArray), y.f1 = s ++ u → Evt (fun k => toponymref27_attrs.l1 k (s.length : Int) l (p.length : Int)) ((u.all fun s => decide (s.size ≤ 400)) && t.all av) := by
     intro u
     induction u with
     | nil =>
      intro s hs
      have he : ¬ (s.length : Int) < (y.f1.length : Int) := by rw [hs]; simp
      refine Evt.step ?_
      rw [hp] at hi ⊢
      simp only [toponymref27_attrs.l1, if_pos (Int.natCast_nonneg p.length), if_pos (lt_mid p y t), rd46, if_neg he, hnx]
      exact hi.val (by simp)
     | cons z u ih2 =>
      intro s hs
      have hj := ih2 (s ++ [z]) (by rw [hs, snoc])
      have hn2 := next_len s z u (by rw [← hs]; exact hyl)
      have hl : (s.length : Int) < (y.f1.length : Int) := by rw [hs]; exact lt_mid s z u
      have hz : rdOf ByteArray.empty y.f1 (s.length : Int) = z := by rw [hs]; exact rdO s z u
      refine Evt.step ?_
      rw [hp] at hj ⊢
      by_cases hq : (z.size : Int) > 400
      ·simp only [toponymref27_attrs.l1, if_pos (Int.natCast_nonneg p.length), if_pos (lt_mid p y t), rd46, if_pos hl, if_pos (Int.natCast_nonneg s.length), hz, if_pos hq]
       refine (Evt.now _).val ?_
       have : ¬ z.size ≤ 400 := by omega
       simp [this]
      ·simp only [toponymref27_attrs.l1, if_pos (Int.natCast_nonneg p.length), if_pos (lt_mid p y t), rd46, if_pos hl, if_pos (Int.natCast_nonneg s.length), hz, if_neg hq, hn2]
       refine hj.val ?_
       have : z.size ≤ 400 := by omega
       simp [this]
    have hin := inner y.f1 [] rfl
    refine Evt.step ?_
    rw [hp] at hin ⊢
    simp only [toponymref27_attrs.l0, if_pos (lt_mid p y t), if_pos (Int.natCast_nonneg p.length), rd46]
    refine Evt.bind (wd_ref y.f0) ?_
    cases hw : wd y.f0
    ·simp only [Bool.false_eq_true, if_false]
     exact (Evt.now _).val (by simp [av, hw])
    ·simp only [if_true]
     by_cases h8 : (y.f1.length : Int) > 8
     ·simp only [if_pos h8]
      refine (Evt.now _).val ?_
      have : ¬ y.f1.length ≤ 8 := by omega
      simp [av, hw, this]
     ·simp only [if_neg h8]
      refine hin.val ?_
      have : y.f1.length ≤ 8 := by omega
      simp [av, hw, this]
  refine (loop l [] rfl).val ?_
  have : l.length ≤ 24 := by omega
  simp [this]
theorem rtag_eq (a : Int) : toponymref27_tag.f a = some (if tg a > 0 then tg a else 0) := by
 unfold toponymref27_tag.f
 by_cases h0 : a < 0
 ·rw [if_pos h0]
  have : tg a = -1 := by
   unfold tg
   rw [if_neg (by omega), if_neg (by omega), if_neg (by omega), if_neg (by omega), if_neg (by omega), if_neg (by omega), if_neg (by omega), if_neg (by omega)]
  rw [this]; rfl
 ·rw [if_neg h0]
  by_cases h1 : a > 10
  ·rw [if_pos h1]
   have : tg a = -1 := by
    unfold tg
    rw [if_neg (by omega), if_neg (by omega), if_neg (by omega), if_neg (by omega), if_neg (by omega), if_neg (by omega), if_neg (by omega), if_neg (by omega)]
   rw [this]; rfl
  ·rw [if_neg h1, if_pos (by omega), if_pos (by omega)]
   have key : ∀ x ∈ [(0 : Int), 1, 2, 3, 4, 5, 6, 7, 8, 9, 10], rd ([0, 1, 0, 5, 7, 9, 11, 13, 15, 0, 24] : List Int) x = if tg x > 0 then tg x else 0 := by decide
   rw [key a (by simp only [List.mem_cons, List.not_mem_nil, or_false]; omega)]
/-- The program and the document say the same. -/
theorem Check_both (r : S27) (hb : Bd r) : ∃ x, Evt (fun k => reply_Check.f k r.f0 r.f1 r.f2 r.f3 r.f4 r.f5 r.f6 r.f7) x ∧ Evt (fun k => toponymref27_Check.f k r.f0 r.f1 r.f2 r.f3 r.f4 r.f5 r.f6 r.f7) x := by
 have hA := ref_attrs r.f7 hb.hy
 have hO := own_l0 r.f7 hb.h7 hb.hy
 have b4 := hb.h4
 have b5 := hb.h5
 have e4 := PbA.toList_nil r.f4
 have e5 := PbA.toList_nil r.f5
 have e6 := PbA.toList_nil r.f6
 have e45 : (r.f4 ++ r.f5).toList = ([] : List UInt8) ↔ r.f4.size = 0 ∧ r.f5.size = 0 := by
  rw [PbA.toList_nil, ← len_B, B_app, List.length_append, len_B, len_B]
  omega
 unfold reply_Check.f toponymref27_Check.f
 simp only [tag_eq, rtag_eq, Option.bind_some]
 by_cases c0 : r.f0 ≥ 0
 ·have c0' : ¬ r.f0 < 0 := by omega
  simp only [if_pos c0, if_neg c0']
  by_cases c1 : r.f0 ≤ 2147483647
  ·have c1' : ¬ r.f0 > 2147483647 := by omega
   simp only [if_pos c1, if_neg c1']
   by_cases c2 : r.f2 = true
   ·simp only [if_pos c2]
    by_cases c3 : r.f1 = 3
    ·simp only [if_pos c3]
     by_cases c4 : r.f3 = 0
     ·simp only [if_pos c4, if_pos (show r.f4.size + r.f5.size ≤ 9223372036854775807 by omega)]
      by_cases c5 : r.f4.size = 0
      ·by_cases c6 : r.f5.size = 0
       ·simp only [if_pos (e45.2 ⟨c5, c6⟩), if_pos (e4.2 c5), if_pos (e5.2 c6)]
        by_cases c7 : (r.f6.size : Int) ≤ 3000
        ·simp only [if_pos c7]
         by_cases c8 : (r.f7.length : Int) ≤ 24
         ·simp only [if_pos c8]
          have c8' : r.f7.length ≤ 24 := by omega
          refine ⟨_, hO, Evt.bind hA ?_⟩
          cases hv : r.f7.all av
          ·simp only [Bool.and_false, Bool.false_eq_true, if_false]; exact Evt.now _
          ·simp only [decide_eq_true c8', Bool.and_true, if_true]; exact Evt.now _
         ·simp only [if_neg c8]
          have c8' : ¬ r.f7.length ≤ 24 := by omega
          refine ⟨270, Evt.now _, Evt.bind hA ?_⟩
          simp only [decide_eq_false c8', Bool.false_and, Bool.false_eq_true, if_false]; exact Evt.now _
        ·simp only [if_neg c7]; exact ⟨270, Evt.now _, Evt.now _⟩
       ·simp only [if_neg (fun h => c6 (e45.1 h).2), if_pos (e4.2 c5), if_neg (fun h => c6 (e5.1 h))]; exact ⟨270, Evt.now _, Evt.now _⟩
      ·simp only [if_neg (fun h => c5 (e45.1 h).1), if_neg (fun h => c5 (e4.1 h))]; exact ⟨270, Evt.now _, Evt.now _⟩
     ·simp only [if_neg c4]; exact ⟨270, Evt.now _, Evt.now _⟩
    ·simp only [if_neg c3]; exact ⟨270, Evt.now _, Evt.now _⟩
   ·simp only [if_neg c2]
    by_cases c3 : tg r.f1 > 0
    ·have c3' : ¬ tg r.f1 = 0 := by omega
     simp only [if_pos c3, if_neg c3']
     by_cases c4 : r.f3 ≥ 0
     ·simp only [if_pos c4]
      by_cases c5 : r.f3 ≤ 127
      ·simp only [if_pos c5, if_pos (show r.f3 < 128 by omega)]
       by_cases c6 : (r.f4.size : Int) ≤ 3000
       ·simp only [if_pos c6]
        by_cases c7 : (r.f5.size : Int) ≤ 200
        ·simp only [if_pos c7]
         by_cases c9 : r.f6.toList = ([] : List UInt8)
         ·simp only [if_pos c9]
          by_cases c8 : (r.f7.length : Int) = 0
          ·simp only [if_pos c8]; exact ⟨0, Evt.now _, Evt.now _⟩
          ·simp only [if_neg c8]; exact ⟨270, Evt.now _, Evt.now _⟩
         ·simp only [if_neg c9]
          by_cases ca : r.f1 = 10
          ·simp only [if_pos ca]
           by_cases cb : (r.f6.size : Int) ≤ 100
           ·simp only [if_pos cb]
            by_cases c8 : (r.f7.length : Int) = 0
            ·simp only [if_pos c8]; exact ⟨0, Evt.now _, Evt.now _⟩
            ·simp only [if_neg c8]; exact ⟨270, Evt.now _, Evt.now _⟩
           ·simp only [if_neg cb, ite_self]; exact ⟨270, Evt.now _, Evt.now _⟩
          ·simp only [if_neg ca, ite_self]; exact ⟨270, Evt.now _, Evt.now _⟩
        ·simp only [if_neg c7, ite_self]; exact ⟨270, Evt.now _, Evt.now _⟩
       ·simp only [if_neg c6, ite_self]; exact ⟨270, Evt.now _, Evt.now _⟩
      ·simp only [if_neg c5, if_neg (show ¬ r.f3 < 128 by omega), ite_self]; exact ⟨270, Evt.now _, Evt.now _⟩
     ·simp only [if_neg c4, ite_self]; exact ⟨270, Evt.now _, Evt.now _⟩
    ·simp only [if_neg c3, if_true, ite_self]; exact ⟨270, Evt.now _, Evt.now _⟩
  ·have c1' : r.f0 > 2147483647 := by omega
   simp only [if_neg c1, if_pos c1', ite_self]
   exact ⟨270, Evt.now _, Evt.now _⟩
 ·have c0' : r.f0 < 0 := by omega
  simp only [if_neg c0, if_pos c0', ite_self]
  exact ⟨270, Evt.now _, Evt.now _⟩
/-! ### the element, the bytes -/
theorem I_ev (m n : Int) (hn : -2147483648 ≤ n ∧ n ≤ 2147483647) : Evt (fun k => toponymref26_I.f k m n) (0, false, m, sg n, []) := by
 unfold toponymref26_I.f
 refine ⟨20, fun k hk => ?_⟩
 simp only [PrJ.bytes_f k n (by omega) (by omega) hk, if_pos hn]
 rfl
theorem Row_ev (m : Int) (l : List ByteArray) (hl : l.length ≤ 1000) : Evt (fun k => toponymref26_Row.f k m l) (0, true, m, ⟨#[]⟩, l.map tE) := by
 have loop : ∀ (u s : List ByteArray), l = s ++ u → Evt (fun k => toponymref26_Row.l0 k (s.map tE) (s.length : Int) m l) (0, true, m, ⟨#[]⟩, l.map tE) := by
  intro u
  induction u with
  | nil =>
   intro s hs
   refine Evt.step ?_
   have hse : s = l := by rw [hs]; simp
   have he : ¬ (s.length : Int) < (l.length : Int) := by rw [hs]; simp
   simp only [toponymref26_Row.l0, if_neg he, toponymref26_G.f, Option.bind_some]
   rw [hse]
   exact Evt.now _
  | cons z u ih =>
   intro s hs
   have hj := ih (s ++ [z]) (by rw [hs, snoc])
   have hsl : s.length ≤ 1000 := by rw [hs] at hl; simp at hl; omega
   have hn2 := next_len s z u (by rw [← hs]; omega)
   have hlt : (s.length : Int) < (l.length : Int) := by rw [hs]; exact lt_mid s z u
   have hz : rdOf ByteArray.empty l (s.length : Int) = z := by rw [hs]; exact rdO s z u
   refine Evt.step ?_
   simp only [toponymref26_Row.l0, if_pos hlt, if_pos (Int.natCast_nonneg s.length), hz, toponymref26_T.f, Option.bind_some]
   refine Evt.ifp (by simp; omega) ?_
   simp only [Option.bind_some, hn2]
   rw [show (s.map tE ++ [⟨0, false, 4, z, []⟩] : List S57) = (s ++ [z]).map tE by simp [tE]]
   exact hj
 exact loop l [] rfl
theorem Attr_ev (v : S46) (hl : v.f1.length ≤ 1000) : Evt (fun k => toponymref26_Attribute.f k v.f0 v.f1) ((aE v).f0, (aE v).f1, (aE v).f2, (aE v).f3, (aE v).f4) := by
 unfold toponymref26_Attribute.f
 simp only [toponymref26_T.f, Option.bind_some]
 refine Evt.bind (Row_ev 17 v.f1 hl) ?_
 simp only [toponymref26_G.f, Option.bind_some]
 exact Evt.now _
theorem element_ev (r : S27) (h : Ok r) : Evt (fun k => toponymref27_element.f k r.f0 r.f1 r.f2 r.f3 r.f4 r.f5 r.f6 r.f7) ((el r).f0, (el r).f1, (el r).f2, (el r).f3, (el r).f4) := by
 have i0 := h.id0
 have i1 := h.id1
 have hI := I_ev 2 r.f0 (by omega)
 unfold toponymref27_element.f
 cases hb : r.f2
 ·obtain ⟨h1, h2, h3, h4, h5, h7, h6⟩ := h.re hb
  have ho : opE r = gE 1 (tg r.f1) ([nE 10 r.f3, tE r.f4, tE r.f5] ++ xE r.f6) := by unfold opE; rw [if_neg (by rw [hb]; decide)]
  simp only [Bool.false_eq_true, if_false]
  refine Evt.bind (I_ev 10 r.f3 (by omega)) ?_
  simp only [toponymref26_T.f, toponymref26_G.f, rtag_eq, if_pos h1, Option.bind_some]
  by_cases hz : (r.f6.size : Int) > 0
  ·have hx : xE r.f6 = [⟨2, false, 10, r.f6, []⟩] := if_neg (by omega)
   simp only [if_pos hz]
   refine Evt.ifp (by simp) ?_
   refine Evt.bind hI ?_
   unfold el
   rw [ho, hx]
   exact Evt.now _
  ·have hx : xE r.f6 = [] := if_pos (by omega)
   simp only [if_neg hz]
   refine Evt.bind hI ?_
   unfold el
   rw [ho, hx]
   exact Evt.now _
 ·obtain ⟨_, _, _, _, h6, h7, hy⟩ := h.en hb
  have ho : opE r = gE 1 4 [tE r.f6, gE 0 16 (r.f7.map aE)] := by unfold opE; rw [if_pos hb]
  simp only [if_true]
  have loop : ∀ (t p : List S46), r.f7 = p ++ t → Evt (fun k => toponymref27_element.l0 k (p.map aE) (p.length : Int) r.f0 r.f6 r.f7) ((el r).f0, (el r).f1, (el r).f2, (el r).f3, (el r).f4) := by
   intro t
   induction t with
   | nil =>
    intro p hp
    refine Evt.step ?_
    have hpe : p = r.f7 := by rw [hp]; simp
    have he : ¬ (p.length : Int) < (r.f7.length : Int) := by rw [hp]; simp
    simp only [toponymref27_element.l0, if_neg he, toponymref26_T.f, toponymref26_G.f, Option.bind_some]
    refine Evt.bind hI ?_
    unfold el
    rw [ho, hpe]
    exact Evt.now _
   | cons y t ih =>
    intro p hp
    have hi := ih (p ++ [y]) (by rw [hp, snoc])
    obtain ⟨y0, y1, y2⟩ := hy y (by rw [hp]; simp)
    have hnx := next_len p y t (by rw [← hp]; omega)
    have hpl : p.length ≤ 24 := by rw [hp] at h7; simp at h7; omega
    refine Evt.step ?_
    rw [hp] at hi ⊢
    simp only [toponymref27_element.l0, if_pos (lt_mid p y t), if_pos (Int.natCast_nonneg p.length), rd46]
    refine Evt.bind (Attr_ev y (by omega)) ?_
    refine Evt.ifp (by simp; omega) ?_
    simp only [Option.bind_some, hnx, PbA.eta]
    rw [show (p.map aE ++ [aE y] : List S57) = (p ++ [y]).map aE by simp]
    exact hi
  exact loop r.f7 [] rfl
theorem One_ev (r : S27) (x : Int) (hx : Gd r x) (hc : Evt (fun k => toponymref27_Check.f k r.f0 r.f1 r.f2 r.f3 r.f4 r.f5 r.f6 r.f7) x) : Evt (fun k => toponymref27_One.f k r.f0 r.f1 r.f2 r.f3 r.f4 r.f5 r.f6 r.f7) (if x = 0 then PbA.enc [el r] else (⟨#[]⟩, 270)) := by
 unfold toponymref27_One.f
 refine Evt.bind hc ?_
 by_cases hz : x = 0
 ·have hok := hx.2 hz
  simp only [if_pos hz]
  refine Evt.bind (element_ev r hok) ?_
  simp only [PbA.eta]
  exact Evt.bind (PbA.rEncode_ev [el r] (fun y hy => by rw [List.mem_singleton.1 hy]; exact (el_fine r hok).1) (by simp)) (Evt.now _)
 ·simp only [if_neg hz]; exact Evt.now _
theorem Encode_both (l : List S27) (hl : l.length ≤ 1000) (hb : ∀ y ∈ l, Bd y) : ∃ v, Evt (fun k => reply_Encode.f k l) v ∧ Evt (fun k => toponymref27_Encode.f k l) v ∧ v.1.length ≤ 1000 := by
 have loop : ∀ (t p : List S27) (acc : List ByteArray), l = p ++ t → acc.length ≤ p.length → ∃ v, Evt (fun k => reply_Encode.l0 k acc (p.length : Int) l) v ∧ Evt (fun k => toponymref27_Encode.l0 k acc (p.length : Int) l) v ∧ v.1.length ≤ 1000 := by
  intro t
  induction t with
  | nil =>
   intro p acc hp ha
   have he : ¬ (p.length : Int) < (l.length : Int) := by rw [hp]; simp
   refine ⟨(acc, 0), Evt.step ?_, Evt.step ?_, by rw [hp] at hl; simp at hl; show acc.length ≤ 1000; omega⟩
   ·simp only [reply_Encode.l0, if_neg he]; exact Evt.now _
   ·simp only [toponymref27_Encode.l0, if_neg he]; exact Evt.now _
  | cons y t ih =>
   intro p acc hp ha
   have hpl : p.length ≤ 1000 := by rw [hp] at hl; simp at hl; omega
   have hnx := next_len p y t (by rw [← hp]; omega)
   have hlt : (p.length : Int) < (l.length : Int) := by rw [hp]; exact lt_mid p y t
   have hy : rd_T27 l (p.length : Int) = y := by rw [hp]; unfold rd_T27; simp
   have hby := hb y (by rw [hp]; simp)
   obtain ⟨x, hx1, hx2⟩ := Check_both y hby
   obtain ⟨x', hg, hx3⟩ := Check_ev y hby
   obtain rfl := Evt.uniq hx1 hx3
   have hO := One_ev y x hg hx2
   by_cases hz : x = 0
   ·rw [if_pos hz] at hO
    have hL := laid_ev y (hg.2 hz)
    by_cases h0 : (PbA.enc [el y]).2 = 0
    ·obtain ⟨v, v1, v2, v3⟩ := ih (p ++ [y]) (acc ++ [(PbA.enc [el y]).1]) (by rw [hp, snoc]) (by simp; omega)
     refine ⟨v, Evt.step ?_, Evt.step ?_, v3⟩
     ·simp only [reply_Encode.l0, if_pos hlt, if_pos (Int.natCast_nonneg p.length), hy]
      refine Evt.bind hx1 ?_
      simp only [if_pos hz]
      refine Evt.bind hL ?_
      simp only [if_pos h0]
      refine Evt.ifp (by omega) ?_
      simp only [Option.bind_some, hnx]
      exact v1
     ·simp only [toponymref27_Encode.l0, if_pos hlt, if_pos (Int.natCast_nonneg p.length), hy]
      refine Evt.bind hO ?_
      simp only [if_pos h0]
      refine Evt.ifp (by omega) ?_
      simp only [Option.bind_some, hnx]
      exact v2
    ·refine ⟨([], (PbA.enc [el y]).2), Evt.step ?_, Evt.step ?_, by simp⟩
     ·simp only [reply_Encode.l0, if_pos hlt, if_pos (Int.natCast_nonneg p.length), hy]
      refine Evt.bind hx1 ?_
      simp only [if_pos hz]
      refine Evt.bind hL ?_
      simp only [if_neg h0]
      exact Evt.now _
     ·simp only [toponymref27_Encode.l0, if_pos hlt, if_pos (Int.natCast_nonneg p.length), hy]
      refine Evt.bind hO ?_
      simp only [if_neg h0]
      exact Evt.now _
   ·rw [if_neg hz] at hO
    have h270 : x = 270 := by rcases hg.1 with h | h; exact absurd h hz; exact h
    subst h270
    refine ⟨([], 270), Evt.step ?_, Evt.step ?_, by simp⟩
    ·simp only [reply_Encode.l0, if_pos hlt, if_pos (Int.natCast_nonneg p.length), hy]
     refine Evt.bind hx1 ?_
     simp only [if_neg hz]
     exact Evt.now _
    ·simp only [toponymref27_Encode.l0, if_pos hlt, if_pos (Int.natCast_nonneg p.length), hy]
     refine Evt.bind hO ?_
     exact Evt.now _
 exact loop l [] [] rfl (by simp)
theorem tx_self : ∀ l : List ByteArray, tx l l = true
 | [] => rfl
 | y :: l => by unfold tx; rw [if_pos rfl, tx_self l]
theorem bd_of {a : S27} (h : G27 a) : Bd a := by
 obtain ⟨h1, h2⟩ := small h
 cases h with
 | mk _ _ _ h4 h5 h6 h7 h7' => exact ⟨h4, h5, h6, h1, h2⟩
end Go.Proofs.Ytdjkemhmhkpmkaa.PrE
