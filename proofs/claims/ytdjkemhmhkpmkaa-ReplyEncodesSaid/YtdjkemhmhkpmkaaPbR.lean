import Derived.Test.YtdjkemhmhkpmkaaPbB
import Derived.Test.YtdjkemhmhkpmkaaGM1
import Derived.Test.YtdjkemhmhkpmkaaGM2
import Derived.Test.YtdjkemhmhkpmkaaGM2
import Derived.Test.YtdjkemhmhkpmkaaGAF68
import Derived.Test.YtdjkemhmhkpmkaaGM1
import Derived.Test.YtdjkemhmhkpmkaaGM2
/- Plain laws of elements: the document's bytes; any elements are laid as the document says. -/
namespace Go.Proofs.Ytdjkemhmhkpmkaa.PbA
open Go Go.RowKit Go.Proofs.Ytdjkemhmhkpmkaa.GA Go.Proofs.Ytdjkemhmhkpmkaa.OA Go.Proofs.Ytdjkemhmhkpmkaa.PuE Go.Proofs.YtdjkemhmhkpmkaaW.PrintWords Go.Proofs.YtdjkemhmhkpmkaaW.PrintLast Go.Proofs.YtdjkemhmhkpmkaaW.PrintMore
set_option linter.unusedVariables false
set_option linter.unusedSimpArgs false
theorem rdeep_ev : ∀ (n : Nat), n ≤ 12 → ∀ e : S57, W e → Evt (fun k => toponymref15_deep.f k e.f0 e.f1 e.f2 e.f3 e.f4 ((n + 1 : Nat) : Int)) (dpt n e)
 | 0, _, e, he => by
  refine Evt.step ?_
  simp only [toponymref15_deep.f, dpt]
  refine Evt.step ?_
  simp only [toponymref15_deep.l0]
  have h1 : ¬ (((0 + 1 : Nat) : Int) > 1) := by omega
  have h2 : wrap64 (0 + 1) = 1 := by rw [w64 _ (by omega)]; omega
  simp only [if_neg h1, h2, ite_self]
  exact Evt.now _
 | n + 1, hn, e, he => by
  have h1 : ((n + 1 + 1 : Nat) : Int) > 1 := by omega
  have loop : ∀ (r p : List S57) (m : Int), e.f4 = p ++ r → 0 ≤ m → m ≤ 13 → Evt (fun k => toponymref15_deep.l0 k m (p.length : Int) ((n + 1 + 1 : Nat) : Int) e.f4) (r.foldl (fun m y => max m (dpt n y)) m + 1) := by
   intro r
   induction r with
   | nil =>
    intro p m hl h0 hm
    refine Evt.step ?_
    simp only [toponymref15_deep.l0, hl, if_neg (nlt_end p), List.foldl_nil]
    rw [w64 _ (by omega)]
    exact Evt.now _
   | cons y r ih =>
    intro p m hl h0 hm
    have hb := dpt_le n y
    refine Evt.step ?_
    have hw : wrap64 (((n + 1 + 1 : Nat) : Int) - 1) = ((n + 1 : Nat) : Int) := by rw [w64 _ (by omega)]; omega
    have hnx := next_len p y r (by rw [← hl]; exact he.len)
    have hi := fun m h0 h1 => ih (p ++ [y]) m (by rw [hl, snoc]) h0 h1
    simp only [hl] at hi ⊢
    simp only [toponymref15_deep.l0, if_pos (lt_mid p y r), if_pos h1, if_pos (Int.natCast_nonneg p.length), rd_mid, hw, hnx, List.foldl_cons]
    refine Evt.bind (rdeep_ev n (by omega) y (he.kid y (by rw [hl]; simp))) ?_
    by_cases hx : dpt n y > m
    ·simp only [if_pos hx, show max m (dpt n y) = dpt n y by omega]
     exact hi _ (by omega) (by omega)
    ·simp only [if_neg hx, show max m (dpt n y) = m by omega]
     exact hi _ (by omega) (by omega)
  refine Evt.step ?_
  simp only [toponymref15_deep.f, dpt]
  exact loop e.f4 [] 0 rfl (by omega) (by omega)
theorem rDeep_ev (e : S57) (h : W e) : Evt (fun k => toponymref15_Deep.f k e.f0 e.f1 e.f2 e.f3 e.f4) (dpt 12 e) := Evt.bind (rdeep_ev 12 (by omega) e h) (Evt.now _)
theorem fine_ev : ∀ (n : Nat) (e : S57), W e → dle n e = true → Evt (fun k => toponymref15_fine.f k e.f0 e.f1 e.f2 e.f3 e.f4) (san n e)
 | 0, e, _, h => by simp [dle] at h
 | n + 1, e, he, hd => by
  simp only [dle, List.all_eq_true] at hd
  have loop : ∀ (r p : List S57), e.f4 = p ++ r → Evt (fun k => toponymref15_fine.l0 k (p.length : Int) e.f0 e.f1 e.f2 e.f3 e.f4) (r.all (san n) && okL e) := by
   intro r
   induction r with
   | nil =>
    intro p hl
    refine Evt.step ?_
    have hln : e.f4.length = p.length := by rw [hl]; simp
    have hlt : ¬ (p.length : Int) < (e.f4.length : Int) := by omega
    simp only [toponymref15_fine.l0, if_neg hlt, List.all_nil, Bool.true_and, okL]
    by_cases h0 : e.f0 ≥ 0
    ·by_cases h1 : e.f0 < 4
     ·by_cases h2 : e.f2 ≥ 0
      ·by_cases h3 : e.f2 < 31
       ·simp only [if_pos h0, if_pos h1, if_pos h2, if_pos h3, show decide (0 ≤ e.f0) = true from decide_eq_true (by omega), show decide (e.f0 ≤ 3) = true from decide_eq_true (by omega), show decide (0 ≤ e.f2) = true from decide_eq_true (by omega), show decide (e.f2 ≤ 30) = true from decide_eq_true (by omega), Bool.true_and]
        cases hm : e.f1
        ·simp only [Bool.false_eq_true, if_false]
         refine (Evt.now _).val ?_
         rw [show ((e.f4.length : Int) == 0) = decide ((e.f4.length : Int) = 0) from rfl]
         congr 1
         exact propext (by omega)
        ·simp only [if_true]
         by_cases hz : (e.f3.size : Int) = 0
         ·simp only [if_pos hz, show decide (e.f3.size = 0) = true from decide_eq_true (by omega)]
          exact Evt.now _
         ·simp only [if_neg hz, show decide (e.f3.size = 0) = false from decide_eq_false (by omega)]
          exact Evt.now _
       ·simp only [if_pos h0, if_pos h1, if_pos h2, if_neg h3, show decide (e.f2 ≤ 30) = false from decide_eq_false (by omega), Bool.false_and, Bool.and_false]
        exact Evt.now _
      ·simp only [if_pos h0, if_pos h1, if_neg h2, show decide (0 ≤ e.f2) = false from decide_eq_false (by omega), Bool.false_and, Bool.and_false]
       exact Evt.now _
     ·simp only [if_pos h0, if_neg h1, show decide (e.f0 ≤ 3) = false from decide_eq_false (by omega), Bool.false_and, Bool.and_false]
      exact Evt.now _
    ·simp only [if_neg h0, show decide (0 ≤ e.f0) = false from decide_eq_false (by omega), Bool.false_and]
     exact Evt.now _
   | cons y r ih =>
    intro p hl
    refine Evt.step ?_
    have hnx := next_len p y r (by rw [← hl]; exact he.len)
    have hi := ih (p ++ [y]) (by rw [hl, snoc])
    have hy : y ∈ e.f4 := by rw [hl]; simp
    generalize hok : okL e = okv at hi ⊢
    simp only [hl] at hi ⊢
    simp only [toponymref15_fine.l0, if_pos (lt_mid p y r), if_pos (Int.natCast_nonneg p.length), rd_mid, hnx, List.all_cons]
    refine Evt.bind (fine_ev n y (he.kid y hy) (hd y hy)) ?_
    cases hs : san n y
    ·simp only [Bool.false_eq_true, if_false, Bool.false_and]
     exact Evt.now _
    ·simp only [if_true, Bool.true_and]
     exact hi
  refine Evt.step ?_
  simp only [toponymref15_fine.f, san]
  exact (loop e.f4 [] rfl).val (Bool.and_comm _ _)
theorem size_ev : ∀ (n : Nat) (e : S57), W e → dle n e = true → Evt (fun k => toponymref15_Size.f k e.f0 e.f1 e.f2 e.f3 e.f4) (sz n e)
 | 0, e, _, h => by simp [dle] at h
 | n + 1, e, he, hd => by
  simp only [dle, List.all_eq_true] at hd
  have loop : ∀ (r p : List S57) (m : Int), e.f4 = p ++ r → 0 ≤ m → Evt (fun k => toponymref15_Size.l0 k m (p.length : Int) e.f4) (fin (r.foldl (fun m y => if m ≤ 4000 then m + sz n y else m) m)) := by
   intro r
   induction r with
   | nil =>
    intro p m hl h0
    refine Evt.step ?_
    simp only [toponymref15_Size.l0, hl, if_neg (nlt_end p), List.foldl_nil]
    exact Evt.of_all fun k => fin_eq m h0
   | cons y r ih =>
    intro p m hl h0
    refine Evt.step ?_
    have hb := sz_le n y
    have hnx := next_len p y r (by rw [← hl]; exact he.len)
    have hi := fun m h0 => ih (p ++ [y]) m (by rw [hl, snoc]) h0
    have hy : y ∈ e.f4 := by rw [hl]; simp
    simp only [hl] at hi ⊢
    by_cases hm : m ≤ 4000
    ·simp only [toponymref15_Size.l0, if_pos (lt_mid p y r), if_pos (Int.natCast_nonneg p.length), rd_mid, hnx, List.foldl_cons, if_pos hm]
     refine Evt.bind (size_ev n y (he.kid y hy) (hd y hy)) ?_
     rw [w64 _ (by omega)]
     exact hi _ (by omega)
    ·simp only [toponymref15_Size.l0, if_pos (lt_mid p y r), List.foldl_cons, if_neg hm]
     rw [sz_stay n r m (by omega)]
     exact Evt.of_all fun k => fin_eq m h0
  refine Evt.step ?_
  simp only [toponymref15_Size.f, sz]
  exact loop e.f4 [] _ rfl (by omega)
theorem rCheck_ev (e : S57) (h : W e) : Evt (fun k => toponymref15_Check.f k e.f0 e.f1 e.f2 e.f3 e.f4) (chk e) := by
 unfold toponymref15_Check.f chk
 refine Evt.bind (rDeep_ev e h) ?_
 by_cases hd : dpt 12 e > 12
 ·simp only [if_pos hd]
  exact Evt.now _
 ·simp only [if_neg hd]
  have hdl : dle 12 e = true := (dpt_dle 12 e).1 (by omega)
  refine Evt.bind (fine_ev 12 e h hdl) ?_
  cases hs : san 12 e
  ·simp only [Bool.false_eq_true, if_false]
   exact Evt.now _
  ·simp only [if_true]
   refine Evt.bind (size_ev 12 e h hdl) ?_
   obtain ⟨i1, _⟩ := sz_lay 12 e hs
   by_cases hf : (lay 12 e).length ≤ 4000
   ·have := i1.2 hf
    simp only [if_neg (show ¬ sz 12 e > 4000 by omega), if_pos hf]
    exact Evt.now _
   ·have : ¬ sz 12 e ≤ 4000 := fun h => hf (i1.1 h)
    simp only [if_pos (show sz 12 e > 4000 by omega), if_neg hf]
    exact Evt.now _
theorem A8_size_le (l : List Int) : (strOfNums l).size = l.length := by rw [son, size_A8, List.length_map]
theorem rhead (t : Nat) (s : ByteArray) (h : s.size ≤ 4000) : (if (s.size : Int) < 128 then (if (strOfNums ([(t : Int), ((s.size : Int)) % 256] : List Int)).size + s.size ≤ 9223372036854775807 then (some ((strOfNums ([(t : Int), ((s.size : Int)) % 256] : List Int)) ++ s)) else (none)) else (if (s.size : Int) < 256 then (if (strOfNums ([(t : Int), 129, ((s.size : Int)) % 256] : List Int)).size + s.size ≤ 9223372036854775807 then (some ((strOfNums ([(t : Int), 129, ((s.size : Int)) % 256] : List Int)) ++ s)) else (none)) else (if (strOfNums ([(t : Int), 130, (wrap64 ((s.size : Int) / 256)) % 256, (s.size : Int) % 256] : List Int)).size + s.size ≤ 9223372036854775807 then (some ((strOfNums ([(t : Int), 130, (wrap64 ((s.size : Int) / 256)) % 256, (s.size : Int) % 256] : List Int)) ++ s)) else (none)))) =
  some (A8 (hb t s.size) ++ s) := by
 unfold hb lenB
 rw [w64 _ (by omega)]
 by_cases h1 : s.size < 128
 ·rw [if_pos (by omega), if_pos (by rw [A8_size_le]; simp; omega), if_pos h1, son]
  simp only [List.map_cons, List.map_nil, u8_int, Int.toNat_natCast]
 ·by_cases h2 : s.size < 256
  ·rw [if_neg (by omega), if_pos (by omega), if_pos (by rw [A8_size_le]; simp; omega), if_neg h1, if_pos h2, son]
   simp only [List.map_cons, List.map_nil, u8_int, Int.toNat_natCast]
   rfl
  ·rw [if_neg (by omega), if_neg (by omega), if_pos (by rw [A8_size_le]; simp; omega), if_neg h1, if_neg h2, son]
   simp only [List.map_cons, List.map_nil, u8_int, Int.toNat_natCast]
   rw [show UInt8.ofNat ((s.size : Int) / 256 % 256).toNat = UInt8.ofNat (s.size / 256) by rw [show ((s.size : Int) / 256 % 256).toNat = (s.size / 256) % 256 by omega, u8_mod]]
   rfl
theorem rlay_ev : ∀ (n : Nat) (e : S57), W e → san n e = true → (lay n e).length ≤ 4000 → Evt (fun k => toponymref15_lay.f k e.f0 e.f1 e.f2 e.f3 e.f4) (A8 (lay n e))
 | 0, e, _, h, _ => by simp [san] at h
 | n + 1, e, he, hs, hlen => by
  simp only [san, Bool.and_eq_true, List.all_eq_true] at hs
  obtain ⟨hok, hkids⟩ := hs
  obtain ⟨tg0, tg1⟩ := tag_of e hok
  cases hm : e.f1
  ·rw [lay_plain n e hm] at hlen ⊢
   simp only [List.length_append, len_B] at hlen
   refine Evt.step (Evt.of_all fun k => ?_)
   simp only [toponymref15_lay.f, Bool.false_eq_true, if_false]
   rw [(tg0 hm).2, rhead _ _ (by omega), ← A8_app, A8_B]
  ·rw [lay_made n e hm] at hlen ⊢
   simp only [List.length_append] at hlen
   have loop : ∀ (r p : List S57), e.f4 = p ++ r → Evt (fun k => toponymref15_lay.l0 k (A8 (p.flatMap (lay n))) (p.length : Int) e.f0 e.f2 e.f4) (A8 (hb (tag e) (e.f4.flatMap (lay n)).length ++ e.f4.flatMap (lay n))) := by
    intro r
    induction r with
    | nil =>
     intro p hp
     have hp' : p = e.f4 := by rw [hp, List.append_nil]
     subst hp'
     have hend : ¬ (e.f4.length : Int) < (e.f4.length : Int) := by omega
     refine Evt.step (Evt.of_all fun k => ?_)
     simp only [toponymref15_lay.l0, if_neg hend]
     rw [(tg1 hm).2, rhead _ _ (by rw [size_A8]; omega), size_A8, A8_app]
    | cons y r ih =>
     intro p hp
     have hnx := next_len p y r (by rw [← hp]; exact he.len)
     have hy : y ∈ e.f4 := by rw [hp]; simp
     have hi := ih (p ++ [y]) (by rw [hp, snoc])
     have hfl : (p ++ [y]).flatMap (lay n) = p.flatMap (lay n) ++ lay n y := by simp
     have hfa : (e.f4.flatMap (lay n)).length = (p.flatMap (lay n)).length + (lay n y).length + (r.flatMap (lay n)).length := by rw [hp]; simp; omega
     rw [hfl] at hi
     refine Evt.step ?_
     generalize hE : A8 (hb (tag e) (e.f4.flatMap (lay n)).length ++ e.f4.flatMap (lay n)) = E at hi ⊢
     have e1 := rlay_ev n y (he.kid y hy) (hkids y hy) (by omega)
     simp only [hp] at hi ⊢
     simp only [toponymref15_lay.l0, if_pos (lt_mid p y r), if_pos (Int.natCast_nonneg p.length), rd_mid, hnx]
     refine Evt.bind e1 ?_
     have hfit : (A8 (p.flatMap (lay n))).size + (A8 (lay n y)).size ≤ 9223372036854775807 := by rw [size_A8, size_A8]; omega
     simp only [if_pos hfit, A8_app]
     exact hi
   refine Evt.step ?_
   simp only [toponymref15_lay.f, if_true]
   exact loop e.f4 [] rfl
theorem rEncode_ev (l : List S57) (hw : ∀ y ∈ l, W y) (hlen : l.length ≤ 140737488351232) : Evt (fun k => toponymref15_Encode.f k l) (enc l) := by
 have l1 : ∀ (r p : List S57), l = p ++ r → (∀ y ∈ r, chk y = 0) → (p.flatMap (lay 12)).length ≤ 4000 →
   Evt (fun k => toponymref15_Encode.l1 k (A8 (p.flatMap (lay 12))) (p.length : Int) l) (if (l.flatMap (lay 12)).length ≤ 4000 then (A8 (l.flatMap (lay 12)), 0) else (⟨#[]⟩, 3)) := by
  intro r
  induction r with
  | nil =>
   intro p hp _ h4
   have hp' : p = l := by rw [hp, List.append_nil]
   subst hp'
   refine Evt.step ?_
   have hend : ¬ (p.length : Int) < (p.length : Int) := by omega
   simp only [toponymref15_Encode.l1, if_neg hend, if_pos h4]
   exact Evt.now _
  | cons y r ih =>
   intro p hp hc h4
   have hnx := next_len p y r (by rw [← hp]; exact hlen)
   have hy : y ∈ l := by rw [hp]; simp
   have hi := ih (p ++ [y]) (by rw [hp, snoc]) (fun z hz => hc z (by simp [hz]))
   have hfl : (p ++ [y]).flatMap (lay 12) = p.flatMap (lay 12) ++ lay 12 y := by simp
   have hfa : (l.flatMap (lay 12)).length = (p.flatMap (lay 12)).length + (lay 12 y).length + (r.flatMap (lay 12)).length := by rw [hp]; simp; omega
   rw [hfl] at hi
   obtain ⟨hsy, hs4⟩ := (chk_zero y).1 (hc y (by simp))
   have e1 := rlay_ev 12 y (hw y hy) hsy hs4
   have hfit : (A8 (p.flatMap (lay 12))).size + (A8 (lay 12 y)).size ≤ 9223372036854775807 := by rw [size_A8, size_A8]; omega
   refine Evt.step ?_
   by_cases hf : (p.flatMap (lay 12)).length + (lay 12 y).length ≤ 4000
   ·have hi := hi (by rw [List.length_append]; exact hf)
    generalize hE : (if (l.flatMap (lay 12)).length ≤ 4000 then (A8 (l.flatMap (lay 12)), (0 : Int)) else (⟨#[]⟩, 3)) = E at hi ⊢
    have hn4 : ¬ (((A8 (p.flatMap (lay 12) ++ lay 12 y)).size : Nat) : Int) > 4000 := by rw [size_A8, List.length_append]; omega
    simp only [hp] at hi ⊢
    simp only [toponymref15_Encode.l1, if_pos (lt_mid p y r), if_pos (Int.natCast_nonneg p.length), rd_mid, hnx]
    refine Evt.bind e1 ?_
    simp only [if_pos hfit, A8_app, if_neg hn4]
    exact hi
   ·rw [if_neg (show ¬ (l.flatMap (lay 12)).length ≤ 4000 by omega)]
    have hn4 : (((A8 (p.flatMap (lay 12) ++ lay 12 y)).size : Nat) : Int) > 4000 := by rw [size_A8, List.length_append]; omega
    simp only [hp]
    simp only [toponymref15_Encode.l1, if_pos (lt_mid p y r), if_pos (Int.natCast_nonneg p.length), rd_mid, hnx]
    refine Evt.bind e1 ?_
    simp only [if_pos hfit, A8_app, if_pos hn4]
    exact Evt.now _
 have l0 : ∀ (r p : List S57), l = p ++ r → fb l = fb r → Evt (fun k => toponymref15_Encode.l0 k (p.length : Int) l) (enc l) := by
  intro r
  induction r with
  | nil =>
   intro p hp hf
   refine Evt.step ?_
   have hend : ¬ (p.length : Int) < (l.length : Int) := by rw [hp]; simp
   simp only [toponymref15_Encode.l0, if_neg hend, enc, hf, fb, if_true]
   exact l1 l [] rfl (fun y hy => fb_zero l (by rw [hf]; rfl) y hy) (by simp)
  | cons y r ih =>
   intro p hp hf
   refine Evt.step ?_
   have hnx := next_len p y r (by rw [← hp]; exact hlen)
   have hy : y ∈ l := by rw [hp]; simp
   have hi := ih (p ++ [y]) (by rw [hp, snoc])
   have e1 := rCheck_ev y (hw y hy)
   by_cases hc : chk y = 0
   ·have hf2 : fb l = fb r := by rw [hf, fb, if_pos hc]
    have hi := hi hf2
    generalize hE : enc l = E at hi ⊢
    simp only [hp] at hi ⊢
    simp only [toponymref15_Encode.l0, if_pos (lt_mid p y r), if_pos (Int.natCast_nonneg p.length), rd_mid, hnx]
    refine Evt.bind e1 ?_
    simp only [if_pos hc]
    exact hi
   ·have hf2 : fb l = chk y := by rw [hf, fb, if_neg hc]
    have hE : enc l = (⟨#[]⟩, chk y) := by unfold enc; rw [hf2, if_neg hc]
    rw [hE]
    simp only [hp]
    simp only [toponymref15_Encode.l0, if_pos (lt_mid p y r), if_pos (Int.natCast_nonneg p.length), rd_mid, hnx]
    refine Evt.bind e1 ?_
    simp only [if_neg hc]
    exact Evt.now _
 exact l0 l [] rfl rfl
/-! ### any elements are laid -/
end Go.Proofs.Ytdjkemhmhkpmkaa.PbA
