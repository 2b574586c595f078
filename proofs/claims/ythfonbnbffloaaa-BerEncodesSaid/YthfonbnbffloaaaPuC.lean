import Derived.Test.YthfonbnbffloaaaPuB
import Derived.Test.YthfonbnbffloaaaGAF14
import Derived.Test.YthfonbnbffloaaaGAF3
import Derived.Test.YthfonbnbffloaaaGAF7
import Derived.Test.YthfonbnbffloaaaGAF8
/- Plain laws of elements: the document's bytes; any elements are laid as the document says. -/
namespace Go.Proofs.Ythfonbnbffloaaa.PuA
open Go Go.RowKit Go.Proofs.Ythfonbnbffloaaa.GA Go.Proofs.Ythfonbnbffloaaa.OA Go.Proofs.Ythfonbnbffloaaa.PuE Go.Proofs.YthfonbnbffloaaaW.PrintWords Go.Proofs.YthfonbnbffloaaaW.PrintLast Go.Proofs.YthfonbnbffloaaaW.PrintMore
set_option linter.unusedVariables false
set_option linter.unusedSimpArgs false
theorem A8_size_le (l : List Int) : (strOfNums l).size = l.length := by rw [son, size_A8, List.length_map]
theorem rhead (t : Nat) (s : ByteArray) (h : s.size ≤ 4000) : (if (s.size : Int) < 128 then (if (strOfNums ([(t : Int), ((s.size : Int)) % 256] : List Int)).size + s.size ≤ 9223372036854775807 then (some ((strOfNums ([(t : Int), ((s.size : Int)) % 256] : List Int)) ++ s)) else (none)) else (if (s.size : Int) < 256 then (if (strOfNums ([(t : Int), 129, ((s.size : Int)) % 256] : List Int)).size + s.size ≤ 9223372036854775807 then (some ((strOfNums ([(t : Int), 129, ((s.size : Int)) % 256] : List Int)) ++ s)) else (none)) else (if (strOfNums ([(t : Int), 130, (wrap64 ((s.size : Int) / 256)) % 256, (s.size : Int) % 256] : List Int)).size + s.size ≤ 9223372036854775807 then (some ((strOfNums ([(t : Int), 130, (wrap64 ((s.size : Int) / 256)) % 256, (s.size : Int) % 256] : List Int)) ++ s)) else (none)))) =
    some (A8 (hb t s.size) ++ s) := by
  unfold hb lenB
  rw [w64 _ (by omega)]
  by_cases h1 : s.size < 128
  · rw [if_pos (by omega), if_pos (by rw [A8_size_le]; simp; omega), if_pos h1, son]
    simp only [List.map_cons, List.map_nil, u8_int, Int.toNat_natCast]
  · by_cases h2 : s.size < 256
    · rw [if_neg (by omega), if_pos (by omega), if_pos (by rw [A8_size_le]; simp; omega), if_neg h1, if_pos h2, son]
      simp only [List.map_cons, List.map_nil, u8_int, Int.toNat_natCast]
      rfl
    · rw [if_neg (by omega), if_neg (by omega), if_pos (by rw [A8_size_le]; simp; omega), if_neg h1, if_neg h2, son]
      simp only [List.map_cons, List.map_nil, u8_int, Int.toNat_natCast]
      rw [show UInt8.ofNat ((s.size : Int) / 256 % 256).toNat = UInt8.ofNat (s.size / 256) by rw [show ((s.size : Int) / 256 % 256).toNat = (s.size / 256) % 256 by omega, u8_mod]]
      rfl
theorem rlay_ev : ∀ (n : Nat) (e : S26), W e → san n e = true → (lay n e).length ≤ 4000 → Evt (fun k => toponymref15_lay.f k e.f0 e.f1 e.f2 e.f3 e.f4) (A8 (lay n e))
  | 0, e, _, h, _ => by simp [san] at h
  | n + 1, e, he, hs, hlen => by
    simp only [san, Bool.and_eq_true, List.all_eq_true] at hs
    obtain ⟨hok, hkids⟩ := hs
    obtain ⟨tg0, tg1⟩ := tag_of e hok
    cases hm : e.f1
    · rw [lay_plain n e hm] at hlen ⊢
      simp only [List.length_append, len_B] at hlen
      refine Evt.step (Evt.of_all fun k => ?_)
      simp only [toponymref15_lay.f, Bool.false_eq_true, if_false]
      rw [(tg0 hm).2, rhead _ _ (by omega), ← A8_app, A8_B]
    · rw [lay_made n e hm] at hlen ⊢
      simp only [List.length_append] at hlen
      have loop : ∀ (r p : List S26), e.f4 = p ++ r → Evt (fun k => toponymref15_lay.l0 k (A8 (p.flatMap (lay n))) (p.length : Int) e.f0 e.f2 e.f4) (A8 (hb (tag e) (e.f4.flatMap (lay n)).length ++ e.f4.flatMap (lay n))) := by
        intro r
        induction r with
        | nil =>
          intro p hp
          have hp' : p = e.f4 := by rw [hp, List.append_nil]
          subst hp'
          have hend : ¬ (e.f4.length : Int) < (e.f4.length : Int) := by omega
          refine Evt.step (Evt.of_all fun k => ?_)
          simp only [toponymref15_lay.l0, if_neg hend]
          rw [(tg1 hm).2, rhead _ _ (by rw [size_A8]; omega), size_A8, A8_app]
        | cons y r ih =>
          intro p hp
          have hnx := next_len p y r (by rw [← hp]; exact he.len)
          have hy : y ∈ e.f4 := by rw [hp]; simp
          have hi := ih (p ++ [y]) (by rw [hp, snoc])
          have hfl : (p ++ [y]).flatMap (lay n) = p.flatMap (lay n) ++ lay n y := by simp
          have hfa : (e.f4.flatMap (lay n)).length = (p.flatMap (lay n)).length + (lay n y).length + (r.flatMap (lay n)).length := by rw [hp]; simp; omega
          rw [hfl] at hi
          refine Evt.step ?_
          generalize hE : A8 (hb (tag e) (e.f4.flatMap (lay n)).length ++ e.f4.flatMap (lay n)) = E at hi ⊢
          have e1 := rlay_ev n y (he.kid y hy) (hkids y hy) (by omega)
          simp only [hp] at hi ⊢
          simp only [toponymref15_lay.l0, if_pos (lt_mid p y r), if_pos (Int.natCast_nonneg p.length), rd_mid, hnx]
          refine Evt.bind e1 ?_
          have hfit : (A8 (p.flatMap (lay n))).size + (A8 (lay n y)).size ≤ 9223372036854775807 := by rw [size_A8, size_A8]; omega
          simp only [if_pos hfit, A8_app]
          exact hi
      refine Evt.step ?_
      simp only [toponymref15_lay.f, if_true]
      exact loop e.f4 [] rfl
theorem rEncode_ev (l : List S26) (hw : ∀ y ∈ l, W y) (hlen : l.length ≤ 140737488351232) : Evt (fun k => toponymref15_Encode.f k l) (enc l) := by
  have l1 : ∀ (r p : List S26), l = p ++ r → (∀ y ∈ r, chk y = 0) → (p.flatMap (lay 12)).length ≤ 4000 →
      Evt (fun k => toponymref15_Encode.l1 k (A8 (p.flatMap (lay 12))) (p.length : Int) l) (if (l.flatMap (lay 12)).length ≤ 4000 then (A8 (l.flatMap (lay 12)), 0) else (⟨#[]⟩, 3)) := by
    intro r
    induction r with
    | nil =>
      intro p hp _ h4
      have hp' : p = l := by rw [hp, List.append_nil]
      subst hp'
      refine Evt.step ?_
      have hend : ¬ (p.length : Int) < (p.length : Int) := by omega
      simp only [toponymref15_Encode.l1, if_neg hend, if_pos h4]
      exact Evt.now _
    | cons y r ih =>
      intro p hp hc h4
      have hnx := next_len p y r (by rw [← hp]; exact hlen)
      have hy : y ∈ l := by rw [hp]; simp
      have hi := ih (p ++ [y]) (by rw [hp, snoc]) (fun z hz => hc z (by simp [hz]))
      have hfl : (p ++ [y]).flatMap (lay 12) = p.flatMap (lay 12) ++ lay 12 y := by simp
      have hfa : (l.flatMap (lay 12)).length = (p.flatMap (lay 12)).length + (lay 12 y).length + (r.flatMap (lay 12)).length := by rw [hp]; simp; omega
      rw [hfl] at hi
      obtain ⟨hsy, hs4⟩ := (chk_zero y).1 (hc y (by simp))
      have e1 := rlay_ev 12 y (hw y hy) hsy hs4
      have hfit : (A8 (p.flatMap (lay 12))).size + (A8 (lay 12 y)).size ≤ 9223372036854775807 := by rw [size_A8, size_A8]; omega
      refine Evt.step ?_
      by_cases hf : (p.flatMap (lay 12)).length + (lay 12 y).length ≤ 4000
      · have hi := hi (by rw [List.length_append]; exact hf)
        generalize hE : (if (l.flatMap (lay 12)).length ≤ 4000 then (A8 (l.flatMap (lay 12)), (0 : Int)) else (⟨#[]⟩, 3)) = E at hi ⊢
        have hn4 : ¬ (((A8 (p.flatMap (lay 12) ++ lay 12 y)).size : Nat) : Int) > 4000 := by rw [size_A8, List.length_append]; omega
        simp only [hp] at hi ⊢
        simp only [toponymref15_Encode.l1, if_pos (lt_mid p y r), if_pos (Int.natCast_nonneg p.length), rd_mid, hnx]
        refine Evt.bind e1 ?_
        simp only [if_pos hfit, A8_app, if_neg hn4]
        exact hi
      · rw [if_neg (show ¬ (l.flatMap (lay 12)).length ≤ 4000 by omega)]
        have hn4 : (((A8 (p.flatMap (lay 12) ++ lay 12 y)).size : Nat) : Int) > 4000 := by rw [size_A8, List.length_append]; omega
        simp only [hp]
        simp only [toponymref15_Encode.l1, if_pos (lt_mid p y r), if_pos (Int.natCast_nonneg p.length), rd_mid, hnx]
        refine Evt.bind e1 ?_
        simp only [if_pos hfit, A8_app, if_pos hn4]
        exact Evt.now _
  have l0 : ∀ (r p : List S26), l = p ++ r → fb l = fb r → Evt (fun k => toponymref15_Encode.l0 k (p.length : Int) l) (enc l) := by
    intro r
    induction r with
    | nil =>
      intro p hp hf
      refine Evt.step ?_
      have hend : ¬ (p.length : Int) < (l.length : Int) := by rw [hp]; simp
      simp only [toponymref15_Encode.l0, if_neg hend, enc, hf, fb, if_true]
      exact l1 l [] rfl (fun y hy => fb_zero l (by rw [hf]; rfl) y hy) (by simp)
    | cons y r ih =>
      intro p hp hf
      refine Evt.step ?_
      have hnx := next_len p y r (by rw [← hp]; exact hlen)
      have hy : y ∈ l := by rw [hp]; simp
      have hi := ih (p ++ [y]) (by rw [hp, snoc])
      have e1 := rCheck_ev y (hw y hy)
      by_cases hc : chk y = 0
      · have hf2 : fb l = fb r := by rw [hf, fb, if_pos hc]
        have hi := hi hf2
        generalize hE : enc l = E at hi ⊢
        simp only [hp] at hi ⊢
        simp only [toponymref15_Encode.l0, if_pos (lt_mid p y r), if_pos (Int.natCast_nonneg p.length), rd_mid, hnx]
        refine Evt.bind e1 ?_
        simp only [if_pos hc]
        exact hi
      · have hf2 : fb l = chk y := by rw [hf, fb, if_neg hc]
        have hE : enc l = (⟨#[]⟩, chk y) := by unfold enc; rw [hf2, if_neg hc]
        rw [hE]
        simp only [hp]
        simp only [toponymref15_Encode.l0, if_pos (lt_mid p y r), if_pos (Int.natCast_nonneg p.length), rd_mid, hnx]
        refine Evt.bind e1 ?_
        simp only [if_neg hc]
        exact Evt.now _
  exact l0 l [] rfl rfl
/-! ### how few -/
theorem few_ev : ∀ (m : Nat) (e : S26) (x : Int), W e → 0 ≤ x → x < m → x ≤ 300 → ∃ r, Evt (fun k => toponymlaw15_Few.f k e.f0 e.f1 e.f2 e.f3 e.f4 x) r ∧ -1 ≤ r ∧ r < x
  | 0, e, x, _, h0, h1, _ => by omega
  | m + 1, e, x, he, h0, h1, h3 => by
    by_cases hc : (e.f3.size : Int) > 5000
    · refine ⟨-1, Evt.step ?_, by omega, by omega⟩
      simp only [toponymlaw15_Few.f, if_pos hc]
      exact Evt.now _
    · have loop : ∀ (r p : List S26) (z : Int), e.f4 = p ++ r → -1 ≤ z → z ≤ x - 1 → ∃ q, Evt (fun k => toponymlaw15_Few.l0 k z (p.length : Int) e.f4) q ∧ -1 ≤ q ∧ q ≤ x - 1 := by
        intro r
        induction r with
        | nil =>
          intro p z hp z0 z1
          refine ⟨z, Evt.step ?_, z0, z1⟩
          simp only [toponymlaw15_Few.l0, hp, if_neg (nlt_end p)]
          exact Evt.now _
        | cons y r ih =>
          intro p z hp z0 z1
          have hnx := next_len p y r (by rw [← hp]; exact he.len)
          have hy : y ∈ e.f4 := by rw [hp]; simp
          by_cases hz : z ≥ 0
          · obtain ⟨q1, e1, a1, b1⟩ := few_ev m y z (he.kid y hy) hz (by omega) (by omega)
            obtain ⟨q, e2, a2, b2⟩ := ih (p ++ [y]) q1 (by rw [hp, snoc]) a1 (by omega)
            refine ⟨q, Evt.step ?_, a2, b2⟩
            simp only [hp] at e2 ⊢
            simp only [toponymlaw15_Few.l0, if_pos (lt_mid p y r), if_pos hz, if_pos (Int.natCast_nonneg p.length), rd_mid, hnx]
            exact Evt.bind e1 e2
          · refine ⟨z, Evt.step ?_, z0, z1⟩
            simp only [toponymlaw15_Few.l0, if_neg hz, ite_self]
            exact Evt.now _
      obtain ⟨q, e1, a1, b1⟩ := loop e.f4 [] (x - 1) rfl (by omega) (by omega)
      refine ⟨q, Evt.step ?_, a1, by omega⟩
      simp only [toponymlaw15_Few.f, if_neg hc]
      rw [w64 _ (by omega)]
      exact e1
theorem awake_ : toponymlaw15_awake.f 60 = some true := by decide +kernel
theorem awake_ev : Evt (fun k => toponymlaw15_awake.f k) true := Evt.mono_ (fun k => toponymlaw15_awake.mono k) awake_
/-! ### any elements are laid -/
theorem berEncodes (l : List S26) (hl : l.length * 64 ≤ 140737488351232 ∧ ∀ y ∈ l, G26 y) : ∃ k, toponymlaw15_BerEncodes.f k l = some true := by
  have hw : ∀ y ∈ l, W y := fun y hy => .of_G (hl.2 y hy)
  have hlen : l.length ≤ 140737488351232 := by omega
  have l1 : ∀ (r p : List S26), l = p ++ r → Evt (fun k => toponymlaw15_BerEncodes.l1 k (p.length : Int) l) true := by
    intro r
    induction r with
    | nil =>
      intro p hp
      refine Evt.step ?_
      have hend : ¬ (p.length : Int) < (l.length : Int) := by rw [hp]; simp
      simp only [toponymlaw15_BerEncodes.l1, if_neg hend]
      refine Evt.bind (Encode_ev l hw hlen) ?_
      refine Evt.bind (rEncode_ev l hw hlen) ?_
      simp only [if_true]
      exact Evt.bind awake_ev (Evt.now _)
    | cons y r ih =>
      intro p hp
      refine Evt.step ?_
      have hnx := next_len p y r (by rw [← hp]; exact hlen)
      have hy : y ∈ l := by rw [hp]; simp
      have hi := ih (p ++ [y]) (by rw [hp, snoc])
      simp only [hp] at hi ⊢
      simp only [toponymlaw15_BerEncodes.l1, if_pos (lt_mid p y r), if_pos (Int.natCast_nonneg p.length), rd_mid, hnx]
      refine Evt.bind (Check_ev y (hw y hy)) ?_
      refine Evt.bind (rCheck_ev y (hw y hy)) ?_
      simp only [if_true]
      refine Evt.bind (Deep_ev y (hw y hy)) ?_
      refine Evt.bind (rDeep_ev y (hw y hy)) ?_
      simp only [if_true]
      exact hi
  have l0 : ∀ (r p : List S26) (x : Int), l = p ++ r → -1 ≤ x → x ≤ 300 → Evt (fun k => toponymlaw15_BerEncodes.l0 k x (p.length : Int) l) true := by
    intro r
    induction r with
    | nil =>
      intro p x hp h0 h1
      refine Evt.step ?_
      have hend : ¬ (p.length : Int) < (l.length : Int) := by rw [hp]; simp
      by_cases hx : x < 0
      · simp only [toponymlaw15_BerEncodes.l0, if_neg hend, if_pos hx]
        exact Evt.bind awake_ev (Evt.now _)
      · simp only [toponymlaw15_BerEncodes.l0, if_neg hend, if_neg hx]
        exact l1 l [] rfl
    | cons y r ih =>
      intro p x hp h0 h1
      refine Evt.step ?_
      have hnx := next_len p y r (by rw [← hp]; exact hlen)
      have hy : y ∈ l := by rw [hp]; simp
      by_cases hx : x < 0
      · simp only [hp]
        simp only [toponymlaw15_BerEncodes.l0, if_pos (lt_mid p y r), if_pos hx]
        exact Evt.bind awake_ev (Evt.now _)
      · obtain ⟨q, e1, a1, b1⟩ := few_ev 301 y x (hw y hy) (by omega) (by omega) h1
        have hi := ih (p ++ [y]) q (by rw [hp, snoc]) a1 (by omega)
        simp only [hp] at hi ⊢
        simp only [toponymlaw15_BerEncodes.l0, if_pos (lt_mid p y r), if_neg hx, if_pos (Int.natCast_nonneg p.length), rd_mid, hnx]
        exact Evt.bind e1 hi
  exact (l0 l [] 300 rfl (by omega) (by omega)).get
end Go.Proofs.Ythfonbnbffloaaa.PuA
