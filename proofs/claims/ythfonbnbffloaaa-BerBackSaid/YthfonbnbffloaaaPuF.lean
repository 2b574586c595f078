import Derived.Test.YthfonbnbffloaaaPuD
import Derived.Test.YthfonbnbffloaaaGAF15
import Derived.Test.YthfonbnbffloaaaGAF16
import Derived.Test.YthfonbnbffloaaaGAF17
import Derived.Test.YthfonbnbffloaaaGAF28
import Derived.Test.YthfonbnbffloaaaGAF4
import Derived.Test.YthfonbnbffloaaaGAF5
import Derived.Test.YthfonbnbffloaaaGAF6
/- Plain laws of elements: what the program's reading functions tell; what was laid is read so, what is read was laid so, parts are read as parts. -/
namespace Go.Proofs.Ythfonbnbffloaaa.PuA
open Go Go.RowKit Go.Proofs.Ythfonbnbffloaaa.GA Go.Proofs.Ythfonbnbffloaaa.OA Go.Proofs.Ythfonbnbffloaaa.PuE Go.Proofs.YthfonbnbffloaaaW.PrintWords Go.Proofs.YthfonbnbffloaaaW.PrintLast Go.Proofs.YthfonbnbffloaaaW.PrintMore
set_option linter.unusedVariables false
set_option linter.unusedSimpArgs false
abbrev TR := Int × Bool × Int × ByteArray × List S26 × Int × Int
def tkR (i : Nat) : Except Int (S26 × Nat) → TR
  | .error x => (0, false, 0, (⟨#[]⟩ : ByteArray), [], 0, x)
  | .ok (e, c) => (e.f0, e.f1, e.f2, e.f3, e.f4, ((i + c : Nat) : Int), 0)
def svR (acc : List S26) : Except Int (List S26) → List S26 × Int
  | .error x => ([], x)
  | .ok es => (acc ++ es, 0)
theorem eta (e : S26) : (⟨e.f0, e.f1, e.f2, e.f3, e.f4⟩ : S26) = e := by cases e; rfl
theorem szd_err {l : List UInt8} {x : Int} (h : szd l = .error x) : x ≠ 0 := by
  cases l with
  | nil => rw [szd] at h; injection h with h; omega
  | cons c l =>
    rw [szd] at h
    repeat' first
      | (split at h)
      | (injection h with h; omega)
      | (cases h)
theorem sv_nz {n : Nat} (hf : ∀ l x, tk n l = .error x → l ≠ [] → n ≠ 0 → x ≠ 0) (hn : n ≠ 0) : ∀ (j : Nat) (l : List UInt8) (x : Int), l.length ≤ j → sv (tk n) j l = .error x → x ≠ 0
  | _, [], x, _, h => by simp [sv] at h
  | 0, a :: l, x, hl, h => by simp at hl
  | j + 1, a :: l, x, hl, h => by
    simp only [sv] at h
    cases hk : tk n (a :: l) with
    | error y =>
      rw [hk] at h
      injection h with h
      subst h
      exact hf _ _ hk (by simp) hn
    | ok p =>
      obtain ⟨e, c⟩ := p
      obtain ⟨h1, h2, _⟩ := tk_sound n _ _ _ hk
      rw [hk] at h
      simp only at h
      cases hs : sv (tk n) j ((a :: l).drop c) with
      | error y =>
        rw [hs] at h
        injection h with h
        subst h
        exact sv_nz hf hn j _ _ (by simp at hl ⊢; omega) hs
      | ok es => rw [hs] at h; cases h
theorem tk_nz : ∀ (n : Nat) (l : List UInt8) (x : Int), tk (n + 1) l = .error x → x ≠ 0
  | n, [], x, h => by rw [tk] at h; injection h with h; omega
  | n, t :: l, x, h => by
    rw [tk] at h
    by_cases c1 : t.toNat % 32 = 31
    · rw [if_pos c1] at h; injection h with h; omega
    · rw [if_neg c1] at h
      cases hz : szd l with
      | error y => rw [hz] at h; injection h with h; rw [← h]; exact szd_err hz
      | ok p =>
        obtain ⟨m, hh⟩ := p
        rw [hz] at h
        simp only at h
        by_cases c2 : m > l.length - hh
        · rw [if_pos c2] at h; injection h with h; omega
        · rw [if_neg c2] at h
          by_cases c3 : 1 + hh + m > 4000
          · rw [if_pos c3] at h; injection h with h; omega
          · rw [if_neg c3] at h
            by_cases c4 : t.toNat / 32 % 2 = 0
            · rw [if_pos c4] at h; cases h
            · rw [if_neg c4] at h
              by_cases c5 : n = 0 ∧ 0 < m
              · rw [if_pos c5] at h; injection h with h; omega
              · rw [if_neg c5] at h
                cases hs : sv (tk n) ((l.drop hh).take m).length ((l.drop hh).take m) with
                | ok es => rw [hs] at h; cases h
                | error y =>
                  rw [hs] at h
                  injection h with h
                  subst h
                  cases n with
                  | zero =>
                    have hm : m = 0 := by omega
                    subst hm
                    simp [sv] at hs
                  | succ n => exact sv_nz (fun l x hk _ _ => tk_nz n l x hk) (by omega) _ _ _ (Nat.le_refl _) hs
theorem several_of (n : Nat) (s : ByteArray) (hs : s.size ≤ 20000) (hn : n = 0 → s.size = 0)
    (ht : ∀ i, i < s.size → Evt (fun k => ber_take.f k s (i : Int) (n : Int)) (tkR i (tk n ((B s).drop i)))) (hz : ∀ l x, l ≠ [] → tk n l = .error x → n ≠ 0 → x ≠ 0) :
    Evt (fun k => ber_several.f k s (n : Int)) (svR [] (sv (tk n) (B s).length (B s))) := by
  have loop : ∀ (j i : Nat) (acc : List S26), i ≤ s.size → s.size - i ≤ j → acc.length ≤ i → Evt (fun k => ber_several.l0 k acc (i : Int) s (n : Int)) (svR acc (sv (tk n) ((B s).drop i).length ((B s).drop i))) := by
    intro j
    induction j with
    | zero =>
      intro i acc hi hj hacc
      have hd : (B s).drop i = [] := List.drop_eq_nil_of_le (by rw [len_B]; omega)
      refine Evt.step ?_
      simp only [ber_several.l0, if_neg (show ¬ (i : Int) < (s.size : Int) by omega), hd, sv, svR, List.append_nil]
      exact Evt.now _
    | succ j ih =>
      intro i acc hi hj hacc
      by_cases hlt : i < s.size
      · have hne : (B s).drop i ≠ [] := by
          intro h
          have := drop_nil h
          omega
        have hn0 : n ≠ 0 := fun h => by have := hn h; omega
        refine Evt.step ?_
        simp only [ber_several.l0, if_pos (show (i : Int) < (s.size : Int) by omega)]
        refine Evt.bind (ht i hlt) ?_
        cases hk : tk n ((B s).drop i) with
        | error x =>
          have hx : ¬ x = 0 := hz _ _ hne hk hn0
          rw [sv_err hne hk]
          exact Evt.ifn hx (Evt.now _)
        | ok p =>
          obtain ⟨e, c⟩ := p
          obtain ⟨h1, h2, _⟩ := tk_sound n _ _ _ hk
          rw [List.length_drop, len_B] at h1
          rw [sv_step hk, List.drop_drop]
          have e2 := ih (i + c) (acc ++ [e]) (by omega) (by omega) (by simp; omega)
          have hcap : acc.length < 2199023255552 := by omega
          have he : (⟨e.f0, e.f1, e.f2, e.f3, e.f4⟩ : S26) = e := eta e
          simp only [tkR, if_true, if_pos hcap, Option.bind_some]
          rw [he]
          refine e2.val ?_
          cases sv (tk n) ((B s).drop (i + c)).length ((B s).drop (i + c)) with
          | error x => rfl
          | ok es => simp [svR]
      · have hd : (B s).drop i = [] := List.drop_eq_nil_of_le (by rw [len_B]; omega)
        refine Evt.step ?_
        simp only [ber_several.l0, if_neg (show ¬ (i : Int) < (s.size : Int) by omega), hd, sv, svR, List.append_nil]
        exact Evt.now _
  refine Evt.step ?_
  simp only [ber_several.f]
  have := loop s.size 0 [] (by omega) (by omega) (by simp)
  rw [List.drop_zero] at this
  exact this
theorem extract_B (s : ByteArray) (a m : Nat) : s.extract a (a + m) = A8 (((B s).drop a).take m) := by
  apply B_inj
  rw [B_extract, B_A8, List.drop_take, show a + m - a = m by omega]
theorem take_ev : ∀ (n : Nat), n ≤ 11 → ∀ (s : ByteArray) (i : Nat), s.size ≤ 20000 → i ≤ s.size → Evt (fun k => ber_take.f k s (i : Int) ((n + 1 : Nat) : Int)) (tkR i (tk (n + 1) ((B s).drop i))) := by
  intro n
  induction n with
  | zero =>
    intro _ s i hs hi
    exact take_of 0 (by omega) s i hs hi (fun s' hs' h0 => several_of 0 s' hs' (fun _ => h0 rfl) (fun i hi => by have := h0 rfl; omega) (fun l x _ _ h => absurd rfl h))
  | succ n ih =>
    intro hn s i hs hi
    exact take_of (n + 1) hn s i hs hi (fun s' hs' _ => several_of (n + 1) s' hs' (fun h => by omega) (fun i hi => ih (by omega) s' i hs' (by omega)) (fun l x _ hk _ => tk_nz n l x hk))
where
  take_of (n : Nat) (hn11 : n ≤ 11) (s : ByteArray) (i : Nat) (hs : s.size ≤ 20000) (hi : i ≤ s.size) (hsv : ∀ s' : ByteArray, s'.size ≤ 20000 → (n = 0 → s'.size = 0) → Evt (fun k => ber_several.f k s' (n : Int)) (svR [] (sv (tk n) (B s').length (B s')))) :
      Evt (fun k => ber_take.f k s (i : Int) ((n + 1 : Nat) : Int)) (tkR i (tk (n + 1) ((B s).drop i))) := by
    refine Evt.step ?_
    simp only [ber_take.f]
    cases hd : (B s).drop i with
    | nil =>
      have := drop_nil hd
      simp only [if_pos (show (i : Int) ≥ (s.size : Int) by omega), tk, tkR]
      exact Evt.now _
    | cons t l =>
      obtain ⟨h1, h2, h3⟩ := drop_cons hd
      have ht := t.toNat_lt
      have hll : l.length = s.size - (i + 1) := by rw [← h3, List.length_drop, len_B]
      have hsz := sized_eq s (i + 1) hs (by omega)
      rw [h3] at hsz
      have hcast : wrap64 ((i : Int) + 1) = ((i + 1 : Nat) : Int) := (w64 _ (by omega)).trans (by omega)
      have es0 : Evt (fun _ => ber_sized.f s (wrap64 ((i : Int) + 1))) (szR (i + 1) (szd l)) := by rw [hcast]; exact Evt.of_all fun _ => hsz
      clear hsz hcast
      refine Evt.ifn (show ¬ (i : Int) ≥ (s.size : Int) by omega) ?_
      refine Evt.ifp (show 0 ≤ (i : Int) by omega) ?_
      refine Evt.ifp (show (i : Int) < (s.size : Int) by omega) ?_
      rw [tk, h2, (bits_t t).1]
      by_cases c1 : t.toNat % 32 = 31
      · rw [if_pos c1]
        exact Evt.ifp (show ((t.toNat % 32 : Nat) : Int) = 31 by rw [c1]; rfl) (Evt.now _)
      · refine Evt.ifn (show ¬ ((t.toNat % 32 : Nat) : Int) = 31 from fun h => c1 (by exact_mod_cast h)) ?_
        rw [if_neg c1]
        cases hz : szd l with
        | error x =>
          have hx : ¬ x = 0 := szd_err hz
          rw [hz] at es0
          refine Evt.bind es0 ?_
          exact Evt.ifn hx (Evt.now _)
        | ok p =>
          obtain ⟨m, hh⟩ := p
          obtain ⟨z1, z2, z3, z4⟩ := szd_ok hz
          have w1 : Veil (wrap64 ((s.size : Int) - ((i + 1 + hh : Nat) : Int)) = (s.size : Int) - ((i + 1 + hh : Nat) : Int)) := ⟨w64 _ (by omega)⟩
          have w2 : Veil (wrap64 (((i + 1 + hh : Nat) : Int) + (m : Int)) = ((i + 1 + hh + m : Nat) : Int)) := ⟨(w64 _ (by omega)).trans (by omega)⟩
          have w3 : Veil (wrap64 (((i + 1 + hh + m : Nat) : Int) - (i : Int)) = ((1 + hh + m : Nat) : Int)) := ⟨(w64 _ (by omega)).trans (by omega)⟩
          rw [hz] at es0
          refine Evt.bind es0 ?_
          refine Evt.ifp rfl ?_
          clear es0
          simp only [szR, w1.out, w2.out, w3.out, (bits_t t).2]
          by_cases c2 : m > l.length - hh
          · simp only [if_pos (show (m : Int) > (s.size : Int) - ((i + 1 + hh : Nat) : Int) by omega), if_pos c2, tkR]
            exact Evt.now _
          · simp only [if_neg (show ¬ (m : Int) > (s.size : Int) - ((i + 1 + hh : Nat) : Int) by omega), if_neg c2]
            by_cases c3 : 1 + hh + m > 4000
            · simp only [if_pos (show ((1 + hh + m : Nat) : Int) > 4000 by omega), if_pos c3, tkR]
              exact Evt.now _
            · have hbody : s.extract (i + 1 + hh) (i + 1 + hh + m) = A8 ((l.drop hh).take m) := by
                rw [extract_B, ← h3, List.drop_drop]
              have n1 : (((i + 1 + hh : Nat) : Int)).toNat = i + 1 + hh := rfl
              have n2 : (((i + 1 + hh + m : Nat) : Int)).toNat = i + 1 + hh + m := rfl
              simp only [if_neg (show ¬ ((1 + hh + m : Nat) : Int) > 4000 by omega), if_neg c3, if_pos (show 0 ≤ ((i + 1 + hh : Nat) : Int) by omega), if_pos (show ((i + 1 + hh : Nat) : Int) ≤ ((i + 1 + hh + m : Nat) : Int) by omega), if_pos (show ((i + 1 + hh + m : Nat) : Int) ≤ (s.size : Int) by omega), n1, n2, hbody]
              have hw : Veil (wrap64 (t.toNat : Int) / 64 = ((t.toNat / 64 : Nat) : Int)) := ⟨by rw [w64 _ (by omega)]; omega⟩
              have hnx : ((i + (1 + hh + m) : Nat) : Int) = ((i + 1 + hh + m : Nat) : Int) := by omega
              by_cases c4 : t.toNat / 32 % 2 = 0
              · simp only [if_pos (show ((t.toNat / 32 % 2 * 32 : Nat) : Int) = 0 by omega), if_pos c4, tkR, hw.out, hnx]
                exact Evt.now _
              · simp only [if_neg (show ¬ ((t.toNat / 32 % 2 * 32 : Nat) : Int) = 0 by omega), if_neg c4]
                have hbl : ((l.drop hh).take m).length = m := by rw [List.length_take, List.length_drop]; omega
                have hdec : Veil (wrap64 (((n + 1 : Nat) : Int) - 1) = (n : Int)) := ⟨(w64 _ (by omega)).trans (by omega)⟩
                have es := fun h0 => hsv (A8 ((l.drop hh).take m)) (by rw [size_A8, hbl]; omega) h0
                rw [B_A8] at es
                · rw [hdec.out]
                  by_cases c5 : n = 0
                  · subst c5
                    simp only [if_pos (show ((0 + 1 : Nat) : Int) = 1 by rfl)]
                    by_cases c6 : 0 < m
                    · simp only [if_pos (show (m : Int) > 0 by omega), true_and, if_pos c6, tkR]
                      exact Evt.now _
                    · simp only [if_neg (show ¬ (m : Int) > 0 by omega), true_and, if_neg c6]
                      refine Evt.bind (es (fun _ => by rw [size_A8, hbl]; omega)) ?_
                      cases hs2 : sv (tk 0) ((l.drop hh).take m).length ((l.drop hh).take m) with
                      | error x =>
                        have hm0 : (l.drop hh).take m = [] := List.eq_nil_of_length_eq_zero (by omega)
                        rw [hm0] at hs2
                        simp [sv] at hs2
                      | ok es2 =>
                        simp only [svR, if_true, List.nil_append, tkR, hw.out, hnx]
                        exact Evt.now _
                  · simp only [if_neg (show ¬ ((n + 1 : Nat) : Int) = 1 by omega), if_neg (show ¬ (n = 0 ∧ 0 < m) from fun h => c5 h.1)]
                    refine Evt.bind (es (fun h => absurd h c5)) ?_
                    cases hs2 : sv (tk n) ((l.drop hh).take m).length ((l.drop hh).take m) with
                    | error x =>
                      obtain ⟨n', rfl⟩ : ∃ n', n = n' + 1 := ⟨n - 1, by omega⟩
                      have hx : ¬ x = 0 := sv_nz (fun l x hk _ _ => tk_nz n' l x hk) (by omega) _ _ _ (Nat.le_refl _) hs2
                      exact Evt.ifn hx (Evt.now _)
                    | ok es2 =>
                      simp only [svR, if_true, List.nil_append, tkR, hw.out, hnx]
                      exact Evt.now _
theorem Decode_ev (s : ByteArray) (i : Nat) (hs : s.size ≤ 20000) (hi : i ≤ s.size) : Evt (fun k => ber_Decode.f k s (i : Int)) (tkR i (tk 12 ((B s).drop i))) := by
  unfold ber_Decode.f
  simp only [if_neg (show ¬ (i : Int) < 0 by omega), if_neg (show ¬ (i : Int) > (s.size : Int) by omega)]
  exact Evt.bind (take_ev 11 (by omega) s i hs hi) (Evt.now _)
theorem All_ev (s : ByteArray) (hs : s.size ≤ 4000) : Evt (fun k => ber_All.f k s) (svR [] (sv (tk 12) (B s).length (B s))) := by
  unfold ber_All.f
  simp only [if_neg (show ¬ (s.size : Int) > 4000 by omega)]
  exact Evt.bind (several_of 12 s (by omega) (fun h => by omega) (fun i hi => take_ev 11 (by omega) s i (by omega) (by omega)) (fun l x _ hk _ => tk_nz 11 l x hk)) (Evt.now _)
/-! ### the same -/
theorem same_ev : ∀ (n : Nat) (e : S26), W e → dle n e = true → Evt (fun k => toponymref15_Same.f k e.f0 e.f1 e.f2 e.f3 e.f4 e.f0 e.f1 e.f2 e.f3 e.f4) true
  | 0, e, _, h => by simp [dle] at h
  | n + 1, e, he, hd => by
    simp only [dle, List.all_eq_true] at hd
    refine Evt.step ?_
    simp only [toponymref15_Same.f, if_true, beq_self_eq_true]
    refine Evt.bind (f := fun k => toponymref15_SameAll.f k e.f4 e.f4) (v := true) ?_ (Evt.now _)
    exact sameAll_of e.f4 he.len (fun y hy => same_ev n y (he.kid y hy) (hd y hy))
where
  sameAll_of (l : List S26) (hlen : l.length ≤ 140737488351232) (hk : ∀ y ∈ l, Evt (fun k => toponymref15_Same.f k y.f0 y.f1 y.f2 y.f3 y.f4 y.f0 y.f1 y.f2 y.f3 y.f4) true) : Evt (fun k => toponymref15_SameAll.f k l l) true := by
    have loop : ∀ (r p : List S26), l = p ++ r → Evt (fun k => toponymref15_SameAll.l0 k (p.length : Int) l l) true := by
      intro r
      induction r with
      | nil =>
        intro p hp
        refine Evt.step ?_
        have hend : ¬ (p.length : Int) < (l.length : Int) := by rw [hp]; simp
        simp only [toponymref15_SameAll.l0, if_neg hend]
        exact Evt.now _
      | cons y r ih =>
        intro p hp
        have hnx := next_len p y r (by rw [← hp]; exact hlen)
        have hi := ih (p ++ [y]) (by rw [hp, snoc])
        have hy := hk y (by rw [hp]; simp)
        refine Evt.step ?_
        simp only [hp] at hi ⊢
        simp only [toponymref15_SameAll.l0, if_pos (lt_mid p y r), if_pos (Int.natCast_nonneg p.length), rd_mid, hnx]
        refine Evt.bind hy ?_
        simp only [if_true]
        exact hi
    refine Evt.step ?_
    simp only [toponymref15_SameAll.f, if_true]
    exact loop l [] rfl
theorem sameAll_ev (l : List S26) (hlen : l.length ≤ 140737488351232) (hw : ∀ y ∈ l, W y ∧ san 12 y = true) : Evt (fun k => toponymref15_SameAll.f k l l) true :=
  same_ev.sameAll_of l hlen (fun y hy => same_ev 12 y (hw y hy).1 (san_dle 12 y (hw y hy).2))
/-! ### the laws -/
theorem enc_one (e : S26) : enc [e] = if chk e = 0 then (A8 (lay 12 e), 0) else (⟨#[]⟩, chk e) := by
  unfold enc fb fb
  by_cases hc : chk e = 0
  · obtain ⟨_, h4⟩ := (chk_zero e).1 hc
    simp [hc, h4]
  · simp [hc]
theorem berBack (e : S26) (s t : ByteArray) (he : G26 e) (hs : s.size ≤ 140737488351232) (ht : t.size ≤ 140737488351232) : ∃ k, toponymlaw15_BerBack.f k e.f0 e.f1 e.f2 e.f3 e.f4 s t = some true := by
  have hw := W.of_G he
  refine Evt.get (f := fun k => toponymlaw15_BerBack.f k e.f0 e.f1 e.f2 e.f3 e.f4 s t) ?_
  unfold toponymlaw15_BerBack.f
  obtain ⟨q, e1, a1, b1⟩ := few_ev 301 e 300 hw (by omega) (by omega) (by omega)
  refine Evt.bind e1 ?_
  by_cases hq : q < 0
  · simp only [if_pos hq]
    exact Evt.bind awake_ev (Evt.now _)
  · simp only [if_neg hq]
    rw [w64 ((s.size : Int) + (t.size : Int)) (by omega)]
    by_cases h5 : (s.size : Int) + (t.size : Int) > 5000
    · simp only [if_pos h5]
      exact Evt.bind awake_ev (Evt.now _)
    · simp only [if_neg h5]
      have he' : (⟨e.f0, e.f1, e.f2, e.f3, e.f4⟩ : S26) = e := eta e
      rw [he']
      refine Evt.bind (Encode_ev [e] (fun y hy => by rw [List.mem_singleton.1 hy]; exact hw) (by simp)) ?_
      rw [enc_one]
      by_cases hc : chk e = 0
      · obtain ⟨hsan, h4⟩ := (chk_zero e).1 hc
        simp only [if_pos hc, if_true]
        have f1 : s.size + (A8 (lay 12 e)).size ≤ 9223372036854775807 := by rw [size_A8]; omega
        have f2 : (s ++ A8 (lay 12 e)).size + t.size ≤ 9223372036854775807 := by rw [ByteArray.size_append, size_A8]; omega
        simp only [if_pos f1, if_pos f2]
        have hsz : ((s ++ A8 (lay 12 e)) ++ t).size ≤ 20000 := by rw [ByteArray.size_append, ByteArray.size_append, size_A8]; omega
        have hdec := Decode_ev ((s ++ A8 (lay 12 e)) ++ t) s.size hsz (by rw [ByteArray.size_append, ByteArray.size_append]; omega)
        have hdrop : (B ((s ++ A8 (lay 12 e)) ++ t)).drop s.size = lay 12 e ++ B t := by
          rw [B_app, B_app, B_A8, List.append_assoc, ← len_B s, List.drop_left]
        rw [hdrop, tk_back 12 e (B t) hsan h4] at hdec
        refine Evt.bind hdec ?_
        have hw2 : Veil (wrap64 ((s.size : Int) + ((A8 (lay 12 e)).size : Int)) = ((s.size + (lay 12 e).length : Nat) : Int)) := ⟨by rw [size_A8]; exact (w64 _ (by omega)).trans (by omega)⟩
        simp only [tkR, if_true, hw2.out]
        refine Evt.bind (same_ev 12 e hw (san_dle 12 e hsan)) ?_
        have f3 : ((A8 (lay 12 e)).size : Int) ≤ 4000 := by rw [size_A8]; omega
        simp only [if_true, if_pos f3]
        exact Evt.bind awake_ev (Evt.now _)
      · have hnil : (⟨#[]⟩ : ByteArray).toList = ([] : List UInt8) := by rw [toList_B]; rfl
        simp only [if_neg hc, if_pos hnil]
        refine Evt.bind (Check_ev e hw) ?_
        simp only [if_true]
        exact Evt.bind awake_ev (Evt.now _)
theorem same_zero : Evt (fun k => toponymref15_Same.f k 0 false 0 (⟨#[]⟩ : ByteArray) [] 0 false 0 (⟨#[]⟩ : ByteArray) []) true :=
  same_ev 12 (⟨0, false, 0, ⟨#[]⟩, []⟩ : S26) (.mk _ (by decide) (by decide) (by simp)) (by simp [dle])
theorem berForms (s : ByteArray) (i : Int) (hs : s.size ≤ 140737488351232) (hi : (Lit.int .i64 i).wf = true) : ∃ k, toponymlaw15_BerForms.f k s i = some true := by
  refine Evt.get (f := fun k => toponymlaw15_BerForms.f k s i) ?_
  unfold toponymlaw15_BerForms.f
  by_cases h8 : (s.size : Int) > 8000
  · simp only [if_pos h8]
    exact Evt.bind awake_ev (Evt.now _)
  · simp only [if_neg h8]
    have bad : ∀ x : Int, x ≠ 0 → Evt (fun k => ber_Decode.f k s i) (0, false, 0, (⟨#[]⟩ : ByteArray), ([] : List S26), 0, x) → Evt (fun k => (ber_Decode.f k s i).bind fun bt9 => (if bt9.2.2.2.2.2.2 = 0 then (if i < 0 then (some false) else (if bt9.2.2.2.2.2.1 < i then (some false) else (if bt9.2.2.2.2.2.1 > (s.size : Int) then (some false) else ((ber_Encode.f k [(⟨bt9.1, bt9.2.1, bt9.2.2.1, bt9.2.2.2.1, bt9.2.2.2.2.1⟩ : S26)]).bind fun bt81 => (if bt81.2 = 0 then ((ber_Check.f k bt9.1 bt9.2.1 bt9.2.2.1 bt9.2.2.2.1 bt9.2.2.2.2.1).bind fun t98 => (if t98 = 0 then (if 0 ≤ i then (if i ≤ bt9.2.2.2.2.2.1 then (if bt9.2.2.2.2.2.1 ≤ (s.size : Int) then (if bt81.1.toList = (s.extract i.toNat bt9.2.2.2.2.2.1.toNat).toList then ((ber_Deep.f k bt9.1 bt9.2.1 bt9.2.2.1 bt9.2.2.2.1 bt9.2.2.2.2.1).bind fun t124 => (if t124 ≤ 12 then ((toponymlaw15_awake.f k ).bind fun t139 => (some t139)) else (some false))) else (some false)) else (none)) else (none)) else (none)) else (some false))) else (some false)))))) else (if bt9.2.2.2.2.2.1 = 0 then ((toponymref15_Same.f k bt9.1 bt9.2.1 bt9.2.2.1 bt9.2.2.2.1 bt9.2.2.2.2.1 0 false 0 (⟨#[]⟩ : ByteArray) ([] : List (S26))).bind fun t171 => (if t171 = true then ((toponymlaw15_awake.f k ).bind fun t185 => (some t185)) else (some false))) else (some false)))) true := by
      intro x hx0 e1
      have hx : ¬ x = 0 := hx0
      refine Evt.bind e1 ?_
      refine Evt.ifn hx ?_
      refine Evt.ifp rfl ?_
      refine Evt.bind same_zero ?_
      simp only [if_true]
      exact Evt.bind awake_ev (Evt.now _)
    by_cases h0 : i < 0
    · refine bad 2 (by omega) ?_
      unfold ber_Decode.f
      simp only [if_pos h0]
      exact Evt.now _
    · by_cases h1 : i > (s.size : Int)
      · refine bad 2 (by omega) ?_
        unfold ber_Decode.f
        simp only [if_neg h0, if_pos h1]
        exact Evt.now _
      · obtain ⟨j, rfl⟩ : ∃ j : Nat, i = (j : Int) := ⟨i.toNat, by omega⟩
        have hdec := Decode_ev s j (by omega) (by omega)
        cases hk : tk 12 ((B s).drop j) with
        | error x =>
          rw [hk] at hdec
          exact bad x (tk_nz 11 _ _ hk) hdec
        | ok p =>
          obtain ⟨e, c⟩ := p
          obtain ⟨t1, t2, t3, t4, t5⟩ := tk_sound 12 _ _ _ hk
          rw [List.length_drop, len_B] at t1
          rw [hk] at hdec
          have hl4 : (lay 12 e).length ≤ 4000 := by rw [t5, List.length_take]; omega
          have hw := W_of_lay 12 e t4 hl4
          have hc : chk e = 0 := (chk_zero e).2 ⟨t4, hl4⟩
          refine Evt.bind hdec ?_
          have he' : (⟨e.f0, e.f1, e.f2, e.f3, e.f4⟩ : S26) = e := eta e
          simp only [tkR]
          rw [he']
          refine Evt.ifp (by trivial) ?_
          refine Evt.ifn h0 ?_
          refine Evt.ifn (show ¬ ((j + c : Nat) : Int) < (j : Int) by omega) ?_
          refine Evt.ifn (show ¬ ((j + c : Nat) : Int) > (s.size : Int) by omega) ?_
          refine Evt.bind (Encode_ev [e] (fun y hy => by rw [List.mem_singleton.1 hy]; exact hw) (by simp)) ?_
          rw [enc_one]
          simp only [if_pos hc, if_true]
          refine Evt.bind (Check_ev e hw) ?_
          have hx : (s.extract ((j : Int)).toNat (((j + c : Nat) : Int)).toNat) = A8 (lay 12 e) := by
            have n1 : ((j : Int)).toNat = j := rfl
            have n2 : (((j + c : Nat) : Int)).toNat = j + c := rfl
            rw [n1, n2, extract_B, t5]
          refine Evt.ifp hc ?_
          refine Evt.ifp (show 0 ≤ (j : Int) by omega) ?_
          refine Evt.ifp (show (j : Int) ≤ ((j + c : Nat) : Int) by omega) ?_
          refine Evt.ifp (show ((j + c : Nat) : Int) ≤ (s.size : Int) by omega) ?_
          refine Evt.ifp (by rw [hx]) ?_
          refine Evt.bind (Deep_ev e hw) ?_
          have hdp := (dpt_dle 12 e).2 (san_dle 12 e t4)
          simp only [if_pos (show dpt 12 e ≤ 12 from hdp)]
          exact Evt.bind awake_ev (Evt.now _)
theorem sv_app {n : Nat} : ∀ (L : Nat) (l r : List UInt8) (es : List S26), l.length ≤ L → sv (tk n) l.length l = .ok es → sv (tk n) (l ++ r).length (l ++ r) = (match sv (tk n) r.length r with | .error x => .error x | .ok fs => .ok (es ++ fs))
  | _, [], r, es, _, h => by
    simp only [List.length_nil, sv] at h
    injection h with h
    subst h
    simp only [List.nil_append]
    cases sv (tk n) r.length r <;> rfl
  | 0, a :: l, r, es, hL, h => by simp at hL
  | L + 1, a :: l, r, es, hL, h => by
    cases hk : tk n (a :: l) with
    | error x =>
      rw [sv_err (by simp) hk] at h
      cases h
    | ok p =>
      obtain ⟨e, c⟩ := p
      obtain ⟨t1, t2, t3, t4, t5⟩ := tk_sound n _ _ _ hk
      have hl4 : (lay n e).length ≤ 4000 := by rw [t5, List.length_take]; omega
      have hlc : (lay n e).length = c := by rw [t5, List.length_take]; omega
      rw [sv_step hk] at h
      cases hs : sv (tk n) ((a :: l).drop c).length ((a :: l).drop c) with
      | error x => rw [hs] at h; cases h
      | ok es' =>
        rw [hs] at h
        injection h with h
        subst h
        have hsplit : a :: l ++ r = lay n e ++ ((a :: l).drop c ++ r) := by
          rw [t5, ← List.append_assoc, List.take_append_drop]
        have hk2 : tk n (a :: l ++ r) = .ok (e, c) := by
          rw [hsplit, tk_back n e _ t4 hl4, hlc]
        have hd : (a :: l ++ r).drop c = (a :: l).drop c ++ r := List.drop_append_of_le_length t1
        rw [sv_step hk2, hd, sv_app L _ r es' (by rw [List.length_drop]; simp at hL ⊢; omega) hs]
        cases sv (tk n) r.length r <;> rfl
theorem berParts (s t : ByteArray) (hs : s.size ≤ 140737488351232) (ht : t.size ≤ 140737488351232) : ∃ k, toponymlaw15_BerParts.f k s t = some true := by
  refine Evt.get (f := fun k => toponymlaw15_BerParts.f k s t) ?_
  unfold toponymlaw15_BerParts.f
  by_cases h1 : (s.size : Int) > 2000
  · simp only [if_pos h1]
    exact Evt.bind awake_ev (Evt.now _)
  · by_cases h2 : (t.size : Int) > 2000
    · simp only [if_neg h1, if_pos h2]
      exact Evt.bind awake_ev (Evt.now _)
    · simp only [if_neg h1, if_neg h2, if_pos (show s.size + t.size ≤ 9223372036854775807 by omega)]
      refine Evt.bind (All_ev s (by omega)) ?_
      refine Evt.bind (All_ev t (by omega)) ?_
      refine Evt.bind (All_ev (s ++ t) (by rw [ByteArray.size_append]; omega)) ?_
      have nz : ∀ (u : ByteArray) (x : Int), sv (tk 12) (B u).length (B u) = .error x → x ≠ 0 := fun u x h => sv_nz (fun l x hk _ _ => tk_nz 11 l x hk) (by omega) _ _ _ (Nat.le_refl _) h
      cases ha : sv (tk 12) (B s).length (B s) with
      | error x =>
        have hx : ¬ x = 0 := nz s x ha
        refine Evt.ifn hx ?_
        refine Evt.ifp rfl ?_
        exact Evt.bind awake_ev (Evt.now _)
      | ok a =>
        have hj := sv_app (n := 12) _ (B s) (B t) a (Nat.le_refl _) ha
        rw [B_app, hj]
        have lens : ∀ (u : ByteArray) (es : List S26), u.size ≤ 2000 → sv (tk 12) (B u).length (B u) = .ok es → es.length ≤ 2000 ∧ ∀ y ∈ es, W y ∧ san 12 y = true := by
          intro u es hu h
          obtain ⟨i1, i2⟩ := sv_sound (tk_sound 12) _ _ _ h
          have key : ∀ l : List S26, (∀ y ∈ l, y ∈ es) → l.length ≤ (l.flatMap (lay 12)).length ∧ ∀ y ∈ l, (lay 12 y).length ≤ (l.flatMap (lay 12)).length := by
            intro l
            induction l with
            | nil => intro _; simp
            | cons y l ih =>
              intro hsub
              obtain ⟨j1, j2⟩ := ih (fun z hz => hsub z (by simp [hz]))
              have := lay_two 12 y (i2 y (hsub y (by simp)))
              rw [List.flatMap_cons, List.length_append, List.length_cons]
              refine ⟨by omega, fun z hz => ?_⟩
              rcases List.mem_cons.1 hz with rfl | hz
              · omega
              · have := j2 z hz
                omega
          obtain ⟨j1, j2⟩ := key es (fun _ h => h)
          rw [i1, len_B] at j1 j2
          exact ⟨by omega, fun y hy => ⟨W_of_lay 12 y (i2 y hy) (by have := j2 y hy; omega), i2 y hy⟩⟩
        obtain ⟨la, wa⟩ := lens s a (by omega) ha
        cases hb : sv (tk 12) (B t).length (B t) with
        | error x =>
          have hx : ¬ x = 0 := nz t x hb
          refine Evt.ifp rfl ?_
          refine Evt.ifn hx ?_
          refine Evt.ifp rfl ?_
          refine Evt.ifp rfl ?_
          exact Evt.bind awake_ev (Evt.now _)
        | ok b =>
          obtain ⟨lb, wb⟩ := lens t b (by omega) hb
          refine Evt.ifp rfl ?_
          refine Evt.ifp rfl ?_
          refine Evt.ifp rfl ?_
          refine Evt.ifp (show ([] : List S26).length + (([] : List S26) ++ a).length < 2199023255552 by simp; omega) ?_
          refine Evt.bind (Evt.now _) ?_
          refine Evt.ifp (show (([] : List S26) ++ (([] : List S26) ++ a)).length + (([] : List S26) ++ b).length < 2199023255552 by simp; omega) ?_
          refine Evt.bind (Evt.now _) ?_
          refine Evt.bind (sameAll_ev (a ++ b) (by simp; omega) (fun y hy => ?_)) ?_
          · rcases List.mem_append.1 hy with hy | hy
            · exact wa y hy
            · exact wb y hy
          · simp only [if_true]
            exact Evt.bind awake_ev (Evt.now _)
end Go.Proofs.Ythfonbnbffloaaa.PuA
