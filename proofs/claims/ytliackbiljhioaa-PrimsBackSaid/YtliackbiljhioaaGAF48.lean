-- written by wip/gen.py, a program of this session
import Derived.Test.YtliackbiljhioaaGA0
import Derived.Test.YtliackbiljhioaaGAB
namespace Go.Proofs.Ytliackbiljhioaa.GA
open Go.RowKit Go.Proofs.Ytliackbiljhioaa Go.Proofs.Ytliackbiljhioaa.MW Go.Proofs.YtliackbiljhioaaW.PrintWords Go.Proofs.YtliackbiljhioaaW.PrintLast Go.Proofs.YtliackbiljhioaaW.PrintMore
attribute [local go_sem] max2_int min2_int max_two min_two
set_option linter.unusedVariables false
set_option linter.unusedSimpArgs false


/-! ### ber_sheaf_put: function 48 -/
def ber_sheaf_put.f (l0_1 : List Int) (a0_2 : Bool) (a1 : ByteArray) : Option (List Int × Bool) := if a0_2 = true then (some (l0_1, true)) else (if (wrap64 ((l0_1.length : Int) + (a1.size : Int))) > 4000 then (some (l0_1, decide ((wrap64 ((l0_1.length : Int) + (a1.size : Int))) > 4000))) else (if l0_1.length + a1.size < 140737488355328 then ((some (l0_1 ++ MB.numsOf a1 : List Int)).bind fun y37 => (some (y37, decide ((wrap64 ((l0_1.length : Int) + (a1.size : Int))) > 4000)))) else (none)))
def ber_sheaf_put.Post (B_ : Nat) (g0 : Nat) (p0_0 : Value) (v0_1 : Value) (l0_1 : List Int) (a0_2 : Bool) (a1 : ByteArray) (w : World) (r1 : List Int) (r2 : Bool) (e : Ending) (w' : World) : Prop := ∃ v1'_ : Value, ∃ p0'_ : Value, e = .returned (.tuple #[]) ∧ Kd.N (Kd.int .u8) 5 w' B_ (fun k_ => True ∧ (some k_ = (v0_1 : Value).ownBlock ∨ w.heap.size ≤ k_) ∧ k_ ≠ g0) v1'_ r1 ∧ (p0'_ = .pointer none ∨ p0'_ = .pointer (some ⟨g0, 0, none⟩)) ∧ w'.heap[g0]? = some (.cells #[p0'_, v1'_, .bool r2] 81 (0, 0)) ∧ (∀ k_ : Nat, k_ ≠ g0 → some k_ ≠ (v0_1 : Value).ownBlock → k_ < w.heap.size → w'.heap[k_]? = w.heap[k_]?) ∧ Below B_ w w'
set_option maxHeartbeats 8000000 in
set_option maxRecDepth 100000 in
theorem ber_sheaf_put.calls (B_ : Nat) (g0 : Nat) (p0_0 : Value) (v0_1 : Value) (l0_1 : List Int) (a0_2 : Bool) (a1 : ByteArray) (r1 : List Int) (r2 : Bool) (w : World) (hB0 : B_ ≤ w.heap.size) (hb0 : w.heap[g0]? = some (.cells #[p0_0, v0_1, .bool a0_2] 81 (0, 0))) (hge0 : B_ ≤ g0) (hp0_0 : p0_0 = .pointer none ∨ p0_0 = .pointer (some ⟨g0, 0, none⟩)) (hn0_1 : Kd.N (Kd.int .u8) 5 w B_ (fun k_ => True ∧ (some k_ = (v0_1 : Value).ownBlock ∨ w.heap.size ≤ k_) ∧ k_ ≠ g0) v0_1 l0_1) (h : ber_sheaf_put.f l0_1 a0_2 a1 = some (r1, r2)) :
    Calls Try.prog 48 #[.pointer (some ⟨g0, 0, none⟩), .string a1] w (fun e w' => ber_sheaf_put.Post B_ g0 p0_0 v0_1 l0_1 a0_2 a1 w r1 r2 e w') := by
  have HH := Aside0.mk (show (if a0_2 = true then (some (l0_1, true)) else (if (wrap64 ((l0_1.length : Int) + (a1.size : Int))) > 4000 then (some (l0_1, decide ((wrap64 ((l0_1.length : Int) + (a1.size : Int))) > 4000))) else (if l0_1.length + a1.size < 140737488355328 then ((some (l0_1 ++ MB.numsOf a1 : List Int)).bind fun y37 => (some (y37, decide ((wrap64 ((l0_1.length : Int) + (a1.size : Int))) > 4000)))) else (none)))) = some (r1, r2) from h)
  clear h
  obtain ⟨P0_, HPO⟩ : ∃ P0_ : Nat → Prop, P0_ = (fun k_ => k_ ≠ g0 ∧ some k_ ≠ (v0_1 : Value).ownBlock) := ⟨_, rfl⟩
  have HFfr := Aside0.mk (MB.frK_new w (fun k_ hk_ => by rw [HPO] at hk_; exact ⟨trivial, hk_.2, hk_.1⟩) : Kd.F (MB.frK w P0_) w (fun k_ => True ∧ some k_ ≠ (v0_1 : Value).ownBlock ∧ k_ ≠ g0) (some ⟨0, 0, none⟩) [()].length [()])
  replace HPO := Aside0.mk HPO
  have hB_ := Aside0.mk hB0
  have HPp0_0 := Aside0.mk hp0_0
  clear hp0_0
  have HN0_1 := Aside0.mk hn0_1
  clear hn0_1
  have BKg0 := Aside0.mk hb0
  have GEg0 := Aside0.mk hge0
  clear hb0 hge0
  obtain ⟨hz1, hz2, hz3, hf4, hf5, hf6⟩ := MB.lay3 BKg0.out
  have HB := Aside0.mk (Below.refl B_ w)
  go_enter Try.func48, Try.ntmps48
  by_cases c7 : a0_2 = true
  · have H := HH.out
    rw [if_pos c7] at H
    replace HH := Aside0.mk H
    clear H
    subst c7
    obtain ⟨A9, cp10, he_⟩ := Kd.N_slice HN0_1.out
    subst he_
    go_wp2_with (((with_reducible refine gate_store (t := 4) (p := 20) rfl ?_); (try (refine gate_guard (by rfl) ?_; dsimp only)); refine MW.ev_store #[p0_0, (.slice A9 l0_1.length cp10), .bool true] rfl rfl rfl rfl (cs := #[p0_0, (.slice A9 l0_1.length cp10), .bool true]) (ty := 81) BKg0.out [.bool true] rfl (by kernel_rfl) (by simp) (by simp [Value.oneCell']) rfl ?_; intro w8 hbk hg); replace hbk := Aside0.mk hbk; refine stop_ ?_)
    refine Stop.go ?_
    replace hbk := hbk.out
    replace HFfr := Aside0.mk (Kd.F_grown (ok := (fun k_ => True ∧ some k_ ≠ ((.slice A9 l0_1.length cp10) : Value).ownBlock ∧ k_ ≠ g0)) HFfr.out hg (fun k_ hk_ he_ => hk_.2.2 (Option.some.inj he_)))
    replace HN0_1 := Aside0.mk (Kd.N_grown (ok := (fun k_ => True ∧ (some k_ = ((.slice A9 l0_1.length cp10) : Value).ownBlock ∨ w.heap.size ≤ k_) ∧ k_ ≠ g0)) HN0_1.out hg (fun k_ hk_ he_ => hk_.2.2 (Option.some.inj he_)))
    replace HB := Aside0.mk (Below.grown HB.out hg (Nat.le_trans hB_.out (MB.bsize (a := B_) HB.out)) (fun k_ hk_ => by injection hk_ with hk_; rw [← hk_]; exact GEg0.out))
    replace BKg0 := Aside0.mk hbk
    clear hg hbk
    clear hz1 hz2 hz3 hf4 hf5 hf6
    obtain ⟨hz11, hz12, hz13, hf14, hf15, hf16⟩ := MB.lay3 BKg0.out
    have H := HH.out
    simp only [Option.some.injEq, Prod.mk.injEq] at H
    obtain ⟨rfl, rfl⟩ := H
    clear HH
    go_wp2
    go_end0
    unfold ber_sheaf_put.Post
    exact ⟨((.slice A9 l0_1.length cp10)), (p0_0), by first | rfl | (simp; done) | (simp [*]; done), (Kd.N_mono (ok := (fun k_ => True ∧ (some k_ = ((.slice A9 l0_1.length cp10) : Value).ownBlock ∨ w.heap.size ≤ k_) ∧ k_ ≠ g0)) HN0_1.out (fun k_ hk_ => ⟨trivial, hk_.2.1, hk_.2.2⟩)), HPp0_0.out, (by first | exact BKg0.out | (have h_ := BKg0.out; simp only [*] at h_; exact h_) | (have h_ := BKg0.out; simp [*] at h_ ⊢; exact h_)), (fun k_ hg_ hv_ hlt_ => MB.frK_out HFfr.out k_ (by rw [HPO.out]; exact ⟨hg_, hv_⟩) hlt_), HB.out⟩
  · have H := HH.out
    rw [if_neg c7] at H
    replace HH := Aside0.mk H
    clear H
    replace c7 := Bool.eq_false_iff.mpr c7
    subst c7
    go_wp2_with (((with_reducible refine gate_callee (f := 53) rfl ?_); (try (refine gate_guard (by rfl) ?_; dsimp only)); refine goesL_ (some 13) rfl rfl Try.func53 (by kernel_rfl) rfl #[.pointer (some ⟨g0, 0, none⟩)] rfl (by (try simp only [List.map_toArray, List.map_cons, List.map_nil]); first | done | rfl) ?_); refine stop_ ?_)
    refine Stop.go ?_
    go_enter Try.func53, Try.ntmps53
    obtain ⟨A17, cp18, he_⟩ := Kd.N_slice HN0_1.out
    subst he_
    go_wp2
    go_ret
    refine ⟨_, rfl, ?_⟩
    go_wp2_with (((with_reducible refine gate_store (t := 4) (p := 20) rfl ?_); (try (refine gate_guard (by rfl) ?_; dsimp only)); refine MW.ev_store #[p0_0, (.slice A17 l0_1.length cp18), .bool (decide ((wrap64 ((l0_1.length : Int) + (a1.size : Int))) > 4000))] rfl rfl rfl rfl (cs := #[p0_0, (.slice A17 l0_1.length cp18), .bool false]) (ty := 81) BKg0.out [.bool (decide ((wrap64 ((l0_1.length : Int) + (a1.size : Int))) > 4000))] rfl (by kernel_rfl) (by simp) (by simp [Value.oneCell']) rfl ?_; intro w19 hbk hg); replace hbk := Aside0.mk hbk; refine stop_ ?_)
    refine Stop.go ?_
    replace hbk := hbk.out
    replace HFfr := Aside0.mk (Kd.F_grown (ok := (fun k_ => True ∧ some k_ ≠ ((.slice A17 l0_1.length cp18) : Value).ownBlock ∧ k_ ≠ g0)) HFfr.out hg (fun k_ hk_ he_ => hk_.2.2 (Option.some.inj he_)))
    replace HN0_1 := Aside0.mk (Kd.N_grown (ok := (fun k_ => True ∧ (some k_ = ((.slice A17 l0_1.length cp18) : Value).ownBlock ∨ w.heap.size ≤ k_) ∧ k_ ≠ g0)) HN0_1.out hg (fun k_ hk_ he_ => hk_.2.2 (Option.some.inj he_)))
    replace HB := Aside0.mk (Below.grown HB.out hg (Nat.le_trans hB_.out (MB.bsize (a := B_) HB.out)) (fun k_ hk_ => by injection hk_ with hk_; rw [← hk_]; exact GEg0.out))
    replace BKg0 := Aside0.mk hbk
    clear hg hbk
    clear hz1 hz2 hz3 hf4 hf5 hf6
    obtain ⟨hz20, hz21, hz22, hf23, hf24, hf25⟩ := MB.lay3 BKg0.out
    by_cases c26 : (wrap64 ((l0_1.length : Int) + (a1.size : Int))) > 4000
    · have H := HH.out
      rw [if_pos c26] at H
      replace HH := Aside0.mk H
      clear H
      have hk27 : decide (4000 < (wrap64 ((l0_1.length : Int) + (a1.size : Int)))) = true := decide_eq_true c26
      clear c26
      have H := HH.out
      simp only [Option.some.injEq, Prod.mk.injEq] at H
      obtain ⟨rfl, rfl⟩ := H
      clear HH
      go_wp2
      go_end0
      unfold ber_sheaf_put.Post
      exact ⟨((.slice A17 l0_1.length cp18)), (p0_0), by first | rfl | (simp; done) | (simp [*]; done), (Kd.N_mono (ok := (fun k_ => True ∧ (some k_ = ((.slice A17 l0_1.length cp18) : Value).ownBlock ∨ w.heap.size ≤ k_) ∧ k_ ≠ g0)) HN0_1.out (fun k_ hk_ => ⟨trivial, hk_.2.1, hk_.2.2⟩)), HPp0_0.out, (by first | exact BKg0.out | (have h_ := BKg0.out; simp only [*] at h_; exact h_) | (have h_ := BKg0.out; simp [*] at h_ ⊢; exact h_)), (fun k_ hg_ hv_ hlt_ => MB.frK_out HFfr.out k_ (by rw [HPO.out]; exact ⟨hg_, hv_⟩) hlt_), HB.out⟩
    · have H := HH.out
      rw [if_neg c26] at H
      replace HH := Aside0.mk H
      clear H
      have hk28 : decide (4000 < (wrap64 ((l0_1.length : Int) + (a1.size : Int)))) = false := decide_eq_false c26
      clear c26
      go_wp2_with (((with_reducible refine gate_callee (f := 54) rfl ?_); (try (refine gate_guard (by rfl) ?_; dsimp only)); refine goesL_ (some 30) rfl rfl Try.func54 (by kernel_rfl) rfl #[.pointer (some ⟨g0, 0, none⟩), .string a1] rfl (by (try simp only [List.map_toArray, List.map_cons, List.map_nil]); first | done | rfl) ?_); refine stop_ ?_)
      refine Stop.go ?_
      go_enter Try.func54, Try.ntmps54
      go_wp2_with (((with_reducible refine gate_callee (f := 55) rfl ?_); (try (refine gate_guard (by rfl) ?_; dsimp only)); refine goesL_ (some 7) rfl rfl Try.func55 (by kernel_rfl) rfl #[.pointer (some ⟨g0, 0, none⟩)] rfl (by (try simp only [List.map_toArray, List.map_cons, List.map_nil]); first | done | rfl) ?_; refine (copyCheck55 g0 81 (p0_0) [(.slice A17 l0_1.length cp18), .bool (decide ((wrap64 ((l0_1.length : Int) + (a1.size : Int))) > 4000))] _ BKg0.out HPp0_0.out (by kernel_rfl)).mono ?_; rintro e w29 ⟨rfl, hbk, hg⟩; refine ⟨_, rfl, ?_⟩); replace hbk := Aside0.mk hbk; refine stop_ ?_)
      refine Stop.go ?_
      replace hbk := hbk.out
      replace HFfr := Aside0.mk (Kd.F_grown (ok := (fun k_ => True ∧ some k_ ≠ ((.slice A17 l0_1.length cp18) : Value).ownBlock ∧ k_ ≠ g0)) HFfr.out hg (fun k_ hk_ he_ => hk_.2.2 (Option.some.inj he_)))
      replace HN0_1 := Aside0.mk (Kd.N_grown (ok := (fun k_ => True ∧ (some k_ = ((.slice A17 l0_1.length cp18) : Value).ownBlock ∨ w.heap.size ≤ k_) ∧ k_ ≠ g0)) HN0_1.out hg (fun k_ hk_ he_ => hk_.2.2 (Option.some.inj he_)))
      replace HB := Aside0.mk (Below.grown HB.out hg (Nat.le_trans hB_.out (MB.bsize (a := B_) HB.out)) (fun k_ hk_ => by injection hk_ with hk_; rw [← hk_]; exact GEg0.out))
      replace BKg0 := Aside0.mk hbk
      clear hg hbk
      clear hz20 hz21 hz22 hf23 hf24 hf25
      obtain ⟨hz30, hz31, hz32, hf33, hf34, hf35⟩ := MB.lay3 BKg0.out
      by_cases c36 : l0_1.length + a1.size < 140737488355328
      · have H := HH.out
        rw [if_pos c36] at H
        replace HH := Aside0.mk H
        clear H
        have LMc36 := Aside0.mk c36
        clear c36
        obtain ⟨y37, hy37⟩ : ∃ y_ : List Int, y_ = (l0_1 ++ MB.numsOf a1) := ⟨_, rfl⟩
        have H : (some (y37, decide ((wrap64 ((l0_1.length : Int) + (a1.size : Int))) > 4000))) = some (r1, r2) := by rw [hy37]; exact HH.out
        replace HH := Aside0.mk H
        clear H
        have NYy37 := Aside0.mk hy37
        clear hy37
        go_wp2_with (((with_reducible refine gate_dst (N := 14) rfl ?_); (try (refine gate_guard (by rfl) ?_; dsimp only)); refine MB.N_append_str B_ rfl _ _ 77 9 5 rfl Try.underlying77 Try.underlying9 info5 ((.slice A17 l0_1.length cp18)) l0_1 a1 (fun k_ => True ∧ (some k_ = ((.slice A17 l0_1.length cp18) : Value).ownBlock ∨ w.heap.size ≤ k_) ∧ k_ ≠ g0) rfl rfl HN0_1.out (fun k_ h_ => ⟨trivial, (.inr (Nat.le_trans (MB.bsize (a := B_) HB.out) h_)), Kd.freshB (o := .cells #[.pointer (some ⟨g0, 0, none⟩), (.slice A17 l0_1.length cp18), .bool (decide ((wrap64 ((l0_1.length : Int) + (a1.size : Int))) > 4000))] 81 (0, 0)) BKg0.out k_ h_⟩) HB.out (Nat.le_trans hB_.out (MB.bsize (a := B_) HB.out)) (by first | (have := LMc36.out; simp only [List.length_nil] at *; omega) | (have := LMc36.out; simp at *; omega) | (have := LMc36.out; simp only [List.length_nil] at *; simp; omega)) ?_; intro v38 w39 hn1 hb1 hg1 hat1); replace hat1 := Aside0.mk hat1; refine stop_ ?_)
        refine Stop.go ?_
        replace hat1 := hat1.out
        replace HFfr := Aside0.mk (Kd.F_mono (Kd.F_after (v := (.slice A17 l0_1.length cp18)) (ok := (fun k_ => True ∧ k_ ≠ g0)) (Kd.F_mono (ok := (fun k_ => True ∧ some k_ ≠ ((.slice A17 l0_1.length cp18) : Value).ownBlock ∧ k_ ≠ g0)) HFfr.out (fun k_ hk_ => ⟨⟨hk_.1, hk_.2.2⟩, hk_.2.1⟩)) hg1 hat1) (fun k_ hk_ => ⟨hk_.1.1, hk_.1.2, hk_.2⟩) : Kd.F (MB.frK w P0_) _ (fun k_ => True ∧ k_ ≠ g0 ∧ some k_ ≠ (v38 : Value).ownBlock) _ _ _)
        replace BKg0 := Aside0.mk (blk_grown (o := .cells #[.pointer (some ⟨g0, 0, none⟩), (.slice A17 l0_1.length cp18), .bool (decide ((wrap64 ((l0_1.length : Int) + (a1.size : Int))) > 4000))] 81 (0, 0)) BKg0.out hg1 (Kd.N_away (ok := (fun k_ => True ∧ (some k_ = ((.slice A17 l0_1.length cp18) : Value).ownBlock ∨ w.heap.size ≤ k_) ∧ k_ ≠ g0)) HN0_1.out (fun k_ hk_ => hk_.2.2)))
        replace HB := Aside0.mk hb1
        clear HN0_1
        have HN40 := Aside0.mk hn1
        clear hn1 hb1 hg1 hat1
        replace HN40 := Aside0.mk (by rw [NYy37.out]; exact HN40.out : Kd.N (Kd.int .u8) 5 w39 B_ (fun k_ => True ∧ (some k_ = ((.slice A17 l0_1.length cp18) : Value).ownBlock ∨ w.heap.size ≤ k_) ∧ k_ ≠ g0) v38 y37)
        clear hz30 hz31 hz32 hf33 hf34 hf35
        obtain ⟨hz41, hz42, hz43, hf44, hf45, hf46⟩ := MB.lay3 BKg0.out
        obtain ⟨A48, cp49, he_⟩ := Kd.N_slice HN40.out
        subst he_
        go_wp2_with (((with_reducible refine gate_store (t := 77) (p := 16) rfl ?_); (try (refine gate_guard (by rfl) ?_; dsimp only)); refine MW.ev_store #[.pointer (some ⟨g0, 0, none⟩), (.slice A48 y37.length cp49), .bool (decide ((wrap64 ((l0_1.length : Int) + (a1.size : Int))) > 4000))] rfl rfl rfl rfl (cs := #[.pointer (some ⟨g0, 0, none⟩), (.slice A17 l0_1.length cp18), .bool (decide ((wrap64 ((l0_1.length : Int) + (a1.size : Int))) > 4000))]) (ty := 81) BKg0.out [(.slice A48 y37.length cp49)] rfl (by kernel_rfl) (by simp) (by simp [Value.oneCell']) rfl ?_; intro w47 hbk hg); replace hbk := Aside0.mk hbk; refine stop_ ?_)
        refine Stop.go ?_
        replace hbk := hbk.out
        replace HFfr := Aside0.mk (Kd.F_grown (ok := (fun k_ => True ∧ k_ ≠ g0 ∧ some k_ ≠ ((.slice A48 y37.length cp49) : Value).ownBlock)) HFfr.out hg (fun k_ hk_ he_ => hk_.2.1 (Option.some.inj he_)))
        replace HN40 := Aside0.mk (Kd.N_grown (ok := (fun k_ => True ∧ (some k_ = ((.slice A17 l0_1.length cp18) : Value).ownBlock ∨ w.heap.size ≤ k_) ∧ k_ ≠ g0)) HN40.out hg (fun k_ hk_ he_ => hk_.2.2 (Option.some.inj he_)))
        replace HB := Aside0.mk (Below.grown HB.out hg (Nat.le_trans hB_.out (MB.bsize (a := B_) HB.out)) (fun k_ hk_ => by injection hk_ with hk_; rw [← hk_]; exact GEg0.out))
        replace BKg0 := Aside0.mk hbk
        clear hg hbk
        clear hz41 hz42 hz43 hf44 hf45 hf46
        obtain ⟨hz50, hz51, hz52, hf53, hf54, hf55⟩ := MB.lay3 BKg0.out
        go_wp2
        go_ret2
        refine ⟨_, rfl, ?_⟩
        have H := HH.out
        simp only [Option.some.injEq, Prod.mk.injEq] at H
        obtain ⟨rfl, rfl⟩ := H
        clear HH
        go_wp2
        go_end0
        unfold ber_sheaf_put.Post
        exact ⟨((.slice A48 y37.length cp49)), (.pointer (some ⟨g0, 0, none⟩)), by first | rfl | (simp; done) | (simp [*]; done), (Kd.N_mono (ok := (fun k_ => True ∧ (some k_ = ((.slice A17 l0_1.length cp18) : Value).ownBlock ∨ w.heap.size ≤ k_) ∧ k_ ≠ g0)) HN40.out (fun k_ hk_ => ⟨trivial, hk_.2.1, hk_.2.2⟩)), (.inr rfl), (by first | exact BKg0.out | (have h_ := BKg0.out; simp only [*] at h_; exact h_) | (have h_ := BKg0.out; simp [*] at h_ ⊢; exact h_)), (fun k_ hg_ hv_ hlt_ => MB.frK_out HFfr.out k_ (by rw [HPO.out]; exact ⟨hg_, hv_⟩) hlt_), HB.out⟩
      · exact absurd HH.out (by rw [if_neg c36]; simp)

end Go.Proofs.Ytliackbiljhioaa.GA
