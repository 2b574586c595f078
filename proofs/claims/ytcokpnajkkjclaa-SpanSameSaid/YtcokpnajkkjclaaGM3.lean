import Derived.Test.YtcokpnajkkjclaaGA0
import Derived.Test.YtcokpnajkkjclaaGAF15
import Derived.Test.YtcokpnajkkjclaaGM1
namespace Go.Proofs.Ytcokpnajkkjclaa.GA
open Go.RowKit Go.Proofs.Ytcokpnajkkjclaa Go.Proofs.Ytcokpnajkkjclaa.MW Go.Proofs.YtcokpnajkkjclaaW.PrintWords Go.Proofs.YtcokpnajkkjclaaW.PrintLast Go.Proofs.YtcokpnajkkjclaaW.PrintMore
attribute [local go_sem] max2_int min2_int max_two min_two
set_option linter.unusedVariables false
set_option linter.unusedSimpArgs false
attribute [local go_sem high] eqA37
/-! ### toponymlaw02_awake: function 8 -/
def toponymlaw02_awake.f (k : Nat)  : Option (Bool) := (span_Build.f k [(⟨10, 20, 1⟩ : S37), (⟨15, 17, 2⟩ : S37), (⟨21, 30, 1⟩ : S37)]).bind fun bt8 => (if bt8.2 = 0 then (if (bt8.1.length : Int) = 3 then (if 2 < (bt8.1.length : Int) then (if (((rd_T37 bt8.1 (2 : Int)).f0) == 18 && (((rd_T37 bt8.1 (2 : Int)).f1) == 30 && (((rd_T37 bt8.1 (2 : Int)).f2) == 1))) = true then ((span_Find.f k bt8.1 16).bind fun t35 => (if t35 = 2 then ((span_Find.f k bt8.1 31).bind fun t41 => (if t41 = 0 then ((span_Count.f k bt8.1 1).bind fun t47 => (if t47 = 18 then ((span_Check.f k bt8.1).bind fun t53 => (if t53 = 0 then ((span_Check.f k [(⟨1, 0, 0⟩ : S37)]).bind fun t66 => (some (t66 == 20))) else (some false))) else (some false))) else (some false))) else (some false))) else (some false)) else (none)) else (some false)) else (some false))
theorem toponymlaw02_awake.mono : ∀ k, LeO (toponymlaw02_awake.f k ) (toponymlaw02_awake.f (k + 1) ) := by
  intro  k
  unfold toponymlaw02_awake.f
  repeat' first
      | (with_reducible exact span_Build.mono _ _)
      | (with_reducible exact span_Check.mono _ _)
      | (with_reducible exact span_Count.mono _ _ _)
      | (with_reducible exact span_Find.mono _ _ _)
      | (with_reducible exact LeO.refl _)
      | (with_reducible exact LeO.none _)
      | (with_reducible refine LeO.ite ?_ ?_)
      | (with_reducible refine LeO.bind ?_ (fun _ => ?_))
      | exact span_Build.mono _ _
      | exact span_Check.mono _ _
      | exact span_Count.mono _ _ _
      | exact span_Find.mono _ _ _
      | exact LeO.none _
      | refine LeO.ite ?_ ?_
      | refine LeO.bind ?_ (fun _ => ?_)
set_option maxHeartbeats 8000000 in
set_option maxRecDepth 100000 in
theorem toponymlaw02_awake.calls (k : Nat) (r : Bool) (w : World) (h : toponymlaw02_awake.f k  = some r) :
    Calls Try.prog 8 #[] w (fun e w' => e = .returned (.bool r) ∧ Below w.heap.size w w') := by
  unfold toponymlaw02_awake.f at h
  have HH := Aside0.mk h
  clear h
  have HB := Aside0.mk (Below.refl w.heap.size w)
  have hu37 := Try.underlying37
  go_enter Try.func8, Try.ntmps8
  go_wp2_with (((with_reducible refine gate_dst (N := 7) rfl ?_); (try (refine gate_guard (by rfl) ?_; dsimp only)); refine Kd.N_lit k37 w.heap.size 37 rfl (N' := 7) rfl (xs := [(⟨10, 20, 1⟩ : S37), (⟨15, 17, 2⟩ : S37), (⟨21, 30, 1⟩ : S37)]) (inner := [.int .i32 10, .int .i32 20, .int .i64 1, .int .i32 15, .int .i32 17, .int .i64 2, .int .i32 21, .int .i32 30, .int .i64 1]) (ok := (fun k_ => (w.heap.size ≤ k_))) (okp := (fun k_ => (w.heap.size ≤ k_))) ?hr ?hp (fun _ hk_ => hk_) ?hf HB.out (below_size HB.out) (by first | simp | decide) ?_; (case hr => first | (go_simp; done) | (go_simp; rfl)); (case hp => exact (Reps.c3 (k37_mkF _ _ (⟨10, 20, 1⟩ : S37)) (Reps.c3 (k37_mkF _ _ (⟨15, 17, 2⟩ : S37)) (Reps.c3 (k37_mkF _ _ (⟨21, 30, 1⟩ : S37)) (Reps.none _ _))))); (case hf => exact (show ∀ k_, w.heap.size ≤ k_ → (fun k_ => (w.heap.size ≤ k_)) k_ from fun k_ h_ => (Nat.le_trans (below_size HB.out) h_)) _ (Nat.le_refl _)); intro v1 w2 hn1 hb1 hg1 hat1); replace hat1 := Aside0.mk hat1; refine stop_ ?_)
  refine Stop.go ?_
  replace hat1 := hat1.out
  have hbe := MW.grown_below hg1
  have hba := MW.base_of hat1
  replace HB := Aside0.mk hb1
  have HN3 := Aside0.mk hn1
  clear hn1 hb1 hg1 hat1 hbe hba
  obtain ⟨A4, cp5, he_⟩ := Kd.N_slice HN3.out
  subst he_
  have HL7 := Aside0.mk (Kd.N_reads' HN3.out).2.1
  have HF6 := Aside0.mk (Kd.N_F HN3.out)
  clear HN3
  replace HH := zd HH
  obtain ⟨⟨t8, t9⟩, At10, HH⟩ := HH
  dsimp only at HH
  go_wp2_with ((with_reducible refine gc 15 rfl ?_); refine zc 15 (some 8) Try.func15 #[.slice A4 [(⟨10, 20, 1⟩ : S37), (⟨15, 17, 2⟩ : S37), (⟨21, 30, 1⟩ : S37)].length cp5] (h := ?_); (with_reducible refine (span_Build.calls k (fun k_ => (w.heap.size ≤ k_)) _ _ [(⟨10, 20, 1⟩ : S37), (⟨15, 17, 2⟩ : S37), (⟨21, 30, 1⟩ : S37)] t8 t9 _ (Kd.F_mono (ok := (fun k_ => (w.heap.size ≤ k_))) HF6.out (fun k_ hk_ => hk_)) HL7.out At10.out).mono ?_); rintro e w11 ⟨v12, rfl, hn12, hb⟩; refine ⟨_, rfl, ?_⟩)
  refine Stop.go ?_
  have hba := Kd.N_base hn12
  have HN12 := znl (ok2 := (fun k_ => (w.heap.size ≤ k_))) hn12 (below_size HB.out) (fun k_ hk_ => hk_.elim (fun h_ => h_) (fun h_ => (Nat.le_trans (below_size HB.out) h_)))
  replace HF6 := zfr (v := v12) HF6.out hba hb
  replace HB := zhb HB.out hb
  clear hn12 hba hb
  replace HH := zqe HH
  rcases HH with ⟨HH, hk14, hk15⟩ | ⟨HH, hk87, hk88⟩
  · obtain ⟨A16, cp17, he_⟩ := Kd.N_slice HN12.out
    subst he_
    replace HH := zqe HH
    rcases HH with ⟨HH, hk19, hk20⟩ | ⟨HH, hk85, hk86⟩
    · replace HH := zqno 2 HH
      obtain ⟨HH, hk22, hk23, hk24, hk25⟩ := HH
      have p26 : 0 ≤ (2 : Int) := by decide
      have q26 : (2 : Int) < (t8.length : Int) := of_decide_eq_true (by first | (with_reducible assumption) | assumption)
      obtain ⟨ad26, e26, hx26_0, hx26_1, hx26_2⟩ := atF_T37 (Kd.N_F HN12.out) (2 : Int) p26 q26
      cases e26
      (try simp only [show ((2 : Int)).toNat = 2 from rfl, show 2 * 3 = 6 from rfl] at hx26_0)
      (try simp only [Nat.reduceMul, Nat.reduceEqDiff, Go.Addr.add, ↓reduceIte] at hx26_0)
      (try simp only [show ((2 : Int)).toNat = 2 from rfl, show 2 * 3 = 6 from rfl] at hx26_1)
      (try simp only [Nat.reduceMul, Nat.reduceEqDiff, Go.Addr.add, ↓reduceIte] at hx26_1)
      (try simp only [show ((2 : Int)).toNat = 2 from rfl, show 2 * 3 = 6 from rfl] at hx26_2)
      (try simp only [Nat.reduceMul, Nat.reduceEqDiff, Go.Addr.add, ↓reduceIte] at hx26_2)
      replace p26 := eq_true p26
      replace q26 := eq_true q26
      by_cases c27 : (((rd_T37 t8 (2 : Int)).f0) == 18 && (((rd_T37 t8 (2 : Int)).f1) == 30 && (((rd_T37 t8 (2 : Int)).f2) == 1))) = true
      · replace HH := MW.hpos HH c27
        have hk28 : (((rd_T37 t8 (2 : Int)).f0) == 18 && (((rd_T37 t8 (2 : Int)).f1) == 30 && (((rd_T37 t8 (2 : Int)).f2) == 1))) = true := c27
        try have hk29 : decide (((rd_T37 t8 (2 : Int)).f0) = 18 && (((rd_T37 t8 (2 : Int)).f1) == 30 && (((rd_T37 t8 (2 : Int)).f2) == 1))) = true := by simpa using c27
        try have hk30 : (((rd_T37 t8 (2 : Int)).f0) == 18 && (((rd_T37 t8 (2 : Int)).f1) == 30 && (((rd_T37 t8 (2 : Int)).f2) == 1))) = true := by simpa using c27
        clear c27
        have HL34 := Aside0.mk (Kd.N_reads' HN12.out).2.1
        have HF33 := Aside0.mk (Kd.N_F HN12.out)
        clear HN12
        replace HF6 := Aside0.mk (Kd.F_mono (ok := (fun k_ => (w.heap.size ≤ k_) ∧ some k_ ≠ ((.slice (some ad26) t8.length cp17) : Value).ownBlock)) HF6.out (fun k_ hk_ => hk_.1) : Kd.F k37 _ (fun k_ => (w.heap.size ≤ k_)) _ _ _)
        replace HH := zd HH
        obtain ⟨t35, At36, HH⟩ := HH
        go_wp2_with ((with_reducible refine gc 11 rfl ?_); refine zc 11 (some 27) Try.func11 #[.slice (some ad26) t8.length cp17, .int .i32 16] (h := ?_); (with_reducible refine (span_Find.calls k (fun k_ => (w.heap.size ≤ k_)) _ _ t8 16 t35 _ (Kd.F_mono (ok := (fun k_ => (w.heap.size ≤ k_))) HF33.out (fun k_ hk_ => hk_)) HL34.out At36.out).mono ?_); rintro e w37 ⟨rfl, hb⟩; refine ⟨_, rfl, ?_⟩)
        refine Stop.go ?_
        replace HF6 := zfb HF6.out hb
        replace HF33 := zfb HF33.out hb
        replace HB := zhb HB.out hb
        clear hb
        clear hx26_0 hx26_1 hx26_2 p26 q26
        replace HH := zqe HH
        rcases HH with ⟨HH, hk39, hk40⟩ | ⟨HH, hk75, hk76⟩
        · replace HH := zd HH
          obtain ⟨t41, At42, HH⟩ := HH
          go_wp2_with ((with_reducible refine gc 11 rfl ?_); refine zc 11 (some 32) Try.func11 #[.slice (some ad26) t8.length cp17, .int .i32 31] (h := ?_); (with_reducible refine (span_Find.calls k (fun k_ => (w.heap.size ≤ k_)) _ _ t8 31 t41 _ (Kd.F_mono (ok := (fun k_ => (w.heap.size ≤ k_))) HF33.out (fun k_ hk_ => hk_)) HL34.out At42.out).mono ?_); rintro e w43 ⟨rfl, hb⟩; refine ⟨_, rfl, ?_⟩)
          refine Stop.go ?_
          replace HF6 := zfb HF6.out hb
          replace HF33 := zfb HF33.out hb
          replace HB := zhb HB.out hb
          clear hb
          replace HH := zqe HH
          rcases HH with ⟨HH, hk45, hk46⟩ | ⟨HH, hk73, hk74⟩
          · replace HH := zd HH
            obtain ⟨t47, At48, HH⟩ := HH
            go_wp2_with ((with_reducible refine gc 13 rfl ?_); refine zc 13 (some 37) Try.func13 #[.slice (some ad26) t8.length cp17, .int .i64 1] (h := ?_); (with_reducible refine (span_Count.calls k (fun k_ => (w.heap.size ≤ k_)) _ _ t8 1 t47 _ (Kd.F_mono (ok := (fun k_ => (w.heap.size ≤ k_))) HF33.out (fun k_ hk_ => hk_)) HL34.out At48.out).mono ?_); rintro e w49 ⟨rfl, hb⟩; refine ⟨_, rfl, ?_⟩)
            refine Stop.go ?_
            replace HF6 := zfb HF6.out hb
            replace HF33 := zfb HF33.out hb
            replace HB := zhb HB.out hb
            clear hb
            replace HH := zqe HH
            rcases HH with ⟨HH, hk51, hk52⟩ | ⟨HH, hk71, hk72⟩
            · replace HH := zd HH
              obtain ⟨t53, At54, HH⟩ := HH
              go_wp2_with ((with_reducible refine gc 9 rfl ?_); refine zc 9 (some 42) Try.func9 #[.slice (some ad26) t8.length cp17] (h := ?_); (with_reducible refine (span_Check.calls k (fun k_ => (w.heap.size ≤ k_)) _ _ t8 t53 _ (Kd.F_mono (ok := (fun k_ => (w.heap.size ≤ k_))) HF33.out (fun k_ hk_ => hk_)) HL34.out At54.out).mono ?_); rintro e w55 ⟨rfl, hb⟩; refine ⟨_, rfl, ?_⟩)
              refine Stop.go ?_
              replace HF6 := zfb HF6.out hb
              replace HF33 := zfb HF33.out hb
              replace HB := zhb HB.out hb
              clear hb
              replace HH := zqe HH
              rcases HH with ⟨HH, hk57, hk58⟩ | ⟨HH, hk69, hk70⟩
              · go_wp2_with (((with_reducible refine gate_dst (N := 47) rfl ?_); (try (refine gate_guard (by rfl) ?_; dsimp only)); refine Kd.N_lit k37 w.heap.size 37 rfl (N' := 47) rfl (xs := [(⟨1, 0, 0⟩ : S37)]) (inner := [.int .i32 1, .int .i32 0, .int .i64 0]) (ok := (fun k_ => (w.heap.size ≤ k_))) (okp := (fun k_ => (w.heap.size ≤ k_))) ?hr ?hp (fun _ hk_ => hk_) ?hf HB.out (below_size HB.out) (by first | simp | decide) ?_; (case hr => first | (go_simp; done) | (go_simp; rfl)); (case hp => exact (Reps.c3 (k37_mkF _ _ (⟨1, 0, 0⟩ : S37)) (Reps.none _ _))); (case hf => exact (show ∀ k_, w55.heap.size ≤ k_ → (fun k_ => (w.heap.size ≤ k_)) k_ from fun k_ h_ => (Nat.le_trans (below_size HB.out) h_)) _ (Nat.le_refl _)); intro v59 w60 hn1 hb1 hg1 hat1); replace hat1 := Aside0.mk hat1; refine stop_ ?_)
                refine Stop.go ?_
                replace hat1 := hat1.out
                have hbe := MW.grown_below hg1
                have hba := MW.base_of hat1
                replace HF6 := Aside0.mk (Kd.F_mono (Kd.F_elder' (ok := (fun k_ => (w.heap.size ≤ k_))) HF6.out hba hbe) (fun k_ hk_ => hk_) : Kd.F k37 _ (fun k_ => (w.heap.size ≤ k_) ∧ some k_ ≠ (v59 : Value).ownBlock) _ _ _)
                replace HF33 := Aside0.mk (Kd.F_mono (Kd.F_elder' (ok := (fun k_ => (w.heap.size ≤ k_))) HF33.out hba hbe) (fun k_ hk_ => hk_) : Kd.F k37 _ (fun k_ => (w.heap.size ≤ k_) ∧ some k_ ≠ (v59 : Value).ownBlock) _ _ _)
                replace HB := Aside0.mk hb1
                have HN61 := Aside0.mk hn1
                clear hn1 hb1 hg1 hat1 hbe hba
                obtain ⟨A62, cp63, he_⟩ := Kd.N_slice HN61.out
                subst he_
                have HL65 := Aside0.mk (Kd.N_reads' HN61.out).2.1
                have HF64 := Aside0.mk (Kd.N_F HN61.out)
                clear HN61
                replace HF6 := Aside0.mk (Kd.F_mono (ok := (fun k_ => (w.heap.size ≤ k_) ∧ some k_ ≠ ((.slice A62 [(⟨1, 0, 0⟩ : S37)].length cp63) : Value).ownBlock)) HF6.out (fun k_ hk_ => hk_.1) : Kd.F k37 _ (fun k_ => (w.heap.size ≤ k_)) _ _ _)
                replace HF33 := Aside0.mk (Kd.F_mono (ok := (fun k_ => (w.heap.size ≤ k_) ∧ some k_ ≠ ((.slice A62 [(⟨1, 0, 0⟩ : S37)].length cp63) : Value).ownBlock)) HF33.out (fun k_ hk_ => hk_.1) : Kd.F k37 _ (fun k_ => (w.heap.size ≤ k_)) _ _ _)
                replace HH := zd HH
                obtain ⟨t66, At67, HH⟩ := HH
                go_wp2_with ((with_reducible refine gc 9 rfl ?_); refine zc 9 (some 48) Try.func9 #[.slice A62 [(⟨1, 0, 0⟩ : S37)].length cp63] (h := ?_); (with_reducible refine (span_Check.calls k (fun k_ => (w.heap.size ≤ k_)) _ _ [(⟨1, 0, 0⟩ : S37)] t66 _ (Kd.F_mono (ok := (fun k_ => (w.heap.size ≤ k_))) HF64.out (fun k_ hk_ => hk_)) HL65.out At67.out).mono ?_); rintro e w68 ⟨rfl, hb⟩; refine ⟨_, rfl, ?_⟩)
                refine Stop.go ?_
                replace HF6 := zfb HF6.out hb
                replace HF33 := zfb HF33.out hb
                replace HF64 := zfb HF64.out hb
                replace HB := zhb HB.out hb
                clear hb
                have H := HH.out
                obtain rfl := Option.some.inj H
                clear HH
                go_wp2
                go_ret
                exact zfi HB.out
              · have H := HH.out
                obtain rfl := Option.some.inj H
                clear HH
                go_wp2
                go_ret
                exact zfi HB.out
            · have H := HH.out
              obtain rfl := Option.some.inj H
              clear HH
              go_wp2
              go_ret
              exact zfi HB.out
          · have H := HH.out
            obtain rfl := Option.some.inj H
            clear HH
            go_wp2
            go_ret
            exact zfi HB.out
        · have H := HH.out
          obtain rfl := Option.some.inj H
          clear HH
          go_wp2
          go_ret
          exact zfi HB.out
      · replace HH := MW.hneg HH c27
        have hk77 : (((rd_T37 t8 (2 : Int)).f0) == 18 && (((rd_T37 t8 (2 : Int)).f1) == 30 && (((rd_T37 t8 (2 : Int)).f2) == 1))) = false := by simpa using c27
        try have hk78 : decide (((rd_T37 t8 (2 : Int)).f0) = 18 && (((rd_T37 t8 (2 : Int)).f1) == 30 && (((rd_T37 t8 (2 : Int)).f2) == 1))) = false := by simpa using c27
        try have hk79 : (((rd_T37 t8 (2 : Int)).f0) == 18 && (((rd_T37 t8 (2 : Int)).f1) == 30 && (((rd_T37 t8 (2 : Int)).f2) == 1))) = false := by simpa using c27
        try have hk80 : ¬ (((rd_T37 t8 (2 : Int)).f0) = 18 && (((rd_T37 t8 (2 : Int)).f1) == 30 && (((rd_T37 t8 (2 : Int)).f2) == 1))) := by simpa using c27
        clear c27
        have H := HH.out
        obtain rfl := Option.some.inj H
        clear HH
        go_wp2
        go_ret
        exact zfi HB.out
    · have H := HH.out
      obtain rfl := Option.some.inj H
      clear HH
      go_wp2
      go_ret
      exact zfi HB.out
  · have H := HH.out
    obtain rfl := Option.some.inj H
    clear HH
    go_wp2
    go_ret
    exact zfi HB.out
end Go.Proofs.Ytcokpnajkkjclaa.GA
