-- written by wip/gen.py, a program of this session
import Derived.Test.YthfonbnbffloaaaGA0
import Derived.Test.YthfonbnbffloaaaGAF11
import Derived.Test.YthfonbnbffloaaaGAF13
import Derived.Test.YthfonbnbffloaaaGAF15
import Derived.Test.YthfonbnbffloaaaGAF16
import Derived.Test.YthfonbnbffloaaaGAF7
import Derived.Test.YthfonbnbffloaaaGAF9
namespace Go.Proofs.Ythfonbnbffloaaa.GA
open Go.RowKit Go.Proofs.Ythfonbnbffloaaa Go.Proofs.Ythfonbnbffloaaa.MW Go.Proofs.YthfonbnbffloaaaW.PrintWords Go.Proofs.YthfonbnbffloaaaW.PrintLast Go.Proofs.YthfonbnbffloaaaW.PrintMore
attribute [local go_sem] max2_int min2_int max_two min_two
set_option linter.unusedVariables false
set_option linter.unusedSimpArgs false


/-! ### toponymlaw15_BerForms: function 5 -/
def toponymlaw15_BerForms.f (k : Nat) (a0 : ByteArray) (a1 : Int) : Option (Bool) := if (a0.size : Int) > 8000 then ((toponymlaw15_awake.f k ).bind fun t4 => (some t4)) else ((ber_Decode.f k a0 a1).bind fun bt9 => (if bt9.2.2.2.2.2.2 = 0 then (if a1 < 0 then (some false) else (if bt9.2.2.2.2.2.1 < a1 then (some false) else (if bt9.2.2.2.2.2.1 > (a0.size : Int) then (some false) else ((ber_Encode.f k [(⟨bt9.1, bt9.2.1, bt9.2.2.1, bt9.2.2.2.1, bt9.2.2.2.2.1⟩ : S26)]).bind fun bt81 => (if bt81.2 = 0 then ((ber_Check.f k bt9.1 bt9.2.1 bt9.2.2.1 bt9.2.2.2.1 bt9.2.2.2.2.1).bind fun t98 => (if t98 = 0 then (if 0 ≤ a1 then (if a1 ≤ bt9.2.2.2.2.2.1 then (if bt9.2.2.2.2.2.1 ≤ (a0.size : Int) then (if bt81.1.toList = (a0.extract a1.toNat bt9.2.2.2.2.2.1.toNat).toList then ((ber_Deep.f k bt9.1 bt9.2.1 bt9.2.2.1 bt9.2.2.2.1 bt9.2.2.2.2.1).bind fun t124 => (if t124 ≤ 12 then ((toponymlaw15_awake.f k ).bind fun t139 => (some t139)) else (some false))) else (some false)) else (none)) else (none)) else (none)) else (some false))) else (some false)))))) else (if bt9.2.2.2.2.2.1 = 0 then ((toponymref15_Same.f k bt9.1 bt9.2.1 bt9.2.2.1 bt9.2.2.2.1 bt9.2.2.2.2.1 0 false 0 (⟨#[]⟩ : ByteArray) ([] : List (S26))).bind fun t171 => (if t171 = true then ((toponymlaw15_awake.f k ).bind fun t185 => (some t185)) else (some false))) else (some false))))
theorem toponymlaw15_BerForms.mono : ∀ a0_ a1_ k, LeO (toponymlaw15_BerForms.f k a0_ a1_) (toponymlaw15_BerForms.f (k + 1) a0_ a1_) := by
  intro a0_ a1_ k
  unfold toponymlaw15_BerForms.f
  repeat' first
      | (with_reducible exact ber_Check.mono _ _ _ _ _ _)
      | (with_reducible exact ber_Decode.mono _ _ _)
      | (with_reducible exact ber_Deep.mono _ _ _ _ _ _)
      | (with_reducible exact ber_Encode.mono _ _)
      | (with_reducible exact toponymlaw15_awake.mono _)
      | (with_reducible exact toponymref15_Same.mono _ _ _ _ _ _ _ _ _ _ _)
      | (with_reducible exact LeO.refl _)
      | (with_reducible exact LeO.none _)
      | (with_reducible refine LeO.ite ?_ ?_)
      | (with_reducible refine LeO.bind ?_ (fun _ => ?_))
      | exact ber_Check.mono _ _ _ _ _ _
      | exact ber_Decode.mono _ _ _
      | exact ber_Deep.mono _ _ _ _ _ _
      | exact ber_Encode.mono _ _
      | exact toponymlaw15_awake.mono _
      | exact toponymref15_Same.mono _ _ _ _ _ _ _ _ _ _ _
      | exact LeO.none _
      | refine LeO.ite ?_ ?_
      | refine LeO.bind ?_ (fun _ => ?_)
set_option maxHeartbeats 8000000 in
set_option maxRecDepth 100000 in
theorem toponymlaw15_BerForms.calls (k : Nat) (a0 : ByteArray) (a1 : Int) (r : Bool) (w : World) (h : toponymlaw15_BerForms.f k a0 a1 = some r) :
    Calls Try.prog 5 #[.string a0, .int .i64 a1] w (fun e w' => e = .returned (.bool r) ∧ Below w.heap.size w w') := by
  have HH := Aside0.mk (show (if (a0.size : Int) > 8000 then ((toponymlaw15_awake.f k ).bind fun t4 => (some t4)) else ((ber_Decode.f k a0 a1).bind fun bt9 => (if bt9.2.2.2.2.2.2 = 0 then (if a1 < 0 then (some false) else (if bt9.2.2.2.2.2.1 < a1 then (some false) else (if bt9.2.2.2.2.2.1 > (a0.size : Int) then (some false) else ((ber_Encode.f k [(⟨bt9.1, bt9.2.1, bt9.2.2.1, bt9.2.2.2.1, bt9.2.2.2.2.1⟩ : S26)]).bind fun bt81 => (if bt81.2 = 0 then ((ber_Check.f k bt9.1 bt9.2.1 bt9.2.2.1 bt9.2.2.2.1 bt9.2.2.2.2.1).bind fun t98 => (if t98 = 0 then (if 0 ≤ a1 then (if a1 ≤ bt9.2.2.2.2.2.1 then (if bt9.2.2.2.2.2.1 ≤ (a0.size : Int) then (if bt81.1.toList = (a0.extract a1.toNat bt9.2.2.2.2.2.1.toNat).toList then ((ber_Deep.f k bt9.1 bt9.2.1 bt9.2.2.1 bt9.2.2.2.1 bt9.2.2.2.2.1).bind fun t124 => (if t124 ≤ 12 then ((toponymlaw15_awake.f k ).bind fun t139 => (some t139)) else (some false))) else (some false)) else (none)) else (none)) else (none)) else (some false))) else (some false)))))) else (if bt9.2.2.2.2.2.1 = 0 then ((toponymref15_Same.f k bt9.1 bt9.2.1 bt9.2.2.1 bt9.2.2.2.1 bt9.2.2.2.2.1 0 false 0 (⟨#[]⟩ : ByteArray) ([] : List (S26))).bind fun t171 => (if t171 = true then ((toponymlaw15_awake.f k ).bind fun t185 => (some t185)) else (some false))) else (some false))))) = some r from h)
  clear h
  have HB := Aside0.mk (Below.refl w.heap.size w)
  have hu26 := Try.underlying26
  go_enter Try.func5, Try.ntmps5
  by_cases c1 : (a0.size : Int) > 8000
  · have H := HH.out
    rw [if_pos c1] at H
    replace HH := Aside0.mk H
    clear H
    have hk2 : decide (8000 < (a0.size : Int)) = true := decide_eq_true c1
    have hk3 : decide (8000 < a0.size) = true := decide_eq_true (by omega)
    clear c1
    have H := HH.out
    replace H := Option.bind_eq_some_iff.mp H
    obtain ⟨t4, at_, H⟩ := H
    have At5 := Aside0.mk at_
    clear at_
    replace HH := Aside0.mk (show (some t4) = some r from H)
    clear H
    go_wp2_with (((with_reducible refine gate_callee (f := 7) rfl ?_); (try (refine gate_guard (by rfl) ?_; dsimp only)); refine goesL_ (some 13) rfl rfl Try.func7 (by kernel_rfl) rfl #[] rfl (by (try simp only [List.map_toArray, List.map_cons, List.map_nil]); first | done | rfl | (simp only [List.length_drop, List.length_take]; rfl)) ?_; (with_reducible refine (toponymlaw15_awake.calls k  t4 _  At5.out).mono ?_); rintro e w6 ⟨rfl, hb⟩; refine ⟨_, rfl, ?_⟩); refine stop_ ?_)
    refine Stop.go ?_
    replace HB := Aside0.mk (below_step HB.out hb)
    clear hb
    have H := HH.out
    obtain rfl := Option.some.inj H
    clear HH
    go_wp2
    go_ret
    exact ⟨by first | rfl | (simp; done) | (simp [*]; done), HB.out⟩
  · have H := HH.out
    rw [if_neg c1] at H
    replace HH := Aside0.mk H
    clear H
    have hk7 : decide (8000 < (a0.size : Int)) = false := decide_eq_false c1
    have hk8 : decide (8000 < a0.size) = false := decide_eq_false (by omega)
    clear c1
    have H := HH.out
    replace H := Option.bind_eq_some_iff.mp H
    obtain ⟨⟨t9, t10, t11, t12, t13, t14, t15⟩, at_, H⟩ := H
    have At16 := Aside0.mk at_
    clear at_
    replace HH := Aside0.mk (show (if t15 = 0 then (if a1 < 0 then (some false) else (if t14 < a1 then (some false) else (if t14 > (a0.size : Int) then (some false) else ((ber_Encode.f k [(⟨t9, t10, t11, t12, t13⟩ : S26)]).bind fun bt81 => (if bt81.2 = 0 then ((ber_Check.f k t9 t10 t11 t12 t13).bind fun t98 => (if t98 = 0 then (if 0 ≤ a1 then (if a1 ≤ t14 then (if t14 ≤ (a0.size : Int) then (if bt81.1.toList = (a0.extract a1.toNat t14.toNat).toList then ((ber_Deep.f k t9 t10 t11 t12 t13).bind fun t124 => (if t124 ≤ 12 then ((toponymlaw15_awake.f k ).bind fun t139 => (some t139)) else (some false))) else (some false)) else (none)) else (none)) else (none)) else (some false))) else (some false)))))) else (if t14 = 0 then ((toponymref15_Same.f k t9 t10 t11 t12 t13 0 false 0 (⟨#[]⟩ : ByteArray) ([] : List (S26))).bind fun t171 => (if t171 = true then ((toponymlaw15_awake.f k ).bind fun t185 => (some t185)) else (some false))) else (some false))) = some r from H)
    clear H
    go_wp2_with (((with_reducible refine gate_callee (f := 15) rfl ?_); (try (refine gate_guard (by rfl) ?_; dsimp only)); refine goesL_ (some 17) rfl rfl Try.func15 (by kernel_rfl) rfl #[.string a0, .int .i64 a1] rfl (by (try simp only [List.map_toArray, List.map_cons, List.map_nil]); first | done | rfl | (simp only [List.length_drop, List.length_take]; rfl)) ?_; (with_reducible refine (ber_Decode.calls k  a0 a1 t9 t10 t11 t12 t13 t14 t15 _  At16.out).mono ?_); rintro e w17 ⟨v18, rfl, hn18, hb⟩; refine ⟨_, rfl, ?_⟩); refine stop_ ?_)
    refine Stop.go ?_
    have hba := Kd.N_base hn18
    have HN18 := Aside0.mk (Kd.N_mono (Kd.N_lower hn18 (below_size HB.out)) (fun k_ h_ => (Nat.le_trans (below_size HB.out) h_)) : Kd.N k26 26 w17 w.heap.size (fun k_ => (w.heap.size ≤ k_)) v18 t13)
    replace HB := Aside0.mk (below_step HB.out hb)
    clear hn18 hba hb
    go_wp2_with (((with_reducible refine gate_dst (N := 5) rfl ?_); (try (refine gate_guard (by rfl) ?_; dsimp only)); refine box_event ?hg (N := 5) ?hd (cs := #[.int .i64 0, .bool false, .int .i64 0, .string (⟨#[]⟩ : ByteArray), .slice none 0 0]) (t := 26) ?hr ?_; (case hd => rfl); (case hg => rfl); (case hr => first | (go_simp; done) | (go_simp; rfl)); intro g19 hg w20 hbox hb); replace hg := Aside0.mk hg; replace hbox := Aside0.mk hbox; refine stop_ ?_)
    refine Stop.go ?_
    replace hg := hg.out
    replace hbox := hbox.out
    have GEg19 := Aside0.mk (by rw [hg]; exact (below_size HB.out) : w.heap.size ≤ g19)
    replace HN18 := Aside0.mk (Kd.N_elderB HN18.out g19 (Nat.le_of_eq hg.symm))
    replace HN18 := Aside0.mk (Kd.N_mono HN18.out (fun k_ hk_ => ⟨hk_.1, hk_.2⟩) : Kd.N k26 _ _ _ (fun k_ => (w.heap.size ≤ k_) ∧ k_ ≠ g19) _ _)
    replace HN18 := Aside0.mk (Kd.N_below HN18.out hb)
    replace HB := Aside0.mk (below_step HB.out hb)
    have BKg19 := Aside0.mk hbox
    clear hg hbox hb
    obtain ⟨hz21, hz22, hz23, hz24, hz25, hf26, hf27, hf28, hf29, hf30⟩ := MB.lay5 BKg19.out
    obtain ⟨A32, cp33, he_⟩ := Kd.N_slice HN18.out
    subst he_
    go_wp2_with (((with_reducible refine gate_store (t := 26) (p := 5) rfl ?_); (try (refine gate_guard (by rfl) ?_; dsimp only)); refine MW.ev_store #[.int .i64 t9, .bool t10, .int .i64 t11, .string t12, (.slice A32 t13.length cp33)] rfl rfl rfl rfl (cs := #[.int .i64 0, .bool false, .int .i64 0, .string (⟨#[]⟩ : ByteArray), .slice none 0 0]) (ty := 26) BKg19.out [.int .i64 t9, .bool t10, .int .i64 t11, .string t12, (.slice A32 t13.length cp33)] rfl (by kernel_rfl) (by simp) (by simp [Value.oneCell']) rfl ?_; intro w31 hbk hg); replace hbk := Aside0.mk hbk; refine stop_ ?_)
    refine Stop.go ?_
    replace hbk := hbk.out
    replace HN18 := Aside0.mk (Kd.N_grown (ok := (fun k_ => (w.heap.size ≤ k_) ∧ k_ ≠ g19)) HN18.out hg (fun k_ hk_ he_ => hk_.2 (Option.some.inj he_)))
    replace HB := Aside0.mk (Below.grown HB.out hg (below_size HB.out) (fun k_ hk_ => by injection hk_ with hk_; rw [← hk_]; exact GEg19.out))
    replace BKg19 := Aside0.mk hbk
    clear hg hbk
    clear hz21 hz22 hz23 hz24 hz25 hf26 hf27 hf28 hf29 hf30
    obtain ⟨hz34, hz35, hz36, hz37, hz38, hf39, hf40, hf41, hf42, hf43⟩ := MB.lay5 BKg19.out
    by_cases c44 : t15 = 0
    · have H := HH.out
      rw [if_pos c44] at H
      replace HH := Aside0.mk H
      clear H
      have hk45 : (t15 == 0) = true := beq_iff_eq.mpr c44
      have hk46 : (t15 != 0) = false := bne_eq_false_iff_eq.mpr c44
      clear c44
      by_cases c47 : a1 < 0
      · have H := HH.out
        rw [if_pos c47] at H
        replace HH := Aside0.mk H
        clear H
        have hk48 : (a1 < 0) = True := eq_true c47
        have hk49 : decide (a1 < 0) = true := decide_eq_true c47
        clear c47
        have H := HH.out
        obtain rfl := Option.some.inj H
        clear HH
        go_wp2
        go_ret
        exact ⟨by first | rfl | (simp; done) | (simp [*]; done), HB.out⟩
      · have H := HH.out
        rw [if_neg c47] at H
        replace HH := Aside0.mk H
        clear H
        have hk50 : (a1 < 0) = False := eq_false c47
        have hk51 : decide (a1 < 0) = false := decide_eq_false c47
        clear c47
        by_cases c52 : t14 < a1
        · have H := HH.out
          rw [if_pos c52] at H
          replace HH := Aside0.mk H
          clear H
          have hk53 : (t14 < a1) = True := eq_true c52
          have hk54 : decide (t14 < a1) = true := decide_eq_true c52
          clear c52
          have H := HH.out
          obtain rfl := Option.some.inj H
          clear HH
          go_wp2
          go_ret
          exact ⟨by first | rfl | (simp; done) | (simp [*]; done), HB.out⟩
        · have H := HH.out
          rw [if_neg c52] at H
          replace HH := Aside0.mk H
          clear H
          have hk55 : (t14 < a1) = False := eq_false c52
          have hk56 : decide (t14 < a1) = false := decide_eq_false c52
          clear c52
          by_cases c57 : t14 > (a0.size : Int)
          · have H := HH.out
            rw [if_pos c57] at H
            replace HH := Aside0.mk H
            clear H
            have hk58 : decide ((a0.size : Int) < t14) = true := decide_eq_true c57
            clear c57
            have H := HH.out
            obtain rfl := Option.some.inj H
            clear HH
            go_wp2
            go_ret
            exact ⟨by first | rfl | (simp; done) | (simp [*]; done), HB.out⟩
          · have H := HH.out
            rw [if_neg c57] at H
            replace HH := Aside0.mk H
            clear H
            have hk59 : decide ((a0.size : Int) < t14) = false := decide_eq_false c57
            clear c57
            have HL63 := Aside0.mk (Kd.N_reads' HN18.out).2.1
            have HF62 := Aside0.mk (Kd.N_F HN18.out)
            clear HN18
            go_wp2_with (((with_reducible refine gate_dst (N := 48) rfl ?_); (try (refine gate_guard (by rfl) ?_; dsimp only)); refine Kd.N_lit k26 w.heap.size 26 rfl (N' := 48) rfl (xs := [(⟨t9, t10, t11, t12, t13⟩ : S26)]) (inner := [.int .i64 t9, .bool t10, .int .i64 t11, .string t12, .slice A32 t13.length cp33]) (ok := (fun k_ => (w.heap.size ≤ k_) ∧ k_ ≠ g19)) (okp := (fun k_ => (w.heap.size ≤ k_) ∧ k_ ≠ g19)) ?hr ?hp (fun _ hk_ => hk_) ?hf HB.out (below_size HB.out) (by first | simp | decide) ?_; (case hr => first | (go_simp; done) | (go_simp; rfl)); (case hp => exact (Reps.c5 (k26_mkF _ _ (⟨t9, t10, t11, t12, t13⟩ : S26) HL63.out (Kd.F_mono (ok := (fun k_ => (w.heap.size ≤ k_) ∧ k_ ≠ g19)) HF62.out (fun k_ hk_ => ⟨hk_.1, hk_.2⟩))) (Reps.none _ _))); (case hf => exact (show ∀ k_, w31.heap.size ≤ k_ → (fun k_ => (w.heap.size ≤ k_) ∧ k_ ≠ g19) k_ from fun k_ h_ => ⟨(Nat.le_trans (below_size HB.out) h_), Kd.freshB (o := .cells #[.int .i64 t9, .bool t10, .int .i64 t11, .string t12, .slice A32 t13.length cp33] 26 (0, 0)) BKg19.out k_ h_⟩) _ (Nat.le_refl _)); intro v64 w65 hn1 hb1 hg1 hat1); replace hat1 := Aside0.mk hat1; refine stop_ ?_)
            refine Stop.go ?_
            replace hat1 := hat1.out
            have hbe := MW.grown_below hg1
            have hba := MW.base_of hat1
            replace HF62 := Aside0.mk (Kd.F_mono (Kd.F_elder' (ok := (fun k_ => (w.heap.size ≤ k_) ∧ k_ ≠ g19)) HF62.out hba hbe) (fun k_ hk_ => ⟨hk_.1.1, hk_.1.2, hk_.2⟩) : Kd.F k26 _ (fun k_ => (w.heap.size ≤ k_) ∧ k_ ≠ g19 ∧ some k_ ≠ (v64 : Value).ownBlock) _ _ _)
            replace BKg19 := Aside0.mk (blk_below (o := .cells #[.int .i64 t9, .bool t10, .int .i64 t11, .string t12, .slice A32 t13.length cp33] 26 (0, 0)) BKg19.out hbe)
            replace HB := Aside0.mk hb1
            have HN66 := Aside0.mk hn1
            clear hn1 hb1 hg1 hat1 hbe hba
            clear hz34 hz35 hz36 hz37 hz38 hf39 hf40 hf41 hf42 hf43
            obtain ⟨hz67, hz68, hz69, hz70, hz71, hf72, hf73, hf74, hf75, hf76⟩ := MB.lay5 BKg19.out
            obtain ⟨A77, cp78, he_⟩ := Kd.N_slice HN66.out
            subst he_
            have HL80 := Aside0.mk (Kd.N_reads' HN66.out).2.1
            have HF79 := Aside0.mk (Kd.N_F HN66.out)
            clear HN66
            replace HF62 := Aside0.mk (Kd.F_mono (ok := (fun k_ => (w.heap.size ≤ k_) ∧ k_ ≠ g19 ∧ some k_ ≠ ((.slice A77 [(⟨t9, t10, t11, t12, t13⟩ : S26)].length cp78) : Value).ownBlock)) HF62.out (fun k_ hk_ => ⟨hk_.1, hk_.2.1⟩) : Kd.F k26 _ (fun k_ => (w.heap.size ≤ k_) ∧ k_ ≠ g19) _ _ _)
            have H := HH.out
            replace H := Option.bind_eq_some_iff.mp H
            obtain ⟨⟨t81, t82⟩, at_, H⟩ := H
            have At83 := Aside0.mk at_
            clear at_
            replace HH := Aside0.mk (show (if t82 = 0 then ((ber_Check.f k t9 t10 t11 t12 t13).bind fun t98 => (if t98 = 0 then (if 0 ≤ a1 then (if a1 ≤ t14 then (if t14 ≤ (a0.size : Int) then (if t81.toList = (a0.extract a1.toNat t14.toNat).toList then ((ber_Deep.f k t9 t10 t11 t12 t13).bind fun t124 => (if t124 ≤ 12 then ((toponymlaw15_awake.f k ).bind fun t139 => (some t139)) else (some false))) else (some false)) else (none)) else (none)) else (none)) else (some false))) else (some false)) = some r from H)
            clear H
            go_wp2_with (((with_reducible refine gate_callee (f := 13) rfl ?_); (try (refine gate_guard (by rfl) ?_; dsimp only)); refine goesL_ (some 49) rfl rfl Try.func13 (by kernel_rfl) rfl #[.slice A77 [(⟨t9, t10, t11, t12, t13⟩ : S26)].length cp78] rfl (by (try simp only [List.map_toArray, List.map_cons, List.map_nil]); first | done | rfl | (simp only [List.length_drop, List.length_take]; rfl)) ?_; (with_reducible refine (ber_Encode.calls k (fun k_ => (w.heap.size ≤ k_) ∧ k_ ≠ g19) _ _ [(⟨t9, t10, t11, t12, t13⟩ : S26)] t81 t82 _ (Kd.F_mono (ok := (fun k_ => (w.heap.size ≤ k_) ∧ k_ ≠ g19)) HF79.out (fun k_ hk_ => ⟨hk_.1, hk_.2⟩)) HL80.out At83.out).mono ?_); rintro e w84 ⟨rfl, hb⟩; refine ⟨_, rfl, ?_⟩); refine stop_ ?_)
            refine Stop.go ?_
            replace HF62 := Aside0.mk (Kd.F_below HF62.out hb)
            replace HF79 := Aside0.mk (Kd.F_below HF79.out hb)
            replace BKg19 := Aside0.mk (blk_below (o := .cells #[.int .i64 t9, .bool t10, .int .i64 t11, .string t12, .slice A32 t13.length cp33] 26 (0, 0)) BKg19.out hb)
            replace HB := Aside0.mk (below_step HB.out hb)
            clear hb
            clear hz67 hz68 hz69 hz70 hz71 hf72 hf73 hf74 hf75 hf76
            obtain ⟨hz85, hz86, hz87, hz88, hz89, hf90, hf91, hf92, hf93, hf94⟩ := MB.lay5 BKg19.out
            by_cases c95 : t82 = 0
            · have H := HH.out
              rw [if_pos c95] at H
              replace HH := Aside0.mk H
              clear H
              have hk96 : (t82 == 0) = true := beq_iff_eq.mpr c95
              have hk97 : (t82 != 0) = false := bne_eq_false_iff_eq.mpr c95
              clear c95
              have H := HH.out
              replace H := Option.bind_eq_some_iff.mp H
              obtain ⟨t98, at_, H⟩ := H
              have At99 := Aside0.mk at_
              clear at_
              replace HH := Aside0.mk (show (if t98 = 0 then (if 0 ≤ a1 then (if a1 ≤ t14 then (if t14 ≤ (a0.size : Int) then (if t81.toList = (a0.extract a1.toNat t14.toNat).toList then ((ber_Deep.f k t9 t10 t11 t12 t13).bind fun t124 => (if t124 ≤ 12 then ((toponymlaw15_awake.f k ).bind fun t139 => (some t139)) else (some false))) else (some false)) else (none)) else (none)) else (none)) else (some false)) = some r from H)
              clear H
              go_wp2_with (((with_reducible refine gate_callee (f := 9) rfl ?_); (try (refine gate_guard (by rfl) ?_; dsimp only)); refine goesL_ (some 56) rfl rfl Try.func9 (by kernel_rfl) rfl #[.agg #[.int .i64 t9, .bool t10, .int .i64 t11, .string t12, .slice A32 t13.length cp33]] rfl (by (try simp only [List.map_toArray, List.map_cons, List.map_nil]); first | done | rfl | (simp only [List.length_drop, List.length_take]; rfl)) ?_; (with_reducible refine (ber_Check.calls k (fun k_ => (w.heap.size ≤ k_) ∧ k_ ≠ g19) t9 t10 t11 t12 _ _ t13 t98 _ (Kd.F_mono (ok := (fun k_ => (w.heap.size ≤ k_) ∧ k_ ≠ g19)) HF62.out (fun k_ hk_ => ⟨hk_.1, hk_.2⟩)) HL63.out At99.out).mono ?_); rintro e w100 ⟨rfl, hb⟩; refine ⟨_, rfl, ?_⟩); refine stop_ ?_)
              refine Stop.go ?_
              replace HF62 := Aside0.mk (Kd.F_below HF62.out hb)
              replace HF79 := Aside0.mk (Kd.F_below HF79.out hb)
              replace BKg19 := Aside0.mk (blk_below (o := .cells #[.int .i64 t9, .bool t10, .int .i64 t11, .string t12, .slice A32 t13.length cp33] 26 (0, 0)) BKg19.out hb)
              replace HB := Aside0.mk (below_step HB.out hb)
              clear hb
              clear hz85 hz86 hz87 hz88 hz89 hf90 hf91 hf92 hf93 hf94
              obtain ⟨hz101, hz102, hz103, hz104, hz105, hf106, hf107, hf108, hf109, hf110⟩ := MB.lay5 BKg19.out
              by_cases c111 : t98 = 0
              · have H := HH.out
                rw [if_pos c111] at H
                replace HH := Aside0.mk H
                clear H
                have hk112 : (t98 == 0) = true := beq_iff_eq.mpr c111
                have hk113 : (t98 != 0) = false := bne_eq_false_iff_eq.mpr c111
                clear c111
                by_cases c114 : 0 ≤ a1
                · have H := HH.out
                  rw [if_pos c114] at H
                  replace HH := Aside0.mk H
                  clear H
                  have hk115 : decide (0 ≤ a1) = true := decide_eq_true c114
                  clear c114
                  by_cases c116 : a1 ≤ t14
                  · have H := HH.out
                    rw [if_pos c116] at H
                    replace HH := Aside0.mk H
                    clear H
                    have hk117 : decide (a1 ≤ t14) = true := decide_eq_true c116
                    clear c116
                    by_cases c118 : t14 ≤ (a0.size : Int)
                    · have H := HH.out
                      rw [if_pos c118] at H
                      replace HH := Aside0.mk H
                      clear H
                      have hk119 : decide (t14 ≤ (a0.size : Int)) = true := decide_eq_true c118
                      clear c118
                      have hmx120 : max (t14 : Int) 0 = (t14 : Int) := Int.max_eq_left (Int.le_trans (by first | exact Int.natCast_nonneg _ | exact (of_decide_eq_true (by first | (with_reducible assumption) | assumption | (simp; done)) : 0 ≤ (a1 : Int))) (by first | exact Int.le_refl _ | exact (of_decide_eq_true (by first | (with_reducible assumption) | assumption | (simp; done)) : (a1 : Int) ≤ (t14 : Int))))
                      have hh0120 : (0 ≤ (t14 : Int)) = True := eq_true (Int.le_trans (by first | exact Int.natCast_nonneg _ | exact (of_decide_eq_true (by first | (with_reducible assumption) | assumption | (simp; done)) : 0 ≤ (a1 : Int))) (by first | exact Int.le_refl _ | exact (of_decide_eq_true (by first | (with_reducible assumption) | assumption | (simp; done)) : (a1 : Int) ≤ (t14 : Int))))
                      have hh1120 : ((a1 : Int) ≤ (t14 : Int)) = True := eq_true (by first | exact Int.le_refl _ | exact (of_decide_eq_true (by first | (with_reducible assumption) | assumption | (simp; done)) : (a1 : Int) ≤ (t14 : Int)))
                      have hh2120 : (0 ≤ (a1 : Int)) = True := eq_true (by first | exact Int.natCast_nonneg _ | exact (of_decide_eq_true (by first | (with_reducible assumption) | assumption | (simp; done)) : 0 ≤ (a1 : Int)))
                      have hh3120 : ((t14 : Int) ≤ (a0.size : Int)) = True := eq_true (of_decide_eq_true (by first | (with_reducible assumption) | assumption | (simp; done)) : (t14 : Int) ≤ (a0.size : Int))
                      by_cases c121 : t81.toList = (a0.extract a1.toNat t14.toNat).toList
                      · have H := HH.out
                        rw [if_pos c121] at H
                        replace HH := Aside0.mk H
                        clear H
                        have hk122 : (t81.toList == (a0.extract a1.toNat t14.toNat).toList) = true := beq_iff_eq.mpr c121
                        have hk123 : (t81.toList != (a0.extract a1.toNat t14.toNat).toList) = false := bne_eq_false_iff_eq.mpr c121
                        clear c121
                        have H := HH.out
                        replace H := Option.bind_eq_some_iff.mp H
                        obtain ⟨t124, at_, H⟩ := H
                        have At125 := Aside0.mk at_
                        clear at_
                        replace HH := Aside0.mk (show (if t124 ≤ 12 then ((toponymlaw15_awake.f k ).bind fun t139 => (some t139)) else (some false)) = some r from H)
                        clear H
                        go_wp2_with (((with_reducible refine gate_callee (f := 11) rfl ?_); (try (refine gate_guard (by rfl) ?_; dsimp only)); refine goesL_ (some 69) rfl rfl Try.func11 (by kernel_rfl) rfl #[.agg #[.int .i64 t9, .bool t10, .int .i64 t11, .string t12, .slice A32 t13.length cp33]] rfl (by (try simp only [List.map_toArray, List.map_cons, List.map_nil]); first | done | rfl | (simp only [List.length_drop, List.length_take]; rfl)) ?_; (with_reducible refine (ber_Deep.calls k (fun k_ => (w.heap.size ≤ k_) ∧ k_ ≠ g19) t9 t10 t11 t12 _ _ t13 t124 _ (Kd.F_mono (ok := (fun k_ => (w.heap.size ≤ k_) ∧ k_ ≠ g19)) HF62.out (fun k_ hk_ => ⟨hk_.1, hk_.2⟩)) HL63.out At125.out).mono ?_); rintro e w126 ⟨rfl, hb⟩; refine ⟨_, rfl, ?_⟩); refine stop_ ?_)
                        refine Stop.go ?_
                        replace HF62 := Aside0.mk (Kd.F_below HF62.out hb)
                        replace HF79 := Aside0.mk (Kd.F_below HF79.out hb)
                        replace BKg19 := Aside0.mk (blk_below (o := .cells #[.int .i64 t9, .bool t10, .int .i64 t11, .string t12, .slice A32 t13.length cp33] 26 (0, 0)) BKg19.out hb)
                        replace HB := Aside0.mk (below_step HB.out hb)
                        clear hb
                        clear hz101 hz102 hz103 hz104 hz105 hf106 hf107 hf108 hf109 hf110 hmx120 hh0120 hh1120 hh2120 hh3120
                        obtain ⟨hz127, hz128, hz129, hz130, hz131, hf132, hf133, hf134, hf135, hf136⟩ := MB.lay5 BKg19.out
                        by_cases c137 : t124 ≤ 12
                        · have H := HH.out
                          rw [if_pos c137] at H
                          replace HH := Aside0.mk H
                          clear H
                          have hk138 : decide (t124 ≤ 12) = true := decide_eq_true c137
                          clear c137
                          have H := HH.out
                          replace H := Option.bind_eq_some_iff.mp H
                          obtain ⟨t139, at_, H⟩ := H
                          have At140 := Aside0.mk at_
                          clear at_
                          replace HH := Aside0.mk (show (some t139) = some r from H)
                          clear H
                          go_wp2_with (((with_reducible refine gate_callee (f := 7) rfl ?_); (try (refine gate_guard (by rfl) ?_; dsimp only)); refine goesL_ (some 73) rfl rfl Try.func7 (by kernel_rfl) rfl #[] rfl (by (try simp only [List.map_toArray, List.map_cons, List.map_nil]); first | done | rfl | (simp only [List.length_drop, List.length_take]; rfl)) ?_; (with_reducible refine (toponymlaw15_awake.calls k  t139 _  At140.out).mono ?_); rintro e w141 ⟨rfl, hb⟩; refine ⟨_, rfl, ?_⟩); refine stop_ ?_)
                          refine Stop.go ?_
                          replace HF62 := Aside0.mk (Kd.F_below HF62.out hb)
                          replace HF79 := Aside0.mk (Kd.F_below HF79.out hb)
                          replace BKg19 := Aside0.mk (blk_below (o := .cells #[.int .i64 t9, .bool t10, .int .i64 t11, .string t12, .slice A32 t13.length cp33] 26 (0, 0)) BKg19.out hb)
                          replace HB := Aside0.mk (below_step HB.out hb)
                          clear hb
                          clear hz127 hz128 hz129 hz130 hz131 hf132 hf133 hf134 hf135 hf136
                          obtain ⟨hz142, hz143, hz144, hz145, hz146, hf147, hf148, hf149, hf150, hf151⟩ := MB.lay5 BKg19.out
                          have H := HH.out
                          obtain rfl := Option.some.inj H
                          clear HH
                          go_wp2
                          go_ret
                          exact ⟨by first | rfl | (simp; done) | (simp [*]; done), HB.out⟩
                        · have H := HH.out
                          rw [if_neg c137] at H
                          replace HH := Aside0.mk H
                          clear H
                          have hk152 : decide (t124 ≤ 12) = false := decide_eq_false c137
                          clear c137
                          have H := HH.out
                          obtain rfl := Option.some.inj H
                          clear HH
                          go_wp2
                          go_ret
                          exact ⟨by first | rfl | (simp; done) | (simp [*]; done), HB.out⟩
                      · have H := HH.out
                        rw [if_neg c121] at H
                        replace HH := Aside0.mk H
                        clear H
                        have hk153 : (t81.toList == (a0.extract a1.toNat t14.toNat).toList) = false := beq_eq_false_iff_ne.mpr c121
                        have hk154 : (t81.toList != (a0.extract a1.toNat t14.toNat).toList) = true := bne_iff_ne.mpr c121
                        clear c121
                        have H := HH.out
                        obtain rfl := Option.some.inj H
                        clear HH
                        go_wp2
                        go_ret
                        exact ⟨by first | rfl | (simp; done) | (simp [*]; done), HB.out⟩
                    · exact absurd HH.out (by rw [if_neg c118]; simp)
                  · exact absurd HH.out (by rw [if_neg c116]; simp)
                · exact absurd HH.out (by rw [if_neg c114]; simp)
              · have H := HH.out
                rw [if_neg c111] at H
                replace HH := Aside0.mk H
                clear H
                have hk158 : (t98 == 0) = false := beq_eq_false_iff_ne.mpr c111
                have hk159 : (t98 != 0) = true := bne_iff_ne.mpr c111
                clear c111
                have H := HH.out
                obtain rfl := Option.some.inj H
                clear HH
                go_wp2
                go_ret
                exact ⟨by first | rfl | (simp; done) | (simp [*]; done), HB.out⟩
            · have H := HH.out
              rw [if_neg c95] at H
              replace HH := Aside0.mk H
              clear H
              have hk160 : (t82 == 0) = false := beq_eq_false_iff_ne.mpr c95
              have hk161 : (t82 != 0) = true := bne_iff_ne.mpr c95
              clear c95
              have H := HH.out
              obtain rfl := Option.some.inj H
              clear HH
              go_wp2
              go_ret
              exact ⟨by first | rfl | (simp; done) | (simp [*]; done), HB.out⟩
    · have H := HH.out
      rw [if_neg c44] at H
      replace HH := Aside0.mk H
      clear H
      have hk162 : (t15 == 0) = false := beq_eq_false_iff_ne.mpr c44
      have hk163 : (t15 != 0) = true := bne_iff_ne.mpr c44
      clear c44
      by_cases c164 : t14 = 0
      · have H := HH.out
        rw [if_pos c164] at H
        replace HH := Aside0.mk H
        clear H
        have hk165 : (t14 == 0) = true := beq_iff_eq.mpr c164
        have hk166 : (t14 != 0) = false := bne_eq_false_iff_eq.mpr c164
        clear c164
        have HL170 := Aside0.mk (Kd.N_reads' HN18.out).2.1
        have HF169 := Aside0.mk (Kd.N_F HN18.out)
        clear HN18
        have H := HH.out
        replace H := Option.bind_eq_some_iff.mp H
        obtain ⟨t171, at_, H⟩ := H
        have At172 := Aside0.mk at_
        clear at_
        replace HH := Aside0.mk (show (if t171 = true then ((toponymlaw15_awake.f k ).bind fun t185 => (some t185)) else (some false)) = some r from H)
        clear H
        go_wp2_with (((with_reducible refine gate_callee (f := 16) rfl ?_); (try (refine gate_guard (by rfl) ?_; dsimp only)); refine goesL_ (some 28) rfl rfl Try.func16 (by kernel_rfl) rfl #[.agg #[.int .i64 t9, .bool t10, .int .i64 t11, .string t12, .slice A32 t13.length cp33], .agg #[.int .i64 0, .bool false, .int .i64 0, .string (⟨#[]⟩ : ByteArray), .slice none 0 0]] rfl (by (try simp only [List.map_toArray, List.map_cons, List.map_nil]); first | done | rfl | (simp only [List.length_drop, List.length_take]; rfl)) ?_; (refine (toponymref15_Same.calls k (fun k_ => (w.heap.size ≤ k_) ∧ k_ ≠ g19) t9 t10 t11 t12 _ _ t13 0 false 0 (⟨#[]⟩ : ByteArray) _ _ ([] : List (S26)) t171 _ (Kd.F_mono (ok := (fun k_ => (w.heap.size ≤ k_) ∧ k_ ≠ g19)) HF169.out (fun k_ hk_ => ⟨hk_.1, hk_.2⟩)) HL170.out (Kd.F_nil _ _ _) (Nat.le_refl _) At172.out).mono ?_); rintro e w173 ⟨rfl, hb⟩; refine ⟨_, rfl, ?_⟩); refine stop_ ?_)
        refine Stop.go ?_
        replace HF169 := Aside0.mk (Kd.F_below HF169.out hb)
        replace BKg19 := Aside0.mk (blk_below (o := .cells #[.int .i64 t9, .bool t10, .int .i64 t11, .string t12, .slice A32 t13.length cp33] 26 (0, 0)) BKg19.out hb)
        replace HB := Aside0.mk (below_step HB.out hb)
        clear hb
        clear hz34 hz35 hz36 hz37 hz38 hf39 hf40 hf41 hf42 hf43
        obtain ⟨hz174, hz175, hz176, hz177, hz178, hf179, hf180, hf181, hf182, hf183⟩ := MB.lay5 BKg19.out
        by_cases c184 : t171 = true
        · have H := HH.out
          rw [if_pos c184] at H
          replace HH := Aside0.mk H
          clear H
          subst c184
          have H := HH.out
          replace H := Option.bind_eq_some_iff.mp H
          obtain ⟨t185, at_, H⟩ := H
          have At186 := Aside0.mk at_
          clear at_
          replace HH := Aside0.mk (show (some t185) = some r from H)
          clear H
          go_wp2_with (((with_reducible refine gate_callee (f := 7) rfl ?_); (try (refine gate_guard (by rfl) ?_; dsimp only)); refine goesL_ (some 31) rfl rfl Try.func7 (by kernel_rfl) rfl #[] rfl (by (try simp only [List.map_toArray, List.map_cons, List.map_nil]); first | done | rfl | (simp only [List.length_drop, List.length_take]; rfl)) ?_; (with_reducible refine (toponymlaw15_awake.calls k  t185 _  At186.out).mono ?_); rintro e w187 ⟨rfl, hb⟩; refine ⟨_, rfl, ?_⟩); refine stop_ ?_)
          refine Stop.go ?_
          replace HF169 := Aside0.mk (Kd.F_below HF169.out hb)
          replace BKg19 := Aside0.mk (blk_below (o := .cells #[.int .i64 t9, .bool t10, .int .i64 t11, .string t12, .slice A32 t13.length cp33] 26 (0, 0)) BKg19.out hb)
          replace HB := Aside0.mk (below_step HB.out hb)
          clear hb
          clear hz174 hz175 hz176 hz177 hz178 hf179 hf180 hf181 hf182 hf183
          obtain ⟨hz188, hz189, hz190, hz191, hz192, hf193, hf194, hf195, hf196, hf197⟩ := MB.lay5 BKg19.out
          have H := HH.out
          obtain rfl := Option.some.inj H
          clear HH
          go_wp2
          go_ret
          exact ⟨by first | rfl | (simp; done) | (simp [*]; done), HB.out⟩
        · have H := HH.out
          rw [if_neg c184] at H
          replace HH := Aside0.mk H
          clear H
          replace c184 := Bool.eq_false_iff.mpr c184
          subst c184
          have H := HH.out
          obtain rfl := Option.some.inj H
          clear HH
          go_wp2
          go_ret
          exact ⟨by first | rfl | (simp; done) | (simp [*]; done), HB.out⟩
      · have H := HH.out
        rw [if_neg c164] at H
        replace HH := Aside0.mk H
        clear H
        have hk198 : (t14 == 0) = false := beq_eq_false_iff_ne.mpr c164
        have hk199 : (t14 != 0) = true := bne_iff_ne.mpr c164
        clear c164
        have H := HH.out
        obtain rfl := Option.some.inj H
        clear HH
        go_wp2
        go_ret
        exact ⟨by first | rfl | (simp; done) | (simp [*]; done), HB.out⟩

end Go.Proofs.Ythfonbnbffloaaa.GA
