import Derived.Test.YtapinanmmhdpcaaGA0
import Derived.Test.YtapinanmmhdpcaaGM1
import Derived.Test.YtapinanmmhdpcaaGM2
namespace Go.Proofs.Ytapinanmmhdpcaa.GA
open Go.RowKit Go.Proofs.Ytapinanmmhdpcaa Go.Proofs.Ytapinanmmhdpcaa.MW Go.Proofs.YtapinanmmhdpcaaW.PrintWords Go.Proofs.YtapinanmmhdpcaaW.PrintLast Go.Proofs.YtapinanmmhdpcaaW.PrintMore
attribute [local go_sem] max2_int min2_int max_two min_two
set_option maxHeartbeats 8000000
set_option maxRecDepth 100000
set_option linter.unusedVariables false
set_option linter.unusedSimpArgs false
def toponymlaw18_DnMoves.f (k:Nat) (l0:List (List (S53))) (l1:List (List (S53))) (l2:List (S53)):Option (Bool):=(toponymlaw18_Few.f k l0).bind fun t1=>(if t1=true then((toponymlaw18_Few.f k l1).bind fun t5=>(if t5=true then((toponymlaw18_Few.f k ([l2]:List (List (S53)))).bind fun t16=>(if t16=true then((dn_Above.f k l0).bind fun bt20=>((toponymref18_Above.f k l0).bind fun bt25=>((dn_Below.f k l0 l2).bind fun bt30=>((toponymref18_Below.f k l0 l2).bind fun bt35=>((toponymref18_Same.f k bt20.1 bt25.1).bind fun t44=>(if t44=true then(if (bt20.2==bt25.2)=true then((toponymref18_Same.f k bt30.1 bt35.1).bind fun t60=>(if t60=true then(if bt30.2=bt35.2 then((dn_Same.f k l0 l1).bind fun t67=>((toponymref18_Same.f k l0 l1).bind fun t70=>(if (t67==t70)=true then((toponymlaw18_awake.f k).bind fun t77=>(some t77)) else(some false)))) else(some false)) else(some false))) else(some false)) else(some false))))))) else((toponymlaw18_awake.f k).bind fun t90=>(some t90)))) else((toponymlaw18_awake.f k).bind fun t93=>(some t93)))) else((toponymlaw18_awake.f k).bind fun t96=>(some t96)))
theorem toponymlaw18_DnMoves.mono:∀ a0_ a1_ a2_ k,LeO (toponymlaw18_DnMoves.f k a0_ a1_ a2_) (toponymlaw18_DnMoves.f (k+1) a0_ a1_ a2_):=by
 intro a0_ a1_ a2_ k
 unfold toponymlaw18_DnMoves.f
 with_reducible repeat' first|exact dn_Above.mono _ _|exact dn_Below.mono _ _ _|exact dn_Same.mono _ _ _|exact toponymlaw18_Few.mono _ _|exact toponymlaw18_awake.mono _|exact toponymref18_Above.mono _ _|exact toponymref18_Below.mono _ _ _|exact toponymref18_Same.mono _ _ _|exact LeO.refl _|exact LeO.none _|refine LeO.ite ?_ ?_|refine LeO.bind ?_ (fun _=>?_)
theorem toponymlaw18_DnMoves.calls (k:Nat) (P_:Nat→Prop) (A0:Option Addr) (c0:Nat) (l0:List (List (S53))) (A1:Option Addr) (c1:Nat) (l1:List (List (S53))) (A2:Option Addr) (c2:Nat) (l2:List (S53)) (r:Bool) (w:World) (hs0:Kd.F (Kd.slice 53 k53) w P_ A0 l0.length l0) (hc0:l0.length≤c0) (hs1:Kd.F (Kd.slice 53 k53) w P_ A1 l1.length l1) (hc1:l1.length≤c1) (hs2:Kd.F k53 w P_ A2 l2.length l2) (hc2:l2.length≤c2) (h:toponymlaw18_DnMoves.f k l0 l1 l2=some r):
  Calls Try.prog 8 #[.slice A0 l0.length c0,.slice A1 l1.length c1,.slice A2 l2.length c2] w (fun e w'=>e=.returned (.bool r)∧Below w.heap.size w w'):=by
 unfold toponymlaw18_DnMoves.f at h
 have HH:=za h
 clear h
 have HF0:=zfp hs0
 have HL0:=za hc0
 clear hs0 hc0
 have HF1:=zfp hs1
 have HL1:=za hc1
 clear hs1 hc1
 have HF2:=zfp hs2
 have HL2:=za hc2
 clear hs2 hc2
 have HB:=za (Below.refl w.heap.size w)
 go_enter Try.func8,Try.ntmps8
 replace HH:=zd HH
 obtain⟨t1,At2,HH⟩:=HH
 go_wp2_with ((with_reducible refine gc 9 rfl ?_);refine zc 9 (some 16) Try.func9 #[.slice A0 l0.length c0] (h:=?_);(with_reducible refine(toponymlaw18_Few.calls k (fun k_=>(P_ k_∨w.heap.size≤k_)) _ _ l0 t1 _ HF0.out HL0.out At2.out).mono ?_);rintro e w' ⟨rfl,⟨nd,rfl⟩⟩;refine⟨_,rfl,?_⟩)
 refine zg ?_
 by_cases c4:t1=true
 ·replace HH:=MW.hpos HH c4
  subst c4
  replace HH:=zd HH
  obtain⟨t5,At6,HH⟩:=HH
  go_wp2_with ((with_reducible refine gc 9 rfl ?_);refine zc 9 (some 20) Try.func9 #[.slice A1 l1.length c1] (h:=?_);(with_reducible refine(toponymlaw18_Few.calls k (fun k_=>(P_ k_∨w.heap.size≤k_)) _ _ l1 t5 _ (by(with_reducible repeat(first|apply Kd.F_alloc|apply Kd.F_drewN|apply Kd.F_drew));exact HF1.out) HL1.out At6.out).mono ?_);rintro e w' ⟨rfl,⟨nd,rfl⟩⟩;refine⟨_,rfl,?_⟩)
  refine zg ?_
  by_cases c8:t5=true
  ·replace HH:=MW.hpos HH c8
   subst c8
   go_wp2_with (((with_reducible refine gate_dst (N:=25) rfl ?_);(try(refine gate_guard (by rfl) ?_;dsimp only));refine Kd.N_lit (Kd.slice 53 k53) w.heap.size 39 rfl (N':=25) rfl (xs:=([l2]:List (List (S53)))) (inner:=[.slice A2 l2.length c2]) (ok:=(fun k_=>(P_ k_∨w.heap.size≤k_))) (okp:=(fun k_=>(P_ k_∨w.heap.size≤k_))) ?hr ?hp (fun _ hk_=>hk_) ?hf (by repeat(first|(with_reducible first|exact HB.out|apply below_alloc|apply pw_below_drewN|apply below_drew1)|exact HB.out)) (below_size (by repeat(first|(with_reducible first|exact HB.out|apply below_alloc|apply pw_below_drewN|apply below_drew1)|exact HB.out))) (by first|simp|decide) ?_;(case hr=>first|(go_simp;done)|(go_simp;rfl));(case hp=>exact(Reps.one (Kd.FK_slice_mk HL2.out (by(with_reducible repeat(first|apply Kd.F_alloc|apply Kd.F_drewN|apply Kd.F_drew));exact HF2.out)) (Reps.none _ _)));(case hf=>exact(show ∀ k_,w.heap.size≤k_→(fun k_=>(P_ k_∨w.heap.size≤k_)) k_ from fun k_ h_=>.inr (Nat.le_trans (below_size (by repeat(first|(with_reducible first|exact HB.out|apply below_alloc|apply pw_below_drewN|apply below_drew1)|exact HB.out))) h_)) _ (Nat.le_refl _));intro v9 w10 hn1 hb1 hg1 hat1);replace hat1:=za hat1;refine stop_ ?_)
   refine zg ?_
   replace hat1:=hat1.out
   have hbe:=MW.grown_below hg1
   have hba:=MW.base_of hat1
   replace HF0:=za (Kd.F_mono (Kd.F_elder' (ok:=(fun k_=>(P_ k_∨w.heap.size≤k_))) (by(with_reducible repeat(first|apply Kd.F_alloc|apply Kd.F_drewN|apply Kd.F_drew));exact HF0.out) hba hbe) (fun k_ hk_=>hk_):Kd.F (Kd.slice 53 k53) _ (fun k_=>(P_ k_∨w.heap.size≤k_)∧some k_≠(v9:Value).ownBlock) _ _ _)
   replace HF1:=za (Kd.F_mono (Kd.F_elder' (ok:=(fun k_=>(P_ k_∨w.heap.size≤k_))) (by(with_reducible repeat(first|apply Kd.F_alloc|apply Kd.F_drewN|apply Kd.F_drew));exact HF1.out) hba hbe) (fun k_ hk_=>hk_):Kd.F (Kd.slice 53 k53) _ (fun k_=>(P_ k_∨w.heap.size≤k_)∧some k_≠(v9:Value).ownBlock) _ _ _)
   replace HF2:=za (Kd.F_mono (Kd.F_elder' (ok:=(fun k_=>(P_ k_∨w.heap.size≤k_))) (by(with_reducible repeat(first|apply Kd.F_alloc|apply Kd.F_drewN|apply Kd.F_drew));exact HF2.out) hba hbe) (fun k_ hk_=>hk_):Kd.F k53 _ (fun k_=>(P_ k_∨w.heap.size≤k_)∧some k_≠(v9:Value).ownBlock) _ _ _)
   replace HB:=za hb1
   have HN11:=za hn1
   clear hn1 hb1 hg1 hat1 hbe hba
   obtain⟨A12,cp13,he_⟩:=Kd.N_slice HN11.out
   subst he_
   have HL15:=za (Kd.N_reads' HN11.out).2.1
   have HF14:=za (Kd.N_F HN11.out)
   clear HN11
   replace HF0:=za (Kd.F_mono (ok:=(fun k_=>(P_ k_∨w.heap.size≤k_)∧some k_≠((.slice A12 ([l2]:List (List (S53))).length cp13):Value).ownBlock)) HF0.out (fun k_ hk_=>hk_.1):Kd.F (Kd.slice 53 k53) _ (fun k_=>(P_ k_∨w.heap.size≤k_)) _ _ _)
   replace HF1:=za (Kd.F_mono (ok:=(fun k_=>(P_ k_∨w.heap.size≤k_)∧some k_≠((.slice A12 ([l2]:List (List (S53))).length cp13):Value).ownBlock)) HF1.out (fun k_ hk_=>hk_.1):Kd.F (Kd.slice 53 k53) _ (fun k_=>(P_ k_∨w.heap.size≤k_)) _ _ _)
   replace HF2:=za (Kd.F_mono (ok:=(fun k_=>(P_ k_∨w.heap.size≤k_)∧some k_≠((.slice A12 ([l2]:List (List (S53))).length cp13):Value).ownBlock)) HF2.out (fun k_ hk_=>hk_.1):Kd.F k53 _ (fun k_=>(P_ k_∨w.heap.size≤k_)) _ _ _)
   replace HH:=zd HH
   obtain⟨t16,At17,HH⟩:=HH
   go_wp2_with ((with_reducible refine gc 9 rfl ?_);refine zc 9 (some 26) Try.func9 #[.slice A12 ([l2]:List (List (S53))).length cp13] (h:=?_);(with_reducible refine(toponymlaw18_Few.calls k (fun k_=>(P_ k_∨w.heap.size≤k_)) _ _ ([l2]:List (List (S53))) t16 _ HF14.out HL15.out At17.out).mono ?_);rintro e w' ⟨rfl,⟨nd,rfl⟩⟩;refine⟨_,rfl,?_⟩)
   refine zg ?_
   by_cases c19:t16=true
   ·replace HH:=MW.hpos HH c19
    subst c19
    replace HH:=zd HH
    obtain⟨⟨t20,t21⟩,At22,HH⟩:=HH
    dsimp only at HH
    go_wp2_with ((with_reducible refine gc 20 rfl ?_);refine zc 20 (some 32) Try.func20 #[.slice A0 l0.length c0] (h:=?_);(with_reducible refine(dn_Above.calls k (fun k_=>(P_ k_∨w.heap.size≤k_)) _ _ l0 t20 t21 _ (by(with_reducible repeat(first|apply Kd.F_alloc|apply Kd.F_drewN|apply Kd.F_drew));exact HF0.out) HL0.out At22.out).mono ?_);rintro e w23 ⟨v24,rfl,hn24,hb⟩;refine⟨_,rfl,?_⟩)
    refine zg ?_
    have hba:=Kd.N_base hn24
    have HN24:=znl (ok2:=(fun k_=>(P_ k_∨w.heap.size≤k_))) hn24 (below_size (by repeat(first|(with_reducible first|exact HB.out|apply below_alloc|apply pw_below_drewN|apply below_drew1)|exact HB.out))) (fun k_ hk_=>hk_.elim (fun h_=>h_) (fun h_=>.inr (Nat.le_trans (below_size (by repeat(first|(with_reducible first|exact HB.out|apply below_alloc|apply pw_below_drewN|apply below_drew1)|exact HB.out))) h_)))
    replace HF0:=zfr (v:=v24) (by(with_reducible repeat(first|apply Kd.F_alloc|apply Kd.F_drewN|apply Kd.F_drew));exact HF0.out) hba hb
    replace HF1:=zfr (v:=v24) (by(with_reducible repeat(first|apply Kd.F_alloc|apply Kd.F_drewN|apply Kd.F_drew));exact HF1.out) hba hb
    replace HF2:=zfr (v:=v24) (by(with_reducible repeat(first|apply Kd.F_alloc|apply Kd.F_drewN|apply Kd.F_drew));exact HF2.out) hba hb
    replace HB:=zhb (by repeat(first|(with_reducible first|exact HB.out|apply below_alloc|apply pw_below_drewN|apply below_drew1)|exact HB.out)) hb
    clear hn24 hba hb
    replace HH:=zd HH
    obtain⟨⟨t25,t26⟩,At27,HH⟩:=HH
    dsimp only at HH
    go_wp2_with ((with_reducible refine gc 25 rfl ?_);refine zc 25 (some 37) Try.func25 #[.slice A0 l0.length c0] (h:=?_);(with_reducible refine(toponymref18_Above.calls k (fun k_=>(P_ k_∨w.heap.size≤k_)∧some k_≠(v24:Value).ownBlock) _ _ l0 t25 t26 _ HF0.out HL0.out At27.out).mono ?_);rintro e w28 ⟨A29,cp29,rfl,hl29,hn29,hb⟩;refine⟨_,rfl,?_⟩)
    refine zg ?_
    have HL29:=za hl29
    have HF29:=za (Kd.F_mono hn29 (fun k_ hk_=>hk_.elim (fun h_=>h_) (fun h_=>⟨.inr (Nat.le_trans (below_size HB.out) h_),Kd.fresh' (Kd.N_lt HN24.out) k_ h_⟩)):Kd.F (Kd.slice 53 k53) _ (fun k_=>(P_ k_∨w.heap.size≤k_)∧some k_≠(v24:Value).ownBlock) _ _ _)
    clear hn29 hl29
    replace HF0:=zfb HF0.out hb
    replace HF1:=zfb HF1.out hb
    replace HF2:=zfb HF2.out hb
    replace HN24:=znb HN24.out hb
    replace HB:=zhb HB.out hb
    clear hb
    replace HH:=zd HH
    obtain⟨⟨t30,t31⟩,At32,HH⟩:=HH
    dsimp only at HH
    go_wp2_with ((with_reducible refine gc 19 rfl ?_);refine zc 19 (some 43) Try.func19 #[.slice A0 l0.length c0,.slice A2 l2.length c2] (h:=?_);(with_reducible refine(dn_Below.calls k (fun k_=>(P_ k_∨w.heap.size≤k_)∧some k_≠(v24:Value).ownBlock) _ _ l0 _ _ l2 t30 t31 _ HF0.out HL0.out HF2.out HL2.out At32.out).mono ?_);rintro e w33 ⟨v34,rfl,hn34,hb⟩;refine⟨_,rfl,?_⟩)
    refine zg ?_
    have hba:=Kd.N_base hn34
    have HN34:=znl (ok2:=(fun k_=>(P_ k_∨w.heap.size≤k_)∧some k_≠(v24:Value).ownBlock)) hn34 (below_size HB.out) (fun k_ hk_=>hk_.elim (fun h_=>h_) (fun h_=>⟨.inr (Nat.le_trans (below_size HB.out) h_),Kd.fresh' (Kd.N_lt HN24.out) k_ h_⟩))
    replace HF0:=zfr (v:=v34) HF0.out hba hb
    replace HF1:=zfr (v:=v34) HF1.out hba hb
    replace HF2:=zfr (v:=v34) HF2.out hba hb
    replace HF29:=zfr (v:=v34) HF29.out hba hb
    replace HN24:=znr (u:=v34) HN24.out hba hb
    replace HB:=zhb HB.out hb
    clear hn34 hba hb
    replace HH:=zd HH
    obtain⟨⟨t35,t36⟩,At37,HH⟩:=HH
    dsimp only at HH
    go_wp2_with ((with_reducible refine gc 26 rfl ?_);refine zc 26 (some 49) Try.func26 #[.slice A0 l0.length c0,.slice A2 l2.length c2] (h:=?_);(with_reducible refine(toponymref18_Below.calls k (fun k_=>((P_ k_∨w.heap.size≤k_)∧some k_≠(v24:Value).ownBlock)∧some k_≠(v34:Value).ownBlock) _ _ l0 _ _ l2 t35 t36 _ HF0.out HL0.out HF2.out HL2.out At37.out).mono ?_);rintro e w38 ⟨v39,rfl,hn39,hb⟩;refine⟨_,rfl,?_⟩)
    refine zg ?_
    have hba:=Kd.N_base hn39
    have HN39:=znl (ok2:=(fun k_=>((P_ k_∨w.heap.size≤k_)∧some k_≠(v24:Value).ownBlock)∧some k_≠(v34:Value).ownBlock)) hn39 (below_size HB.out) (fun k_ hk_=>hk_.elim (fun h_=>h_) (fun h_=>⟨⟨.inr (Nat.le_trans (below_size HB.out) h_),Kd.fresh' (Kd.N_lt HN24.out) k_ h_⟩,Kd.fresh' (Kd.N_lt HN34.out) k_ h_⟩))
    replace HF0:=zfr (v:=v39) HF0.out hba hb
    replace HF1:=zfr (v:=v39) HF1.out hba hb
    replace HF29:=zfr (v:=v39) HF29.out hba hb
    replace HN24:=znr (u:=v39) HN24.out hba hb
    replace HN34:=znr (u:=v39) HN34.out hba hb
    replace HB:=zhb HB.out hb
    clear hn39 hba hb
    obtain⟨A40,cp41,he_⟩:=Kd.N_slice HN24.out
    subst he_
    have HL43:=za (Kd.N_reads' HN24.out).2.1
    have HF42:=za (Kd.N_F HN24.out)
    clear HN24
    replace HF0:=za (Kd.F_mono (ok:=(fun k_=>(((P_ k_∨w.heap.size≤k_)∧some k_≠((.slice A40 t20.length cp41):Value).ownBlock)∧some k_≠(v34:Value).ownBlock)∧some k_≠(v39:Value).ownBlock)) HF0.out (fun k_ hk_=>⟨⟨hk_.1.1.1,hk_.1.2⟩,hk_.2⟩):Kd.F (Kd.slice 53 k53) _ (fun k_=>((P_ k_∨w.heap.size≤k_)∧some k_≠(v34:Value).ownBlock)∧some k_≠(v39:Value).ownBlock) _ _ _)
    replace HF1:=za (Kd.F_mono (ok:=(fun k_=>(((P_ k_∨w.heap.size≤k_)∧some k_≠((.slice A40 t20.length cp41):Value).ownBlock)∧some k_≠(v34:Value).ownBlock)∧some k_≠(v39:Value).ownBlock)) HF1.out (fun k_ hk_=>⟨⟨hk_.1.1.1,hk_.1.2⟩,hk_.2⟩):Kd.F (Kd.slice 53 k53) _ (fun k_=>((P_ k_∨w.heap.size≤k_)∧some k_≠(v34:Value).ownBlock)∧some k_≠(v39:Value).ownBlock) _ _ _)
    replace HF29:=za (Kd.F_mono (ok:=(fun k_=>(((P_ k_∨w.heap.size≤k_)∧some k_≠((.slice A40 t20.length cp41):Value).ownBlock)∧some k_≠(v34:Value).ownBlock)∧some k_≠(v39:Value).ownBlock)) HF29.out (fun k_ hk_=>⟨⟨hk_.1.1.1,hk_.1.2⟩,hk_.2⟩):Kd.F (Kd.slice 53 k53) _ (fun k_=>((P_ k_∨w.heap.size≤k_)∧some k_≠(v34:Value).ownBlock)∧some k_≠(v39:Value).ownBlock) _ _ _)
    replace HN34:=za (Kd.N_mono (ok:=(fun k_=>((P_ k_∨w.heap.size≤k_)∧some k_≠((.slice A40 t20.length cp41):Value).ownBlock)∧some k_≠(v39:Value).ownBlock)) HN34.out (fun k_ hk_=>⟨hk_.1.1,hk_.2⟩):Kd.N (Kd.slice 53 k53) _ _ _ (fun k_=>(P_ k_∨w.heap.size≤k_)∧some k_≠(v39:Value).ownBlock) _ _)
    replace HN39:=za (Kd.N_mono (ok:=(fun k_=>((P_ k_∨w.heap.size≤k_)∧some k_≠((.slice A40 t20.length cp41):Value).ownBlock)∧some k_≠(v34:Value).ownBlock)) HN39.out (fun k_ hk_=>⟨hk_.1.1,hk_.2⟩):Kd.N (Kd.slice 53 k53) _ _ _ (fun k_=>(P_ k_∨w.heap.size≤k_)∧some k_≠(v34:Value).ownBlock) _ _)
    replace HH:=zd HH
    obtain⟨t44,At45,HH⟩:=HH
    go_wp2_with ((with_reducible refine gc 18 rfl ?_);refine zc 18 (some 54) Try.func18 #[.slice A40 t20.length cp41,.slice A29 t25.length cp29] (h:=?_);(with_reducible refine(toponymref18_Same.calls k (fun k_=>((P_ k_∨w.heap.size≤k_)∧some k_≠(v34:Value).ownBlock)∧some k_≠(v39:Value).ownBlock) _ _ t20 _ _ t25 t44 _ HF42.out HL43.out HF29.out HL29.out At45.out).mono ?_);rintro e w' ⟨rfl,⟨nd,rfl⟩⟩;refine⟨_,rfl,?_⟩)
    refine zg ?_
    by_cases c47:t44=true
    ·replace HH:=MW.hpos HH c47
     subst c47
     by_cases c48:(t21==t26)=true
     ·replace HH:=MW.hpos HH c48
      have hk49:(t21==t26)=true:=c48
      try have hk50:decide (t21=t26)=true:=by simpa using c48
      try have hk51:(t21==t26)=true:=by simpa using c48
      clear c48
      obtain⟨A52,cp53,he_⟩:=Kd.N_slice HN34.out
      subst he_
      have HL55:=za (Kd.N_reads' HN34.out).2.1
      have HF54:=za (Kd.N_F HN34.out)
      clear HN34
      replace HF0:=za (Kd.F_mono (ok:=(fun k_=>((P_ k_∨w.heap.size≤k_)∧some k_≠((.slice A52 t30.length cp53):Value).ownBlock)∧some k_≠(v39:Value).ownBlock)) HF0.out (fun k_ hk_=>⟨hk_.1.1,hk_.2⟩):Kd.F (Kd.slice 53 k53) _ (fun k_=>(P_ k_∨w.heap.size≤k_)∧some k_≠(v39:Value).ownBlock) _ _ _)
      replace HF1:=za (Kd.F_mono (ok:=(fun k_=>((P_ k_∨w.heap.size≤k_)∧some k_≠((.slice A52 t30.length cp53):Value).ownBlock)∧some k_≠(v39:Value).ownBlock)) HF1.out (fun k_ hk_=>⟨hk_.1.1,hk_.2⟩):Kd.F (Kd.slice 53 k53) _ (fun k_=>(P_ k_∨w.heap.size≤k_)∧some k_≠(v39:Value).ownBlock) _ _ _)
      replace HN39:=za (Kd.N_mono (ok:=(fun k_=>(P_ k_∨w.heap.size≤k_)∧some k_≠((.slice A52 t30.length cp53):Value).ownBlock)) HN39.out (fun k_ hk_=>hk_.1):Kd.N (Kd.slice 53 k53) _ _ _ (fun k_=>(P_ k_∨w.heap.size≤k_)) _ _)
      obtain⟨A56,cp57,he_⟩:=Kd.N_slice HN39.out
      subst he_
      have HL59:=za (Kd.N_reads' HN39.out).2.1
      have HF58:=za (Kd.N_F HN39.out)
      clear HN39
      replace HF0:=za (Kd.F_mono (ok:=(fun k_=>(P_ k_∨w.heap.size≤k_)∧some k_≠((.slice A56 t35.length cp57):Value).ownBlock)) HF0.out (fun k_ hk_=>hk_.1):Kd.F (Kd.slice 53 k53) _ (fun k_=>(P_ k_∨w.heap.size≤k_)) _ _ _)
      replace HF1:=za (Kd.F_mono (ok:=(fun k_=>(P_ k_∨w.heap.size≤k_)∧some k_≠((.slice A56 t35.length cp57):Value).ownBlock)) HF1.out (fun k_ hk_=>hk_.1):Kd.F (Kd.slice 53 k53) _ (fun k_=>(P_ k_∨w.heap.size≤k_)) _ _ _)
      replace HF54:=za (Kd.F_mono (ok:=(fun k_=>(P_ k_∨w.heap.size≤k_)∧some k_≠((.slice A56 t35.length cp57):Value).ownBlock)) HF54.out (fun k_ hk_=>hk_.1):Kd.F (Kd.slice 53 k53) _ (fun k_=>(P_ k_∨w.heap.size≤k_)) _ _ _)
      replace HH:=zd HH
      obtain⟨t60,At61,HH⟩:=HH
      go_wp2_with ((with_reducible refine gc 18 rfl ?_);refine zc 18 (some 63) Try.func18 #[.slice A52 t30.length cp53,.slice A56 t35.length cp57] (h:=?_);(with_reducible refine(toponymref18_Same.calls k (fun k_=>(P_ k_∨w.heap.size≤k_)) _ _ t30 _ _ t35 t60 _ (by(with_reducible repeat(first|apply Kd.F_alloc|apply Kd.F_drewN|apply Kd.F_drew));exact HF54.out) HL55.out (by(with_reducible repeat(first|apply Kd.F_alloc|apply Kd.F_drewN|apply Kd.F_drew));exact HF58.out) HL59.out At61.out).mono ?_);rintro e w' ⟨rfl,⟨nd,rfl⟩⟩;refine⟨_,rfl,?_⟩)
      refine zg ?_
      by_cases c63:t60=true
      ·replace HH:=MW.hpos HH c63
       subst c63
       replace HH:=zqe HH
       rcases HH with⟨HH,hk65,hk66⟩|⟨HH,hk84,hk85⟩
       ·replace HH:=zd HH
        obtain⟨t67,At68,HH⟩:=HH
        go_wp2_with ((with_reducible refine gc 24 rfl ?_);refine zc 24 (some 73) Try.func24 #[.slice A0 l0.length c0,.slice A1 l1.length c1] (h:=?_);(with_reducible refine(dn_Same.calls k (fun k_=>(P_ k_∨w.heap.size≤k_)) _ _ l0 _ _ l1 t67 _ (by(with_reducible repeat(first|apply Kd.F_alloc|apply Kd.F_drewN|apply Kd.F_drew));exact HF0.out) HL0.out (by(with_reducible repeat(first|apply Kd.F_alloc|apply Kd.F_drewN|apply Kd.F_drew));exact HF1.out) HL1.out At68.out).mono ?_);rintro e w69 ⟨rfl,hb⟩;refine⟨_,rfl,?_⟩)
        refine zg ?_
        replace HF0:=zfb (by(with_reducible repeat(first|apply Kd.F_alloc|apply Kd.F_drewN|apply Kd.F_drew));exact HF0.out) hb
        replace HF1:=zfb (by(with_reducible repeat(first|apply Kd.F_alloc|apply Kd.F_drewN|apply Kd.F_drew));exact HF1.out) hb
        replace HB:=zhb (by repeat(first|(with_reducible first|exact HB.out|apply below_alloc|apply pw_below_drewN|apply below_drew1)|exact HB.out)) hb
        clear hb
        replace HH:=zd HH
        obtain⟨t70,At71,HH⟩:=HH
        go_wp2_with ((with_reducible refine gc 18 rfl ?_);refine zc 18 (some 76) Try.func18 #[.slice A0 l0.length c0,.slice A1 l1.length c1] (h:=?_);(with_reducible refine(toponymref18_Same.calls k (fun k_=>(P_ k_∨w.heap.size≤k_)) _ _ l0 _ _ l1 t70 _ HF0.out HL0.out HF1.out HL1.out At71.out).mono ?_);rintro e w' ⟨rfl,⟨nd,rfl⟩⟩;refine⟨_,rfl,?_⟩)
        refine zg ?_
        by_cases c73:(t67==t70)=true
        ·replace HH:=MW.hpos HH c73
         have hk74:(t67==t70)=true:=c73
         try have hk75:decide (t67=t70)=true:=by simpa using c73
         try have hk76:(t67==t70)=true:=by simpa using c73
         clear c73
         replace HH:=zd HH
         obtain⟨t77,At78,HH⟩:=HH
         go_wp2_with ((with_reducible refine gc 10 rfl ?_);refine zc 10 (some 80) Try.func10 #[] (h:=?_);(with_reducible refine(toponymlaw18_awake.calls k  t77 _  At78.out).mono ?_);rintro e w79 ⟨rfl,hb⟩;refine⟨_,rfl,?_⟩)
         refine zg ?_
         replace HB:=zhb (by repeat(first|(with_reducible first|exact HB.out|apply below_alloc|apply pw_below_drewN|apply below_drew1)|exact HB.out)) hb
         clear hb
         obtain rfl:=Option.some.inj HH.out
         clear HH
         go_wp2
         go_ret
         exact zfi HB.out
        replace HH:=MW.hneg HH c73
        have hk80:(t67==t70)=false:=by simpa using c73
        try have hk81:decide (t67=t70)=false:=by simpa using c73
        try have hk82:(t67==t70)=false:=by simpa using c73
        try have hk83: ¬ (t67=t70):=by simpa using c73
        clear c73
        obtain rfl:=Option.some.inj HH.out
        clear HH
        go_wp2
        go_ret
        exact zfi (by repeat(first|(with_reducible first|exact HB.out|apply below_alloc|apply pw_below_drewN|apply below_drew1)|exact HB.out))
       obtain rfl:=Option.some.inj HH.out
       clear HH
       go_wp2
       go_ret
       exact zfi (by repeat(first|(with_reducible first|exact HB.out|apply below_alloc|apply pw_below_drewN|apply below_drew1)|exact HB.out))
      replace HH:=MW.hneg HH c63
      replace c63:=Bool.eq_false_iff.mpr c63
      subst c63
      obtain rfl:=Option.some.inj HH.out
      clear HH
      go_wp2
      go_ret
      exact zfi (by repeat(first|(with_reducible first|exact HB.out|apply below_alloc|apply pw_below_drewN|apply below_drew1)|exact HB.out))
     replace HH:=MW.hneg HH c48
     have hk86:(t21==t26)=false:=by simpa using c48
     try have hk87:decide (t21=t26)=false:=by simpa using c48
     try have hk88:(t21==t26)=false:=by simpa using c48
     try have hk89: ¬ (t21=t26):=by simpa using c48
     clear c48
     obtain rfl:=Option.some.inj HH.out
     clear HH
     go_wp2
     go_ret
     exact zfi (by repeat(first|(with_reducible first|exact HB.out|apply below_alloc|apply pw_below_drewN|apply below_drew1)|exact HB.out))
    replace HH:=MW.hneg HH c47
    replace c47:=Bool.eq_false_iff.mpr c47
    subst c47
    obtain rfl:=Option.some.inj HH.out
    clear HH
    go_wp2
    go_ret
    exact zfi (by repeat(first|(with_reducible first|exact HB.out|apply below_alloc|apply pw_below_drewN|apply below_drew1)|exact HB.out))
   replace HH:=MW.hneg HH c19
   replace c19:=Bool.eq_false_iff.mpr c19
   subst c19
   replace HH:=zd HH
   obtain⟨t90,At91,HH⟩:=HH
   go_wp2_with ((with_reducible refine gc 10 rfl ?_);refine zc 10 (some 29) Try.func10 #[] (h:=?_);(with_reducible refine(toponymlaw18_awake.calls k  t90 _  At91.out).mono ?_);rintro e w92 ⟨rfl,hb⟩;refine⟨_,rfl,?_⟩)
   refine zg ?_
   replace HB:=zhb (by repeat(first|(with_reducible first|exact HB.out|apply below_alloc|apply pw_below_drewN|apply below_drew1)|exact HB.out)) hb
   clear hb
   obtain rfl:=Option.some.inj HH.out
   clear HH
   go_wp2
   go_ret
   exact zfi HB.out
  replace HH:=MW.hneg HH c8
  replace c8:=Bool.eq_false_iff.mpr c8
  subst c8
  replace HH:=zd HH
  obtain⟨t93,At94,HH⟩:=HH
  go_wp2_with ((with_reducible refine gc 10 rfl ?_);refine zc 10 (some 29) Try.func10 #[] (h:=?_);(with_reducible refine(toponymlaw18_awake.calls k  t93 _  At94.out).mono ?_);rintro e w95 ⟨rfl,hb⟩;refine⟨_,rfl,?_⟩)
  refine zg ?_
  replace HB:=zhb (by repeat(first|(with_reducible first|exact HB.out|apply below_alloc|apply pw_below_drewN|apply below_drew1)|exact HB.out)) hb
  clear hb
  obtain rfl:=Option.some.inj HH.out
  clear HH
  go_wp2
  go_ret
  exact zfi HB.out
 replace HH:=MW.hneg HH c4
 replace c4:=Bool.eq_false_iff.mpr c4
 subst c4
 replace HH:=zd HH
 obtain⟨t96,At97,HH⟩:=HH
 go_wp2_with ((with_reducible refine gc 10 rfl ?_);refine zc 10 (some 29) Try.func10 #[] (h:=?_);(with_reducible refine(toponymlaw18_awake.calls k  t96 _  At97.out).mono ?_);rintro e w98 ⟨rfl,hb⟩;refine⟨_,rfl,?_⟩)
 refine zg ?_
 replace HB:=zhb (by repeat(first|(with_reducible first|exact HB.out|apply below_alloc|apply pw_below_drewN|apply below_drew1)|exact HB.out)) hb
 clear hb
 obtain rfl:=Option.some.inj HH.out
 clear HH
 go_wp2
 go_ret
 exact zfi HB.out
end Go.Proofs.Ytapinanmmhdpcaa.GA
