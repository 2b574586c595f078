import Derived.Test.YtcokpnajkkjclaaGA0
import Derived.Test.YtcokpnajkkjclaaGAF15
import Derived.Test.YtcokpnajkkjclaaGAF16
import Derived.Test.YtcokpnajkkjclaaGM1
namespace Go.Proofs.Ytcokpnajkkjclaa.GA
open Go.RowKit Go.Proofs.Ytcokpnajkkjclaa Go.Proofs.Ytcokpnajkkjclaa.MW Go.Proofs.YtcokpnajkkjclaaW.PrintWords Go.Proofs.YtcokpnajkkjclaaW.PrintLast Go.Proofs.YtcokpnajkkjclaaW.PrintMore
attribute [local go_sem] max2_int min2_int max_two min_two
set_option maxHeartbeats 8000000
set_option maxRecDepth 100000
set_option linter.unusedVariables false
set_option linter.unusedSimpArgs false
attribute [local go_sem high] eqA37
def toponymlaw02_awake.f (k:Nat)  :Option (Bool):=(span_Build.f k [(⟨10,20,1⟩:S37),(⟨15,17,2⟩:S37),(⟨21,30,1⟩:S37)]).bind fun bt8=>(if bt8.2=0 then(if (bt8.1.length:Int)=3 then(if 2<(bt8.1.length:Int) then(if (((rd_T37 bt8.1 (2:Int)).f0)==18 && (((rd_T37 bt8.1 (2:Int)).f1)==30 && (((rd_T37 bt8.1 (2:Int)).f2)==1)))=true then((span_Find.f k bt8.1 16).bind fun t35=>(if t35=2 then((span_Find.f k bt8.1 31).bind fun t41=>(if t41=0 then((span_Count.f k bt8.1 1).bind fun t47=>(if t47=18 then((span_Check.f k bt8.1).bind fun t53=>(if t53=0 then((span_Check.f k [(⟨1,0,0⟩:S37)]).bind fun t66=>(some (t66==20))) else(some false))) else(some false))) else(some false))) else(some false))) else(some false)) else(none)) else(some false)) else(some false))
theorem toponymlaw02_awake.mono:∀ k,LeO (toponymlaw02_awake.f k) (toponymlaw02_awake.f (k+1)):=by
 intro  k
 unfold toponymlaw02_awake.f
 with_reducible repeat' first|exact span_Build.mono _ _|exact span_Check.mono _ _|exact span_Count.mono _ _ _|exact span_Find.mono _ _ _|exact LeO.refl _|exact LeO.none _|refine LeO.ite ?_ ?_|refine LeO.bind ?_ (fun _=>?_)
theorem toponymlaw02_awake.calls (k:Nat) (r:Bool) (w:World) (h:toponymlaw02_awake.f k  =some r):
  Calls Try.prog 8 #[] w (fun e w'=>e=.returned (.bool r)∧Below w.heap.size w w'):=by
 unfold toponymlaw02_awake.f at h
 have HH:=za h
 clear h
 have HB:=za (Below.refl w.heap.size w)
 have hu37:=Try.underlying37
 go_enter Try.func8,Try.ntmps8
 go_wp2_with (((with_reducible refine gate_dst (N:=7) rfl ?_);(try(refine gate_guard (by rfl) ?_;dsimp only));refine Kd.N_lit k37 w.heap.size 37 rfl (N':=7) rfl (xs:=[(⟨10,20,1⟩:S37),(⟨15,17,2⟩:S37),(⟨21,30,1⟩:S37)]) (inner:=[.int .i32 10,.int .i32 20,.int .i64 1,.int .i32 15,.int .i32 17,.int .i64 2,.int .i32 21,.int .i32 30,.int .i64 1]) (ok:=(fun k_=>(w.heap.size≤k_))) (okp:=(fun k_=>(w.heap.size≤k_))) ?hr ?hp (fun _ hk_=>hk_) ?hf HB.out (below_size HB.out) (by first|simp|decide) ?_;(case hr=>first|(go_simp;done)|(go_simp;rfl));(case hp=>exact(Reps.c3 (k37_mkF _ _ (⟨10,20,1⟩:S37)) (Reps.c3 (k37_mkF _ _ (⟨15,17,2⟩:S37)) (Reps.c3 (k37_mkF _ _ (⟨21,30,1⟩:S37)) (Reps.none _ _)))));(case hf=>exact(show ∀ k_,w.heap.size≤k_→(fun k_=>(w.heap.size≤k_)) k_ from fun k_ h_=>(Nat.le_trans (below_size HB.out) h_)) _ (Nat.le_refl _));intro v1 w2 hn1 hb1 hg1 hat1);replace hat1:=za hat1;refine stop_ ?_)
 refine zg ?_
 replace hat1:=hat1.out
 have hbe:=MW.grown_below hg1
 have hba:=MW.base_of hat1
 replace HB:=za hb1
 have HN3:=za hn1
 clear hn1 hb1 hg1 hat1 hbe hba
 obtain⟨A4,cp5,he_⟩:=Kd.N_slice HN3.out
 subst he_
 have HL7:=za (Kd.N_reads' HN3.out).2.1
 have HF6:=za (Kd.N_F HN3.out)
 clear HN3
 replace HH:=zd HH
 obtain⟨⟨t8,t9⟩,At10,HH⟩:=HH
 dsimp only at HH
 go_wp2_with ((with_reducible refine gc 15 rfl ?_);refine zc 15 (some 8) Try.func15 #[.slice A4 [(⟨10,20,1⟩:S37),(⟨15,17,2⟩:S37),(⟨21,30,1⟩:S37)].length cp5] (h:=?_);(with_reducible refine(span_Build.calls k (fun k_=>(w.heap.size≤k_)) _ _ [(⟨10,20,1⟩:S37),(⟨15,17,2⟩:S37),(⟨21,30,1⟩:S37)] t8 t9 _ HF6.out HL7.out At10.out).mono ?_);rintro e w11 ⟨v12,rfl,hn12,hb⟩;refine⟨_,rfl,?_⟩)
 refine zg ?_
 have hba:=Kd.N_base hn12
 have HN12:=znl (ok2:=(fun k_=>(w.heap.size≤k_))) hn12 (below_size HB.out) (fun k_ hk_=>hk_.elim (fun h_=>h_) (fun h_=>(Nat.le_trans (below_size HB.out) h_)))
 replace HB:=zhb HB.out hb
 clear hn12 hba hb
 replace HH:=zqe HH
 rcases HH with⟨HH,hk14,hk15⟩|⟨HH,hk87,hk88⟩
 ·obtain⟨A16,cp17,he_⟩:=Kd.N_slice HN12.out
  subst he_
  replace HH:=zqe HH
  rcases HH with⟨HH,hk19,hk20⟩|⟨HH,hk85,hk86⟩
  ·replace HH:=zqno 2 HH
   obtain⟨HH,hk22,hk23,hk24,hk25⟩:=HH
   have p26:0≤(2:Int):=by decide
   have q26:(2:Int)<(t8.length:Int):=of_decide_eq_true (by first|(with_reducible assumption)|assumption)
   obtain⟨ad26,e26,hx26_0,hx26_1,hx26_2⟩:=atF_T37 (Kd.N_F HN12.out) (2:Int) p26 q26
   cases e26
   (try simp only[show((2:Int)).toNat=2 from rfl,show 2*3=6 from rfl] at hx26_0)
   (try simp only[Nat.reduceMul,Nat.reduceEqDiff,Go.Addr.add,↓reduceIte] at hx26_0)
   (try simp only[show((2:Int)).toNat=2 from rfl,show 2*3=6 from rfl] at hx26_1)
   (try simp only[Nat.reduceMul,Nat.reduceEqDiff,Go.Addr.add,↓reduceIte] at hx26_1)
   (try simp only[show((2:Int)).toNat=2 from rfl,show 2*3=6 from rfl] at hx26_2)
   (try simp only[Nat.reduceMul,Nat.reduceEqDiff,Go.Addr.add,↓reduceIte] at hx26_2)
   replace p26:=eq_true p26
   replace q26:=eq_true q26
   by_cases c27:(((rd_T37 t8 (2:Int)).f0)==18 && (((rd_T37 t8 (2:Int)).f1)==30 && (((rd_T37 t8 (2:Int)).f2)==1)))=true
   ·replace HH:=MW.hpos HH c27
    have hk28:(((rd_T37 t8 (2:Int)).f0)==18 && (((rd_T37 t8 (2:Int)).f1)==30 && (((rd_T37 t8 (2:Int)).f2)==1)))=true:=c27
    try have hk29:decide (((rd_T37 t8 (2:Int)).f0)=18 && (((rd_T37 t8 (2:Int)).f1)==30 && (((rd_T37 t8 (2:Int)).f2)==1)))=true:=by simpa using c27
    try have hk30:(((rd_T37 t8 (2:Int)).f0)==18 && (((rd_T37 t8 (2:Int)).f1)==30 && (((rd_T37 t8 (2:Int)).f2)==1)))=true:=by simpa using c27
    clear c27
    have HL34:=za (Kd.N_reads' HN12.out).2.1
    have HF33:=za (Kd.N_F HN12.out)
    clear HN12
    replace HH:=zd HH
    obtain⟨t35,At36,HH⟩:=HH
    go_wp2_with ((with_reducible refine gc 11 rfl ?_);refine zc 11 (some 27) Try.func11 #[.slice (some ad26) t8.length cp17,.int .i32 16] (h:=?_);(with_reducible refine(span_Find.calls k (fun k_=>(w.heap.size≤k_)) _ _ t8 16 t35 _ HF33.out HL34.out At36.out).mono ?_);rintro e w37 ⟨rfl,hb⟩;refine⟨_,rfl,?_⟩)
    refine zg ?_
    replace HF33:=zfb HF33.out hb
    replace HB:=zhb HB.out hb
    clear hb
    clear hx26_0 hx26_1 hx26_2 p26 q26
    replace HH:=zqe HH
    rcases HH with⟨HH,hk39,hk40⟩|⟨HH,hk75,hk76⟩
    ·replace HH:=zd HH
     obtain⟨t41,At42,HH⟩:=HH
     go_wp2_with ((with_reducible refine gc 11 rfl ?_);refine zc 11 (some 32) Try.func11 #[.slice (some ad26) t8.length cp17,.int .i32 31] (h:=?_);(with_reducible refine(span_Find.calls k (fun k_=>(w.heap.size≤k_)) _ _ t8 31 t41 _ HF33.out HL34.out At42.out).mono ?_);rintro e w43 ⟨rfl,hb⟩;refine⟨_,rfl,?_⟩)
     refine zg ?_
     replace HF33:=zfb HF33.out hb
     replace HB:=zhb HB.out hb
     clear hb
     replace HH:=zqe HH
     rcases HH with⟨HH,hk45,hk46⟩|⟨HH,hk73,hk74⟩
     ·replace HH:=zd HH
      obtain⟨t47,At48,HH⟩:=HH
      go_wp2_with ((with_reducible refine gc 13 rfl ?_);refine zc 13 (some 37) Try.func13 #[.slice (some ad26) t8.length cp17,.int .i64 1] (h:=?_);(with_reducible refine(span_Count.calls k (fun k_=>(w.heap.size≤k_)) _ _ t8 1 t47 _ HF33.out HL34.out At48.out).mono ?_);rintro e w49 ⟨rfl,hb⟩;refine⟨_,rfl,?_⟩)
      refine zg ?_
      replace HF33:=zfb HF33.out hb
      replace HB:=zhb HB.out hb
      clear hb
      replace HH:=zqe HH
      rcases HH with⟨HH,hk51,hk52⟩|⟨HH,hk71,hk72⟩
      ·replace HH:=zd HH
       obtain⟨t53,At54,HH⟩:=HH
       go_wp2_with ((with_reducible refine gc 9 rfl ?_);refine zc 9 (some 42) Try.func9 #[.slice (some ad26) t8.length cp17] (h:=?_);(with_reducible refine(span_Check.calls k (fun k_=>(w.heap.size≤k_)) _ _ t8 t53 _ HF33.out HL34.out At54.out).mono ?_);rintro e w55 ⟨rfl,hb⟩;refine⟨_,rfl,?_⟩)
       refine zg ?_
       replace HB:=zhb HB.out hb
       clear hb
       replace HH:=zqe HH
       rcases HH with⟨HH,hk57,hk58⟩|⟨HH,hk69,hk70⟩
       ·go_wp2_with (((with_reducible refine gate_dst (N:=47) rfl ?_);(try(refine gate_guard (by rfl) ?_;dsimp only));refine Kd.N_lit k37 w.heap.size 37 rfl (N':=47) rfl (xs:=[(⟨1,0,0⟩:S37)]) (inner:=[.int .i32 1,.int .i32 0,.int .i64 0]) (ok:=(fun k_=>(w.heap.size≤k_))) (okp:=(fun k_=>(w.heap.size≤k_))) ?hr ?hp (fun _ hk_=>hk_) ?hf HB.out (below_size HB.out) (by first|simp|decide) ?_;(case hr=>first|(go_simp;done)|(go_simp;rfl));(case hp=>exact(Reps.c3 (k37_mkF _ _ (⟨1,0,0⟩:S37)) (Reps.none _ _)));(case hf=>exact(show ∀ k_,w55.heap.size≤k_→(fun k_=>(w.heap.size≤k_)) k_ from fun k_ h_=>(Nat.le_trans (below_size HB.out) h_)) _ (Nat.le_refl _));intro v59 w60 hn1 hb1 hg1 hat1);replace hat1:=za hat1;refine stop_ ?_)
        refine zg ?_
        replace hat1:=hat1.out
        have hbe:=MW.grown_below hg1
        have hba:=MW.base_of hat1
        replace HB:=za hb1
        have HN61:=za hn1
        clear hn1 hb1 hg1 hat1 hbe hba
        obtain⟨A62,cp63,he_⟩:=Kd.N_slice HN61.out
        subst he_
        have HL65:=za (Kd.N_reads' HN61.out).2.1
        have HF64:=za (Kd.N_F HN61.out)
        clear HN61
        replace HH:=zd HH
        obtain⟨t66,At67,HH⟩:=HH
        go_wp2_with ((with_reducible refine gc 9 rfl ?_);refine zc 9 (some 48) Try.func9 #[.slice A62 [(⟨1,0,0⟩:S37)].length cp63] (h:=?_);(with_reducible refine(span_Check.calls k (fun k_=>(w.heap.size≤k_)) _ _ [(⟨1,0,0⟩:S37)] t66 _ HF64.out HL65.out At67.out).mono ?_);rintro e w68 ⟨rfl,hb⟩;refine⟨_,rfl,?_⟩)
        refine zg ?_
        replace HB:=zhb HB.out hb
        clear hb
        obtain rfl:=Option.some.inj HH.out
        clear HH
        go_wp2
        go_ret
        exact zfi HB.out
       obtain rfl:=Option.some.inj HH.out
       clear HH
       go_wp2
       go_ret
       exact zfi HB.out
      obtain rfl:=Option.some.inj HH.out
      clear HH
      go_wp2
      go_ret
      exact zfi HB.out
     obtain rfl:=Option.some.inj HH.out
     clear HH
     go_wp2
     go_ret
     exact zfi HB.out
    obtain rfl:=Option.some.inj HH.out
    clear HH
    go_wp2
    go_ret
    exact zfi HB.out
   replace HH:=MW.hneg HH c27
   have hk77:(((rd_T37 t8 (2:Int)).f0)==18 && (((rd_T37 t8 (2:Int)).f1)==30 && (((rd_T37 t8 (2:Int)).f2)==1)))=false:=by simpa using c27
   try have hk78:decide (((rd_T37 t8 (2:Int)).f0)=18 && (((rd_T37 t8 (2:Int)).f1)==30 && (((rd_T37 t8 (2:Int)).f2)==1)))=false:=by simpa using c27
   try have hk79:(((rd_T37 t8 (2:Int)).f0)==18 && (((rd_T37 t8 (2:Int)).f1)==30 && (((rd_T37 t8 (2:Int)).f2)==1)))=false:=by simpa using c27
   try have hk80: ¬ (((rd_T37 t8 (2:Int)).f0)=18 && (((rd_T37 t8 (2:Int)).f1)==30 && (((rd_T37 t8 (2:Int)).f2)==1))):=by simpa using c27
   clear c27
   obtain rfl:=Option.some.inj HH.out
   clear HH
   go_wp2
   go_ret
   exact zfi HB.out
  obtain rfl:=Option.some.inj HH.out
  clear HH
  go_wp2
  go_ret
  exact zfi HB.out
 obtain rfl:=Option.some.inj HH.out
 clear HH
 go_wp2
 go_ret
 exact zfi HB.out
end Go.Proofs.Ytcokpnajkkjclaa.GA

namespace Go.Proofs.Ytcokpnajkkjclaa.GA
open Go.RowKit Go.Proofs.Ytcokpnajkkjclaa Go.Proofs.Ytcokpnajkkjclaa.MW Go.Proofs.YtcokpnajkkjclaaW.PrintWords Go.Proofs.YtcokpnajkkjclaaW.PrintLast Go.Proofs.YtcokpnajkkjclaaW.PrintMore
attribute [local go_sem] max2_int min2_int max_two min_two
set_option linter.unusedVariables false
set_option linter.unusedSimpArgs false
def toponymlaw02_SpanBuilds.f (k:Nat) (l0:List (S37)):Option (Bool):=if (l0.length:Int)>700 then((toponymlaw02_awake.f k).bind fun t4=>(some t4)) else((span_Build.f k l0).bind fun bt9=>((toponymref02_Build.f k l0).bind fun bt14=>((toponymref02_Same.f k bt9.1 bt14.1).bind fun t27=>(if t27=true then(if bt9.2=bt14.2 then((toponymlaw02_awake.f k).bind fun t34=>(some t34)) else(some false)) else(some false)))))
theorem toponymlaw02_SpanBuilds.mono:∀ a0_ k,LeO (toponymlaw02_SpanBuilds.f k a0_) (toponymlaw02_SpanBuilds.f (k+1) a0_):=by
 intro a0_ k
 unfold toponymlaw02_SpanBuilds.f
 with_reducible repeat' first|exact span_Build.mono _ _|exact toponymlaw02_awake.mono _|exact toponymref02_Build.mono _ _|exact toponymref02_Same.mono _ _ _|exact LeO.refl _|exact LeO.none _|refine LeO.ite ?_ ?_|refine LeO.bind ?_ (fun _=>?_)
theorem toponymlaw02_SpanBuilds.calls (k:Nat) (P_:Nat→Prop) (A0:Option Addr) (c0:Nat) (l0:List (S37)) (r:Bool) (w:World) (hs0:Kd.F k37 w P_ A0 l0.length l0) (hc0:l0.length≤c0) (h:toponymlaw02_SpanBuilds.f k l0=some r):
  Calls Try.prog 4 #[.slice A0 l0.length c0] w (fun e w'=>e=.returned (.bool r)∧Below w.heap.size w w'):=by
 unfold toponymlaw02_SpanBuilds.f at h
 have HH:=za h
 clear h
 have HF0:=zfp hs0
 have HL0:=za hc0
 clear hs0 hc0
 have HB:=za (Below.refl w.heap.size w)
 go_enter Try.func4,Try.ntmps4
 replace HH:=zqK 700 HH
 rcases HH with⟨HH,hk2,hk3⟩|⟨HH,hk7,hk8⟩
 ·replace HH:=zd HH
  obtain⟨t4,At5,HH⟩:=HH
  go_wp2_with ((with_reducible refine gc 8 rfl ?_);refine zc 8 (some 10) Try.func8 #[] (h:=?_);(with_reducible refine(toponymlaw02_awake.calls k  t4 _  At5.out).mono ?_);rintro e w6 ⟨rfl,hb⟩;refine⟨_,rfl,?_⟩)
  refine zg ?_
  replace HB:=zhb HB.out hb
  clear hb
  obtain rfl:=Option.some.inj HH.out
  clear HH
  go_wp2
  go_ret
  exact zfi HB.out
 replace HH:=zd HH
 obtain⟨⟨t9,t10⟩,At11,HH⟩:=HH
 dsimp only at HH
 go_wp2_with ((with_reducible refine gc 15 rfl ?_);refine zc 15 (some 13) Try.func15 #[.slice A0 l0.length c0] (h:=?_);(with_reducible refine(span_Build.calls k (fun k_=>(P_ k_∨w.heap.size≤k_)) _ _ l0 t9 t10 _ HF0.out HL0.out At11.out).mono ?_);rintro e w12 ⟨v13,rfl,hn13,hb⟩;refine⟨_,rfl,?_⟩)
 refine zg ?_
 have hba:=Kd.N_base hn13
 have HN13:=znl (ok2:=(fun k_=>(P_ k_∨w.heap.size≤k_))) hn13 (below_size HB.out) (fun k_ hk_=>hk_.elim (fun h_=>h_) (fun h_=>.inr (Nat.le_trans (below_size HB.out) h_)))
 replace HF0:=zfr (v:=v13) HF0.out hba hb
 replace HB:=zhb HB.out hb
 clear hn13 hba hb
 replace HH:=zd HH
 obtain⟨⟨t14,t15⟩,At16,HH⟩:=HH
 dsimp only at HH
 go_wp2_with ((with_reducible refine gc 16 rfl ?_);refine zc 16 (some 18) Try.func16 #[.slice A0 l0.length c0] (h:=?_);(with_reducible refine(toponymref02_Build.calls k (fun k_=>(P_ k_∨w.heap.size≤k_)∧some k_≠(v13:Value).ownBlock) _ _ l0 t14 t15 _ HF0.out HL0.out At16.out).mono ?_);rintro e w17 ⟨v18,rfl,hn18,hb⟩;refine⟨_,rfl,?_⟩)
 refine zg ?_
 have hba:=Kd.N_base hn18
 have HN18:=znl (ok2:=(fun k_=>(P_ k_∨w.heap.size≤k_)∧some k_≠(v13:Value).ownBlock)) hn18 (below_size HB.out) (fun k_ hk_=>hk_.elim (fun h_=>h_) (fun h_=>⟨.inr (Nat.le_trans (below_size HB.out) h_),Kd.fresh' (Kd.N_lt HN13.out) k_ h_⟩))
 replace HN13:=znr (u:=v18) HN13.out hba hb
 replace HB:=zhb HB.out hb
 clear hn18 hba hb
 obtain⟨A19,cp20,he_⟩:=Kd.N_slice HN13.out
 subst he_
 have HL22:=za (Kd.N_reads' HN13.out).2.1
 have HF21:=za (Kd.N_F HN13.out)
 clear HN13
 replace HN18:=za (Kd.N_mono (ok:=(fun k_=>(P_ k_∨w.heap.size≤k_)∧some k_≠((.slice A19 t9.length cp20):Value).ownBlock)) HN18.out (fun k_ hk_=>hk_.1):Kd.N k37 _ _ _ (fun k_=>(P_ k_∨w.heap.size≤k_)) _ _)
 obtain⟨A23,cp24,he_⟩:=Kd.N_slice HN18.out
 subst he_
 have HL26:=za (Kd.N_reads' HN18.out).2.1
 have HF25:=za (Kd.N_F HN18.out)
 clear HN18
 replace HF21:=za (Kd.F_mono (ok:=(fun k_=>(P_ k_∨w.heap.size≤k_)∧some k_≠((.slice A23 t14.length cp24):Value).ownBlock)) HF21.out (fun k_ hk_=>hk_.1):Kd.F k37 _ (fun k_=>(P_ k_∨w.heap.size≤k_)) _ _ _)
 replace HH:=zd HH
 obtain⟨t27,At28,HH⟩:=HH
 go_wp2_with ((with_reducible refine gc 17 rfl ?_);refine zc 17 (some 23) Try.func17 #[.slice A19 t9.length cp20,.slice A23 t14.length cp24] (h:=?_);(with_reducible refine(toponymref02_Same.calls k (fun k_=>(P_ k_∨w.heap.size≤k_)) _ _ t9 _ _ t14 t27 _ HF21.out HL22.out HF25.out HL26.out At28.out).mono ?_);rintro e w' ⟨rfl,⟨nd,rfl⟩⟩;refine⟨_,rfl,?_⟩)
 refine zg ?_
 by_cases c30:t27=true
 ·replace HH:=MW.hpos HH c30
  subst c30
  replace HH:=zqe HH
  rcases HH with⟨HH,hk32,hk33⟩|⟨HH,hk37,hk38⟩
  ·replace HH:=zd HH
   obtain⟨t34,At35,HH⟩:=HH
   go_wp2_with ((with_reducible refine gc 8 rfl ?_);refine zc 8 (some 30) Try.func8 #[] (h:=?_);(with_reducible refine(toponymlaw02_awake.calls k  t34 _  At35.out).mono ?_);rintro e w36 ⟨rfl,hb⟩;refine⟨_,rfl,?_⟩)
   refine zg ?_
   replace HB:=zhb (by repeat(first|(with_reducible first|exact HB.out|apply below_alloc|apply pw_below_drewN|apply below_drew1)|exact HB.out)) hb
   clear hb
   obtain rfl:=Option.some.inj HH.out
   clear HH
   go_wp2
   go_ret
   exact zfi HB.out
  obtain rfl:=Option.some.inj HH.out
  clear HH
  go_wp2
  go_ret
  exact zfi (by repeat(first|(with_reducible first|exact HB.out|apply below_alloc|apply pw_below_drewN|apply below_drew1)|exact HB.out))
 replace HH:=MW.hneg HH c30
 replace c30:=Bool.eq_false_iff.mpr c30
 subst c30
 obtain rfl:=Option.some.inj HH.out
 clear HH
 go_wp2
 go_ret
 exact zfi (by repeat(first|(with_reducible first|exact HB.out|apply below_alloc|apply pw_below_drewN|apply below_drew1)|exact HB.out))

def toponymlaw02_SpanLast.l0:Nat→Int→Int→Int→(List (S37))→(List (S37))→Option (Bool)
 |0,_,_,_,_,_=>none
 |k+1,x17,x18,a1,l0,t9=>if x18<(l0.length:Int) then(if 0≤x18 then(if ((rd_T37 l0 x18).f0)≤a1 then(if a1≤((rd_T37 l0 x18).f1) then((toponymlaw02_SpanLast.l0 k ((rd_T37 l0 x18).f2) (wrap64 (x18+1)) a1 l0 t9)) else((toponymlaw02_SpanLast.l0 k x17 (wrap64 (x18+1)) a1 l0 t9))) else((toponymlaw02_SpanLast.l0 k x17 (wrap64 (x18+1)) a1 l0 t9))) else(none)) else((span_Check.f k t9).bind fun t40=>(if t40=0 then((span_Find.f k t9 a1).bind fun t46=>(if t46=x17 then((toponymlaw02_awake.f k).bind fun t52=>(some t52)) else(some false))) else(some false)))
def toponymlaw02_SpanLast.f (k:Nat) (l0:List (S37)) (a1:Int):Option (Bool):=if (l0.length:Int)>700 then((toponymlaw02_awake.f k).bind fun t4=>(some t4)) else((span_Build.f k l0).bind fun bt9=>(if bt9.2=0 then((toponymlaw02_SpanLast.l0 k 0 0 a1 l0 bt9.1)) else(if (bt9.1.length:Int)=0 then(if bt9.2=20 then((toponymlaw02_awake.f k).bind fun t69=>(some t69)) else(some false)) else(some false))))
theorem toponymlaw02_SpanLast.mono_l:∀ k,(∀ y0 y1 y2 y3 y4,LeO (toponymlaw02_SpanLast.l0 k y0 y1 y2 y3 y4) (toponymlaw02_SpanLast.l0 (k+1) y0 y1 y2 y3 y4))
 |0=>fun _ _ _ _ _ r h=>by simp[toponymlaw02_SpanLast.l0] at h
 |k+1=>by
  have ih0:=toponymlaw02_SpanLast.mono_l k
  ·intro y0 y1 y2 y3 y4
   unfold toponymlaw02_SpanLast.l0
   with_reducible repeat' first|exact ih0 _ _ _ _ _|exact span_Build.mono _ _|exact span_Check.mono _ _|exact span_Find.mono _ _ _|exact toponymlaw02_awake.mono _|exact LeO.refl _|exact LeO.none _|refine LeO.ite ?_ ?_|refine LeO.bind ?_ (fun _=>?_)
theorem toponymlaw02_SpanLast.mono:∀ a0_ a1_ k,LeO (toponymlaw02_SpanLast.f k a0_ a1_) (toponymlaw02_SpanLast.f (k+1) a0_ a1_):=by
 intro a0_ a1_ k
 have ih0:=toponymlaw02_SpanLast.mono_l k
 unfold toponymlaw02_SpanLast.f
 with_reducible repeat' first|exact ih0 _ _ _ _ _|exact span_Build.mono _ _|exact span_Check.mono _ _|exact span_Find.mono _ _ _|exact toponymlaw02_awake.mono _|exact LeO.refl _|exact LeO.none _|refine LeO.ite ?_ ?_|refine LeO.bind ?_ (fun _=>?_)
theorem toponymlaw02_SpanLast.calls (k:Nat) (P_:Nat→Prop) (A0:Option Addr) (c0:Nat) (l0:List (S37)) (a1:Int) (r:Bool) (w:World) (hs0:Kd.F k37 w P_ A0 l0.length l0) (hc0:l0.length≤c0) (h:toponymlaw02_SpanLast.f k l0 a1=some r):
  Calls Try.prog 5 #[.slice A0 l0.length c0,.int .i32 a1] w (fun e w'=>e=.returned (.bool r)∧Below w.heap.size w w'):=by
 unfold toponymlaw02_SpanLast.f at h
 have HH:=za h
 clear h
 have HF0:=zfp hs0
 have HL0:=za hc0
 clear hs0 hc0
 have HB:=za (Below.refl w.heap.size w)
 go_enter Try.func5,Try.ntmps5
 replace HH:=zqK 700 HH
 rcases HH with⟨HH,hk2,hk3⟩|⟨HH,hk7,hk8⟩
 ·replace HH:=zd HH
  obtain⟨t4,At5,HH⟩:=HH
  go_wp2_with ((with_reducible refine gc 8 rfl ?_);refine zc 8 (some 12) Try.func8 #[] (h:=?_);(with_reducible refine(toponymlaw02_awake.calls k  t4 _  At5.out).mono ?_);rintro e w6 ⟨rfl,hb⟩;refine⟨_,rfl,?_⟩)
  refine zg ?_
  replace HB:=zhb HB.out hb
  clear hb
  obtain rfl:=Option.some.inj HH.out
  clear HH
  go_wp2
  go_ret
  exact zfi HB.out
 replace HH:=zd HH
 obtain⟨⟨t9,t10⟩,At11,HH⟩:=HH
 dsimp only at HH
 go_wp2_with ((with_reducible refine gc 15 rfl ?_);refine zc 15 (some 15) Try.func15 #[.slice A0 l0.length c0] (h:=?_);(with_reducible refine(span_Build.calls k (fun k_=>(P_ k_∨w.heap.size≤k_)) _ _ l0 t9 t10 _ HF0.out HL0.out At11.out).mono ?_);rintro e w12 ⟨v13,rfl,hn13,hb⟩;refine⟨_,rfl,?_⟩)
 refine zg ?_
 have hba:=Kd.N_base hn13
 have HN13:=znl (ok2:=(fun k_=>(P_ k_∨w.heap.size≤k_))) hn13 (below_size HB.out) (fun k_ hk_=>hk_.elim (fun h_=>h_) (fun h_=>.inr (Nat.le_trans (below_size HB.out) h_)))
 replace HF0:=zfr (v:=v13) HF0.out hba hb
 replace HB:=zhb HB.out hb
 clear hn13 hba hb
 replace HH:=zqe HH
 rcases HH with⟨HH,hk15,hk16⟩|⟨HH,hk59,hk60⟩
 ·go_wp2
  go_loopg [7,8] k (fun kq u7 u8 w'=>∃ (x17:Int) (x18:Int),u7=.int .i64 x17∧u8=.int .i64 x18∧Aside0 ((toponymlaw02_SpanLast.l0 kq x17 x18 a1 l0 t9)=some r)∧Aside0 (kq≤k)∧Aside0 (Kd.F k37 w' (fun k_=>(P_ k_∨w.heap.size≤k_)∧some k_≠(v13:Value).ownBlock) A0 l0.length l0)∧Aside0 (Kd.N k37 37 w' w.heap.size (fun k_=>(P_ k_∨w.heap.size≤k_)) v13 t9)∧Aside0 (Below w.heap.size w w'))
  case atStart=>exact⟨0,0,(by first|rfl|(simp;done)|(simp[*];done)),(by first|rfl|(simp;done)|(simp[*];done)),HH,⟨Nat.le_refl _⟩,⟨HF0.out⟩,⟨(Kd.N_mono (ok:=(fun k_=>(P_ k_∨w.heap.size≤k_))) HN13.out (fun k_ hk_=>hk_))⟩,⟨HB.out⟩⟩
  case round=>
   clear hk7
   clear hk8
   clear hk15
   clear hk16
   clear HH
   clear HF0 HN13 HB
   obtain⟨x17,x18,rfl,rfl,HA,HK0,HF0,HN13,HB⟩:=hrel
   obtain⟨w20,rfl⟩:∃ wo_:World,wo_=wr:=⟨_,rfl⟩
   cases gk with
   |zero=>exact absurd HA.out (by simp[toponymlaw02_SpanLast.l0])
   |succ k19=>
    have H:=HA.out
    clear HA
    simp only[toponymlaw02_SpanLast.l0] at H
    have HH:=za H
    clear H
    replace HH:=zqt HH
    rcases HH with⟨HH,hk22,hk23⟩|⟨HH,hk34,hk35⟩
    ·replace HH:=zqdo HH
     obtain⟨HH,hk25⟩:=HH
     have p26:0≤(x18:Int):=of_decide_eq_true (by first|(with_reducible assumption)|assumption)
     have q26:x18<(l0.length:Int):=of_decide_eq_true (by first|(with_reducible assumption)|assumption)
     obtain⟨ad26,e26,hx26_0,hx26_1,hx26_2⟩:=atF_T37 HF0.out x18 p26 q26
     cases e26
     replace p26:=eq_true p26
     replace q26:=eq_true q26
     replace HH:=zqd HH
     rcases HH with⟨HH,hk28⟩|⟨HH,hk32⟩
     ·replace HH:=zqd HH
      rcases HH with⟨HH,hk30⟩|⟨HH,hk31⟩
      ·go_wp2
       go_roundg k19
       case measure=>have:=HK0.out;omega
       case rel=>exact⟨(rd_T37 l0 x18).f2,wrap64 (x18+1),(by first|rfl|(simp;done)|(simp[*];done)),(by first|rfl|(simp;done)|(simp[*];done)),HH,⟨by have:=HK0.out;omega⟩,⟨HF0.out⟩,⟨(Kd.N_mono (ok:=(fun k_=>(P_ k_∨w.heap.size≤k_))) HN13.out (fun k_ hk_=>hk_))⟩,⟨HB.out⟩⟩
      go_wp2
      go_roundg k19
      case measure=>have:=HK0.out;omega
      case rel=>exact⟨x17,wrap64 (x18+1),(by first|rfl|(simp;done)|(simp[*];done)),(by first|rfl|(simp;done)|(simp[*];done)),HH,⟨by have:=HK0.out;omega⟩,⟨HF0.out⟩,⟨(Kd.N_mono (ok:=(fun k_=>(P_ k_∨w.heap.size≤k_))) HN13.out (fun k_ hk_=>hk_))⟩,⟨HB.out⟩⟩
     go_wp2
     go_roundg k19
     case measure=>have:=HK0.out;omega
     case rel=>exact⟨x17,wrap64 (x18+1),(by first|rfl|(simp;done)|(simp[*];done)),(by first|rfl|(simp;done)|(simp[*];done)),HH,⟨by have:=HK0.out;omega⟩,⟨HF0.out⟩,⟨(Kd.N_mono (ok:=(fun k_=>(P_ k_∨w.heap.size≤k_))) HN13.out (fun k_ hk_=>hk_))⟩,⟨HB.out⟩⟩
    obtain⟨A36,cp37,he_⟩:=Kd.N_slice HN13.out
    subst he_
    have HL39:=za (Kd.N_reads' HN13.out).2.1
    have HF38:=za (Kd.N_F HN13.out)
    clear HN13
    replace HH:=zd HH
    obtain⟨t40,At41,HH⟩:=HH
    go_wp2_with ((with_reducible refine gc 9 rfl ?_);refine zc 9 (some 58) Try.func9 #[.slice A36 t9.length cp37] (h:=?_);(with_reducible refine(span_Check.calls k19 (fun k_=>(P_ k_∨w.heap.size≤k_)) _ _ t9 t40 _ HF38.out HL39.out At41.out).mono ?_);rintro e w42 ⟨rfl,hb⟩;refine⟨_,rfl,?_⟩)
    refine zg ?_
    replace HF38:=zfb HF38.out hb
    replace HB:=zhb HB.out hb
    clear hb
    replace HH:=zqe HH
    rcases HH with⟨HH,hk44,hk45⟩|⟨HH,hk57,hk58⟩
    ·replace HH:=zd HH
     obtain⟨t46,At47,HH⟩:=HH
     go_wp2_with ((with_reducible refine gc 11 rfl ?_);refine zc 11 (some 63) Try.func11 #[.slice A36 t9.length cp37,.int .i32 a1] (h:=?_);(with_reducible refine(span_Find.calls k19 (fun k_=>(P_ k_∨w.heap.size≤k_)) _ _ t9 a1 t46 _ HF38.out HL39.out At47.out).mono ?_);rintro e w48 ⟨rfl,hb⟩;refine⟨_,rfl,?_⟩)
     refine zg ?_
     replace HB:=zhb HB.out hb
     clear hb
     replace HH:=zqe HH
     rcases HH with⟨HH,hk50,hk51⟩|⟨HH,hk55,hk56⟩
     ·replace HH:=zd HH
      obtain⟨t52,At53,HH⟩:=HH
      go_wp2_with ((with_reducible refine gc 8 rfl ?_);refine zc 8 (some 68) Try.func8 #[] (h:=?_);(with_reducible refine(toponymlaw02_awake.calls k19  t52 _  At53.out).mono ?_);rintro e w54 ⟨rfl,hb⟩;refine⟨_,rfl,?_⟩)
      refine zg ?_
      replace HB:=zhb HB.out hb
      clear hb
      obtain rfl:=Option.some.inj HH.out
      clear HH
      go_wp2
      go_ret
      exact zfi HB.out
     obtain rfl:=Option.some.inj HH.out
     clear HH
     go_wp2
     go_ret
     exact zfi HB.out
    obtain rfl:=Option.some.inj HH.out
    clear HH
    go_wp2
    go_ret
    exact zfi HB.out
 obtain⟨A61,cp62,he_⟩:=Kd.N_slice HN13.out
 subst he_
 by_cases c63:(t9.length:Int)=0
 ·replace HH:=MW.hpos HH c63
  have hk64:((t9.length:Int)==0)=true:=beq_iff_eq.mpr c63
  have hk65:((t9.length:Int) != 0)=false:=bne_eq_false_iff_eq.mpr c63
  clear c63
  replace HH:=zqe HH
  rcases HH with⟨HH,hk67,hk68⟩|⟨HH,hk72,hk73⟩
  ·replace HH:=zd HH
   obtain⟨t69,At70,HH⟩:=HH
   go_wp2_with ((with_reducible refine gc 8 rfl ?_);refine zc 8 (some 28) Try.func8 #[] (h:=?_);(with_reducible refine(toponymlaw02_awake.calls k  t69 _  At70.out).mono ?_);rintro e w71 ⟨rfl,hb⟩;refine⟨_,rfl,?_⟩)
   refine zg ?_
   replace HB:=zhb HB.out hb
   clear hb
   obtain rfl:=Option.some.inj HH.out
   clear HH
   go_wp2
   go_ret
   exact zfi HB.out
  obtain rfl:=Option.some.inj HH.out
  clear HH
  go_wp2
  go_ret
  exact zfi HB.out
 replace HH:=MW.hneg HH c63
 have hk74:((t9.length:Int)==0)=false:=beq_eq_false_iff_ne.mpr c63
 have hk75:((t9.length:Int) != 0)=true:=bne_iff_ne.mpr c63
 have hk76: ¬ (t9=[]):=fun h_=>c63 (by rw[h_];rfl)
 clear c63
 obtain rfl:=Option.some.inj HH.out
 clear HH
 go_wp2
 go_ret
 exact zfi HB.out

def toponymlaw02_SpanLeast.l0:Nat→(List (S37))→Int→(List (S37))→Option (Bool)
 |0,_,_,_=>none
 |k+1,x15,x18,l0=>if x18≥0 then(if 0≤x18 then(if x18<(l0.length:Int) then(if x15.length<8796093022208 then((some (x15++[(⟨(rd_T37 l0 x18).f0,(rd_T37 l0 x18).f1,(rd_T37 l0 x18).f2⟩:S37)]:List (S37))).bind fun y30=>((toponymlaw02_SpanLeast.l0 k y30 (wrap64 (x18 - 1)) l0))) else(none)) else(none)) else(none)) else((span_Build.f k l0).bind fun bt38=>((span_Build.f k x15).bind fun bt47=>((toponymref02_Same.f k bt38.1 l0).bind fun t56=>(if t56=true then((toponymref02_Same.f k bt47.1 l0).bind fun t64=>(if t64=true then(if bt38.2=0 then(if bt47.2=0 then((toponymlaw02_awake.f k).bind fun t74=>(some t74)) else(some false)) else(some false)) else(some false))) else(some false)))))
def toponymlaw02_SpanLeast.f (k:Nat) (l0:List (S37)):Option (Bool):=if (l0.length:Int)>200 then((toponymlaw02_awake.f k).bind fun t4=>(some t4)) else((span_Check.f k l0).bind fun t9=>(if t9=0 then((toponymlaw02_SpanLeast.l0 k ([]:List (S37)) (wrap64 ((l0.length:Int) - 1)) l0)) else((toponymlaw02_awake.f k).bind fun t83=>(some t83))))
theorem toponymlaw02_SpanLeast.mono_l:∀ k,(∀ y0 y1 y2,LeO (toponymlaw02_SpanLeast.l0 k y0 y1 y2) (toponymlaw02_SpanLeast.l0 (k+1) y0 y1 y2))
 |0=>fun _ _ _ r h=>by simp[toponymlaw02_SpanLeast.l0] at h
 |k+1=>by
  have ih0:=toponymlaw02_SpanLeast.mono_l k
  ·intro y0 y1 y2
   unfold toponymlaw02_SpanLeast.l0
   with_reducible repeat' first|exact ih0 _ _ _|exact span_Build.mono _ _|exact span_Check.mono _ _|exact toponymlaw02_awake.mono _|exact toponymref02_Same.mono _ _ _|exact LeO.refl _|exact LeO.none _|refine LeO.ite ?_ ?_|refine LeO.bind ?_ (fun _=>?_)
theorem toponymlaw02_SpanLeast.mono:∀ a0_ k,LeO (toponymlaw02_SpanLeast.f k a0_) (toponymlaw02_SpanLeast.f (k+1) a0_):=by
 intro a0_ k
 have ih0:=toponymlaw02_SpanLeast.mono_l k
 unfold toponymlaw02_SpanLeast.f
 with_reducible repeat' first|exact ih0 _ _ _|exact span_Build.mono _ _|exact span_Check.mono _ _|exact toponymlaw02_awake.mono _|exact toponymref02_Same.mono _ _ _|exact LeO.refl _|exact LeO.none _|refine LeO.ite ?_ ?_|refine LeO.bind ?_ (fun _=>?_)
theorem toponymlaw02_SpanLeast.calls (k:Nat) (P_:Nat→Prop) (A0:Option Addr) (c0:Nat) (l0:List (S37)) (r:Bool) (w:World) (hs0:Kd.F k37 w P_ A0 l0.length l0) (hc0:l0.length≤c0) (h:toponymlaw02_SpanLeast.f k l0=some r):
  Calls Try.prog 6 #[.slice A0 l0.length c0] w (fun e w'=>e=.returned (.bool r)∧Below w.heap.size w w'):=by
 unfold toponymlaw02_SpanLeast.f at h
 have HH:=za h
 clear h
 have HF0:=zfp hs0
 have HL0:=za hc0
 clear hs0 hc0
 have HB:=za (Below.refl w.heap.size w)
 have hu37:=Try.underlying37
 go_enter Try.func6,Try.ntmps6
 replace HH:=zqK 200 HH
 rcases HH with⟨HH,hk2,hk3⟩|⟨HH,hk7,hk8⟩
 ·replace HH:=zd HH
  obtain⟨t4,At5,HH⟩:=HH
  go_wp2_with ((with_reducible refine gc 8 rfl ?_);refine zc 8 (some 17) Try.func8 #[] (h:=?_);(with_reducible refine(toponymlaw02_awake.calls k  t4 _  At5.out).mono ?_);rintro e w6 ⟨rfl,hb⟩;refine⟨_,rfl,?_⟩)
  refine zg ?_
  replace HB:=zhb HB.out hb
  clear hb
  obtain rfl:=Option.some.inj HH.out
  clear HH
  go_wp2
  go_ret
  exact zfi HB.out
 replace HH:=zd HH
 obtain⟨t9,At10,HH⟩:=HH
 go_wp2_with ((with_reducible refine gc 9 rfl ?_);refine zc 9 (some 14) Try.func9 #[.slice A0 l0.length c0] (h:=?_);(with_reducible refine(span_Check.calls k (fun k_=>(P_ k_∨w.heap.size≤k_)) _ _ l0 t9 _ HF0.out HL0.out At10.out).mono ?_);rintro e w11 ⟨rfl,hb⟩;refine⟨_,rfl,?_⟩)
 refine zg ?_
 replace HF0:=zfb HF0.out hb
 replace HB:=zhb HB.out hb
 clear hb
 replace HH:=zqe HH
 rcases HH with⟨HH,hk13,hk14⟩|⟨HH,hk81,hk82⟩
 ·go_wp2
  go_loopg [3,4] k (fun kq u3 u4 w'=>∃ (x15:List (S37)) (x18:Int),u4=.int .i64 x18∧Aside0 ((toponymlaw02_SpanLeast.l0 kq x15 x18 l0)=some r)∧Aside0 (kq≤k)∧Aside0 (Kd.F k37 w' (fun k_=>(P_ k_∨w.heap.size≤k_)∧some k_≠(u3:Value).ownBlock) A0 l0.length l0)∧Aside0 (Kd.N k37 37 w' w.heap.size (fun k_=>(P_ k_∨w.heap.size≤k_)) u3 x15)∧Aside0 (Below w.heap.size w w'))
  case atStart=>exact⟨([]:List (S37)),wrap64 ((l0.length:Int) - 1),(by first|rfl|(simp;done)|(simp[*];done)),HH,⟨Nat.le_refl _⟩,⟨(Kd.F_mono (ok:=(fun k_=>(P_ k_∨w.heap.size≤k_))) HF0.out (fun k_ hk_=>⟨hk_,(by simp[Value.ownBlock])⟩))⟩,⟨Kd.N_nil _ _ _ _ _⟩,⟨HB.out⟩⟩
  case round=>
   clear hk7
   clear hk8
   clear hk13
   clear hk14
   clear HH
   clear HF0 HB
   obtain⟨x15,x18,rfl,HA,HK0,HF0,HN17,HB⟩:=hrel
   obtain⟨v16,rfl⟩:∃ z_:Value,z_=u3:=⟨_,rfl⟩
   obtain⟨w20,rfl⟩:∃ wo_:World,wo_=wr:=⟨_,rfl⟩
   cases gk with
   |zero=>exact absurd HA.out (by simp[toponymlaw02_SpanLeast.l0])
   |succ k19=>
    have H:=HA.out
    clear HA
    simp only[toponymlaw02_SpanLeast.l0] at H
    have HH:=za H
    clear H
    replace HH:=zqG HH
    rcases HH with⟨HH,hk22⟩|⟨HH,hk37⟩
    ·replace HH:=zqdo HH
     obtain⟨HH,hk24⟩:=HH
     replace HH:=zqto HH
     obtain⟨HH,hk26,hk27⟩:=HH
     have p28:0≤(x18:Int):=of_decide_eq_true (by first|(with_reducible assumption)|assumption)
     have q28:x18<(l0.length:Int):=of_decide_eq_true (by first|(with_reducible assumption)|assumption)
     obtain⟨ad28,e28,hx28_0,hx28_1,hx28_2⟩:=atF_T37 HF0.out x18 p28 q28
     cases e28
     replace p28:=eq_true p28
     replace q28:=eq_true q28
     obtain⟨HH,LMc29⟩:=zlm HH
     obtain⟨y30,hy30⟩:∃ y_:List (S37),y_=(x15++[(⟨(rd_T37 l0 x18).f0,(rd_T37 l0 x18).f1,(rd_T37 l0 x18).f2⟩:S37)]):=⟨_,rfl⟩
     have H:((toponymlaw02_SpanLeast.l0 k19 y30 (wrap64 (x18 - 1)) l0))=some r:=by rw[hy30];exact HH.out
     replace HH:=za H
     clear H
     have NYy30:=za hy30
     clear hy30
     go_wp2_with (((with_reducible refine gate_dst (N:=31) rfl ?_);(try(refine gate_guard (by rfl) ?_;dsimp only));refine Kd.N_append k37 w.heap.size rfl _ _ 22 37 (.agg #[(.int .i32 0),(.int .i32 0),(.int .i64 0)]) 16 rfl Try.underlying22 info37 rfl (by decide) (by decide) (v16) x15 (⟨(rd_T37 l0 x18).f0,(rd_T37 l0 x18).f1,(rd_T37 l0 x18).f2⟩:S37) [.int .i32 ((rd_T37 l0 x18).f0),.int .i32 ((rd_T37 l0 x18).f1),.int .i64 ((rd_T37 l0 x18).f2)] (fun k_=>(P_ k_∨w.heap.size≤k_)) (fun k_=>(fun k_=>(P_ k_∨w.heap.size≤k_)) k_∧some k_≠(v16:Value).ownBlock) rfl rfl (k37_mkF _ _ (⟨(rd_T37 l0 x18).f0,(rd_T37 l0 x18).f1,(rd_T37 l0 x18).f2⟩:S37)) (fun _ hk_=>hk_) (fun k_ h_=>.inr (Nat.le_trans (below_size (by repeat(first|(with_reducible first|exact HB.out|apply below_alloc|apply pw_below_drewN|apply below_drew1)|exact HB.out))) h_)) (by(with_reducible repeat(first|apply Kd.N_alloc|apply Kd.N_drewN|apply Kd.N_drew));exact HN17.out) (by repeat(first|(with_reducible first|exact HB.out|apply below_alloc|apply pw_below_drewN|apply below_drew1)|exact HB.out)) (below_size (by repeat(first|(with_reducible first|exact HB.out|apply below_alloc|apply pw_below_drewN|apply below_drew1)|exact HB.out))) (by first|(have:=LMc29.out;omega)|(have:=LMc29.out;simp at *;omega)) ?_;intro v31 w32 hn1 hb1 hg1 hat1);replace hat1:=za hat1;refine stop_ ?_)
     refine zg ?_
     replace hat1:=hat1.out
     replace HF0:=za (Kd.F_mono (Kd.F_after (v:=v16) (ok:=(fun k_=>(P_ k_∨w.heap.size≤k_))) (Kd.F_mono (ok:=(fun k_=>(P_ k_∨w.heap.size≤k_)∧some k_≠(v16:Value).ownBlock)) (by(with_reducible repeat(first|apply Kd.F_alloc|apply Kd.F_drewN|apply Kd.F_drew));exact HF0.out) (fun k_ hk_=>⟨hk_.1,hk_.2⟩)) hg1 hat1) (fun k_ hk_=>hk_):Kd.F k37 _ (fun k_=>(P_ k_∨w.heap.size≤k_)∧some k_≠(v31:Value).ownBlock) _ _ _)
     replace HB:=za hb1
     clear HN17
     have HN33:=za hn1
     clear hn1 hb1 hg1 hat1
     replace HN33:=za (by rw[NYy30.out];exact HN33.out:Kd.N k37 37 w32 w.heap.size (fun k_=>(P_ k_∨w.heap.size≤k_)) v31 y30)
     clear hx28_0 hx28_1 hx28_2 p28 q28
     go_wp2
     go_roundg k19
     case measure=>have:=HK0.out;omega
     case rel=>exact⟨y30,wrap64 (x18 - 1),(by first|rfl|(simp;done)|(simp[*];done)),HH,⟨by have:=HK0.out;omega⟩,⟨HF0.out⟩,⟨(Kd.N_mono (ok:=(fun k_=>(P_ k_∨w.heap.size≤k_))) HN33.out (fun k_ hk_=>hk_))⟩,⟨HB.out⟩⟩
    replace HH:=zd HH
    obtain⟨⟨t38,t39⟩,At40,HH⟩:=HH
    dsimp only at HH
    go_wp2_with ((with_reducible refine gc 15 rfl ?_);refine zc 15 (some 34) Try.func15 #[.slice A0 l0.length c0] (h:=?_);(with_reducible refine(span_Build.calls k19 (fun k_=>(P_ k_∨w.heap.size≤k_)∧some k_≠(v16:Value).ownBlock) _ _ l0 t38 t39 _ HF0.out HL0.out At40.out).mono ?_);rintro e w41 ⟨v42,rfl,hn42,hb⟩;refine⟨_,rfl,?_⟩)
    refine zg ?_
    have hba:=Kd.N_base hn42
    have HN42:=znl (ok2:=(fun k_=>(P_ k_∨w.heap.size≤k_)∧some k_≠(v16:Value).ownBlock)) hn42 (below_size HB.out) (fun k_ hk_=>hk_.elim (fun h_=>h_) (fun h_=>⟨.inr (Nat.le_trans (below_size HB.out) h_),Kd.fresh' (Kd.N_lt HN17.out) k_ h_⟩))
    replace HF0:=zfr (v:=v42) HF0.out hba hb
    replace HN17:=znr (u:=v42) HN17.out hba hb
    replace HB:=zhb HB.out hb
    clear hn42 hba hb
    obtain⟨A43,cp44,he_⟩:=Kd.N_slice HN17.out
    subst he_
    have HL46:=za (Kd.N_reads' HN17.out).2.1
    have HF45:=za (Kd.N_F HN17.out)
    clear HN17
    replace HF0:=za (Kd.F_mono (ok:=(fun k_=>((P_ k_∨w.heap.size≤k_)∧some k_≠((.slice A43 x15.length cp44):Value).ownBlock)∧some k_≠(v42:Value).ownBlock)) HF0.out (fun k_ hk_=>⟨hk_.1.1,hk_.2⟩):Kd.F k37 _ (fun k_=>(P_ k_∨w.heap.size≤k_)∧some k_≠(v42:Value).ownBlock) _ _ _)
    replace HN42:=za (Kd.N_mono (ok:=(fun k_=>(P_ k_∨w.heap.size≤k_)∧some k_≠((.slice A43 x15.length cp44):Value).ownBlock)) HN42.out (fun k_ hk_=>hk_.1):Kd.N k37 _ _ _ (fun k_=>(P_ k_∨w.heap.size≤k_)) _ _)
    replace HH:=zd HH
    obtain⟨⟨t47,t48⟩,At49,HH⟩:=HH
    dsimp only at HH
    go_wp2_with ((with_reducible refine gc 15 rfl ?_);refine zc 15 (some 39) Try.func15 #[.slice A43 x15.length cp44] (h:=?_);(with_reducible refine(span_Build.calls k19 (fun k_=>(P_ k_∨w.heap.size≤k_)∧some k_≠(v42:Value).ownBlock) _ _ x15 t47 t48 _ HF45.out HL46.out At49.out).mono ?_);rintro e w50 ⟨v51,rfl,hn51,hb⟩;refine⟨_,rfl,?_⟩)
    refine zg ?_
    have hba:=Kd.N_base hn51
    have HN51:=znl (ok2:=(fun k_=>(P_ k_∨w.heap.size≤k_)∧some k_≠(v42:Value).ownBlock)) hn51 (below_size HB.out) (fun k_ hk_=>hk_.elim (fun h_=>h_) (fun h_=>⟨.inr (Nat.le_trans (below_size HB.out) h_),Kd.fresh' (Kd.N_lt HN42.out) k_ h_⟩))
    replace HF0:=zfr (v:=v51) HF0.out hba hb
    replace HN42:=znr (u:=v51) HN42.out hba hb
    replace HB:=zhb HB.out hb
    clear hn51 hba hb
    obtain⟨A52,cp53,he_⟩:=Kd.N_slice HN42.out
    subst he_
    have HL55:=za (Kd.N_reads' HN42.out).2.1
    have HF54:=za (Kd.N_F HN42.out)
    clear HN42
    replace HF0:=za (Kd.F_mono (ok:=(fun k_=>((P_ k_∨w.heap.size≤k_)∧some k_≠((.slice A52 t38.length cp53):Value).ownBlock)∧some k_≠(v51:Value).ownBlock)) HF0.out (fun k_ hk_=>⟨hk_.1.1,hk_.2⟩):Kd.F k37 _ (fun k_=>(P_ k_∨w.heap.size≤k_)∧some k_≠(v51:Value).ownBlock) _ _ _)
    replace HN51:=za (Kd.N_mono (ok:=(fun k_=>(P_ k_∨w.heap.size≤k_)∧some k_≠((.slice A52 t38.length cp53):Value).ownBlock)) HN51.out (fun k_ hk_=>hk_.1):Kd.N k37 _ _ _ (fun k_=>(P_ k_∨w.heap.size≤k_)) _ _)
    replace HH:=zd HH
    obtain⟨t56,At57,HH⟩:=HH
    go_wp2_with ((with_reducible refine gc 17 rfl ?_);refine zc 17 (some 44) Try.func17 #[.slice A52 t38.length cp53,.slice A0 l0.length c0] (h:=?_);(with_reducible refine(toponymref02_Same.calls k19 (fun k_=>(P_ k_∨w.heap.size≤k_)∧some k_≠(v51:Value).ownBlock) _ _ t38 _ _ l0 t56 _ HF54.out HL55.out HF0.out HL0.out At57.out).mono ?_);rintro e w' ⟨rfl,⟨nd,rfl⟩⟩;refine⟨_,rfl,?_⟩)
    refine zg ?_
    by_cases c59:t56=true
    ·replace HH:=MW.hpos HH c59
     subst c59
     obtain⟨A60,cp61,he_⟩:=Kd.N_slice HN51.out
     subst he_
     have HL63:=za (Kd.N_reads' HN51.out).2.1
     have HF62:=za (Kd.N_F HN51.out)
     clear HN51
     replace HF0:=za (Kd.F_mono (ok:=(fun k_=>(P_ k_∨w.heap.size≤k_)∧some k_≠((.slice A60 t47.length cp61):Value).ownBlock)) HF0.out (fun k_ hk_=>hk_.1):Kd.F k37 _ (fun k_=>(P_ k_∨w.heap.size≤k_)) _ _ _)
     replace HH:=zd HH
     obtain⟨t64,At65,HH⟩:=HH
     go_wp2_with ((with_reducible refine gc 17 rfl ?_);refine zc 17 (some 48) Try.func17 #[.slice A60 t47.length cp61,.slice A0 l0.length c0] (h:=?_);(with_reducible refine(toponymref02_Same.calls k19 (fun k_=>(P_ k_∨w.heap.size≤k_)) _ _ t47 _ _ l0 t64 _ (by(with_reducible repeat(first|apply Kd.F_alloc|apply Kd.F_drewN|apply Kd.F_drew));exact HF62.out) HL63.out (by(with_reducible repeat(first|apply Kd.F_alloc|apply Kd.F_drewN|apply Kd.F_drew));exact HF0.out) HL0.out At65.out).mono ?_);rintro e w' ⟨rfl,⟨nd,rfl⟩⟩;refine⟨_,rfl,?_⟩)
     refine zg ?_
     by_cases c67:t64=true
     ·replace HH:=MW.hpos HH c67
      subst c67
      replace HH:=zqe HH
      rcases HH with⟨HH,hk69,hk70⟩|⟨HH,hk79,hk80⟩
      ·replace HH:=zqe HH
       rcases HH with⟨HH,hk72,hk73⟩|⟨HH,hk77,hk78⟩
       ·replace HH:=zd HH
        obtain⟨t74,At75,HH⟩:=HH
        go_wp2_with ((with_reducible refine gc 8 rfl ?_);refine zc 8 (some 59) Try.func8 #[] (h:=?_);(with_reducible refine(toponymlaw02_awake.calls k19  t74 _  At75.out).mono ?_);rintro e w76 ⟨rfl,hb⟩;refine⟨_,rfl,?_⟩)
        refine zg ?_
        replace HB:=zhb (by repeat(first|(with_reducible first|exact HB.out|apply below_alloc|apply pw_below_drewN|apply below_drew1)|exact HB.out)) hb
        clear hb
        obtain rfl:=Option.some.inj HH.out
        clear HH
        go_wp2
        go_ret
        exact zfi HB.out
       obtain rfl:=Option.some.inj HH.out
       clear HH
       go_wp2
       go_ret
       exact zfi (by repeat(first|(with_reducible first|exact HB.out|apply below_alloc|apply pw_below_drewN|apply below_drew1)|exact HB.out))
      obtain rfl:=Option.some.inj HH.out
      clear HH
      go_wp2
      go_ret
      exact zfi (by repeat(first|(with_reducible first|exact HB.out|apply below_alloc|apply pw_below_drewN|apply below_drew1)|exact HB.out))
     replace HH:=MW.hneg HH c67
     replace c67:=Bool.eq_false_iff.mpr c67
     subst c67
     obtain rfl:=Option.some.inj HH.out
     clear HH
     go_wp2
     go_ret
     exact zfi (by repeat(first|(with_reducible first|exact HB.out|apply below_alloc|apply pw_below_drewN|apply below_drew1)|exact HB.out))
    replace HH:=MW.hneg HH c59
    replace c59:=Bool.eq_false_iff.mpr c59
    subst c59
    obtain rfl:=Option.some.inj HH.out
    clear HH
    go_wp2
    go_ret
    exact zfi (by repeat(first|(with_reducible first|exact HB.out|apply below_alloc|apply pw_below_drewN|apply below_drew1)|exact HB.out))
 replace HH:=zd HH
 obtain⟨t83,At84,HH⟩:=HH
 go_wp2_with ((with_reducible refine gc 8 rfl ?_);refine zc 8 (some 17) Try.func8 #[] (h:=?_);(with_reducible refine(toponymlaw02_awake.calls k  t83 _  At84.out).mono ?_);rintro e w85 ⟨rfl,hb⟩;refine⟨_,rfl,?_⟩)
 refine zg ?_
 replace HB:=zhb HB.out hb
 clear hb
 obtain rfl:=Option.some.inj HH.out
 clear HH
 go_wp2
 go_ret
 exact zfi HB.out
end Go.Proofs.Ytcokpnajkkjclaa.GA
