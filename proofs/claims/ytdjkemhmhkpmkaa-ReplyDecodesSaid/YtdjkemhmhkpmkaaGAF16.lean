import Derived.Test.YtdjkemhmhkpmkaaGA0
import Derived.Test.YtdjkemhmhkpmkaaGAF31
import Derived.Test.YtdjkemhmhkpmkaaGAF32
import Derived.Test.YtdjkemhmhkpmkaaGM1
import Derived.Test.YtdjkemhmhkpmkaaGM2
import Derived.Test.YtdjkemhmhkpmkaaGM3
namespace Go.Proofs.Ytdjkemhmhkpmkaa.GA
open Go.RowKit Go.Proofs.Ytdjkemhmhkpmkaa Go.Proofs.Ytdjkemhmhkpmkaa.MW Go.Proofs.YtdjkemhmhkpmkaaW.PrintWords Go.Proofs.YtdjkemhmhkpmkaaW.PrintLast Go.Proofs.YtdjkemhmhkpmkaaW.PrintMore
attribute [local go_sem] max2_int min2_int max_two min_two
set_option maxHeartbeats 8000000
set_option maxRecDepth 100000
set_option linter.unusedVariables false
set_option linter.unusedSimpArgs false
def toponymref27_Decode.f (k:Nat) (a0:ByteArray):Option (Int × Int × Bool × Int × ByteArray × ByteArray × ByteArray × (List (S46)) × Int):=if (a0.size:Int)>4000 then(some (0,0,false,0,(⟨#[]⟩:ByteArray),(⟨#[]⟩:ByteArray),(⟨#[]⟩:ByteArray),([]:List (S46)),3)) else((toponymref15_Decode.f k a0 0).bind fun bt25=>(if bt25.2.2.2.2.2.2=0 then(if bt25.2.2.2.2.2.1=(a0.size:Int) then(if bt25.1=0 then(if bt25.2.2.1=16 then(if bt25.2.1=true then((toponymref26_Shape.f k bt25.2.2.2.2.1 (⟨#[105,120]⟩:ByteArray)).bind fun t91=>(if t91=true then(if 1<(bt25.2.2.2.2.1.length:Int) then(if ((rd_T57 bt25.2.2.2.2.1 (1:Int)).f0)=1 then(if (rd_T57 bt25.2.2.2.2.1 (1:Int)).f1=true then((toponymref27_result.f k ((rd_T57 bt25.2.2.2.2.1 (1:Int)).f2) ((rd_T57 bt25.2.2.2.2.1 (1:Int)).f4)).bind fun bt158=>(if ((rd_T57 bt25.2.2.2.2.1 (1:Int)).f2)=4 then((toponymref27_entry.f k ((rd_T57 bt25.2.2.2.2.1 (1:Int)).f4)).bind fun bt248=>(if 0<(bt25.2.2.2.2.1.length:Int) then((toponymref16_AsInt.f k ((rd_T57 bt25.2.2.2.2.1 (0:Int)).f0) ((rd_T57 bt25.2.2.2.2.1 (0:Int)).f1) ((rd_T57 bt25.2.2.2.2.1 (0:Int)).f2) ((rd_T57 bt25.2.2.2.2.1 (0:Int)).f3) ((rd_T57 bt25.2.2.2.2.1 (0:Int)).f4)).bind fun bt321=>(if bt248.2.2.2.2.2.2.2.2=true then((toponymref27_Check.f k bt321.1 bt248.2.1 bt248.2.2.1 bt248.2.2.2.1 bt248.2.2.2.2.1 bt248.2.2.2.2.2.1 bt248.2.2.2.2.2.2.1 bt248.2.2.2.2.2.2.2.1).bind fun t383=>(if t383=0 then(some (bt321.1,bt248.2.1,bt248.2.2.1,bt248.2.2.2.1,bt248.2.2.2.2.1,bt248.2.2.2.2.2.1,bt248.2.2.2.2.2.2.1,bt248.2.2.2.2.2.2.2.1,0)) else(some (0,0,false,0,(⟨#[]⟩:ByteArray),(⟨#[]⟩:ByteArray),(⟨#[]⟩:ByteArray),([]:List (S46)),270)))) else(some (0,0,false,0,(⟨#[]⟩:ByteArray),(⟨#[]⟩:ByteArray),(⟨#[]⟩:ByteArray),([]:List (S46)),270)))) else(none))) else(if 0<(bt25.2.2.2.2.1.length:Int) then((toponymref16_AsInt.f k ((rd_T57 bt25.2.2.2.2.1 (0:Int)).f0) ((rd_T57 bt25.2.2.2.2.1 (0:Int)).f1) ((rd_T57 bt25.2.2.2.2.1 (0:Int)).f2) ((rd_T57 bt25.2.2.2.2.1 (0:Int)).f3) ((rd_T57 bt25.2.2.2.2.1 (0:Int)).f4)).bind fun bt510=>(if bt158.2.2.2.2.2.2.2.2=true then((toponymref27_Check.f k bt510.1 bt158.2.1 bt158.2.2.1 bt158.2.2.2.1 bt158.2.2.2.2.1 bt158.2.2.2.2.2.1 bt158.2.2.2.2.2.2.1 bt158.2.2.2.2.2.2.2.1).bind fun t572=>(if t572=0 then(some (bt510.1,bt158.2.1,bt158.2.2.1,bt158.2.2.2.1,bt158.2.2.2.2.1,bt158.2.2.2.2.2.1,bt158.2.2.2.2.2.2.1,bt158.2.2.2.2.2.2.2.1,0)) else(some (0,0,false,0,(⟨#[]⟩:ByteArray),(⟨#[]⟩:ByteArray),(⟨#[]⟩:ByteArray),([]:List (S46)),270)))) else(some (0,0,false,0,(⟨#[]⟩:ByteArray),(⟨#[]⟩:ByteArray),(⟨#[]⟩:ByteArray),([]:List (S46)),270)))) else(none)))) else(some (0,0,false,0,(⟨#[]⟩:ByteArray),(⟨#[]⟩:ByteArray),(⟨#[]⟩:ByteArray),([]:List (S46)),270))) else(some (0,0,false,0,(⟨#[]⟩:ByteArray),(⟨#[]⟩:ByteArray),(⟨#[]⟩:ByteArray),([]:List (S46)),270))) else(none)) else(some (0,0,false,0,(⟨#[]⟩:ByteArray),(⟨#[]⟩:ByteArray),(⟨#[]⟩:ByteArray),([]:List (S46)),270)))) else(some (0,0,false,0,(⟨#[]⟩:ByteArray),(⟨#[]⟩:ByteArray),(⟨#[]⟩:ByteArray),([]:List (S46)),270))) else(some (0,0,false,0,(⟨#[]⟩:ByteArray),(⟨#[]⟩:ByteArray),(⟨#[]⟩:ByteArray),([]:List (S46)),270))) else(some (0,0,false,0,(⟨#[]⟩:ByteArray),(⟨#[]⟩:ByteArray),(⟨#[]⟩:ByteArray),([]:List (S46)),270))) else(some (0,0,false,0,(⟨#[]⟩:ByteArray),(⟨#[]⟩:ByteArray),(⟨#[]⟩:ByteArray),([]:List (S46)),270))) else(some (0,0,false,0,(⟨#[]⟩:ByteArray),(⟨#[]⟩:ByteArray),(⟨#[]⟩:ByteArray),([]:List (S46)),270))))
theorem toponymref27_Decode.mono:∀ a0_ k,LeO (toponymref27_Decode.f k a0_) (toponymref27_Decode.f (k+1) a0_):=by
 intro a0_ k
 unfold toponymref27_Decode.f
 with_reducible repeat' first|exact toponymref15_Decode.mono _ _ _|exact toponymref16_AsInt.mono _ _ _ _ _ _|exact toponymref26_Shape.mono _ _ _|exact toponymref27_Check.mono _ _ _ _ _ _ _ _ _|exact toponymref27_entry.mono _ _|exact toponymref27_result.mono _ _ _|exact LeO.refl _|exact LeO.none _|refine LeO.ite ?_ ?_|refine LeO.bind ?_ (fun _=>?_)
theorem toponymref27_Decode.calls (k:Nat) (a0:ByteArray) (r1:Int) (r2:Int) (r3:Bool) (r4:Int) (r5:ByteArray) (r6:ByteArray) (r7:ByteArray) (r8:List (S46)) (r9:Int) (w:World) (h:toponymref27_Decode.f k a0=some (r1,r2,r3,r4,r5,r6,r7,r8,r9)):
  Calls Try.prog 16 #[.string a0] w (fun e w'=>∃ (A7_:Option Addr) (c7_:Nat),e=.returned (.tuple #[.agg #[.int .i64 r1,.int .i64 r2,.bool r3,.int .i64 r4,.string r5,.string r6,.string r7,.slice A7_ r8.length c7_],.int .i64 r9])∧r8.length≤c7_∧Kd.F k46 w' (fun k_=>w.heap.size≤k_) A7_ r8.length r8∧Below w.heap.size w w'):=by
 unfold toponymref27_Decode.f at h
 have HH:=za h
 clear h
 have HB:=za (Below.refl w.heap.size w)
 have hu27:=Try.underlying27
 have hu57:=Try.underlying57
 go_enter Try.func16,Try.ntmps16
 go_wp2_with ((with_reducible refine gd 2 rfl ?_);refine zb 2 27 #[.int .i64 0,.int .i64 0,.bool false,.int .i64 0,.string (⟨#[]⟩:ByteArray),.string (⟨#[]⟩:ByteArray),.string (⟨#[]⟩:ByteArray),.slice none 0 0] (h:=?_);intro g1 hg w2 BKg1 hb)
 refine zg ?_
 have GEg1:=zge hg (below_size HB.out)
 replace HB:=zhb HB.out hb
 clear hg hb
 replace cBKg1:=MB.lz8 BKg1.out
 replace HH:=zqK 4000 HH
 rcases HH with⟨HH,hk12,hk13⟩|⟨HH,hk23,hk24⟩
 ·go_wp2_with ((with_reducible refine gs 27 2 rfl ?_);refine zs 27 2 #[.int .i64 0,.int .i64 0,.bool false,.int .i64 0,.string (⟨#[]⟩:ByteArray),.string (⟨#[]⟩:ByteArray),.string (⟨#[]⟩:ByteArray),.slice none 0 0] BKg1.out [.int .i64 0,.int .i64 0,.bool false,.int .i64 0,.string (⟨#[]⟩:ByteArray),.string (⟨#[]⟩:ByteArray),.string (⟨#[]⟩:ByteArray),.slice none 0 0] (h:=?_);intro w14 hbk hg)
  refine zg ?_
  replace HB:=zhg HB.out hg (below_size HB.out) GEg1
  replace BKg1:=hbk
  clear hg hbk
  replace cBKg1:=MB.lz8 BKg1.out
  have H:=HH.out
  simp only[Option.some.injEq,Prod.mk.injEq] at H
  obtain⟨rfl,rfl,rfl,rfl,rfl,rfl,rfl,rfl,rfl⟩:=H
  clear HH
  go_wp2
  refine bodyPost_ret (results_ct rfl _ _ g1 27 #[.int .i64 0,.int .i64 0,.bool false,.int .i64 0,.string (⟨#[]⟩:ByteArray),.string (⟨#[]⟩:ByteArray),.string (⟨#[]⟩:ByteArray),.slice none 0 0] (0,0) _ rfl BKg1.out Try.underlying27 rfl (by kernel_rfl)) rfl ?_
  exact⟨none,0,by first|rfl|(simp;done)|(simp[*];done),(Nat.le_refl _),(Kd.F_nil _ _ _),HB.out⟩
 replace HH:=zd HH
 obtain⟨⟨t25,t26,t27,t28,t29,t30,t31⟩,At32,HH⟩:=HH
 dsimp only at HH
 go_wp2_with ((with_reducible refine gc 29 rfl ?_);refine zc 29 (some 18) Try.func29 #[.string a0,.int .i64 0] (h:=?_);(with_reducible refine(toponymref15_Decode.calls k  a0 0 t25 t26 t27 t28 t29 t30 t31 _  At32.out).mono ?_);rintro e w33 ⟨v34,rfl,hn34,hb⟩;refine⟨_,rfl,?_⟩)
 refine zg ?_
 have hba:=Kd.N_base hn34
 have HN34:=znl (ok2:=(fun k_=>(w.heap.size≤k_)∧k_≠g1)) hn34 (below_size HB.out) (fun k_ h_=>⟨(Nat.le_trans (below_size HB.out) h_),Kd.freshB (g:=g1) BKg1.out k_ h_⟩)
 replace BKg1:=zbb BKg1.out hb
 replace HB:=zhb HB.out hb
 clear hn34 hba hb
 replace cBKg1:=MB.lz8 BKg1.out
 go_wp2_with ((with_reducible refine gd 4 rfl ?_);refine zb 4 57 #[.int .i64 0,.bool false,.int .i64 0,.string (⟨#[]⟩:ByteArray),.slice none 0 0] (h:=?_);intro g43 hg w44 BKg43 hb)
 refine zg ?_
 have GEg43:=zge hg (below_size HB.out)
 have NEg1_g43:=znq hg BKg1.out
 have NEg43_g1:=zsy NEg1_g43
 replace HN34:=zne HN34.out hg hb
 replace BKg1:=zbb BKg1.out hb
 replace HB:=zhb HB.out hb
 clear hg hb
 replace cBKg1:=MB.lz8 BKg1.out
 replace cBKg43:=MB.lz5 BKg43.out
 obtain⟨A59,cp60,he_⟩:=Kd.N_slice HN34.out
 subst he_
 go_wp2_with ((with_reducible refine gs 57 4 rfl ?_);refine zs 57 4 #[.int .i64 t25,.bool t26,.int .i64 t27,.string t28,(.slice A59 t29.length cp60)] BKg43.out [.int .i64 t25,.bool t26,.int .i64 t27,.string t28,(.slice A59 t29.length cp60)] (h:=?_);intro w58 hbk hg)
 refine zg ?_
 replace HN34:=zng HN34.out hg fun k_ hk_=>hk_.2
 replace BKg1:=zbg BKg1.out hg NEg1_g43
 replace HB:=zhg HB.out hg (below_size HB.out) GEg43
 replace BKg43:=hbk
 clear hg hbk
 replace cBKg1:=MB.lz8 BKg1.out
 replace cBKg43:=MB.lz5 BKg43.out
 replace HH:=zqe HH
 rcases HH with⟨HH,hk75,hk76⟩|⟨HH,hk812,hk813⟩
 ·replace HH:=zqe HH
  rcases HH with⟨HH,hk78,hk79⟩|⟨HH,hk796,hk797⟩
  ·replace HH:=zqe HH
   rcases HH with⟨HH,hk81,hk82⟩|⟨HH,hk780,hk781⟩
   ·replace HH:=zqe HH
    rcases HH with⟨HH,hk84,hk85⟩|⟨HH,hk764,hk765⟩
    ·by_cases c86:t26=true
     ·replace HH:=MW.hpos HH c86
      subst c86
      have HL90:=za (Kd.N_reads' HN34.out).2.1
      have HF89:=za (Kd.N_F HN34.out)
      clear HN34
      replace HH:=zd HH
      obtain⟨t91,At92,HH⟩:=HH
      go_wp2_with ((with_reducible refine gc 30 rfl ?_);refine zc 30 (some 48) Try.func30 #[.slice A59 t29.length cp60,.string (⟨#[105,120]⟩:ByteArray)] (h:=?_);(with_reducible refine(toponymref26_Shape.calls k (fun k_=>((w.heap.size≤k_)∧k_≠g1)∧k_≠g43) _ _ t29 (⟨#[105,120]⟩:ByteArray) t91 _ HF89.out HL90.out At92.out).mono ?_);rintro e w93 ⟨rfl,hb⟩;refine⟨_,rfl,?_⟩)
      refine zg ?_
      replace HF89:=zfb HF89.out hb
      replace BKg1:=zbb BKg1.out hb
      replace BKg43:=zbb BKg43.out hb
      replace HB:=zhb HB.out hb
      clear hb
      replace cBKg1:=MB.lz8 BKg1.out
      replace cBKg43:=MB.lz5 BKg43.out
      by_cases c107:t91=true
      ·replace HH:=MW.hpos HH c107
       subst c107
       replace HH:=zqno 1 HH
       obtain⟨HH,hk109,hk110,hk111,hk112⟩:=HH
       have p113:0≤(1:Int):=by decide
       have q113:(1:Int)<(t29.length:Int):=of_decide_eq_true (by first|(with_reducible assumption)|assumption)
       obtain⟨ad113,A113_4,c113_4,e113,hx113_0,hx113_1,hx113_2,hx113_3,hx113_4,hl113_4,hi113_4⟩:=atF_T57 HF89.out (1:Int) p113 q113
       cases e113
       (try simp only[show((1:Int)).toNat=1 from rfl,show 1*5=5 from rfl] at hx113_0)
       (try simp only[Nat.reduceMul,Nat.reduceEqDiff,Go.Addr.add,↓reduceIte] at hx113_0)
       (try simp only[show((1:Int)).toNat=1 from rfl,show 1*5=5 from rfl] at hx113_1)
       (try simp only[Nat.reduceMul,Nat.reduceEqDiff,Go.Addr.add,↓reduceIte] at hx113_1)
       (try simp only[show((1:Int)).toNat=1 from rfl,show 1*5=5 from rfl] at hx113_2)
       (try simp only[Nat.reduceMul,Nat.reduceEqDiff,Go.Addr.add,↓reduceIte] at hx113_2)
       (try simp only[show((1:Int)).toNat=1 from rfl,show 1*5=5 from rfl] at hx113_3)
       (try simp only[Nat.reduceMul,Nat.reduceEqDiff,Go.Addr.add,↓reduceIte] at hx113_3)
       (try simp only[show((1:Int)).toNat=1 from rfl,show 1*5=5 from rfl] at hx113_4)
       (try simp only[Nat.reduceMul,Nat.reduceEqDiff,Go.Addr.add,↓reduceIte] at hx113_4)
       have HF113_4:=za hi113_4
       have HL113_4:=za hl113_4
       clear hi113_4 hl113_4
       replace p113:=eq_true p113
       replace q113:=eq_true q113
       go_wp2_with ((with_reducible refine gd 7 rfl ?_);refine zb 7 57 #[.int .i64 0,.bool false,.int .i64 0,.string (⟨#[]⟩:ByteArray),.slice none 0 0] (h:=?_);intro g114 hg w115 BKg114 hb)
       refine zg ?_
       have GEg114:=zge hg (below_size HB.out)
       have NEg1_g114:=znq hg BKg1.out
       have NEg114_g1:=zsy NEg1_g114
       have NEg43_g114:=znq hg BKg43.out
       replace HF89:=zfe HF89.out hg hb
       replace HF113_4:=zfe HF113_4.out hg hb
       replace BKg1:=zbb BKg1.out hb
       replace BKg43:=zbb BKg43.out hb
       replace HB:=zhb HB.out hb
       clear hg hb
       clear hx113_0 hx113_1 hx113_2 hx113_3 hx113_4 p113 q113
       replace cBKg1:=MB.lz8 BKg1.out
       replace cBKg43:=MB.lz5 BKg43.out
       replace cBKg114:=MB.lz5 BKg114.out
       go_wp2_with ((with_reducible refine gs 57 7 rfl ?_);refine zs 57 7 #[.int .i64 ((rd_T57 t29 (1:Int)).f0),.bool ((rd_T57 t29 (1:Int)).f1),.int .i64 ((rd_T57 t29 (1:Int)).f2),.string ((rd_T57 t29 (1:Int)).f3),.slice A113_4 ((rd_T57 t29 (1:Int)).f4).length c113_4] BKg114.out [.int .i64 ((rd_T57 t29 (1:Int)).f0),.bool ((rd_T57 t29 (1:Int)).f1),.int .i64 ((rd_T57 t29 (1:Int)).f2),.string ((rd_T57 t29 (1:Int)).f3),.slice A113_4 ((rd_T57 t29 (1:Int)).f4).length c113_4] (h:=?_);intro w134 hbk hg)
       refine zg ?_
       replace HF89:=zfg HF89.out hg fun k_ hk_=>hk_.2
       replace HF113_4:=zfg HF113_4.out hg fun k_ hk_=>hk_.2
       replace BKg1:=zbg BKg1.out hg NEg1_g114
       replace BKg43:=zbg BKg43.out hg NEg43_g114
       replace HB:=zhg HB.out hg (below_size HB.out) GEg114
       replace BKg114:=hbk
       clear hg hbk
       replace cBKg1:=MB.lz8 BKg1.out
       replace cBKg43:=MB.lz5 BKg43.out
       replace cBKg114:=MB.lz5 BKg114.out
       replace HH:=zqe HH
       rcases HH with⟨HH,hk154,hk155⟩|⟨HH,hk711,hk712⟩
       ·by_cases c156:(rd_T57 t29 (1:Int)).f1=true
        ·replace HH:=MW.hpos HH c156
         have hk157:(rd_T57 t29 (1:Int)).f1=true:=c156
         clear c156
         replace HH:=zd HH
         obtain⟨⟨t158,t159,t160,t161,t162,t163,t164,t165,t166⟩,At167,HH⟩:=HH
         dsimp only at HH
         go_wp2_with ((with_reducible refine gc 31 rfl ?_);refine zc 31 (some 70) Try.func31 #[.int .i64 ((rd_T57 t29 (1:Int)).f2),.slice A113_4 ((rd_T57 t29 (1:Int)).f4).length c113_4] (h:=?_);(with_reducible refine(toponymref27_result.calls k (fun k_=>(((w.heap.size≤k_)∧k_≠g1)∧k_≠g43)∧k_≠g114) ((rd_T57 t29 (1:Int)).f2) _ _ ((rd_T57 t29 (1:Int)).f4) t158 t159 t160 t161 t162 t163 t164 t165 t166 _ HF113_4.out HL113_4.out At167.out).mono ?_);rintro e w168 ⟨v169,rfl,hn169,hb⟩;refine⟨_,rfl,?_⟩)
         refine zg ?_
         have hba:=Kd.N_base hn169
         have HN169:=znl (ok2:=(fun k_=>(((w.heap.size≤k_)∧k_≠g1)∧k_≠g43)∧k_≠g114)) hn169 (below_size HB.out) (fun k_ hk_=>hk_.elim (fun h_=>h_) (fun h_=>⟨⟨⟨(Nat.le_trans (below_size HB.out) h_),Kd.freshB (g:=g1) BKg1.out k_ h_⟩,Kd.freshB (g:=g43) BKg43.out k_ h_⟩,Kd.freshB (g:=g114) BKg114.out k_ h_⟩))
         replace HF89:=zfr (v:=v169) HF89.out hba hb
         replace HF113_4:=zfr (v:=v169) HF113_4.out hba hb
         replace BKg1:=zbb BKg1.out hb
         replace BKg43:=zbb BKg43.out hb
         replace BKg114:=zbb BKg114.out hb
         replace HB:=zhb HB.out hb
         clear hn169 hba hb
         replace cBKg1:=MB.lz8 BKg1.out
         replace cBKg43:=MB.lz5 BKg43.out
         replace cBKg114:=MB.lz5 BKg114.out
         go_wp2_with ((with_reducible refine gd 8 rfl ?_);refine zb 8 27 #[.int .i64 0,.int .i64 0,.bool false,.int .i64 0,.string (⟨#[]⟩:ByteArray),.string (⟨#[]⟩:ByteArray),.string (⟨#[]⟩:ByteArray),.slice none 0 0] (h:=?_);intro g188 hg w189 BKg188 hb)
         refine zg ?_
         have GEg188:=zge hg (below_size HB.out)
         have NEg1_g188:=znq hg BKg1.out
         have NEg188_g1:=zsy NEg1_g188
         have NEg43_g188:=znq hg BKg43.out
         have NEg114_g188:=znq hg BKg114.out
         replace HF89:=zfe HF89.out hg hb
         replace HF113_4:=zfe HF113_4.out hg hb
         replace HN169:=zne HN169.out hg hb
         replace BKg1:=zbb BKg1.out hb
         replace BKg43:=zbb BKg43.out hb
         replace BKg114:=zbb BKg114.out hb
         replace HB:=zhb HB.out hb
         clear hg hb
         replace cBKg1:=MB.lz8 BKg1.out
         replace cBKg43:=MB.lz5 BKg43.out
         replace cBKg114:=MB.lz5 BKg114.out
         replace cBKg188:=MB.lz8 BKg188.out
         obtain⟨A217,cp218,he_⟩:=Kd.N_slice HN169.out
         subst he_
         go_wp2_with ((with_reducible refine gs 27 8 rfl ?_);refine zs 27 8 #[.int .i64 t158,.int .i64 t159,.bool t160,.int .i64 t161,.string t162,.string t163,.string t164,(.slice A217 t165.length cp218)] BKg188.out [.int .i64 t158,.int .i64 t159,.bool t160,.int .i64 t161,.string t162,.string t163,.string t164,(.slice A217 t165.length cp218)] (h:=?_);intro w216 hbk hg)
         refine zg ?_
         replace HF89:=zfg HF89.out hg fun k_ hk_=>hk_.2
         replace HF113_4:=zfg HF113_4.out hg fun k_ hk_=>hk_.2
         replace HN169:=zng HN169.out hg fun k_ hk_=>hk_.2
         replace BKg1:=zbg BKg1.out hg NEg1_g188
         replace BKg43:=zbg BKg43.out hg NEg43_g188
         replace BKg114:=zbg BKg114.out hg NEg114_g188
         replace HB:=zhg HB.out hg (below_size HB.out) GEg188
         replace BKg188:=hbk
         clear hg hbk
         replace cBKg1:=MB.lz8 BKg1.out
         replace cBKg43:=MB.lz5 BKg43.out
         replace cBKg114:=MB.lz5 BKg114.out
         replace cBKg188:=MB.lz8 BKg188.out
         replace HH:=zqe HH
         rcases HH with⟨HH,hk246,hk247⟩|⟨HH,hk502,hk503⟩
         ·replace HH:=zd HH
          obtain⟨⟨t248,t249,t250,t251,t252,t253,t254,t255,t256⟩,At257,HH⟩:=HH
          dsimp only at HH
          go_wp2_with ((with_reducible refine gc 32 rfl ?_);refine zc 32 (some 79) Try.func32 #[.slice A113_4 ((rd_T57 t29 (1:Int)).f4).length c113_4] (h:=?_);(with_reducible refine(toponymref27_entry.calls k (fun k_=>(((((w.heap.size≤k_)∧some k_≠((.slice A217 t165.length cp218):Value).ownBlock)∧k_≠g1)∧k_≠g43)∧k_≠g114)∧k_≠g188) _ _ ((rd_T57 t29 (1:Int)).f4) t248 t249 t250 t251 t252 t253 t254 t255 t256 _ (Kd.F_mono (ok:=(fun k_=>(((((w.heap.size≤k_)∧k_≠g1)∧k_≠g43)∧k_≠g114)∧some k_≠((.slice A217 t165.length cp218):Value).ownBlock)∧k_≠g188)) HF113_4.out (fun k_ hk_=>⟨⟨⟨⟨⟨hk_.1.1.1.1.1,hk_.1.2⟩,hk_.1.1.1.1.2⟩,hk_.1.1.1.2⟩,hk_.1.1.2⟩,hk_.2⟩)) HL113_4.out At257.out).mono ?_);rintro e w258 ⟨v259,rfl,hn259,hb⟩;refine⟨_,rfl,?_⟩)
          refine zg ?_
          have hba:=Kd.N_base hn259
          have HN259:=znl (ok2:=(fun k_=>(((((w.heap.size≤k_)∧some k_≠((.slice A217 t165.length cp218):Value).ownBlock)∧k_≠g1)∧k_≠g43)∧k_≠g114)∧k_≠g188)) hn259 (below_size HB.out) (fun k_ hk_=>hk_.elim (fun h_=>h_) (fun h_=>⟨⟨⟨⟨⟨(Nat.le_trans (below_size HB.out) h_),Kd.fresh' (Kd.N_lt HN169.out) k_ h_⟩,Kd.freshB (g:=g1) BKg1.out k_ h_⟩,Kd.freshB (g:=g43) BKg43.out k_ h_⟩,Kd.freshB (g:=g114) BKg114.out k_ h_⟩,Kd.freshB (g:=g188) BKg188.out k_ h_⟩))
          replace HF89:=zfr (v:=v259) HF89.out hba hb
          replace BKg1:=zbb BKg1.out hb
          replace BKg43:=zbb BKg43.out hb
          replace BKg114:=zbb BKg114.out hb
          replace BKg188:=zbb BKg188.out hb
          replace HB:=zhb HB.out hb
          clear hn259 hba hb
          replace cBKg1:=MB.lz8 BKg1.out
          replace cBKg43:=MB.lz5 BKg43.out
          replace cBKg114:=MB.lz5 BKg114.out
          replace cBKg188:=MB.lz8 BKg188.out
          obtain⟨A287,cp288,he_⟩:=Kd.N_slice HN259.out
          subst he_
          go_wp2_with ((with_reducible refine gs 27 8 rfl ?_);refine zs 27 8 #[.int .i64 t248,.int .i64 t249,.bool t250,.int .i64 t251,.string t252,.string t253,.string t254,(.slice A287 t255.length cp288)] BKg188.out [.int .i64 t248,.int .i64 t249,.bool t250,.int .i64 t251,.string t252,.string t253,.string t254,(.slice A287 t255.length cp288)] (h:=?_);intro w286 hbk hg)
          refine zg ?_
          replace HF89:=zfg HF89.out hg fun k_ hk_=>hk_.1.2
          replace HN259:=zng HN259.out hg fun k_ hk_=>hk_.2
          replace BKg1:=zbg BKg1.out hg NEg1_g188
          replace BKg43:=zbg BKg43.out hg NEg43_g188
          replace BKg114:=zbg BKg114.out hg NEg114_g188
          replace HB:=zhg HB.out hg (below_size HB.out) GEg188
          replace BKg188:=hbk
          clear hg hbk
          replace cBKg1:=MB.lz8 BKg1.out
          replace cBKg43:=MB.lz5 BKg43.out
          replace cBKg114:=MB.lz5 BKg114.out
          replace cBKg188:=MB.lz8 BKg188.out
          replace HH:=zqno 0 HH
          obtain⟨HH,hk316,hk317,hk318,hk319⟩:=HH
          have p320:0≤(0:Int):=by decide
          have q320:(0:Int)<(t29.length:Int):=of_decide_eq_true (by first|(with_reducible assumption)|assumption)
          obtain⟨ad320,A320_4,c320_4,e320,hx320_0,hx320_1,hx320_2,hx320_3,hx320_4,hl320_4,hi320_4⟩:=atF_T57 HF89.out (0:Int) p320 q320
          cases e320
          (try simp only[show((0:Int)).toNat=0 from rfl,show 0*5=0 from rfl] at hx320_0)
          (try rw[Addr.add_zero'] at hx320_0)
          (try simp only[show((0:Int)).toNat=0 from rfl,show 0*5=0 from rfl] at hx320_1)
          (try rw[Addr.add_zero'] at hx320_1)
          (try simp only[show((0:Int)).toNat=0 from rfl,show 0*5=0 from rfl] at hx320_2)
          (try rw[Addr.add_zero'] at hx320_2)
          (try simp only[show((0:Int)).toNat=0 from rfl,show 0*5=0 from rfl] at hx320_3)
          (try rw[Addr.add_zero'] at hx320_3)
          (try simp only[show((0:Int)).toNat=0 from rfl,show 0*5=0 from rfl] at hx320_4)
          (try rw[Addr.add_zero'] at hx320_4)
          have HF320_4:=za hi320_4
          have HL320_4:=za hl320_4
          clear hi320_4 hl320_4
          replace p320:=eq_true p320
          replace q320:=eq_true q320
          replace HH:=zd HH
          obtain⟨⟨t321,t322⟩,At323,HH⟩:=HH
          dsimp only at HH
          go_wp2_with ((with_reducible refine gc 33 rfl ?_);refine zc 33 (some 87) Try.func33 #[.agg #[.int .i64 ((rd_T57 t29 (0:Int)).f0),.bool ((rd_T57 t29 (0:Int)).f1),.int .i64 ((rd_T57 t29 (0:Int)).f2),.string ((rd_T57 t29 (0:Int)).f3),.slice A320_4 ((rd_T57 t29 (0:Int)).f4).length c320_4]] (h:=?_);(with_reducible refine(toponymref16_AsInt.calls k (fun k_=>((((((w.heap.size≤k_)∧some k_≠((.slice A217 t165.length cp218):Value).ownBlock)∧some k_≠((.slice A287 t255.length cp288):Value).ownBlock)∧k_≠g1)∧k_≠g43)∧k_≠g114)∧k_≠g188) ((rd_T57 t29 (0:Int)).f0) ((rd_T57 t29 (0:Int)).f1) ((rd_T57 t29 (0:Int)).f2) ((rd_T57 t29 (0:Int)).f3) _ _ ((rd_T57 t29 (0:Int)).f4) t321 t322 _ (Kd.F_mono (ok:=(fun k_=>((((((w.heap.size≤k_)∧k_≠g1)∧k_≠g43)∧k_≠g114)∧some k_≠((.slice A217 t165.length cp218):Value).ownBlock)∧k_≠g188)∧some k_≠((.slice A287 t255.length cp288):Value).ownBlock)) HF320_4.out (fun k_ hk_=>⟨⟨⟨⟨⟨⟨hk_.1.1.1.1.1.1,hk_.1.1.2⟩,hk_.2⟩,hk_.1.1.1.1.1.2⟩,hk_.1.1.1.1.2⟩,hk_.1.1.1.2⟩,hk_.1.2⟩)) HL320_4.out At323.out).mono ?_);rintro e w324 ⟨rfl,hb⟩;refine⟨_,rfl,?_⟩)
          refine zg ?_
          replace HN259:=znb HN259.out hb
          replace BKg1:=zbb BKg1.out hb
          replace BKg43:=zbb BKg43.out hb
          replace BKg114:=zbb BKg114.out hb
          replace BKg188:=zbb BKg188.out hb
          replace HB:=zhb HB.out hb
          clear hb
          clear hx320_0 hx320_1 hx320_2 hx320_3 hx320_4 p320 q320
          replace cBKg1:=MB.lz8 BKg1.out
          replace cBKg43:=MB.lz5 BKg43.out
          replace cBKg114:=MB.lz5 BKg114.out
          replace cBKg188:=MB.lz8 BKg188.out
          go_wp2_with ((with_reducible refine gs 3 91 rfl ?_);refine zs 3 91 #[.int .i64 t321,.int .i64 t249,.bool t250,.int .i64 t251,.string t252,.string t253,.string t254,(.slice A287 t255.length cp288)] BKg188.out [.int .i64 t321] (h:=?_);intro w351 hbk hg)
          refine zg ?_
          replace HN259:=zng HN259.out hg fun k_ hk_=>hk_.2
          replace BKg1:=zbg BKg1.out hg NEg1_g188
          replace BKg43:=zbg BKg43.out hg NEg43_g188
          replace BKg114:=zbg BKg114.out hg NEg114_g188
          replace HB:=zhg HB.out hg (below_size HB.out) GEg188
          replace BKg188:=hbk
          clear hg hbk
          replace cBKg1:=MB.lz8 BKg1.out
          replace cBKg43:=MB.lz5 BKg43.out
          replace cBKg114:=MB.lz5 BKg114.out
          replace cBKg188:=MB.lz8 BKg188.out
          by_cases c378:t256=true
          ·replace HH:=MW.hpos HH c378
           subst c378
           have HL382:=za (Kd.N_reads' HN259.out).2.1
           have HF381:=za (Kd.N_F HN259.out)
           clear HN259
           replace HH:=zd HH
           obtain⟨t383,At384,HH⟩:=HH
           go_wp2_with ((with_reducible refine gc 11 rfl ?_);refine zc 11 (some 96) Try.func11 #[.agg #[.int .i64 t321,.int .i64 t249,.bool t250,.int .i64 t251,.string t252,.string t253,.string t254,.slice A287 t255.length cp288]] (h:=?_);(with_reducible refine(toponymref27_Check.calls k (fun k_=>(((((w.heap.size≤k_)∧some k_≠((.slice A217 t165.length cp218):Value).ownBlock)∧k_≠g1)∧k_≠g43)∧k_≠g114)∧k_≠g188) t321 t249 t250 t251 t252 t253 t254 _ _ t255 t383 _ HF381.out HL382.out At384.out).mono ?_);rintro e w385 ⟨rfl,hb⟩;refine⟨_,rfl,?_⟩)
           refine zg ?_
           replace HF381:=zfb HF381.out hb
           replace BKg1:=zbb BKg1.out hb
           replace BKg43:=zbb BKg43.out hb
           replace BKg114:=zbb BKg114.out hb
           replace BKg188:=zbb BKg188.out hb
           replace HB:=zhb HB.out hb
           clear hb
           replace cBKg1:=MB.lz8 BKg1.out
           replace cBKg43:=MB.lz5 BKg43.out
           replace cBKg114:=MB.lz5 BKg114.out
           replace cBKg188:=MB.lz8 BKg188.out
           replace HH:=zqe HH
           rcases HH with⟨HH,hk413,hk414⟩|⟨HH,hk442,hk443⟩
           ·go_wp2_with ((with_reducible refine gs 27 2 rfl ?_);refine zs 27 2 #[.int .i64 t321,.int .i64 t249,.bool t250,.int .i64 t251,.string t252,.string t253,.string t254,.slice A287 t255.length cp288] BKg1.out [.int .i64 t321,.int .i64 t249,.bool t250,.int .i64 t251,.string t252,.string t253,.string t254,.slice A287 t255.length cp288] (h:=?_);intro w415 hbk hg)
            refine zg ?_
            replace HF381:=zfg HF381.out hg fun k_ hk_=>hk_.1.1.1.2
            replace BKg43:=zbg BKg43.out hg NEg43_g1
            replace BKg114:=zbg BKg114.out hg NEg114_g1
            replace BKg188:=zbg BKg188.out hg NEg188_g1
            replace HB:=zhg HB.out hg (below_size HB.out) GEg1
            replace BKg1:=hbk
            clear hg hbk
            replace cBKg1:=MB.lz8 BKg1.out
            replace cBKg43:=MB.lz5 BKg43.out
            replace cBKg114:=MB.lz5 BKg114.out
            replace cBKg188:=MB.lz8 BKg188.out
            have H:=HH.out
            simp only[Option.some.injEq,Prod.mk.injEq] at H
            obtain⟨rfl,rfl,rfl,rfl,rfl,rfl,rfl,rfl,rfl⟩:=H
            clear HH
            go_wp2
            refine bodyPost_ret (results_ct rfl _ _ g1 27 #[.int .i64 t321,.int .i64 t249,.bool t250,.int .i64 t251,.string t252,.string t253,.string t254,.slice A287 t255.length cp288] (0,0) _ rfl BKg1.out Try.underlying27 rfl (by kernel_rfl)) rfl ?_
            exact⟨_,_,by first|rfl|(simp;done)|(simp[*];done),HL382.out,(Kd.F_mono (ok:=(fun k_=>(((((w.heap.size≤k_)∧some k_≠((.slice A217 t165.length cp218):Value).ownBlock)∧k_≠g1)∧k_≠g43)∧k_≠g114)∧k_≠g188)) HF381.out (fun k_ hk_=>hk_.1.1.1.1.1)),HB.out⟩
           go_wp2_with ((with_reducible refine gs 27 2 rfl ?_);refine zs 27 2 #[.int .i64 0,.int .i64 0,.bool false,.int .i64 0,.string (⟨#[]⟩:ByteArray),.string (⟨#[]⟩:ByteArray),.string (⟨#[]⟩:ByteArray),.slice none 0 0] BKg1.out [.int .i64 0,.int .i64 0,.bool false,.int .i64 0,.string (⟨#[]⟩:ByteArray),.string (⟨#[]⟩:ByteArray),.string (⟨#[]⟩:ByteArray),.slice none 0 0] (h:=?_);intro w444 hbk hg)
           refine zg ?_
           replace BKg43:=zbg BKg43.out hg NEg43_g1
           replace BKg114:=zbg BKg114.out hg NEg114_g1
           replace BKg188:=zbg BKg188.out hg NEg188_g1
           replace HB:=zhg HB.out hg (below_size HB.out) GEg1
           replace BKg1:=hbk
           clear hg hbk
           replace cBKg1:=MB.lz8 BKg1.out
           replace cBKg43:=MB.lz5 BKg43.out
           replace cBKg114:=MB.lz5 BKg114.out
           replace cBKg188:=MB.lz8 BKg188.out
           have H:=HH.out
           simp only[Option.some.injEq,Prod.mk.injEq] at H
           obtain⟨rfl,rfl,rfl,rfl,rfl,rfl,rfl,rfl,rfl⟩:=H
           clear HH
           go_wp2
           refine bodyPost_ret (results_ct rfl _ _ g1 27 #[.int .i64 0,.int .i64 0,.bool false,.int .i64 0,.string (⟨#[]⟩:ByteArray),.string (⟨#[]⟩:ByteArray),.string (⟨#[]⟩:ByteArray),.slice none 0 0] (0,0) _ rfl BKg1.out Try.underlying27 rfl (by kernel_rfl)) rfl ?_
           exact⟨none,0,by first|rfl|(simp;done)|(simp[*];done),(Nat.le_refl _),(Kd.F_nil _ _ _),HB.out⟩
          replace HH:=MW.hneg HH c378
          replace c378:=Bool.eq_false_iff.mpr c378
          subst c378
          go_wp2_with ((with_reducible refine gs 27 2 rfl ?_);refine zs 27 2 #[.int .i64 0,.int .i64 0,.bool false,.int .i64 0,.string (⟨#[]⟩:ByteArray),.string (⟨#[]⟩:ByteArray),.string (⟨#[]⟩:ByteArray),.slice none 0 0] BKg1.out [.int .i64 0,.int .i64 0,.bool false,.int .i64 0,.string (⟨#[]⟩:ByteArray),.string (⟨#[]⟩:ByteArray),.string (⟨#[]⟩:ByteArray),.slice none 0 0] (h:=?_);intro w471 hbk hg)
          refine zg ?_
          replace BKg43:=zbg BKg43.out hg NEg43_g1
          replace BKg114:=zbg BKg114.out hg NEg114_g1
          replace BKg188:=zbg BKg188.out hg NEg188_g1
          replace HB:=zhg HB.out hg (below_size HB.out) GEg1
          replace BKg1:=hbk
          clear hg hbk
          replace cBKg1:=MB.lz8 BKg1.out
          replace cBKg43:=MB.lz5 BKg43.out
          replace cBKg114:=MB.lz5 BKg114.out
          replace cBKg188:=MB.lz8 BKg188.out
          have H:=HH.out
          simp only[Option.some.injEq,Prod.mk.injEq] at H
          obtain⟨rfl,rfl,rfl,rfl,rfl,rfl,rfl,rfl,rfl⟩:=H
          clear HH
          go_wp2
          refine bodyPost_ret (results_ct rfl _ _ g1 27 #[.int .i64 0,.int .i64 0,.bool false,.int .i64 0,.string (⟨#[]⟩:ByteArray),.string (⟨#[]⟩:ByteArray),.string (⟨#[]⟩:ByteArray),.slice none 0 0] (0,0) _ rfl BKg1.out Try.underlying27 rfl (by kernel_rfl)) rfl ?_
          exact⟨none,0,by first|rfl|(simp;done)|(simp[*];done),(Nat.le_refl _),(Kd.F_nil _ _ _),HB.out⟩
         replace HH:=zqno 0 HH
         obtain⟨HH,hk505,hk506,hk507,hk508⟩:=HH
         have p509:0≤(0:Int):=by decide
         have q509:(0:Int)<(t29.length:Int):=of_decide_eq_true (by first|(with_reducible assumption)|assumption)
         obtain⟨ad509,A509_4,c509_4,e509,hx509_0,hx509_1,hx509_2,hx509_3,hx509_4,hl509_4,hi509_4⟩:=atF_T57 HF89.out (0:Int) p509 q509
         cases e509
         (try simp only[show((0:Int)).toNat=0 from rfl,show 0*5=0 from rfl] at hx509_0)
         (try rw[Addr.add_zero'] at hx509_0)
         (try simp only[show((0:Int)).toNat=0 from rfl,show 0*5=0 from rfl] at hx509_1)
         (try rw[Addr.add_zero'] at hx509_1)
         (try simp only[show((0:Int)).toNat=0 from rfl,show 0*5=0 from rfl] at hx509_2)
         (try rw[Addr.add_zero'] at hx509_2)
         (try simp only[show((0:Int)).toNat=0 from rfl,show 0*5=0 from rfl] at hx509_3)
         (try rw[Addr.add_zero'] at hx509_3)
         (try simp only[show((0:Int)).toNat=0 from rfl,show 0*5=0 from rfl] at hx509_4)
         (try rw[Addr.add_zero'] at hx509_4)
         have HF509_4:=za hi509_4
         have HL509_4:=za hl509_4
         clear hi509_4 hl509_4
         replace p509:=eq_true p509
         replace q509:=eq_true q509
         replace HH:=zd HH
         obtain⟨⟨t510,t511⟩,At512,HH⟩:=HH
         dsimp only at HH
         go_wp2_with ((with_reducible refine gc 33 rfl ?_);refine zc 33 (some 87) Try.func33 #[.agg #[.int .i64 ((rd_T57 t29 (0:Int)).f0),.bool ((rd_T57 t29 (0:Int)).f1),.int .i64 ((rd_T57 t29 (0:Int)).f2),.string ((rd_T57 t29 (0:Int)).f3),.slice A509_4 ((rd_T57 t29 (0:Int)).f4).length c509_4]] (h:=?_);(with_reducible refine(toponymref16_AsInt.calls k (fun k_=>(((((w.heap.size≤k_)∧some k_≠((.slice A217 t165.length cp218):Value).ownBlock)∧k_≠g1)∧k_≠g43)∧k_≠g114)∧k_≠g188) ((rd_T57 t29 (0:Int)).f0) ((rd_T57 t29 (0:Int)).f1) ((rd_T57 t29 (0:Int)).f2) ((rd_T57 t29 (0:Int)).f3) _ _ ((rd_T57 t29 (0:Int)).f4) t510 t511 _ (Kd.F_mono (ok:=(fun k_=>(((((w.heap.size≤k_)∧k_≠g1)∧k_≠g43)∧k_≠g114)∧some k_≠((.slice A217 t165.length cp218):Value).ownBlock)∧k_≠g188)) HF509_4.out (fun k_ hk_=>⟨⟨⟨⟨⟨hk_.1.1.1.1.1,hk_.1.2⟩,hk_.1.1.1.1.2⟩,hk_.1.1.1.2⟩,hk_.1.1.2⟩,hk_.2⟩)) HL509_4.out At512.out).mono ?_);rintro e w513 ⟨rfl,hb⟩;refine⟨_,rfl,?_⟩)
         refine zg ?_
         replace HN169:=znb HN169.out hb
         replace BKg1:=zbb BKg1.out hb
         replace BKg43:=zbb BKg43.out hb
         replace BKg114:=zbb BKg114.out hb
         replace BKg188:=zbb BKg188.out hb
         replace HB:=zhb HB.out hb
         clear hb
         clear hx509_0 hx509_1 hx509_2 hx509_3 hx509_4 p509 q509
         replace cBKg1:=MB.lz8 BKg1.out
         replace cBKg43:=MB.lz5 BKg43.out
         replace cBKg114:=MB.lz5 BKg114.out
         replace cBKg188:=MB.lz8 BKg188.out
         go_wp2_with ((with_reducible refine gs 3 91 rfl ?_);refine zs 3 91 #[.int .i64 t510,.int .i64 t159,.bool t160,.int .i64 t161,.string t162,.string t163,.string t164,(.slice A217 t165.length cp218)] BKg188.out [.int .i64 t510] (h:=?_);intro w540 hbk hg)
         refine zg ?_
         replace HN169:=zng HN169.out hg fun k_ hk_=>hk_.2
         replace BKg1:=zbg BKg1.out hg NEg1_g188
         replace BKg43:=zbg BKg43.out hg NEg43_g188
         replace BKg114:=zbg BKg114.out hg NEg114_g188
         replace HB:=zhg HB.out hg (below_size HB.out) GEg188
         replace BKg188:=hbk
         clear hg hbk
         replace cBKg1:=MB.lz8 BKg1.out
         replace cBKg43:=MB.lz5 BKg43.out
         replace cBKg114:=MB.lz5 BKg114.out
         replace cBKg188:=MB.lz8 BKg188.out
         by_cases c567:t166=true
         ·replace HH:=MW.hpos HH c567
          subst c567
          have HL571:=za (Kd.N_reads' HN169.out).2.1
          have HF570:=za (Kd.N_F HN169.out)
          clear HN169
          replace HH:=zd HH
          obtain⟨t572,At573,HH⟩:=HH
          go_wp2_with ((with_reducible refine gc 11 rfl ?_);refine zc 11 (some 96) Try.func11 #[.agg #[.int .i64 t510,.int .i64 t159,.bool t160,.int .i64 t161,.string t162,.string t163,.string t164,.slice A217 t165.length cp218]] (h:=?_);(with_reducible refine(toponymref27_Check.calls k (fun k_=>((((w.heap.size≤k_)∧k_≠g1)∧k_≠g43)∧k_≠g114)∧k_≠g188) t510 t159 t160 t161 t162 t163 t164 _ _ t165 t572 _ HF570.out HL571.out At573.out).mono ?_);rintro e w574 ⟨rfl,hb⟩;refine⟨_,rfl,?_⟩)
          refine zg ?_
          replace HF570:=zfb HF570.out hb
          replace BKg1:=zbb BKg1.out hb
          replace BKg43:=zbb BKg43.out hb
          replace BKg114:=zbb BKg114.out hb
          replace BKg188:=zbb BKg188.out hb
          replace HB:=zhb HB.out hb
          clear hb
          replace cBKg1:=MB.lz8 BKg1.out
          replace cBKg43:=MB.lz5 BKg43.out
          replace cBKg114:=MB.lz5 BKg114.out
          replace cBKg188:=MB.lz8 BKg188.out
          replace HH:=zqe HH
          rcases HH with⟨HH,hk602,hk603⟩|⟨HH,hk631,hk632⟩
          ·go_wp2_with ((with_reducible refine gs 27 2 rfl ?_);refine zs 27 2 #[.int .i64 t510,.int .i64 t159,.bool t160,.int .i64 t161,.string t162,.string t163,.string t164,.slice A217 t165.length cp218] BKg1.out [.int .i64 t510,.int .i64 t159,.bool t160,.int .i64 t161,.string t162,.string t163,.string t164,.slice A217 t165.length cp218] (h:=?_);intro w604 hbk hg)
           refine zg ?_
           replace HF570:=zfg HF570.out hg fun k_ hk_=>hk_.1.1.1.2
           replace BKg43:=zbg BKg43.out hg NEg43_g1
           replace BKg114:=zbg BKg114.out hg NEg114_g1
           replace BKg188:=zbg BKg188.out hg NEg188_g1
           replace HB:=zhg HB.out hg (below_size HB.out) GEg1
           replace BKg1:=hbk
           clear hg hbk
           replace cBKg1:=MB.lz8 BKg1.out
           replace cBKg43:=MB.lz5 BKg43.out
           replace cBKg114:=MB.lz5 BKg114.out
           replace cBKg188:=MB.lz8 BKg188.out
           have H:=HH.out
           simp only[Option.some.injEq,Prod.mk.injEq] at H
           obtain⟨rfl,rfl,rfl,rfl,rfl,rfl,rfl,rfl,rfl⟩:=H
           clear HH
           go_wp2
           refine bodyPost_ret (results_ct rfl _ _ g1 27 #[.int .i64 t510,.int .i64 t159,.bool t160,.int .i64 t161,.string t162,.string t163,.string t164,.slice A217 t165.length cp218] (0,0) _ rfl BKg1.out Try.underlying27 rfl (by kernel_rfl)) rfl ?_
           exact⟨_,_,by first|rfl|(simp;done)|(simp[*];done),HL571.out,(Kd.F_mono (ok:=(fun k_=>((((w.heap.size≤k_)∧k_≠g1)∧k_≠g43)∧k_≠g114)∧k_≠g188)) HF570.out (fun k_ hk_=>hk_.1.1.1.1)),HB.out⟩
          go_wp2_with ((with_reducible refine gs 27 2 rfl ?_);refine zs 27 2 #[.int .i64 0,.int .i64 0,.bool false,.int .i64 0,.string (⟨#[]⟩:ByteArray),.string (⟨#[]⟩:ByteArray),.string (⟨#[]⟩:ByteArray),.slice none 0 0] BKg1.out [.int .i64 0,.int .i64 0,.bool false,.int .i64 0,.string (⟨#[]⟩:ByteArray),.string (⟨#[]⟩:ByteArray),.string (⟨#[]⟩:ByteArray),.slice none 0 0] (h:=?_);intro w633 hbk hg)
          refine zg ?_
          replace BKg43:=zbg BKg43.out hg NEg43_g1
          replace BKg114:=zbg BKg114.out hg NEg114_g1
          replace BKg188:=zbg BKg188.out hg NEg188_g1
          replace HB:=zhg HB.out hg (below_size HB.out) GEg1
          replace BKg1:=hbk
          clear hg hbk
          replace cBKg1:=MB.lz8 BKg1.out
          replace cBKg43:=MB.lz5 BKg43.out
          replace cBKg114:=MB.lz5 BKg114.out
          replace cBKg188:=MB.lz8 BKg188.out
          have H:=HH.out
          simp only[Option.some.injEq,Prod.mk.injEq] at H
          obtain⟨rfl,rfl,rfl,rfl,rfl,rfl,rfl,rfl,rfl⟩:=H
          clear HH
          go_wp2
          refine bodyPost_ret (results_ct rfl _ _ g1 27 #[.int .i64 0,.int .i64 0,.bool false,.int .i64 0,.string (⟨#[]⟩:ByteArray),.string (⟨#[]⟩:ByteArray),.string (⟨#[]⟩:ByteArray),.slice none 0 0] (0,0) _ rfl BKg1.out Try.underlying27 rfl (by kernel_rfl)) rfl ?_
          exact⟨none,0,by first|rfl|(simp;done)|(simp[*];done),(Nat.le_refl _),(Kd.F_nil _ _ _),HB.out⟩
         replace HH:=MW.hneg HH c567
         replace c567:=Bool.eq_false_iff.mpr c567
         subst c567
         go_wp2_with ((with_reducible refine gs 27 2 rfl ?_);refine zs 27 2 #[.int .i64 0,.int .i64 0,.bool false,.int .i64 0,.string (⟨#[]⟩:ByteArray),.string (⟨#[]⟩:ByteArray),.string (⟨#[]⟩:ByteArray),.slice none 0 0] BKg1.out [.int .i64 0,.int .i64 0,.bool false,.int .i64 0,.string (⟨#[]⟩:ByteArray),.string (⟨#[]⟩:ByteArray),.string (⟨#[]⟩:ByteArray),.slice none 0 0] (h:=?_);intro w660 hbk hg)
         refine zg ?_
         replace BKg43:=zbg BKg43.out hg NEg43_g1
         replace BKg114:=zbg BKg114.out hg NEg114_g1
         replace BKg188:=zbg BKg188.out hg NEg188_g1
         replace HB:=zhg HB.out hg (below_size HB.out) GEg1
         replace BKg1:=hbk
         clear hg hbk
         replace cBKg1:=MB.lz8 BKg1.out
         replace cBKg43:=MB.lz5 BKg43.out
         replace cBKg114:=MB.lz5 BKg114.out
         replace cBKg188:=MB.lz8 BKg188.out
         have H:=HH.out
         simp only[Option.some.injEq,Prod.mk.injEq] at H
         obtain⟨rfl,rfl,rfl,rfl,rfl,rfl,rfl,rfl,rfl⟩:=H
         clear HH
         go_wp2
         refine bodyPost_ret (results_ct rfl _ _ g1 27 #[.int .i64 0,.int .i64 0,.bool false,.int .i64 0,.string (⟨#[]⟩:ByteArray),.string (⟨#[]⟩:ByteArray),.string (⟨#[]⟩:ByteArray),.slice none 0 0] (0,0) _ rfl BKg1.out Try.underlying27 rfl (by kernel_rfl)) rfl ?_
         exact⟨none,0,by first|rfl|(simp;done)|(simp[*];done),(Nat.le_refl _),(Kd.F_nil _ _ _),HB.out⟩
        replace HH:=MW.hneg HH c156
        have hk691:(rd_T57 t29 (1:Int)).f1=false:=by simpa using c156
        clear c156
        go_wp2_with ((with_reducible refine gs 27 2 rfl ?_);refine zs 27 2 #[.int .i64 0,.int .i64 0,.bool false,.int .i64 0,.string (⟨#[]⟩:ByteArray),.string (⟨#[]⟩:ByteArray),.string (⟨#[]⟩:ByteArray),.slice none 0 0] BKg1.out [.int .i64 0,.int .i64 0,.bool false,.int .i64 0,.string (⟨#[]⟩:ByteArray),.string (⟨#[]⟩:ByteArray),.string (⟨#[]⟩:ByteArray),.slice none 0 0] (h:=?_);intro w692 hbk hg)
        refine zg ?_
        replace BKg43:=zbg BKg43.out hg NEg43_g1
        replace BKg114:=zbg BKg114.out hg NEg114_g1
        replace HB:=zhg HB.out hg (below_size HB.out) GEg1
        replace BKg1:=hbk
        clear hg hbk
        replace cBKg1:=MB.lz8 BKg1.out
        replace cBKg43:=MB.lz5 BKg43.out
        replace cBKg114:=MB.lz5 BKg114.out
        have H:=HH.out
        simp only[Option.some.injEq,Prod.mk.injEq] at H
        obtain⟨rfl,rfl,rfl,rfl,rfl,rfl,rfl,rfl,rfl⟩:=H
        clear HH
        go_wp2
        refine bodyPost_ret (results_ct rfl _ _ g1 27 #[.int .i64 0,.int .i64 0,.bool false,.int .i64 0,.string (⟨#[]⟩:ByteArray),.string (⟨#[]⟩:ByteArray),.string (⟨#[]⟩:ByteArray),.slice none 0 0] (0,0) _ rfl BKg1.out Try.underlying27 rfl (by kernel_rfl)) rfl ?_
        exact⟨none,0,by first|rfl|(simp;done)|(simp[*];done),(Nat.le_refl _),(Kd.F_nil _ _ _),HB.out⟩
       go_wp2_with ((with_reducible refine gs 27 2 rfl ?_);refine zs 27 2 #[.int .i64 0,.int .i64 0,.bool false,.int .i64 0,.string (⟨#[]⟩:ByteArray),.string (⟨#[]⟩:ByteArray),.string (⟨#[]⟩:ByteArray),.slice none 0 0] BKg1.out [.int .i64 0,.int .i64 0,.bool false,.int .i64 0,.string (⟨#[]⟩:ByteArray),.string (⟨#[]⟩:ByteArray),.string (⟨#[]⟩:ByteArray),.slice none 0 0] (h:=?_);intro w713 hbk hg)
       refine zg ?_
       replace BKg43:=zbg BKg43.out hg NEg43_g1
       replace BKg114:=zbg BKg114.out hg NEg114_g1
       replace HB:=zhg HB.out hg (below_size HB.out) GEg1
       replace BKg1:=hbk
       clear hg hbk
       replace cBKg1:=MB.lz8 BKg1.out
       replace cBKg43:=MB.lz5 BKg43.out
       replace cBKg114:=MB.lz5 BKg114.out
       have H:=HH.out
       simp only[Option.some.injEq,Prod.mk.injEq] at H
       obtain⟨rfl,rfl,rfl,rfl,rfl,rfl,rfl,rfl,rfl⟩:=H
       clear HH
       go_wp2
       refine bodyPost_ret (results_ct rfl _ _ g1 27 #[.int .i64 0,.int .i64 0,.bool false,.int .i64 0,.string (⟨#[]⟩:ByteArray),.string (⟨#[]⟩:ByteArray),.string (⟨#[]⟩:ByteArray),.slice none 0 0] (0,0) _ rfl BKg1.out Try.underlying27 rfl (by kernel_rfl)) rfl ?_
       exact⟨none,0,by first|rfl|(simp;done)|(simp[*];done),(Nat.le_refl _),(Kd.F_nil _ _ _),HB.out⟩
      replace HH:=MW.hneg HH c107
      replace c107:=Bool.eq_false_iff.mpr c107
      subst c107
      go_wp2_with ((with_reducible refine gs 27 2 rfl ?_);refine zs 27 2 #[.int .i64 0,.int .i64 0,.bool false,.int .i64 0,.string (⟨#[]⟩:ByteArray),.string (⟨#[]⟩:ByteArray),.string (⟨#[]⟩:ByteArray),.slice none 0 0] BKg1.out [.int .i64 0,.int .i64 0,.bool false,.int .i64 0,.string (⟨#[]⟩:ByteArray),.string (⟨#[]⟩:ByteArray),.string (⟨#[]⟩:ByteArray),.slice none 0 0] (h:=?_);intro w736 hbk hg)
      refine zg ?_
      replace BKg43:=zbg BKg43.out hg NEg43_g1
      replace HB:=zhg HB.out hg (below_size HB.out) GEg1
      replace BKg1:=hbk
      clear hg hbk
      replace cBKg1:=MB.lz8 BKg1.out
      replace cBKg43:=MB.lz5 BKg43.out
      have H:=HH.out
      simp only[Option.some.injEq,Prod.mk.injEq] at H
      obtain⟨rfl,rfl,rfl,rfl,rfl,rfl,rfl,rfl,rfl⟩:=H
      clear HH
      go_wp2
      refine bodyPost_ret (results_ct rfl _ _ g1 27 #[.int .i64 0,.int .i64 0,.bool false,.int .i64 0,.string (⟨#[]⟩:ByteArray),.string (⟨#[]⟩:ByteArray),.string (⟨#[]⟩:ByteArray),.slice none 0 0] (0,0) _ rfl BKg1.out Try.underlying27 rfl (by kernel_rfl)) rfl ?_
      exact⟨none,0,by first|rfl|(simp;done)|(simp[*];done),(Nat.le_refl _),(Kd.F_nil _ _ _),HB.out⟩
     replace HH:=MW.hneg HH c86
     replace c86:=Bool.eq_false_iff.mpr c86
     subst c86
     go_wp2_with ((with_reducible refine gs 27 2 rfl ?_);refine zs 27 2 #[.int .i64 0,.int .i64 0,.bool false,.int .i64 0,.string (⟨#[]⟩:ByteArray),.string (⟨#[]⟩:ByteArray),.string (⟨#[]⟩:ByteArray),.slice none 0 0] BKg1.out [.int .i64 0,.int .i64 0,.bool false,.int .i64 0,.string (⟨#[]⟩:ByteArray),.string (⟨#[]⟩:ByteArray),.string (⟨#[]⟩:ByteArray),.slice none 0 0] (h:=?_);intro w750 hbk hg)
     refine zg ?_
     replace BKg43:=zbg BKg43.out hg NEg43_g1
     replace HB:=zhg HB.out hg (below_size HB.out) GEg1
     replace BKg1:=hbk
     clear hg hbk
     replace cBKg1:=MB.lz8 BKg1.out
     replace cBKg43:=MB.lz5 BKg43.out
     have H:=HH.out
     simp only[Option.some.injEq,Prod.mk.injEq] at H
     obtain⟨rfl,rfl,rfl,rfl,rfl,rfl,rfl,rfl,rfl⟩:=H
     clear HH
     go_wp2
     refine bodyPost_ret (results_ct rfl _ _ g1 27 #[.int .i64 0,.int .i64 0,.bool false,.int .i64 0,.string (⟨#[]⟩:ByteArray),.string (⟨#[]⟩:ByteArray),.string (⟨#[]⟩:ByteArray),.slice none 0 0] (0,0) _ rfl BKg1.out Try.underlying27 rfl (by kernel_rfl)) rfl ?_
     exact⟨none,0,by first|rfl|(simp;done)|(simp[*];done),(Nat.le_refl _),(Kd.F_nil _ _ _),HB.out⟩
    go_wp2_with ((with_reducible refine gs 27 2 rfl ?_);refine zs 27 2 #[.int .i64 0,.int .i64 0,.bool false,.int .i64 0,.string (⟨#[]⟩:ByteArray),.string (⟨#[]⟩:ByteArray),.string (⟨#[]⟩:ByteArray),.slice none 0 0] BKg1.out [.int .i64 0,.int .i64 0,.bool false,.int .i64 0,.string (⟨#[]⟩:ByteArray),.string (⟨#[]⟩:ByteArray),.string (⟨#[]⟩:ByteArray),.slice none 0 0] (h:=?_);intro w766 hbk hg)
    refine zg ?_
    replace BKg43:=zbg BKg43.out hg NEg43_g1
    replace HB:=zhg HB.out hg (below_size HB.out) GEg1
    replace BKg1:=hbk
    clear hg hbk
    replace cBKg1:=MB.lz8 BKg1.out
    replace cBKg43:=MB.lz5 BKg43.out
    have H:=HH.out
    simp only[Option.some.injEq,Prod.mk.injEq] at H
    obtain⟨rfl,rfl,rfl,rfl,rfl,rfl,rfl,rfl,rfl⟩:=H
    clear HH
    go_wp2
    refine bodyPost_ret (results_ct rfl _ _ g1 27 #[.int .i64 0,.int .i64 0,.bool false,.int .i64 0,.string (⟨#[]⟩:ByteArray),.string (⟨#[]⟩:ByteArray),.string (⟨#[]⟩:ByteArray),.slice none 0 0] (0,0) _ rfl BKg1.out Try.underlying27 rfl (by kernel_rfl)) rfl ?_
    exact⟨none,0,by first|rfl|(simp;done)|(simp[*];done),(Nat.le_refl _),(Kd.F_nil _ _ _),HB.out⟩
   go_wp2_with ((with_reducible refine gs 27 2 rfl ?_);refine zs 27 2 #[.int .i64 0,.int .i64 0,.bool false,.int .i64 0,.string (⟨#[]⟩:ByteArray),.string (⟨#[]⟩:ByteArray),.string (⟨#[]⟩:ByteArray),.slice none 0 0] BKg1.out [.int .i64 0,.int .i64 0,.bool false,.int .i64 0,.string (⟨#[]⟩:ByteArray),.string (⟨#[]⟩:ByteArray),.string (⟨#[]⟩:ByteArray),.slice none 0 0] (h:=?_);intro w782 hbk hg)
   refine zg ?_
   replace BKg43:=zbg BKg43.out hg NEg43_g1
   replace HB:=zhg HB.out hg (below_size HB.out) GEg1
   replace BKg1:=hbk
   clear hg hbk
   replace cBKg1:=MB.lz8 BKg1.out
   replace cBKg43:=MB.lz5 BKg43.out
   have H:=HH.out
   simp only[Option.some.injEq,Prod.mk.injEq] at H
   obtain⟨rfl,rfl,rfl,rfl,rfl,rfl,rfl,rfl,rfl⟩:=H
   clear HH
   go_wp2
   refine bodyPost_ret (results_ct rfl _ _ g1 27 #[.int .i64 0,.int .i64 0,.bool false,.int .i64 0,.string (⟨#[]⟩:ByteArray),.string (⟨#[]⟩:ByteArray),.string (⟨#[]⟩:ByteArray),.slice none 0 0] (0,0) _ rfl BKg1.out Try.underlying27 rfl (by kernel_rfl)) rfl ?_
   exact⟨none,0,by first|rfl|(simp;done)|(simp[*];done),(Nat.le_refl _),(Kd.F_nil _ _ _),HB.out⟩
  go_wp2_with ((with_reducible refine gs 27 2 rfl ?_);refine zs 27 2 #[.int .i64 0,.int .i64 0,.bool false,.int .i64 0,.string (⟨#[]⟩:ByteArray),.string (⟨#[]⟩:ByteArray),.string (⟨#[]⟩:ByteArray),.slice none 0 0] BKg1.out [.int .i64 0,.int .i64 0,.bool false,.int .i64 0,.string (⟨#[]⟩:ByteArray),.string (⟨#[]⟩:ByteArray),.string (⟨#[]⟩:ByteArray),.slice none 0 0] (h:=?_);intro w798 hbk hg)
  refine zg ?_
  replace BKg43:=zbg BKg43.out hg NEg43_g1
  replace HB:=zhg HB.out hg (below_size HB.out) GEg1
  replace BKg1:=hbk
  clear hg hbk
  replace cBKg1:=MB.lz8 BKg1.out
  replace cBKg43:=MB.lz5 BKg43.out
  have H:=HH.out
  simp only[Option.some.injEq,Prod.mk.injEq] at H
  obtain⟨rfl,rfl,rfl,rfl,rfl,rfl,rfl,rfl,rfl⟩:=H
  clear HH
  go_wp2
  refine bodyPost_ret (results_ct rfl _ _ g1 27 #[.int .i64 0,.int .i64 0,.bool false,.int .i64 0,.string (⟨#[]⟩:ByteArray),.string (⟨#[]⟩:ByteArray),.string (⟨#[]⟩:ByteArray),.slice none 0 0] (0,0) _ rfl BKg1.out Try.underlying27 rfl (by kernel_rfl)) rfl ?_
  exact⟨none,0,by first|rfl|(simp;done)|(simp[*];done),(Nat.le_refl _),(Kd.F_nil _ _ _),HB.out⟩
 go_wp2_with ((with_reducible refine gs 27 2 rfl ?_);refine zs 27 2 #[.int .i64 0,.int .i64 0,.bool false,.int .i64 0,.string (⟨#[]⟩:ByteArray),.string (⟨#[]⟩:ByteArray),.string (⟨#[]⟩:ByteArray),.slice none 0 0] BKg1.out [.int .i64 0,.int .i64 0,.bool false,.int .i64 0,.string (⟨#[]⟩:ByteArray),.string (⟨#[]⟩:ByteArray),.string (⟨#[]⟩:ByteArray),.slice none 0 0] (h:=?_);intro w814 hbk hg)
 refine zg ?_
 replace BKg43:=zbg BKg43.out hg NEg43_g1
 replace HB:=zhg HB.out hg (below_size HB.out) GEg1
 replace BKg1:=hbk
 clear hg hbk
 replace cBKg1:=MB.lz8 BKg1.out
 replace cBKg43:=MB.lz5 BKg43.out
 have H:=HH.out
 simp only[Option.some.injEq,Prod.mk.injEq] at H
 obtain⟨rfl,rfl,rfl,rfl,rfl,rfl,rfl,rfl,rfl⟩:=H
 clear HH
 go_wp2
 refine bodyPost_ret (results_ct rfl _ _ g1 27 #[.int .i64 0,.int .i64 0,.bool false,.int .i64 0,.string (⟨#[]⟩:ByteArray),.string (⟨#[]⟩:ByteArray),.string (⟨#[]⟩:ByteArray),.slice none 0 0] (0,0) _ rfl BKg1.out Try.underlying27 rfl (by kernel_rfl)) rfl ?_
 exact⟨none,0,by first|rfl|(simp;done)|(simp[*];done),(Nat.le_refl _),(Kd.F_nil _ _ _),HB.out⟩
end Go.Proofs.Ytdjkemhmhkpmkaa.GA
