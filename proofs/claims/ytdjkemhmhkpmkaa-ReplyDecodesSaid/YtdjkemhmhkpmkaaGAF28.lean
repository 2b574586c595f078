import Derived.Test.YtdjkemhmhkpmkaaGA0
import Derived.Test.YtdjkemhmhkpmkaaGAF51
import Derived.Test.YtdjkemhmhkpmkaaGM1
import Derived.Test.YtdjkemhmhkpmkaaMX
namespace Go.Proofs.Ytdjkemhmhkpmkaa.GA
open Go.RowKit Go.Proofs.Ytdjkemhmhkpmkaa Go.Proofs.Ytdjkemhmhkpmkaa.MW Go.Proofs.YtdjkemhmhkpmkaaW.PrintWords Go.Proofs.YtdjkemhmhkpmkaaW.PrintLast Go.Proofs.YtdjkemhmhkpmkaaW.PrintMore
attribute [local go_sem] max2_int min2_int max_two min_two
set_option maxHeartbeats 8000000
set_option maxRecDepth 100000
set_option linter.unusedVariables false
set_option linter.unusedSimpArgs false
def reply_read.l0:Nat→Int→Int→(List (S57))→Int→Option (Int × Int × Bool × Int × ByteArray × ByteArray × ByteArray × (List (S46)) × Bool)
 |0,_,_,_,_=>none
 |k+1,x208,x209,l0_4,t32=>if x208≤10 then((reply_tag.f x208).bind fun t240=>(if t240=((rd_T57 l0_4 (1:Int)).f2) then((reply_read.l0 k (wrap64 (x208+1)) x208 l0_4 t32)) else((reply_read.l0 k (wrap64 (x208+1)) x209 l0_4 t32)))) else(if (((rd_T57 l0_4 (1:Int)).f4).length:Int)<3 then(some (0,0,false,0,(⟨#[]⟩:ByteArray),(⟨#[]⟩:ByteArray),(⟨#[]⟩:ByteArray),([]:List (S46)),false)) else(if (((rd_T57 l0_4 (1:Int)).f4).length:Int)>4 then(some (0,0,false,0,(⟨#[]⟩:ByteArray),(⟨#[]⟩:ByteArray),(⟨#[]⟩:ByteArray),([]:List (S46)),false)) else(if 3≤(((rd_T57 l0_4 (1:Int)).f4).length:Int) then((some (List.drop 1 (List.take 3 ((rd_T57 l0_4 (1:Int)).f4)):List (S57))).bind fun y345=>((reply_texts.f k y345).bind fun t346=>(if t346=true then(if 0<(((rd_T57 l0_4 (1:Int)).f4).length:Int) then((prims_AsInt.f k ((rd_T57 ((rd_T57 l0_4 (1:Int)).f4) (0:Int)).f0) ((rd_T57 ((rd_T57 l0_4 (1:Int)).f4) (0:Int)).f1) ((rd_T57 ((rd_T57 l0_4 (1:Int)).f4) (0:Int)).f2) ((rd_T57 ((rd_T57 l0_4 (1:Int)).f4) (0:Int)).f3) ((rd_T57 ((rd_T57 l0_4 (1:Int)).f4) (0:Int)).f4)).bind fun bt382=>(if 1<(((rd_T57 l0_4 (1:Int)).f4).length:Int) then(if 2<(((rd_T57 l0_4 (1:Int)).f4).length:Int) then(if (((rd_T57 l0_4 (1:Int)).f4).length:Int)=4 then(if 3<(((rd_T57 l0_4 (1:Int)).f4).length:Int) then(some (t32,x209,false,bt382.1,(rd_T57 ((rd_T57 l0_4 (1:Int)).f4) (1:Int)).f3,(rd_T57 ((rd_T57 l0_4 (1:Int)).f4) (2:Int)).f3,(rd_T57 ((rd_T57 l0_4 (1:Int)).f4) (3:Int)).f3,([]:List (S46)),(bt382.2==0))) else(none)) else(some (t32,x209,false,bt382.1,(rd_T57 ((rd_T57 l0_4 (1:Int)).f4) (1:Int)).f3,(rd_T57 ((rd_T57 l0_4 (1:Int)).f4) (2:Int)).f3,(⟨#[]⟩:ByteArray),([]:List (S46)),(bt382.2==0)))) else(none)) else(none))) else(none)) else(some (0,0,false,0,(⟨#[]⟩:ByteArray),(⟨#[]⟩:ByteArray),(⟨#[]⟩:ByteArray),([]:List (S46)),false))))) else(none))))
def reply_read.f (k:Nat) (a0_0:Int) (a0_1:Bool) (a0_2:Int) (a0_3:ByteArray) (l0_4:List (S57)):Option (Int × Int × Bool × Int × ByteArray × ByteArray × ByteArray × (List (S46)) × Bool):=if (l0_4.length:Int)=2 then(if 0<(l0_4.length:Int) then((prims_AsInt.f k ((rd_T57 l0_4 (0:Int)).f0) ((rd_T57 l0_4 (0:Int)).f1) ((rd_T57 l0_4 (0:Int)).f2) ((rd_T57 l0_4 (0:Int)).f3) ((rd_T57 l0_4 (0:Int)).f4)).bind fun bt32=>(if 1<(l0_4.length:Int) then(if bt32.2=0 then(if ((rd_T57 l0_4 (1:Int)).f2)=4 then((reply_entered.f k bt32.1 ((rd_T57 l0_4 (1:Int)).f4)).bind fun bt100=>(some (bt100.1,bt100.2.1,bt100.2.2.1,bt100.2.2.2.1,bt100.2.2.2.2.1,bt100.2.2.2.2.2.1,bt100.2.2.2.2.2.2.1,bt100.2.2.2.2.2.2.2.1,bt100.2.2.2.2.2.2.2.2))) else((reply_read.l0 k 1 0 l0_4 bt32.1))) else(some (0,0,false,0,(⟨#[]⟩:ByteArray),(⟨#[]⟩:ByteArray),(⟨#[]⟩:ByteArray),([]:List (S46)),false))) else(none))) else(none)) else(some (0,0,false,0,(⟨#[]⟩:ByteArray),(⟨#[]⟩:ByteArray),(⟨#[]⟩:ByteArray),([]:List (S46)),false))
theorem reply_read.mono_l:∀ k,(∀ y0 y1 y2 y3,LeO (reply_read.l0 k y0 y1 y2 y3) (reply_read.l0 (k+1) y0 y1 y2 y3))
 |0=>fun _ _ _ _ r h=>by simp[reply_read.l0] at h
 |k+1=>by
  have ih0:=reply_read.mono_l k
  ·intro y0 y1 y2 y3
   unfold reply_read.l0
   with_reducible repeat' first|exact ih0 _ _ _ _|exact prims_AsInt.mono _ _ _ _ _ _|exact reply_entered.mono _ _ _|exact reply_texts.mono _ _|exact LeO.refl _|exact LeO.none _|refine LeO.ite ?_ ?_|refine LeO.bind ?_ (fun _=>?_)
theorem reply_read.mono:∀ a0_ a1_ a2_ a3_ a4_ k,LeO (reply_read.f k a0_ a1_ a2_ a3_ a4_) (reply_read.f (k+1) a0_ a1_ a2_ a3_ a4_):=by
 intro a0_ a1_ a2_ a3_ a4_ k
 have ih0:=reply_read.mono_l k
 unfold reply_read.f
 with_reducible repeat' first|exact ih0 _ _ _ _|exact prims_AsInt.mono _ _ _ _ _ _|exact reply_entered.mono _ _ _|exact reply_texts.mono _ _|exact LeO.refl _|exact LeO.none _|refine LeO.ite ?_ ?_|refine LeO.bind ?_ (fun _=>?_)
theorem reply_read.calls (k:Nat) (P_:Nat→Prop) (a0_0:Int) (a0_1:Bool) (a0_2:Int) (a0_3:ByteArray) (A0_4:Option Addr) (c0_4:Nat) (l0_4:List (S57)) (r1:Int) (r2:Int) (r3:Bool) (r4:Int) (r5:ByteArray) (r6:ByteArray) (r7:ByteArray) (r8:List (S46)) (r9:Bool) (w:World) (hs0_4:Kd.F k57 w P_ A0_4 l0_4.length l0_4) (hc0_4:l0_4.length≤c0_4) (h:reply_read.f k a0_0 a0_1 a0_2 a0_3 l0_4=some (r1,r2,r3,r4,r5,r6,r7,r8,r9)):
  Calls Try.prog 28 #[.agg #[.int .i64 a0_0,.bool a0_1,.int .i64 a0_2,.string a0_3,.slice A0_4 l0_4.length c0_4]] w (fun e w'=>∃ v7_:Value,e=.returned (.tuple #[.agg #[.int .i64 r1,.int .i64 r2,.bool r3,.int .i64 r4,.string r5,.string r6,.string r7,v7_],.bool r9])∧Kd.N k46 46 w' w.heap.size (fun k_=>P_ k_∨w.heap.size≤k_) v7_ r8∧Below w.heap.size w w'):=by
 unfold reply_read.f at h
 have HH:=za h
 clear h
 have HF0_4:=zfp hs0_4
 clear hs0_4 hc0_4
 have HB:=za (Below.refl w.heap.size w)
 have hu27:=Try.underlying27
 have hu57:=Try.underlying57
 go_enter Try.func28,Try.ntmps28
 go_wp2_with ((with_reducible refine gd 1 rfl ?_);refine zb 1 57 #[.int .i64 a0_0,.bool a0_1,.int .i64 a0_2,.string a0_3,.slice A0_4 l0_4.length c0_4] (h:=?_);intro g1 hg w2 BKg1 hb)
 refine zg ?_
 replace HF0_4:=zfe HF0_4.out hg hb
 replace HB:=zhb HB.out hb
 clear hg hb
 replace cBKg1:=MB.lz5 BKg1.out
 go_wp2_with ((with_reducible refine gd 2 rfl ?_);refine zb 2 27 #[.int .i64 0,.int .i64 0,.bool false,.int .i64 0,.string (⟨#[]⟩:ByteArray),.string (⟨#[]⟩:ByteArray),.string (⟨#[]⟩:ByteArray),.slice none 0 0] (h:=?_);intro g8 hg w9 BKg8 hb)
 refine zg ?_
 have GEg8:=zge hg (below_size HB.out)
 have NEg1_g8:=znq hg BKg1.out
 replace HF0_4:=zfe HF0_4.out hg hb
 replace BKg1:=zbb BKg1.out hb
 replace HB:=zhb HB.out hb
 clear hg hb
 replace cBKg1:=MB.lz5 BKg1.out
 replace cBKg8:=MB.lz8 BKg8.out
 replace HH:=zqe HH
 rcases HH with⟨HH,hk24,hk25⟩|⟨HH,hk702,hk703⟩
 ·replace HH:=zqno 0 HH
  obtain⟨HH,hk27,hk28,hk29,hk30⟩:=HH
  have p31:0≤(0:Int):=by decide
  have q31:(0:Int)<(l0_4.length:Int):=of_decide_eq_true (by first|(with_reducible assumption)|assumption)
  obtain⟨ad31,A31_4,c31_4,e31,hx31_0,hx31_1,hx31_2,hx31_3,hx31_4,hl31_4,hi31_4⟩:=atF_T57 HF0_4.out (0:Int) p31 q31
  cases e31
  (try simp only[show((0:Int)).toNat=0 from rfl,show 0*5=0 from rfl] at hx31_0)
  (try rw[Addr.add_zero'] at hx31_0)
  (try simp only[show((0:Int)).toNat=0 from rfl,show 0*5=0 from rfl] at hx31_1)
  (try rw[Addr.add_zero'] at hx31_1)
  (try simp only[show((0:Int)).toNat=0 from rfl,show 0*5=0 from rfl] at hx31_2)
  (try rw[Addr.add_zero'] at hx31_2)
  (try simp only[show((0:Int)).toNat=0 from rfl,show 0*5=0 from rfl] at hx31_3)
  (try rw[Addr.add_zero'] at hx31_3)
  (try simp only[show((0:Int)).toNat=0 from rfl,show 0*5=0 from rfl] at hx31_4)
  (try rw[Addr.add_zero'] at hx31_4)
  have HF31_4:=za hi31_4
  have HL31_4:=za hl31_4
  clear hi31_4 hl31_4
  replace p31:=eq_true p31
  replace q31:=eq_true q31
  replace HH:=zd HH
  obtain⟨⟨t32,t33⟩,At34,HH⟩:=HH
  dsimp only at HH
  go_wp2_with ((with_reducible refine gc 50 rfl ?_);refine zc 50 (some 21) Try.func50 #[.agg #[.int .i64 ((rd_T57 l0_4 (0:Int)).f0),.bool ((rd_T57 l0_4 (0:Int)).f1),.int .i64 ((rd_T57 l0_4 (0:Int)).f2),.string ((rd_T57 l0_4 (0:Int)).f3),.slice A31_4 ((rd_T57 l0_4 (0:Int)).f4).length c31_4]] (h:=?_);(with_reducible refine(prims_AsInt.calls k (fun k_=>((P_ k_∨w.heap.size≤k_)∧k_≠g1)∧k_≠g8) ((rd_T57 l0_4 (0:Int)).f0) ((rd_T57 l0_4 (0:Int)).f1) ((rd_T57 l0_4 (0:Int)).f2) ((rd_T57 l0_4 (0:Int)).f3) _ _ ((rd_T57 l0_4 (0:Int)).f4) t32 t33 _ HF31_4.out HL31_4.out At34.out).mono ?_);rintro e w35 ⟨rfl,hb⟩;refine⟨_,rfl,?_⟩)
  refine zg ?_
  replace HF0_4:=zfb HF0_4.out hb
  replace HF31_4:=zfb HF31_4.out hb
  replace BKg1:=zbb BKg1.out hb
  replace BKg8:=zbb BKg8.out hb
  replace HB:=zhb HB.out hb
  clear hb
  clear hx31_0 hx31_1 hx31_2 hx31_3 hx31_4 p31 q31
  replace cBKg1:=MB.lz5 BKg1.out
  replace cBKg8:=MB.lz8 BKg8.out
  replace HH:=zqno 1 HH
  obtain⟨HH,hk50,hk51,hk52,hk53⟩:=HH
  have p54:0≤(1:Int):=by decide
  have q54:(1:Int)<(l0_4.length:Int):=of_decide_eq_true (by first|(with_reducible assumption)|assumption)
  obtain⟨ad54,A54_4,c54_4,e54,hx54_0,hx54_1,hx54_2,hx54_3,hx54_4,hl54_4,hi54_4⟩:=atF_T57 HF0_4.out (1:Int) p54 q54
  cases e54
  (try simp only[show((1:Int)).toNat=1 from rfl,show 1*5=5 from rfl] at hx54_0)
  (try simp only[Nat.reduceMul,Nat.reduceEqDiff,Go.Addr.add,↓reduceIte] at hx54_0)
  (try simp only[show((1:Int)).toNat=1 from rfl,show 1*5=5 from rfl] at hx54_1)
  (try simp only[Nat.reduceMul,Nat.reduceEqDiff,Go.Addr.add,↓reduceIte] at hx54_1)
  (try simp only[show((1:Int)).toNat=1 from rfl,show 1*5=5 from rfl] at hx54_2)
  (try simp only[Nat.reduceMul,Nat.reduceEqDiff,Go.Addr.add,↓reduceIte] at hx54_2)
  (try simp only[show((1:Int)).toNat=1 from rfl,show 1*5=5 from rfl] at hx54_3)
  (try simp only[Nat.reduceMul,Nat.reduceEqDiff,Go.Addr.add,↓reduceIte] at hx54_3)
  (try simp only[show((1:Int)).toNat=1 from rfl,show 1*5=5 from rfl] at hx54_4)
  (try simp only[Nat.reduceMul,Nat.reduceEqDiff,Go.Addr.add,↓reduceIte] at hx54_4)
  have HF54_4:=za hi54_4
  have HL54_4:=za hl54_4
  clear hi54_4 hl54_4
  replace p54:=eq_true p54
  replace q54:=eq_true q54
  go_wp2_with ((with_reducible refine gd 6 rfl ?_);refine zb 6 57 #[.int .i64 0,.bool false,.int .i64 0,.string (⟨#[]⟩:ByteArray),.slice none 0 0] (h:=?_);intro g55 hg w56 BKg55 hb)
  refine zg ?_
  have GEg55:=zge hg (below_size HB.out)
  have NEg1_g55:=znq hg BKg1.out
  have NEg8_g55:=znq hg BKg8.out
  have NEg55_g8:=zsy NEg8_g55
  replace HF0_4:=zfe HF0_4.out hg hb
  replace HF31_4:=zfe HF31_4.out hg hb
  replace HF54_4:=zfe HF54_4.out hg hb
  replace BKg1:=zbb BKg1.out hb
  replace BKg8:=zbb BKg8.out hb
  replace HB:=zhb HB.out hb
  clear hg hb
  clear hx54_0 hx54_1 hx54_2 hx54_3 hx54_4 p54 q54
  replace cBKg1:=MB.lz5 BKg1.out
  replace cBKg8:=MB.lz8 BKg8.out
  replace cBKg55:=MB.lz5 BKg55.out
  go_wp2_with ((with_reducible refine gs 57 6 rfl ?_);refine zs 57 6 #[.int .i64 ((rd_T57 l0_4 (1:Int)).f0),.bool ((rd_T57 l0_4 (1:Int)).f1),.int .i64 ((rd_T57 l0_4 (1:Int)).f2),.string ((rd_T57 l0_4 (1:Int)).f3),.slice A54_4 ((rd_T57 l0_4 (1:Int)).f4).length c54_4] BKg55.out [.int .i64 ((rd_T57 l0_4 (1:Int)).f0),.bool ((rd_T57 l0_4 (1:Int)).f1),.int .i64 ((rd_T57 l0_4 (1:Int)).f2),.string ((rd_T57 l0_4 (1:Int)).f3),.slice A54_4 ((rd_T57 l0_4 (1:Int)).f4).length c54_4] (h:=?_);intro w75 hbk hg)
  refine zg ?_
  replace HF0_4:=zfg HF0_4.out hg fun k_ hk_=>hk_.2
  replace HF31_4:=zfg HF31_4.out hg fun k_ hk_=>hk_.2
  replace HF54_4:=zfg HF54_4.out hg fun k_ hk_=>hk_.2
  replace BKg1:=zbg BKg1.out hg NEg1_g55
  replace BKg8:=zbg BKg8.out hg NEg8_g55
  replace HB:=zhg HB.out hg (below_size HB.out) GEg55
  replace BKg55:=hbk
  clear hg hbk
  replace cBKg1:=MB.lz5 BKg1.out
  replace cBKg8:=MB.lz8 BKg8.out
  replace cBKg55:=MB.lz5 BKg55.out
  replace HH:=zqe HH
  rcases HH with⟨HH,hk95,hk96⟩|⟨HH,hk673,hk674⟩
  ·replace HH:=zqe HH
   rcases HH with⟨HH,hk98,hk99⟩|⟨HH,hk151,hk152⟩
   ·replace HH:=zd HH
    obtain⟨⟨t100,t101,t102,t103,t104,t105,t106,t107,t108⟩,At109,HH⟩:=HH
    dsimp only at HH
    go_wp2_with ((with_reducible refine gc 51 rfl ?_);refine zc 51 (some 38) Try.func51 #[.int .i64 t32,.slice A54_4 ((rd_T57 l0_4 (1:Int)).f4).length c54_4] (h:=?_);(with_reducible refine(reply_entered.calls k (fun k_=>(((P_ k_∨w.heap.size≤k_)∧k_≠g1)∧k_≠g8)∧k_≠g55) t32 _ _ ((rd_T57 l0_4 (1:Int)).f4) t100 t101 t102 t103 t104 t105 t106 t107 t108 _ HF54_4.out HL54_4.out At109.out).mono ?_);rintro e w110 ⟨v111,rfl,hn111,hb⟩;refine⟨_,rfl,?_⟩)
    refine zg ?_
    have hba:=Kd.N_base hn111
    have HN111:=znl (ok2:=(fun k_=>(((P_ k_∨w.heap.size≤k_)∧k_≠g1)∧k_≠g8)∧k_≠g55)) hn111 (below_size HB.out) (fun k_ hk_=>hk_.elim (fun h_=>h_) (fun h_=>⟨⟨⟨.inr (Nat.le_trans (below_size HB.out) h_),Kd.freshB (g:=g1) BKg1.out k_ h_⟩,Kd.freshB (g:=g8) BKg8.out k_ h_⟩,Kd.freshB (g:=g55) BKg55.out k_ h_⟩))
    replace BKg1:=zbb BKg1.out hb
    replace BKg8:=zbb BKg8.out hb
    replace BKg55:=zbb BKg55.out hb
    replace HB:=zhb HB.out hb
    clear hn111 hba hb
    replace cBKg1:=MB.lz5 BKg1.out
    replace cBKg8:=MB.lz8 BKg8.out
    replace cBKg55:=MB.lz5 BKg55.out
    obtain⟨A131,cp132,he_⟩:=Kd.N_slice HN111.out
    subst he_
    go_wp2_with ((with_reducible refine gs 27 2 rfl ?_);refine zs 27 2 #[.int .i64 t100,.int .i64 t101,.bool t102,.int .i64 t103,.string t104,.string t105,.string t106,(.slice A131 t107.length cp132)] BKg8.out [.int .i64 t100,.int .i64 t101,.bool t102,.int .i64 t103,.string t104,.string t105,.string t106,(.slice A131 t107.length cp132)] (h:=?_);intro w130 hbk hg)
    refine zg ?_
    replace HN111:=zng HN111.out hg fun k_ hk_=>hk_.1.2
    replace BKg1:=zbg BKg1.out hg NEg1_g8
    replace BKg55:=zbg BKg55.out hg NEg55_g8
    replace HB:=zhg HB.out hg (below_size HB.out) GEg8
    replace BKg8:=hbk
    clear hg hbk
    replace cBKg1:=MB.lz5 BKg1.out
    replace cBKg8:=MB.lz8 BKg8.out
    replace cBKg55:=MB.lz5 BKg55.out
    have H:=HH.out
    simp only[Option.some.injEq,Prod.mk.injEq] at H
    obtain⟨rfl,rfl,rfl,rfl,rfl,rfl,rfl,rfl,rfl⟩:=H
    clear HH
    go_wp2
    refine bodyPost_ret (results_ct rfl _ _ g8 27 #[.int .i64 t100,.int .i64 t101,.bool t102,.int .i64 t103,.string t104,.string t105,.string t106,(.slice A131 t107.length cp132)] (0,0) _ rfl BKg8.out Try.underlying27 rfl (by kernel_rfl)) rfl ?_
    exact⟨_,by first|rfl|(simp;done)|(simp[*];done),(Kd.N_mono (ok:=(fun k_=>(((P_ k_∨w.heap.size≤k_)∧k_≠g1)∧k_≠g8)∧k_≠g55)) HN111.out (fun k_ hk_=>hk_.1.1.1)),HB.out⟩
   go_wp2_with ((with_reducible refine gd 8 rfl ?_);refine zb 8 27 #[.int .i64 0,.int .i64 0,.bool false,.int .i64 0,.string (⟨#[]⟩:ByteArray),.string (⟨#[]⟩:ByteArray),.string (⟨#[]⟩:ByteArray),.slice none 0 0] (h:=?_);intro g153 hg w154 BKg153 hb)
   refine zg ?_
   have GEg153:=zge hg (below_size HB.out)
   have NEg1_g153:=znq hg BKg1.out
   have NEg8_g153:=znq hg BKg8.out
   have NEg153_g8:=zsy NEg8_g153
   have NEg55_g153:=znq hg BKg55.out
   replace HF0_4:=zfe HF0_4.out hg hb
   replace HF31_4:=zfe HF31_4.out hg hb
   replace HF54_4:=zfe HF54_4.out hg hb
   replace BKg1:=zbb BKg1.out hb
   replace BKg8:=zbb BKg8.out hb
   replace BKg55:=zbb BKg55.out hb
   replace HB:=zhb HB.out hb
   clear hg hb
   replace cBKg1:=MB.lz5 BKg1.out
   replace cBKg8:=MB.lz8 BKg8.out
   replace cBKg55:=MB.lz5 BKg55.out
   replace cBKg153:=MB.lz8 BKg153.out
   go_wp2_with ((with_reducible refine gs 27 8 rfl ?_);refine zs 27 8 #[.int .i64 t32,.int .i64 0,.bool false,.int .i64 0,.string (⟨#[]⟩:ByteArray),.string (⟨#[]⟩:ByteArray),.string (⟨#[]⟩:ByteArray),.slice none 0 0] BKg153.out [.int .i64 t32,.int .i64 0,.bool false,.int .i64 0,.string (⟨#[]⟩:ByteArray),.string (⟨#[]⟩:ByteArray),.string (⟨#[]⟩:ByteArray),.slice none 0 0] (h:=?_);intro w181 hbk hg)
   refine zg ?_
   replace HF0_4:=zfg HF0_4.out hg fun k_ hk_=>hk_.2
   replace HF31_4:=zfg HF31_4.out hg fun k_ hk_=>hk_.2
   replace HF54_4:=zfg HF54_4.out hg fun k_ hk_=>hk_.2
   replace BKg1:=zbg BKg1.out hg NEg1_g153
   replace BKg8:=zbg BKg8.out hg NEg8_g153
   replace BKg55:=zbg BKg55.out hg NEg55_g153
   replace HB:=zhg HB.out hg (below_size HB.out) GEg153
   replace BKg153:=hbk
   clear hg hbk
   replace cBKg1:=MB.lz5 BKg1.out
   replace cBKg8:=MB.lz8 BKg8.out
   replace cBKg55:=MB.lz5 BKg55.out
   replace cBKg153:=MB.lz8 BKg153.out
   go_wp2
   go_loopg [9] k (fun kq u9 w'=>∃ (x208:Int) (x209:Int),u9=.int .i64 x208∧Aside0 ((reply_read.l0 kq x208 x209 l0_4 t32)=some (r1,r2,r3,r4,r5,r6,r7,r8,r9))∧Aside0 (kq≤k)∧Aside0 (Kd.F k57 w' (fun k_=>((((P_ k_∨w.heap.size≤k_)∧k_≠g1)∧k_≠g8)∧k_≠g55)∧k_≠g153) (some ad31) l0_4.length l0_4)∧Aside0 (Kd.F k57 w' (fun k_=>((((P_ k_∨w.heap.size≤k_)∧k_≠g1)∧k_≠g8)∧k_≠g55)∧k_≠g153) A54_4 ((rd_T57 l0_4 (1:Int)).f4).length ((rd_T57 l0_4 (1:Int)).f4))∧Aside0 (w'.heap[g1]? =some (.cells #[.int .i64 a0_0,.bool a0_1,.int .i64 a0_2,.string a0_3,.slice (some ad31) l0_4.length c0_4] 57 (0,0)))∧Aside0 (w'.heap[g8]? =some (.cells #[.int .i64 0,.int .i64 0,.bool false,.int .i64 0,.string (⟨#[]⟩:ByteArray),.string (⟨#[]⟩:ByteArray),.string (⟨#[]⟩:ByteArray),.slice none 0 0] 27 (0,0)))∧Aside0 (w'.heap[g55]? =some (.cells #[.int .i64 ((rd_T57 l0_4 (1:Int)).f0),.bool ((rd_T57 l0_4 (1:Int)).f1),.int .i64 ((rd_T57 l0_4 (1:Int)).f2),.string ((rd_T57 l0_4 (1:Int)).f3),.slice A54_4 ((rd_T57 l0_4 (1:Int)).f4).length c54_4] 57 (0,0)))∧Aside0 (w'.heap[g153]? =some (.cells #[.int .i64 t32,.int .i64 x209,.bool false,.int .i64 0,.string (⟨#[]⟩:ByteArray),.string (⟨#[]⟩:ByteArray),.string (⟨#[]⟩:ByteArray),.slice none 0 0] 27 (0,0)))∧Aside0 (Below w.heap.size w w'))
   case atStart=>exact⟨1,0,(by first|rfl|(simp;done)|(simp[*];done)),HH,⟨Nat.le_refl _⟩,⟨HF0_4.out⟩,⟨HF54_4.out⟩,⟨BKg1.out⟩,⟨BKg8.out⟩,⟨BKg55.out⟩,⟨BKg153.out⟩,⟨HB.out⟩⟩
   case round=>
    clear hk24
    clear hk25
    clear hk27
    clear hk28
    clear hk29
    clear hk30
    clear hk50
    clear hk51
    clear hk52
    clear hk53
    clear hk95
    clear hk96
    clear hk151
    clear hk152
    clear HH
    clear HF0_4 HF31_4 HF54_4 BKg1 BKg8 BKg55 BKg153 HB
    obtain⟨x208,x209,rfl,HA,HK0,HF0_4,HF54_4,BKg1,BKg8,BKg55,BKg153,HB⟩:=hrel
    obtain⟨w211,rfl⟩:∃ wo_:World,wo_=wr:=⟨_,rfl⟩
    cases gk with
    |zero=>exact absurd HA.out (by simp[reply_read.l0])
    |succ k210=>
     have H:=HA.out
     clear HA
     simp only[reply_read.l0] at H
     have HH:=za H
     clear H
     replace cBKg1:=MB.lz5 BKg1.out
     replace cBKg8:=MB.lz8 BKg8.out
     replace cBKg55:=MB.lz5 BKg55.out
     replace cBKg153:=MB.lz8 BKg153.out
     replace HH:=zqd HH
     rcases HH with⟨HH,hk239⟩|⟨HH,hk274⟩
     ·replace HH:=zd HH
      obtain⟨t240,At241,HH⟩:=HH
      replace HH:=zqe HH
      rcases HH with⟨HH,hk243,hk244⟩|⟨HH,hk272,hk273⟩
      ·go_wp2
       go_quiet ((first|(go_at_call 22;first|exact Calls.quiet_of (MW.drawn (reply_tag.calls  x208 t240 _  At241.out))|exact MW.quiet_far (MW.drawn (reply_tag.calls  x208 t240 _  At241.out)))))
       go_wp2_with ((with_reducible refine gs 3 53 rfl ?_);refine zs 3 53 #[.int .i64 t32,.int .i64 x208,.bool false,.int .i64 0,.string (⟨#[]⟩:ByteArray),.string (⟨#[]⟩:ByteArray),.string (⟨#[]⟩:ByteArray),.slice none 0 0] (cs:= #[.int .i64 t32,.int .i64 x209,.bool false,.int .i64 0,.string (⟨#[]⟩:ByteArray),.string (⟨#[]⟩:ByteArray),.string (⟨#[]⟩:ByteArray),.slice none 0 0]) (ty:=27) (by(with_reducible repeat(first|refine blk_drewN ?_ _|refine blk_drew ?_|refine blk_alloc ?_ _));exact BKg153.out) [.int .i64 x208] (h:=?_);intro w245 hbk hg)
       refine zg ?_
       replace HF0_4:=zfg (ok:=(fun k_=>((((P_ k_∨w.heap.size≤k_)∧k_≠g1)∧k_≠g8)∧k_≠g55)∧k_≠g153)) (by(with_reducible repeat(first|apply Kd.F_alloc|apply Kd.F_drewN|apply Kd.F_drew));exact HF0_4.out) hg fun k_ hk_=>hk_.2
       replace HF54_4:=zfg (ok:=(fun k_=>((((P_ k_∨w.heap.size≤k_)∧k_≠g1)∧k_≠g8)∧k_≠g55)∧k_≠g153)) (by(with_reducible repeat(first|apply Kd.F_alloc|apply Kd.F_drewN|apply Kd.F_drew));exact HF54_4.out) hg fun k_ hk_=>hk_.2
       replace BKg1:=zbg (o2:=.cells #[.int .i64 a0_0,.bool a0_1,.int .i64 a0_2,.string a0_3,.slice (some ad31) l0_4.length c0_4] 57 (0,0)) (by(with_reducible repeat(first|refine blk_drewN ?_ _|refine blk_drew ?_|refine blk_alloc ?_ _));exact BKg1.out) hg NEg1_g153
       replace BKg8:=zbg (o2:=.cells #[.int .i64 0,.int .i64 0,.bool false,.int .i64 0,.string (⟨#[]⟩:ByteArray),.string (⟨#[]⟩:ByteArray),.string (⟨#[]⟩:ByteArray),.slice none 0 0] 27 (0,0)) (by(with_reducible repeat(first|refine blk_drewN ?_ _|refine blk_drew ?_|refine blk_alloc ?_ _));exact BKg8.out) hg NEg8_g153
       replace BKg55:=zbg (o2:=.cells #[.int .i64 ((rd_T57 l0_4 (1:Int)).f0),.bool ((rd_T57 l0_4 (1:Int)).f1),.int .i64 ((rd_T57 l0_4 (1:Int)).f2),.string ((rd_T57 l0_4 (1:Int)).f3),.slice A54_4 ((rd_T57 l0_4 (1:Int)).f4).length c54_4] 57 (0,0)) (by(with_reducible repeat(first|refine blk_drewN ?_ _|refine blk_drew ?_|refine blk_alloc ?_ _));exact BKg55.out) hg NEg55_g153
       replace HB:=zhg (by repeat(first|(with_reducible first|exact HB.out|apply below_alloc|apply pw_below_drewN|apply below_drew1)|exact HB.out)) hg (below_size (by repeat(first|(with_reducible first|exact HB.out|apply below_alloc|apply pw_below_drewN|apply below_drew1)|exact HB.out))) GEg153
       replace BKg153:=hbk
       clear hg hbk
       replace cBKg1:=MB.lz5 BKg1.out
       replace cBKg8:=MB.lz8 BKg8.out
       replace cBKg55:=MB.lz5 BKg55.out
       replace cBKg153:=MB.lz8 BKg153.out
       go_wp2
       go_roundg k210
       case measure=>have:=HK0.out;omega
       case rel=>exact⟨wrap64 (x208+1),x208,(by first|rfl|(simp;done)|(simp[*];done)),HH,⟨by have:=HK0.out;omega⟩,⟨HF0_4.out⟩,⟨HF54_4.out⟩,⟨BKg1.out⟩,⟨BKg8.out⟩,⟨BKg55.out⟩,⟨BKg153.out⟩,⟨HB.out⟩⟩
      go_wp2
      go_quiet ((first|(go_at_call 22;first|exact Calls.quiet_of (MW.drawn (reply_tag.calls  x208 t240 _  At241.out))|exact MW.quiet_far (MW.drawn (reply_tag.calls  x208 t240 _  At241.out)))))
      go_wp2
      go_roundg k210
      case measure=>have:=HK0.out;omega
      case rel=>exact⟨wrap64 (x208+1),x209,(by first|rfl|(simp;done)|(simp[*];done)),HH,⟨by have:=HK0.out;omega⟩,⟨(by(with_reducible repeat(first|apply Kd.F_alloc|apply Kd.F_drewN|apply Kd.F_drew));exact HF0_4.out)⟩,⟨(by(with_reducible repeat(first|apply Kd.F_alloc|apply Kd.F_drewN|apply Kd.F_drew));exact HF54_4.out)⟩,⟨(by(with_reducible repeat(first|refine blk_drewN ?_ _|refine blk_drew ?_|refine blk_alloc ?_ _));exact BKg1.out)⟩,⟨(by(with_reducible repeat(first|refine blk_drewN ?_ _|refine blk_drew ?_|refine blk_alloc ?_ _));exact BKg8.out)⟩,⟨(by(with_reducible repeat(first|refine blk_drewN ?_ _|refine blk_drew ?_|refine blk_alloc ?_ _));exact BKg55.out)⟩,⟨(by(with_reducible repeat(first|refine blk_drewN ?_ _|refine blk_drew ?_|refine blk_alloc ?_ _));exact BKg153.out)⟩,⟨(by repeat(first|(with_reducible first|exact HB.out|apply below_alloc|apply pw_below_drewN|apply below_drew1)|exact HB.out))⟩⟩
     replace HH:=zqN 3 HH
     rcases HH with⟨HH,hk276,hk277,hk278⟩|⟨HH,hk306,hk307,hk308⟩
     ·go_wp2_with ((with_reducible refine gs 27 2 rfl ?_);refine zs 27 2 #[.int .i64 0,.int .i64 0,.bool false,.int .i64 0,.string (⟨#[]⟩:ByteArray),.string (⟨#[]⟩:ByteArray),.string (⟨#[]⟩:ByteArray),.slice none 0 0] BKg8.out [.int .i64 0,.int .i64 0,.bool false,.int .i64 0,.string (⟨#[]⟩:ByteArray),.string (⟨#[]⟩:ByteArray),.string (⟨#[]⟩:ByteArray),.slice none 0 0] (h:=?_);intro w279 hbk hg)
      refine zg ?_
      replace BKg1:=zbg BKg1.out hg NEg1_g8
      replace BKg55:=zbg BKg55.out hg NEg55_g8
      replace BKg153:=zbg BKg153.out hg NEg153_g8
      replace HB:=zhg HB.out hg (below_size HB.out) GEg8
      replace BKg8:=hbk
      clear hg hbk
      replace cBKg1:=MB.lz5 BKg1.out
      replace cBKg8:=MB.lz8 BKg8.out
      replace cBKg55:=MB.lz5 BKg55.out
      replace cBKg153:=MB.lz8 BKg153.out
      have H:=HH.out
      simp only[Option.some.injEq,Prod.mk.injEq] at H
      obtain⟨rfl,rfl,rfl,rfl,rfl,rfl,rfl,rfl,rfl⟩:=H
      clear HH
      go_wp2
      refine bodyPost_ret (results_ct rfl _ _ g8 27 #[.int .i64 0,.int .i64 0,.bool false,.int .i64 0,.string (⟨#[]⟩:ByteArray),.string (⟨#[]⟩:ByteArray),.string (⟨#[]⟩:ByteArray),.slice none 0 0] (0,0) _ rfl BKg8.out Try.underlying27 rfl (by kernel_rfl)) rfl ?_
      exact⟨_,by first|rfl|(simp;done)|(simp[*];done),(Kd.N_nil _ _ _ _ _),HB.out⟩
     replace HH:=zqK 4 HH
     rcases HH with⟨HH,hk310,hk311⟩|⟨HH,hk339,hk340⟩
     ·go_wp2_with ((with_reducible refine gs 27 2 rfl ?_);refine zs 27 2 #[.int .i64 0,.int .i64 0,.bool false,.int .i64 0,.string (⟨#[]⟩:ByteArray),.string (⟨#[]⟩:ByteArray),.string (⟨#[]⟩:ByteArray),.slice none 0 0] BKg8.out [.int .i64 0,.int .i64 0,.bool false,.int .i64 0,.string (⟨#[]⟩:ByteArray),.string (⟨#[]⟩:ByteArray),.string (⟨#[]⟩:ByteArray),.slice none 0 0] (h:=?_);intro w312 hbk hg)
      refine zg ?_
      replace BKg1:=zbg BKg1.out hg NEg1_g8
      replace BKg55:=zbg BKg55.out hg NEg55_g8
      replace BKg153:=zbg BKg153.out hg NEg153_g8
      replace HB:=zhg HB.out hg (below_size HB.out) GEg8
      replace BKg8:=hbk
      clear hg hbk
      replace cBKg1:=MB.lz5 BKg1.out
      replace cBKg8:=MB.lz8 BKg8.out
      replace cBKg55:=MB.lz5 BKg55.out
      replace cBKg153:=MB.lz8 BKg153.out
      have H:=HH.out
      simp only[Option.some.injEq,Prod.mk.injEq] at H
      obtain⟨rfl,rfl,rfl,rfl,rfl,rfl,rfl,rfl,rfl⟩:=H
      clear HH
      go_wp2
      refine bodyPost_ret (results_ct rfl _ _ g8 27 #[.int .i64 0,.int .i64 0,.bool false,.int .i64 0,.string (⟨#[]⟩:ByteArray),.string (⟨#[]⟩:ByteArray),.string (⟨#[]⟩:ByteArray),.slice none 0 0] (0,0) _ rfl BKg8.out Try.underlying27 rfl (by kernel_rfl)) rfl ?_
      exact⟨_,by first|rfl|(simp;done)|(simp[*];done),(Kd.N_nil _ _ _ _ _),HB.out⟩
     replace HH:=zqlo 3 HH
     obtain⟨HH,hk343,hk344⟩:=HH
     obtain⟨i0341,hi0341,_,hsz341,_⟩:=info_parts info57
     have q0341:0≤(1:Int):=(by decide)
     have ql341:(1:Int)≤(3:Int):=(by first|exact Int.le_refl _|exact of_decide_eq_true (by first|(with_reducible assumption)|assumption)|(simp;done))
     have qh341:(3:Int)≤(((rd_T57 l0_4 (1:Int)).f4).length:Int):=(by first|exact Int.le_refl _|exact of_decide_eq_true (by first|(with_reducible assumption)|assumption)|(simp;done))
     have hcut341:=cut_mid (P:=Try.prog) 55 57 .i64 .i64 Try.underlying55 hi0341 5 hsz341 A54_4 ((rd_T57 l0_4 (1:Int)).f4).length c54_4 1 3 q0341 ql341 qh341 HL54_4.out
     have hr341:Kd.F k57 w211 (fun k_=>((((P_ k_∨w.heap.size≤k_)∧k_≠g1)∧k_≠g8)∧k_≠g55)∧k_≠g153) (if c54_4=1 then A54_4 else(A54_4:Option Addr).map (·.add (1*5))) (List.drop 1 (List.take 3 ((rd_T57 l0_4 (1:Int)).f4))).length (List.drop 1 (List.take 3 ((rd_T57 l0_4 (1:Int)).f4))):=Kd.F_mid (lo:=1) (hi:=3) (c:=c54_4) HF54_4.out (by omega) (by omega) HL54_4.out
     have hy341:(List.drop 1 (List.take 3 ((rd_T57 l0_4 (1:Int)).f4))).length=3 - 1:=(by rw[List.length_drop,List.length_take];omega)
     have hl341:(List.drop 1 (List.take 3 ((rd_T57 l0_4 (1:Int)).f4))).length≤c54_4 - 1:=(by have:=HL54_4.out;rw[List.length_drop,List.length_take];omega)
     try simp only[show((1:Int)).toNat=1 from rfl] at hcut341
     try simp only[show((3:Int)).toNat=3 from rfl] at hcut341
     rw[← hy341] at hcut341
     generalize (if c54_4=1 then A54_4 else(A54_4:Option Addr).map (·.add (1*5)))=A341 at hcut341 hr341
     generalize c54_4 - 1=cp341 at hcut341 hl341
     clear hy341 q0341 ql341 qh341
     have HF341:=za hr341
     have HL341:=za hl341
     clear hr341 hl341 hi0341 hsz341
     obtain⟨y345,hy345⟩:∃ y_:List (S57),y_=List.drop 1 (List.take 3 ((rd_T57 l0_4 (1:Int)).f4)):=⟨_,rfl⟩
     rw[← hy345] at hcut341 HL341 HF341
     have H:((reply_texts.f k210 y345).bind fun t346=>(if t346=true then(if 0<(((rd_T57 l0_4 (1:Int)).f4).length:Int) then((prims_AsInt.f k210 ((rd_T57 ((rd_T57 l0_4 (1:Int)).f4) (0:Int)).f0) ((rd_T57 ((rd_T57 l0_4 (1:Int)).f4) (0:Int)).f1) ((rd_T57 ((rd_T57 l0_4 (1:Int)).f4) (0:Int)).f2) ((rd_T57 ((rd_T57 l0_4 (1:Int)).f4) (0:Int)).f3) ((rd_T57 ((rd_T57 l0_4 (1:Int)).f4) (0:Int)).f4)).bind fun bt382=>(if 1<(((rd_T57 l0_4 (1:Int)).f4).length:Int) then(if 2<(((rd_T57 l0_4 (1:Int)).f4).length:Int) then(if (((rd_T57 l0_4 (1:Int)).f4).length:Int)=4 then(if 3<(((rd_T57 l0_4 (1:Int)).f4).length:Int) then(some (t32,x209,false,bt382.1,(rd_T57 ((rd_T57 l0_4 (1:Int)).f4) (1:Int)).f3,(rd_T57 ((rd_T57 l0_4 (1:Int)).f4) (2:Int)).f3,(rd_T57 ((rd_T57 l0_4 (1:Int)).f4) (3:Int)).f3,([]:List (S46)),(bt382.2==0))) else(none)) else(some (t32,x209,false,bt382.1,(rd_T57 ((rd_T57 l0_4 (1:Int)).f4) (1:Int)).f3,(rd_T57 ((rd_T57 l0_4 (1:Int)).f4) (2:Int)).f3,(⟨#[]⟩:ByteArray),([]:List (S46)),(bt382.2==0)))) else(none)) else(none))) else(none)) else(some (0,0,false,0,(⟨#[]⟩:ByteArray),(⟨#[]⟩:ByteArray),(⟨#[]⟩:ByteArray),([]:List (S46)),false))))=some (r1,r2,r3,r4,r5,r6,r7,r8,r9):=by rw[hy345];exact HH.out
     replace HH:=za H
     clear H
     clear hy345
     replace HH:=zd HH
     obtain⟨t346,At347,HH⟩:=HH
     go_wp2_with ((with_reducible refine gc 52 rfl ?_);refine zc 52 (some 65) Try.func52 #[.slice A341 y345.length cp341] (h:=?_);(with_reducible refine(reply_texts.calls k210 (fun k_=>((((P_ k_∨w.heap.size≤k_)∧k_≠g1)∧k_≠g8)∧k_≠g55)∧k_≠g153) _ _ y345 t346 _ HF341.out HL341.out At347.out).mono ?_);rintro e w348 ⟨rfl,hb⟩;refine⟨_,rfl,?_⟩)
     refine zg ?_
     replace HF54_4:=zfb HF54_4.out hb
     replace BKg1:=zbb BKg1.out hb
     replace BKg8:=zbb BKg8.out hb
     replace BKg55:=zbb BKg55.out hb
     replace BKg153:=zbb BKg153.out hb
     replace HB:=zhb HB.out hb
     clear hb
     clear hcut341
     replace cBKg1:=MB.lz5 BKg1.out
     replace cBKg8:=MB.lz8 BKg8.out
     replace cBKg55:=MB.lz5 BKg55.out
     replace cBKg153:=MB.lz8 BKg153.out
     by_cases c375:t346=true
     ·replace HH:=MW.hpos HH c375
      subst c375
      replace HH:=zqno 0 HH
      obtain⟨HH,hk377,hk378,hk379,hk380⟩:=HH
      have p381:0≤(0:Int):=by decide
      have q381:(0:Int)<(((rd_T57 l0_4 (1:Int)).f4).length:Int):=of_decide_eq_true (by first|(with_reducible assumption)|assumption)
      obtain⟨ad381,A381_4,c381_4,e381,hx381_0,hx381_1,hx381_2,hx381_3,hx381_4,hl381_4,hi381_4⟩:=atF_T57 HF54_4.out (0:Int) p381 q381
      cases e381
      (try simp only[show((0:Int)).toNat=0 from rfl,show 0*5=0 from rfl] at hx381_0)
      (try rw[Addr.add_zero'] at hx381_0)
      (try simp only[show((0:Int)).toNat=0 from rfl,show 0*5=0 from rfl] at hx381_1)
      (try rw[Addr.add_zero'] at hx381_1)
      (try simp only[show((0:Int)).toNat=0 from rfl,show 0*5=0 from rfl] at hx381_2)
      (try rw[Addr.add_zero'] at hx381_2)
      (try simp only[show((0:Int)).toNat=0 from rfl,show 0*5=0 from rfl] at hx381_3)
      (try rw[Addr.add_zero'] at hx381_3)
      (try simp only[show((0:Int)).toNat=0 from rfl,show 0*5=0 from rfl] at hx381_4)
      (try rw[Addr.add_zero'] at hx381_4)
      have HF381_4:=za hi381_4
      have HL381_4:=za hl381_4
      clear hi381_4 hl381_4
      replace p381:=eq_true p381
      replace q381:=eq_true q381
      replace HH:=zd HH
      obtain⟨⟨t382,t383⟩,At384,HH⟩:=HH
      dsimp only at HH
      go_wp2_with ((with_reducible refine gc 50 rfl ?_);refine zc 50 (some 73) Try.func50 #[.agg #[.int .i64 ((rd_T57 ((rd_T57 l0_4 (1:Int)).f4) (0:Int)).f0),.bool ((rd_T57 ((rd_T57 l0_4 (1:Int)).f4) (0:Int)).f1),.int .i64 ((rd_T57 ((rd_T57 l0_4 (1:Int)).f4) (0:Int)).f2),.string ((rd_T57 ((rd_T57 l0_4 (1:Int)).f4) (0:Int)).f3),.slice A381_4 ((rd_T57 ((rd_T57 l0_4 (1:Int)).f4) (0:Int)).f4).length c381_4]] (h:=?_);(with_reducible refine(prims_AsInt.calls k210 (fun k_=>((((P_ k_∨w.heap.size≤k_)∧k_≠g1)∧k_≠g8)∧k_≠g55)∧k_≠g153) ((rd_T57 ((rd_T57 l0_4 (1:Int)).f4) (0:Int)).f0) ((rd_T57 ((rd_T57 l0_4 (1:Int)).f4) (0:Int)).f1) ((rd_T57 ((rd_T57 l0_4 (1:Int)).f4) (0:Int)).f2) ((rd_T57 ((rd_T57 l0_4 (1:Int)).f4) (0:Int)).f3) _ _ ((rd_T57 ((rd_T57 l0_4 (1:Int)).f4) (0:Int)).f4) t382 t383 _ HF381_4.out HL381_4.out At384.out).mono ?_);rintro e w385 ⟨rfl,hb⟩;refine⟨_,rfl,?_⟩)
      refine zg ?_
      replace HF54_4:=zfb HF54_4.out hb
      replace BKg1:=zbb BKg1.out hb
      replace BKg8:=zbb BKg8.out hb
      replace BKg55:=zbb BKg55.out hb
      replace BKg153:=zbb BKg153.out hb
      replace HB:=zhb HB.out hb
      clear hb
      clear hx381_0 hx381_1 hx381_2 hx381_3 hx381_4 p381 q381
      replace cBKg1:=MB.lz5 BKg1.out
      replace cBKg8:=MB.lz8 BKg8.out
      replace cBKg55:=MB.lz5 BKg55.out
      replace cBKg153:=MB.lz8 BKg153.out
      go_wp2
      have hwr_:∀ n_:Int,IntKind.i64.wrap n_=wrap64 n_:=fun n_=>IntWalk.i64_left n_
      refine wp_region_any (by kernel_rfl) ?_
      change wpAny _ _ _ _ 15 #[false,false,false,false,false,false,false,false,false,false,false,false,false,false,false] _ w385.drew
      obtain⟨w412,hw_⟩:∃ w_:World,w_=w385.drew:=⟨_,rfl⟩
      rw[← hw_]
      have hb:Below w385.heap.size w385 w412:=by rw[hw_];exact below_drew1 (Below.refl _ _)
      clear hw_
      replace HF54_4:=zfb HF54_4.out hb
      replace BKg1:=zbb BKg1.out hb
      replace BKg8:=zbb BKg8.out hb
      replace BKg55:=zbb BKg55.out hb
      replace BKg153:=zbb BKg153.out hb
      replace HB:=zhb HB.out hb
      clear hb
      replace cBKg1:=MB.lz5 BKg1.out
      replace cBKg8:=MB.lz8 BKg8.out
      replace cBKg55:=MB.lz5 BKg55.out
      replace cBKg153:=MB.lz8 BKg153.out
      replace HH:=zqno 1 HH
      obtain⟨HH,hk440,hk441,hk442,hk443⟩:=HH
      have p444:0≤(1:Int):=by decide
      have q444:(1:Int)<(((rd_T57 l0_4 (1:Int)).f4).length:Int):=of_decide_eq_true (by first|(with_reducible assumption)|assumption)
      obtain⟨ad444,A444_4,c444_4,e444,hx444_0,hx444_1,hx444_2,hx444_3,hx444_4,hl444_4,hi444_4⟩:=atF_T57 HF54_4.out (1:Int) p444 q444
      cases e444
      (try simp only[show((1:Int)).toNat=1 from rfl,show 1*5=5 from rfl] at hx444_0)
      (try simp only[Nat.reduceMul,Nat.reduceEqDiff,Go.Addr.add,↓reduceIte] at hx444_0)
      (try simp only[show((1:Int)).toNat=1 from rfl,show 1*5=5 from rfl] at hx444_1)
      (try simp only[Nat.reduceMul,Nat.reduceEqDiff,Go.Addr.add,↓reduceIte] at hx444_1)
      (try simp only[show((1:Int)).toNat=1 from rfl,show 1*5=5 from rfl] at hx444_2)
      (try simp only[Nat.reduceMul,Nat.reduceEqDiff,Go.Addr.add,↓reduceIte] at hx444_2)
      (try simp only[show((1:Int)).toNat=1 from rfl,show 1*5=5 from rfl] at hx444_3)
      (try simp only[Nat.reduceMul,Nat.reduceEqDiff,Go.Addr.add,↓reduceIte] at hx444_3)
      (try simp only[show((1:Int)).toNat=1 from rfl,show 1*5=5 from rfl] at hx444_4)
      (try simp only[Nat.reduceMul,Nat.reduceEqDiff,Go.Addr.add,↓reduceIte] at hx444_4)
      clear hi444_4 hl444_4
      replace p444:=eq_true p444
      replace q444:=eq_true q444
      replace HH:=zqno 2 HH
      obtain⟨HH,hk446,hk447,hk448,hk449⟩:=HH
      have p450:0≤(2:Int):=by decide
      have q450:(2:Int)<(((rd_T57 l0_4 (1:Int)).f4).length:Int):=of_decide_eq_true (by first|(with_reducible assumption)|assumption)
      obtain⟨ad450,A450_4,c450_4,e450,hx450_0,hx450_1,hx450_2,hx450_3,hx450_4,hl450_4,hi450_4⟩:=atF_T57 HF54_4.out (2:Int) p450 q450
      cases e450
      (try simp only[show((2:Int)).toNat=2 from rfl,show 2*5=10 from rfl] at hx450_0)
      (try simp only[Nat.reduceMul,Nat.reduceEqDiff,Go.Addr.add,↓reduceIte] at hx450_0)
      (try simp only[show((2:Int)).toNat=2 from rfl,show 2*5=10 from rfl] at hx450_1)
      (try simp only[Nat.reduceMul,Nat.reduceEqDiff,Go.Addr.add,↓reduceIte] at hx450_1)
      (try simp only[show((2:Int)).toNat=2 from rfl,show 2*5=10 from rfl] at hx450_2)
      (try simp only[Nat.reduceMul,Nat.reduceEqDiff,Go.Addr.add,↓reduceIte] at hx450_2)
      (try simp only[show((2:Int)).toNat=2 from rfl,show 2*5=10 from rfl] at hx450_3)
      (try simp only[Nat.reduceMul,Nat.reduceEqDiff,Go.Addr.add,↓reduceIte] at hx450_3)
      (try simp only[show((2:Int)).toNat=2 from rfl,show 2*5=10 from rfl] at hx450_4)
      (try simp only[Nat.reduceMul,Nat.reduceEqDiff,Go.Addr.add,↓reduceIte] at hx450_4)
      clear hi450_4 hl450_4
      replace p450:=eq_true p450
      replace q450:=eq_true q450
      refine MW.last_in (ds:=[14]) (zk hx444_3 (zk hx450_3 z0)) ?_
      refine zlp 0 (.int .i64 t382) #[_,_,_,_,_,_,_,_,_,_,_,_,_,_,_] ⟨[_,_,_,_,_,_,_,_,_,_,_,_,_,_,_,_,_,_,_,_,_,_,_,_,_,_,_,_,_,_,_,_,_,_,_,_,_,_,_,_,_,_,_,_,_,_,_,_,_,_,_,_,_,_,_,_,_,_,_,_,_,_,_,_,_,_,_,_,_,_,_,_,_,_,_,_,_,_,_,_,_,_,_,_,_,_,_,_,_,_,_,_,_,_,_,_,_,_,_].toArray,[]⟩ (h:=?_)
      refine zlp 1 (.slice (some ad381) ((rd_T57 l0_4 (1:Int)).f4).length c54_4) #[_,_,_,_,_,_,_,_,_,_,_,_,_,_,_] ⟨[_,_,_,_,_,_,_,_,_,_,_,_,_,_,_,_,_,_,_,_,_,_,_,_,_,_,_,_,_,_,_,_,_,_,_,_,_,_,_,_,_,_,_,_,_,_,_,_,_,_,_,_,_,_,_,_,_,_,_,_,_,_,_,_,_,_,_,_,_,_,_,_,_,_,_,_,_,_,_,_,_,_,_,_,_,_,_,_,_,_,_,_,_,_,_,_,_,_,_].toArray,[]⟩ (h:=?_)
      refine zlp 2 (.pointer (some (ad381.add (1*5)))) #[_,_,_,_,_,_,_,_,_,_,_,_,_,_,_] ⟨[_,_,_,_,_,_,_,_,_,_,_,_,_,_,_,_,_,_,_,_,_,_,_,_,_,_,_,_,_,_,_,_,_,_,_,_,_,_,_,_,_,_,_,_,_,_,_,_,_,_,_,_,_,_,_,_,_,_,_,_,_,_,_,_,_,_,_,_,_,_,_,_,_,_,_,_,_,_,_,_,_,_,_,_,_,_,_,_,_,_,_,_,_,_,_,_,_,_,_].toArray,[]⟩ (h:=?_)
      refine zlp 3 (.pointer (some (ad381.add (1*5+3)))) #[_,_,_,_,_,_,_,_,_,_,_,_,_,_,_] ⟨[_,_,_,_,_,_,_,_,_,_,_,_,_,_,_,_,_,_,_,_,_,_,_,_,_,_,_,_,_,_,_,_,_,_,_,_,_,_,_,_,_,_,_,_,_,_,_,_,_,_,_,_,_,_,_,_,_,_,_,_,_,_,_,_,_,_,_,_,_,_,_,_,_,_,_,_,_,_,_,_,_,_,_,_,_,_,_,_,_,_,_,_,_,_,_,_,_,_,_].toArray,[]⟩ (h:=?_)
      refine zlp 5 (.slice (some ad381) ((rd_T57 l0_4 (1:Int)).f4).length c54_4) #[_,_,_,_,_,_,_,_,_,_,_,_,_,_,_] ⟨[_,_,_,_,_,_,_,_,_,_,_,_,_,_,_,_,_,_,_,_,_,_,_,_,_,_,_,_,_,_,_,_,_,_,_,_,_,_,_,_,_,_,_,_,_,_,_,_,_,_,_,_,_,_,_,_,_,_,_,_,_,_,_,_,_,_,_,_,_,_,_,_,_,_,_,_,_,_,_,_,_,_,_,_,_,_,_,_,_,_,_,_,_,_,_,_,_,_,_].toArray,[]⟩ (h:=?_)
      refine zlp 6 (.pointer (some (ad381.add (2*5)))) #[_,_,_,_,_,_,_,_,_,_,_,_,_,_,_] ⟨[_,_,_,_,_,_,_,_,_,_,_,_,_,_,_,_,_,_,_,_,_,_,_,_,_,_,_,_,_,_,_,_,_,_,_,_,_,_,_,_,_,_,_,_,_,_,_,_,_,_,_,_,_,_,_,_,_,_,_,_,_,_,_,_,_,_,_,_,_,_,_,_,_,_,_,_,_,_,_,_,_,_,_,_,_,_,_,_,_,_,_,_,_,_,_,_,_,_,_].toArray,[]⟩ (h:=?_)
      refine zlp 7 (.pointer (some (ad381.add (2*5+3)))) #[_,_,_,_,_,_,_,_,_,_,_,_,_,_,_] ⟨[_,_,_,_,_,_,_,_,_,_,_,_,_,_,_,_,_,_,_,_,_,_,_,_,_,_,_,_,_,_,_,_,_,_,_,_,_,_,_,_,_,_,_,_,_,_,_,_,_,_,_,_,_,_,_,_,_,_,_,_,_,_,_,_,_,_,_,_,_,_,_,_,_,_,_,_,_,_,_,_,_,_,_,_,_,_,_,_,_,_,_,_,_,_,_,_,_,_,_].toArray,[]⟩ (h:=?_)
      refine zlp 9 (.pointer (some ⟨g153,3,none⟩)) #[_,_,_,_,_,_,_,_,_,_,_,_,_,_,_] ⟨[_,_,_,_,_,_,_,_,_,_,_,_,_,_,_,_,_,_,_,_,_,_,_,_,_,_,_,_,_,_,_,_,_,_,_,_,_,_,_,_,_,_,_,_,_,_,_,_,_,_,_,_,_,_,_,_,_,_,_,_,_,_,_,_,_,_,_,_,_,_,_,_,_,_,_,_,_,_,_,_,_,_,_,_,_,_,_,_,_,_,_,_,_,_,_,_,_,_,_].toArray,[]⟩ (h:=?_)
      refine MW.last_take (i:=4) (v:=.string ((rd_T57 ((rd_T57 l0_4 (1:Int)).f4) (1:Int)).f3)) (listed':= #[_,_,_,_,_,_,_,_,_,_,_,_,_,_,_]) (a':=⟨[_,_,_,_,_,_,_,_,_,_,_,_,_,_,_,_,_,_,_,_,_,_,_,_,_,_,_,_,_,_,_,_,_,_,_,_,_,_,_,_,_,_,_,_,_,_,_,_,_,_,_,_,_,_,_,_,_,_,_,_,_,_,_,_,_,_,_,_,_,_,_,_,_,_,_,_,_,_,_,_,_,_,_,_,_,_,_,_,_,_,_,_,_,_,_,_,_,_,_].toArray,[]⟩) rfl (by kernel_rfl) (by kernel_rfl) (by kernel_rfl) (by kernel_rfl) (by kernel_rfl) (fun _ _ _ h_=>h_) (by kernel_rfl) (fun w_ hS_=>?go) (zk hx444_3 (zk hx450_3 z0)) rfl rfl ?_
      case go=>obtain⟨hs0_,_,_⟩:=hS_;first|(go_simp;done)|(go_simp;rfl)
      refine MW.last_take (i:=8) (v:=.string ((rd_T57 ((rd_T57 l0_4 (1:Int)).f4) (2:Int)).f3)) (listed':= #[_,_,_,_,_,_,_,_,_,_,_,_,_,_,_]) (a':=⟨[_,_,_,_,_,_,_,_,_,_,_,_,_,_,_,_,_,_,_,_,_,_,_,_,_,_,_,_,_,_,_,_,_,_,_,_,_,_,_,_,_,_,_,_,_,_,_,_,_,_,_,_,_,_,_,_,_,_,_,_,_,_,_,_,_,_,_,_,_,_,_,_,_,_,_,_,_,_,_,_,_,_,_,_,_,_,_,_,_,_,_,_,_,_,_,_,_,_,_].toArray,[]⟩) rfl (by kernel_rfl) (by kernel_rfl) (by kernel_rfl) (by kernel_rfl) (by kernel_rfl) (fun _ _ _ h_=>h_) (by kernel_rfl) (fun w_ hS_=>?go) (zk hx444_3 (zk hx450_3 z0)) rfl rfl ?_
      case go=>obtain⟨_,hs1_,_⟩:=hS_;first|(go_simp;done)|(go_simp;rfl)
      refine MW.last_act (i:=10) (listed':= #[true,true,true,true,true,true,true,true,true,true,true,false,false,false,false]) rfl (by kernel_rfl) (by kernel_rfl) (by decide) ?_
      go_wp2_with ((with_reducible refine gs 3 85 rfl ?_);refine zs 3 85 #[.int .i64 t32,.int .i64 x209,.bool false,.int .i64 t382,.string (⟨#[]⟩:ByteArray),.string (⟨#[]⟩:ByteArray),.string (⟨#[]⟩:ByteArray),.slice none 0 0] BKg153.out [.int .i64 t382] (h:=?_);intro w451 hbk hg)
      refine zg ?_
      replace HF54_4:=zfg HF54_4.out hg fun k_ hk_=>hk_.2
      replace BKg1:=zbg BKg1.out hg NEg1_g153
      replace BKg8:=zbg BKg8.out hg NEg8_g153
      replace BKg55:=zbg BKg55.out hg NEg55_g153
      replace HB:=zhg HB.out hg (below_size HB.out) GEg153
      replace BKg153:=hbk
      clear hg hbk
      clear hx444_0 hx444_1 hx444_2 hx444_3 hx444_4 p444 q444 hx450_0 hx450_1 hx450_2 hx450_3 hx450_4 p450 q450
      replace cBKg1:=MB.lz5 BKg1.out
      replace cBKg8:=MB.lz8 BKg8.out
      replace cBKg55:=MB.lz5 BKg55.out
      replace cBKg153:=MB.lz8 BKg153.out
      have p478:0≤(1:Int):=by decide
      have q478:(1:Int)<(((rd_T57 l0_4 (1:Int)).f4).length:Int):=of_decide_eq_true (by first|(with_reducible assumption)|assumption)
      obtain⟨ad478,A478_4,c478_4,e478,hx478_0,hx478_1,hx478_2,hx478_3,hx478_4,hl478_4,hi478_4⟩:=atF_T57 HF54_4.out (1:Int) p478 q478
      cases e478
      (try simp only[show((1:Int)).toNat=1 from rfl,show 1*5=5 from rfl] at hx478_0)
      (try simp only[Nat.reduceMul,Nat.reduceEqDiff,Go.Addr.add,↓reduceIte] at hx478_0)
      (try simp only[show((1:Int)).toNat=1 from rfl,show 1*5=5 from rfl] at hx478_1)
      (try simp only[Nat.reduceMul,Nat.reduceEqDiff,Go.Addr.add,↓reduceIte] at hx478_1)
      (try simp only[show((1:Int)).toNat=1 from rfl,show 1*5=5 from rfl] at hx478_2)
      (try simp only[Nat.reduceMul,Nat.reduceEqDiff,Go.Addr.add,↓reduceIte] at hx478_2)
      (try simp only[show((1:Int)).toNat=1 from rfl,show 1*5=5 from rfl] at hx478_3)
      (try simp only[Nat.reduceMul,Nat.reduceEqDiff,Go.Addr.add,↓reduceIte] at hx478_3)
      (try simp only[show((1:Int)).toNat=1 from rfl,show 1*5=5 from rfl] at hx478_4)
      (try simp only[Nat.reduceMul,Nat.reduceEqDiff,Go.Addr.add,↓reduceIte] at hx478_4)
      clear hi478_4 hl478_4
      replace p478:=eq_true p478
      replace q478:=eq_true q478
      have p479:0≤(2:Int):=by decide
      have q479:(2:Int)<(((rd_T57 l0_4 (1:Int)).f4).length:Int):=of_decide_eq_true (by first|(with_reducible assumption)|assumption)
      obtain⟨ad479,A479_4,c479_4,e479,hx479_0,hx479_1,hx479_2,hx479_3,hx479_4,hl479_4,hi479_4⟩:=atF_T57 HF54_4.out (2:Int) p479 q479
      cases e479
      (try simp only[show((2:Int)).toNat=2 from rfl,show 2*5=10 from rfl] at hx479_0)
      (try simp only[Nat.reduceMul,Nat.reduceEqDiff,Go.Addr.add,↓reduceIte] at hx479_0)
      (try simp only[show((2:Int)).toNat=2 from rfl,show 2*5=10 from rfl] at hx479_1)
      (try simp only[Nat.reduceMul,Nat.reduceEqDiff,Go.Addr.add,↓reduceIte] at hx479_1)
      (try simp only[show((2:Int)).toNat=2 from rfl,show 2*5=10 from rfl] at hx479_2)
      (try simp only[Nat.reduceMul,Nat.reduceEqDiff,Go.Addr.add,↓reduceIte] at hx479_2)
      (try simp only[show((2:Int)).toNat=2 from rfl,show 2*5=10 from rfl] at hx479_3)
      (try simp only[Nat.reduceMul,Nat.reduceEqDiff,Go.Addr.add,↓reduceIte] at hx479_3)
      (try simp only[show((2:Int)).toNat=2 from rfl,show 2*5=10 from rfl] at hx479_4)
      (try simp only[Nat.reduceMul,Nat.reduceEqDiff,Go.Addr.add,↓reduceIte] at hx479_4)
      clear hi479_4 hl479_4
      replace p479:=eq_true p479
      replace q479:=eq_true q479
      refine wpList_nil ?_
      change MW.Cells _ _∧wpAnyLast _ _ _ _ _ _ 4 #[true,true,true,true,true,true,true,true,true,true,true,false,false,false,false] ⟨[_,_,_,_,_,_,_,_,_,_,_,_,_,_,_,_,_,_,_,_,_,_,_,_,_,_,_,_,_,_,_,_,_,_,_,_,_,_,_,_,_,_,_,_,_,_,_,_,_,_,_,_,_,_,_,_,_,_,_,_,_,_,_,_,_,_,_,_,_,_,_,_,_,_,_,_,_,_,_,_,_,_,_,_,_,_,_,_,_,_,_,_,_,_,_,_,_,_,_].toArray,[]⟩ _
      refine⟨(zk hx478_3 (zk hx479_3 z0)),?_⟩
      refine zlp 11 (.pointer (some ⟨g153,4,none⟩)) #[_,_,_,_,_,_,_,_,_,_,_,_,_,_,_] ⟨[_,_,_,_,_,_,_,_,_,_,_,_,_,_,_,_,_,_,_,_,_,_,_,_,_,_,_,_,_,_,_,_,_,_,_,_,_,_,_,_,_,_,_,_,_,_,_,_,_,_,_,_,_,_,_,_,_,_,_,_,_,_,_,_,_,_,_,_,_,_,_,_,_,_,_,_,_,_,_,_,_,_,_,_,_,_,_,_,_,_,_,_,_,_,_,_,_,_,_].toArray,[]⟩ (h:=?_)
      refine MW.last_act (i:=12) (listed':= #[true,true,true,true,true,true,true,true,true,true,true,true,true,false,false]) rfl (by kernel_rfl) (by kernel_rfl) (by decide) ?_
      go_wp2_with ((with_reducible refine gs 9 86 rfl ?_);refine zs 9 86 #[.int .i64 t32,.int .i64 x209,.bool false,.int .i64 t382,.string ((rd_T57 ((rd_T57 l0_4 (1:Int)).f4) (1:Int)).f3),.string (⟨#[]⟩:ByteArray),.string (⟨#[]⟩:ByteArray),.slice none 0 0] BKg153.out [.string ((rd_T57 ((rd_T57 l0_4 (1:Int)).f4) (1:Int)).f3)] (h:=?_);intro w480 hbk hg)
      refine zg ?_
      replace HF54_4:=zfg HF54_4.out hg fun k_ hk_=>hk_.2
      replace BKg1:=zbg BKg1.out hg NEg1_g153
      replace BKg8:=zbg BKg8.out hg NEg8_g153
      replace BKg55:=zbg BKg55.out hg NEg55_g153
      replace HB:=zhg HB.out hg (below_size HB.out) GEg153
      replace BKg153:=hbk
      clear hg hbk
      clear hx478_0 hx478_1 hx478_2 hx478_3 hx478_4 p478 q478 hx479_0 hx479_1 hx479_2 hx479_3 hx479_4 p479 q479
      replace cBKg1:=MB.lz5 BKg1.out
      replace cBKg8:=MB.lz8 BKg8.out
      replace cBKg55:=MB.lz5 BKg55.out
      replace cBKg153:=MB.lz8 BKg153.out
      have p507:0≤(1:Int):=by decide
      have q507:(1:Int)<(((rd_T57 l0_4 (1:Int)).f4).length:Int):=of_decide_eq_true (by first|(with_reducible assumption)|assumption)
      obtain⟨ad507,A507_4,c507_4,e507,hx507_0,hx507_1,hx507_2,hx507_3,hx507_4,hl507_4,hi507_4⟩:=atF_T57 HF54_4.out (1:Int) p507 q507
      cases e507
      (try simp only[show((1:Int)).toNat=1 from rfl,show 1*5=5 from rfl] at hx507_0)
      (try simp only[Nat.reduceMul,Nat.reduceEqDiff,Go.Addr.add,↓reduceIte] at hx507_0)
      (try simp only[show((1:Int)).toNat=1 from rfl,show 1*5=5 from rfl] at hx507_1)
      (try simp only[Nat.reduceMul,Nat.reduceEqDiff,Go.Addr.add,↓reduceIte] at hx507_1)
      (try simp only[show((1:Int)).toNat=1 from rfl,show 1*5=5 from rfl] at hx507_2)
      (try simp only[Nat.reduceMul,Nat.reduceEqDiff,Go.Addr.add,↓reduceIte] at hx507_2)
      (try simp only[show((1:Int)).toNat=1 from rfl,show 1*5=5 from rfl] at hx507_3)
      (try simp only[Nat.reduceMul,Nat.reduceEqDiff,Go.Addr.add,↓reduceIte] at hx507_3)
      (try simp only[show((1:Int)).toNat=1 from rfl,show 1*5=5 from rfl] at hx507_4)
      (try simp only[Nat.reduceMul,Nat.reduceEqDiff,Go.Addr.add,↓reduceIte] at hx507_4)
      clear hi507_4 hl507_4
      replace p507:=eq_true p507
      replace q507:=eq_true q507
      have p508:0≤(2:Int):=by decide
      have q508:(2:Int)<(((rd_T57 l0_4 (1:Int)).f4).length:Int):=of_decide_eq_true (by first|(with_reducible assumption)|assumption)
      obtain⟨ad508,A508_4,c508_4,e508,hx508_0,hx508_1,hx508_2,hx508_3,hx508_4,hl508_4,hi508_4⟩:=atF_T57 HF54_4.out (2:Int) p508 q508
      cases e508
      (try simp only[show((2:Int)).toNat=2 from rfl,show 2*5=10 from rfl] at hx508_0)
      (try simp only[Nat.reduceMul,Nat.reduceEqDiff,Go.Addr.add,↓reduceIte] at hx508_0)
      (try simp only[show((2:Int)).toNat=2 from rfl,show 2*5=10 from rfl] at hx508_1)
      (try simp only[Nat.reduceMul,Nat.reduceEqDiff,Go.Addr.add,↓reduceIte] at hx508_1)
      (try simp only[show((2:Int)).toNat=2 from rfl,show 2*5=10 from rfl] at hx508_2)
      (try simp only[Nat.reduceMul,Nat.reduceEqDiff,Go.Addr.add,↓reduceIte] at hx508_2)
      (try simp only[show((2:Int)).toNat=2 from rfl,show 2*5=10 from rfl] at hx508_3)
      (try simp only[Nat.reduceMul,Nat.reduceEqDiff,Go.Addr.add,↓reduceIte] at hx508_3)
      (try simp only[show((2:Int)).toNat=2 from rfl,show 2*5=10 from rfl] at hx508_4)
      (try simp only[Nat.reduceMul,Nat.reduceEqDiff,Go.Addr.add,↓reduceIte] at hx508_4)
      clear hi508_4 hl508_4
      replace p508:=eq_true p508
      replace q508:=eq_true q508
      refine wpList_nil ?_
      change MW.Cells _ _∧wpAnyLast _ _ _ _ _ _ 2 #[true,true,true,true,true,true,true,true,true,true,true,true,true,false,false] ⟨[_,_,_,_,_,_,_,_,_,_,_,_,_,_,_,_,_,_,_,_,_,_,_,_,_,_,_,_,_,_,_,_,_,_,_,_,_,_,_,_,_,_,_,_,_,_,_,_,_,_,_,_,_,_,_,_,_,_,_,_,_,_,_,_,_,_,_,_,_,_,_,_,_,_,_,_,_,_,_,_,_,_,_,_,_,_,_,_,_,_,_,_,_,_,_,_,_,_,_].toArray,[]⟩ _
      refine⟨(zk hx507_3 (zk hx508_3 z0)),?_⟩
      refine zlp 13 (.pointer (some ⟨g153,5,none⟩)) #[_,_,_,_,_,_,_,_,_,_,_,_,_,_,_] ⟨[_,_,_,_,_,_,_,_,_,_,_,_,_,_,_,_,_,_,_,_,_,_,_,_,_,_,_,_,_,_,_,_,_,_,_,_,_,_,_,_,_,_,_,_,_,_,_,_,_,_,_,_,_,_,_,_,_,_,_,_,_,_,_,_,_,_,_,_,_,_,_,_,_,_,_,_,_,_,_,_,_,_,_,_,_,_,_,_,_,_,_,_,_,_,_,_,_,_,_].toArray,[]⟩ (h:=?_)
      refine MW.last_fin (i:=14) (listed':= #[true,true,true,true,true,true,true,true,true,true,true,true,true,true,true]) rfl (by kernel_rfl) (by kernel_rfl) (by kernel_rfl) ?_
      go_wp2_with ((with_reducible refine gs 9 87 rfl ?_);refine zs 9 87 #[.int .i64 t32,.int .i64 x209,.bool false,.int .i64 t382,.string ((rd_T57 ((rd_T57 l0_4 (1:Int)).f4) (1:Int)).f3),.string ((rd_T57 ((rd_T57 l0_4 (1:Int)).f4) (2:Int)).f3),.string (⟨#[]⟩:ByteArray),.slice none 0 0] BKg153.out [.string ((rd_T57 ((rd_T57 l0_4 (1:Int)).f4) (2:Int)).f3)] (h:=?_);intro w509 hbk hg)
      refine zg ?_
      replace HF54_4:=zfg HF54_4.out hg fun k_ hk_=>hk_.2
      replace BKg1:=zbg BKg1.out hg NEg1_g153
      replace BKg8:=zbg BKg8.out hg NEg8_g153
      replace BKg55:=zbg BKg55.out hg NEg55_g153
      replace HB:=zhg HB.out hg (below_size HB.out) GEg153
      replace BKg153:=hbk
      clear hg hbk
      clear hx507_0 hx507_1 hx507_2 hx507_3 hx507_4 p507 q507 hx508_0 hx508_1 hx508_2 hx508_3 hx508_4 p508 q508
      replace cBKg1:=MB.lz5 BKg1.out
      replace cBKg8:=MB.lz8 BKg8.out
      replace cBKg55:=MB.lz5 BKg55.out
      replace cBKg153:=MB.lz8 BKg153.out
      refine wpList_nil ?_
      refine⟨(by kernel_rfl),?_⟩
      clear hwr_
      replace HH:=zqe HH
      rcases HH with⟨HH,hk537,hk538⟩|⟨HH,hk603,hk604⟩
      ·(try simp only[hk537,Bool.not_true,Bool.not_false])
       (try simp only[hk538,Bool.not_true,Bool.not_false])
       replace HH:=zqno 3 HH
       obtain⟨HH,hk540,hk541,hk542,hk543⟩:=HH
       (try simp only[hk540,Bool.not_true,Bool.not_false])
       (try simp only[hk541,Bool.not_true,Bool.not_false])
       (try simp only[hk542,Bool.not_true,Bool.not_false])
       (try simp only[hk543,Bool.not_true,Bool.not_false])
       have p544:0≤(3:Int):=by decide
       have q544:(3:Int)<(((rd_T57 l0_4 (1:Int)).f4).length:Int):=of_decide_eq_true (by first|(with_reducible assumption)|assumption)
       obtain⟨ad544,A544_4,c544_4,e544,hx544_0,hx544_1,hx544_2,hx544_3,hx544_4,hl544_4,hi544_4⟩:=atF_T57 HF54_4.out (3:Int) p544 q544
       cases e544
       (try simp only[show((3:Int)).toNat=3 from rfl,show 3*5=15 from rfl] at hx544_0)
       (try simp only[Nat.reduceMul,Nat.reduceEqDiff,Go.Addr.add,↓reduceIte] at hx544_0)
       (try simp only[show((3:Int)).toNat=3 from rfl,show 3*5=15 from rfl] at hx544_1)
       (try simp only[Nat.reduceMul,Nat.reduceEqDiff,Go.Addr.add,↓reduceIte] at hx544_1)
       (try simp only[show((3:Int)).toNat=3 from rfl,show 3*5=15 from rfl] at hx544_2)
       (try simp only[Nat.reduceMul,Nat.reduceEqDiff,Go.Addr.add,↓reduceIte] at hx544_2)
       (try simp only[show((3:Int)).toNat=3 from rfl,show 3*5=15 from rfl] at hx544_3)
       (try simp only[Nat.reduceMul,Nat.reduceEqDiff,Go.Addr.add,↓reduceIte] at hx544_3)
       (try simp only[show((3:Int)).toNat=3 from rfl,show 3*5=15 from rfl] at hx544_4)
       (try simp only[Nat.reduceMul,Nat.reduceEqDiff,Go.Addr.add,↓reduceIte] at hx544_4)
       clear hi544_4 hl544_4
       replace p544:=eq_true p544
       replace q544:=eq_true q544
       go_wp2_with ((with_reducible refine gs 9 95 rfl ?_);refine zs 9 95 #[.int .i64 t32,.int .i64 x209,.bool false,.int .i64 t382,.string ((rd_T57 ((rd_T57 l0_4 (1:Int)).f4) (1:Int)).f3),.string ((rd_T57 ((rd_T57 l0_4 (1:Int)).f4) (2:Int)).f3),.string ((rd_T57 ((rd_T57 l0_4 (1:Int)).f4) (3:Int)).f3),.slice none 0 0] BKg153.out [.string ((rd_T57 ((rd_T57 l0_4 (1:Int)).f4) (3:Int)).f3)] (h:=?_);intro w545 hbk hg)
       refine zg ?_
       replace BKg1:=zbg BKg1.out hg NEg1_g153
       replace BKg8:=zbg BKg8.out hg NEg8_g153
       replace BKg55:=zbg BKg55.out hg NEg55_g153
       replace HB:=zhg HB.out hg (below_size HB.out) GEg153
       replace BKg153:=hbk
       clear hg hbk
       clear hx544_0 hx544_1 hx544_2 hx544_3 hx544_4 p544 q544
       replace cBKg1:=MB.lz5 BKg1.out
       replace cBKg8:=MB.lz8 BKg8.out
       replace cBKg55:=MB.lz5 BKg55.out
       replace cBKg153:=MB.lz8 BKg153.out
       go_wp2_with ((with_reducible refine gs 27 2 rfl ?_);refine zs 27 2 #[.int .i64 t32,.int .i64 x209,.bool false,.int .i64 t382,.string ((rd_T57 ((rd_T57 l0_4 (1:Int)).f4) (1:Int)).f3),.string ((rd_T57 ((rd_T57 l0_4 (1:Int)).f4) (2:Int)).f3),.string ((rd_T57 ((rd_T57 l0_4 (1:Int)).f4) (3:Int)).f3),.slice none 0 0] BKg8.out [.int .i64 t32,.int .i64 x209,.bool false,.int .i64 t382,.string ((rd_T57 ((rd_T57 l0_4 (1:Int)).f4) (1:Int)).f3),.string ((rd_T57 ((rd_T57 l0_4 (1:Int)).f4) (2:Int)).f3),.string ((rd_T57 ((rd_T57 l0_4 (1:Int)).f4) (3:Int)).f3),.slice none 0 0] (h:=?_);intro w572 hbk hg)
       refine zg ?_
       replace BKg1:=zbg BKg1.out hg NEg1_g8
       replace BKg55:=zbg BKg55.out hg NEg55_g8
       replace BKg153:=zbg BKg153.out hg NEg153_g8
       replace HB:=zhg HB.out hg (below_size HB.out) GEg8
       replace BKg8:=hbk
       clear hg hbk
       replace cBKg1:=MB.lz5 BKg1.out
       replace cBKg8:=MB.lz8 BKg8.out
       replace cBKg55:=MB.lz5 BKg55.out
       replace cBKg153:=MB.lz8 BKg153.out
       have H:=HH.out
       simp only[Option.some.injEq,Prod.mk.injEq] at H
       obtain⟨rfl,rfl,rfl,rfl,rfl,rfl,rfl,rfl,rfl⟩:=H
       clear HH
       go_wp2
       refine bodyPost_ret (results_ct rfl _ _ g8 27 #[.int .i64 t32,.int .i64 x209,.bool false,.int .i64 t382,.string ((rd_T57 ((rd_T57 l0_4 (1:Int)).f4) (1:Int)).f3),.string ((rd_T57 ((rd_T57 l0_4 (1:Int)).f4) (2:Int)).f3),.string ((rd_T57 ((rd_T57 l0_4 (1:Int)).f4) (3:Int)).f3),.slice none 0 0] (0,0) _ rfl BKg8.out Try.underlying27 rfl (by kernel_rfl)) rfl ?_
       exact⟨_,by first|rfl|(simp;done)|(simp[*];done),(Kd.N_nil _ _ _ _ _),HB.out⟩
      (try simp only[hk603,Bool.not_true,Bool.not_false])
      (try simp only[hk604,Bool.not_true,Bool.not_false])
      go_wp2_with ((with_reducible refine gs 27 2 rfl ?_);refine zs 27 2 #[.int .i64 t32,.int .i64 x209,.bool false,.int .i64 t382,.string ((rd_T57 ((rd_T57 l0_4 (1:Int)).f4) (1:Int)).f3),.string ((rd_T57 ((rd_T57 l0_4 (1:Int)).f4) (2:Int)).f3),.string (⟨#[]⟩:ByteArray),.slice none 0 0] BKg8.out [.int .i64 t32,.int .i64 x209,.bool false,.int .i64 t382,.string ((rd_T57 ((rd_T57 l0_4 (1:Int)).f4) (1:Int)).f3),.string ((rd_T57 ((rd_T57 l0_4 (1:Int)).f4) (2:Int)).f3),.string (⟨#[]⟩:ByteArray),.slice none 0 0] (h:=?_);intro w605 hbk hg)
      refine zg ?_
      replace BKg1:=zbg BKg1.out hg NEg1_g8
      replace BKg55:=zbg BKg55.out hg NEg55_g8
      replace BKg153:=zbg BKg153.out hg NEg153_g8
      replace HB:=zhg HB.out hg (below_size HB.out) GEg8
      replace BKg8:=hbk
      clear hg hbk
      replace cBKg1:=MB.lz5 BKg1.out
      replace cBKg8:=MB.lz8 BKg8.out
      replace cBKg55:=MB.lz5 BKg55.out
      replace cBKg153:=MB.lz8 BKg153.out
      have H:=HH.out
      simp only[Option.some.injEq,Prod.mk.injEq] at H
      obtain⟨rfl,rfl,rfl,rfl,rfl,rfl,rfl,rfl,rfl⟩:=H
      clear HH
      go_wp2
      refine bodyPost_ret (results_ct rfl _ _ g8 27 #[.int .i64 t32,.int .i64 x209,.bool false,.int .i64 t382,.string ((rd_T57 ((rd_T57 l0_4 (1:Int)).f4) (1:Int)).f3),.string ((rd_T57 ((rd_T57 l0_4 (1:Int)).f4) (2:Int)).f3),.string (⟨#[]⟩:ByteArray),.slice none 0 0] (0,0) _ rfl BKg8.out Try.underlying27 rfl (by kernel_rfl)) rfl ?_
      exact⟨_,by first|rfl|(simp;done)|(simp[*];done),(Kd.N_nil _ _ _ _ _),HB.out⟩
     replace HH:=MW.hneg HH c375
     replace c375:=Bool.eq_false_iff.mpr c375
     subst c375
     go_wp2_with ((with_reducible refine gs 27 2 rfl ?_);refine zs 27 2 #[.int .i64 0,.int .i64 0,.bool false,.int .i64 0,.string (⟨#[]⟩:ByteArray),.string (⟨#[]⟩:ByteArray),.string (⟨#[]⟩:ByteArray),.slice none 0 0] BKg8.out [.int .i64 0,.int .i64 0,.bool false,.int .i64 0,.string (⟨#[]⟩:ByteArray),.string (⟨#[]⟩:ByteArray),.string (⟨#[]⟩:ByteArray),.slice none 0 0] (h:=?_);intro w644 hbk hg)
     refine zg ?_
     replace BKg1:=zbg BKg1.out hg NEg1_g8
     replace BKg55:=zbg BKg55.out hg NEg55_g8
     replace BKg153:=zbg BKg153.out hg NEg153_g8
     replace HB:=zhg HB.out hg (below_size HB.out) GEg8
     replace BKg8:=hbk
     clear hg hbk
     replace cBKg1:=MB.lz5 BKg1.out
     replace cBKg8:=MB.lz8 BKg8.out
     replace cBKg55:=MB.lz5 BKg55.out
     replace cBKg153:=MB.lz8 BKg153.out
     have H:=HH.out
     simp only[Option.some.injEq,Prod.mk.injEq] at H
     obtain⟨rfl,rfl,rfl,rfl,rfl,rfl,rfl,rfl,rfl⟩:=H
     clear HH
     go_wp2
     refine bodyPost_ret (results_ct rfl _ _ g8 27 #[.int .i64 0,.int .i64 0,.bool false,.int .i64 0,.string (⟨#[]⟩:ByteArray),.string (⟨#[]⟩:ByteArray),.string (⟨#[]⟩:ByteArray),.slice none 0 0] (0,0) _ rfl BKg8.out Try.underlying27 rfl (by kernel_rfl)) rfl ?_
     exact⟨_,by first|rfl|(simp;done)|(simp[*];done),(Kd.N_nil _ _ _ _ _),HB.out⟩
  go_wp2_with ((with_reducible refine gs 27 2 rfl ?_);refine zs 27 2 #[.int .i64 0,.int .i64 0,.bool false,.int .i64 0,.string (⟨#[]⟩:ByteArray),.string (⟨#[]⟩:ByteArray),.string (⟨#[]⟩:ByteArray),.slice none 0 0] BKg8.out [.int .i64 0,.int .i64 0,.bool false,.int .i64 0,.string (⟨#[]⟩:ByteArray),.string (⟨#[]⟩:ByteArray),.string (⟨#[]⟩:ByteArray),.slice none 0 0] (h:=?_);intro w675 hbk hg)
  refine zg ?_
  replace BKg1:=zbg BKg1.out hg NEg1_g8
  replace BKg55:=zbg BKg55.out hg NEg55_g8
  replace HB:=zhg HB.out hg (below_size HB.out) GEg8
  replace BKg8:=hbk
  clear hg hbk
  replace cBKg1:=MB.lz5 BKg1.out
  replace cBKg8:=MB.lz8 BKg8.out
  replace cBKg55:=MB.lz5 BKg55.out
  have H:=HH.out
  simp only[Option.some.injEq,Prod.mk.injEq] at H
  obtain⟨rfl,rfl,rfl,rfl,rfl,rfl,rfl,rfl,rfl⟩:=H
  clear HH
  go_wp2
  refine bodyPost_ret (results_ct rfl _ _ g8 27 #[.int .i64 0,.int .i64 0,.bool false,.int .i64 0,.string (⟨#[]⟩:ByteArray),.string (⟨#[]⟩:ByteArray),.string (⟨#[]⟩:ByteArray),.slice none 0 0] (0,0) _ rfl BKg8.out Try.underlying27 rfl (by kernel_rfl)) rfl ?_
  exact⟨_,by first|rfl|(simp;done)|(simp[*];done),(Kd.N_nil _ _ _ _ _),HB.out⟩
 go_wp2_with ((with_reducible refine gs 27 2 rfl ?_);refine zs 27 2 #[.int .i64 0,.int .i64 0,.bool false,.int .i64 0,.string (⟨#[]⟩:ByteArray),.string (⟨#[]⟩:ByteArray),.string (⟨#[]⟩:ByteArray),.slice none 0 0] BKg8.out [.int .i64 0,.int .i64 0,.bool false,.int .i64 0,.string (⟨#[]⟩:ByteArray),.string (⟨#[]⟩:ByteArray),.string (⟨#[]⟩:ByteArray),.slice none 0 0] (h:=?_);intro w704 hbk hg)
 refine zg ?_
 replace BKg1:=zbg BKg1.out hg NEg1_g8
 replace HB:=zhg HB.out hg (below_size HB.out) GEg8
 replace BKg8:=hbk
 clear hg hbk
 replace cBKg1:=MB.lz5 BKg1.out
 replace cBKg8:=MB.lz8 BKg8.out
 have H:=HH.out
 simp only[Option.some.injEq,Prod.mk.injEq] at H
 obtain⟨rfl,rfl,rfl,rfl,rfl,rfl,rfl,rfl,rfl⟩:=H
 clear HH
 go_wp2
 refine bodyPost_ret (results_ct rfl _ _ g8 27 #[.int .i64 0,.int .i64 0,.bool false,.int .i64 0,.string (⟨#[]⟩:ByteArray),.string (⟨#[]⟩:ByteArray),.string (⟨#[]⟩:ByteArray),.slice none 0 0] (0,0) _ rfl BKg8.out Try.underlying27 rfl (by kernel_rfl)) rfl ?_
 exact⟨_,by first|rfl|(simp;done)|(simp[*];done),(Kd.N_nil _ _ _ _ _),HB.out⟩
end Go.Proofs.Ytdjkemhmhkpmkaa.GA
