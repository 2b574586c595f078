import Derived.Test.YtdjkemhmhkpmkaaGA0
namespace Go.Proofs.Ytdjkemhmhkpmkaa.GA
open Go.RowKit Go.Proofs.Ytdjkemhmhkpmkaa Go.Proofs.Ytdjkemhmhkpmkaa.MW Go.Proofs.YtdjkemhmhkpmkaaW.PrintWords Go.Proofs.YtdjkemhmhkpmkaaW.PrintLast Go.Proofs.YtdjkemhmhkpmkaaW.PrintMore
attribute [local go_sem] max2_int min2_int max_two min_two
set_option maxHeartbeats 8000000
set_option maxRecDepth 100000
set_option linter.unusedVariables false
set_option linter.unusedSimpArgs false
mutual
def reply_entered.l0:Nat→Int→(List (S46))→Int→(List (S57))→Option (Int × Int × Bool × Int × ByteArray × ByteArray × ByteArray × (List (S46)) × Bool)
 |0,_,_,_,_=>none
 |k+1,x79,x80,a0,l1=>if x79<(((rd_T57 l1 (1:Int)).f4).length:Int) then(if 0≤x79 then(if (((rd_T57 ((rd_T57 l1 (1:Int)).f4) x79).f4).length:Int)=2 then(if 0<(((rd_T57 ((rd_T57 l1 (1:Int)).f4) x79).f4).length:Int) then(if 1<(((rd_T57 ((rd_T57 l1 (1:Int)).f4) x79).f4).length:Int) then((reply_entered.l1 k 0 ([]:List ByteArray) a0 l1 x79 x80)) else(none)) else(none)) else(some (a0,3,true,0,(⟨#[]⟩:ByteArray),(⟨#[]⟩:ByteArray),(rd_T57 l1 (0:Int)).f3,x80,false))) else(none)) else(some (a0,3,true,0,(⟨#[]⟩:ByteArray),(⟨#[]⟩:ByteArray),(rd_T57 l1 (0:Int)).f3,x80,true))
def reply_entered.l1:Nat→Int→(List ByteArray)→Int→(List (S57))→Int→(List (S46))→Option (Int × Int × Bool × Int × ByteArray × ByteArray × ByteArray × (List (S46)) × Bool)
 |0,_,_,_,_,_,_=>none
 |k+1,x216,x217,a0,l1,x79,x80=>if x216<(((rd_T57 ((rd_T57 ((rd_T57 l1 (1:Int)).f4) x79).f4) (1:Int)).f4).length:Int) then(if 0≤x216 then(if x217.length<8796093022208 then((some (x217++[(rd_T57 ((rd_T57 ((rd_T57 ((rd_T57 l1 (1:Int)).f4) x79).f4) (1:Int)).f4) x216).f3]:List ByteArray)).bind fun y310=>((reply_entered.l1 k (wrap64 (x216+1)) y310 a0 l1 x79 x80))) else(none)) else(none)) else(if x80.length<3518437208883 then((some (x80++[(⟨(rd_T57 ((rd_T57 ((rd_T57 l1 (1:Int)).f4) x79).f4) (0:Int)).f3,x217⟩:S46)]:List (S46))).bind fun y381=>((reply_entered.l0 k (wrap64 (x79+1)) y381 a0 l1))) else(none))
end
def reply_entered.f (k:Nat) (a0:Int) (l1:List (S57)):Option (Int × Int × Bool × Int × ByteArray × ByteArray × ByteArray × (List (S46)) × Bool):=if (l1.length:Int)=2 then(if 0<(l1.length:Int) then(if 1<(l1.length:Int) then((reply_entered.l0 k 0 ([]:List (S46)) a0 l1)) else(none)) else(none)) else(some (a0,3,true,0,(⟨#[]⟩:ByteArray),(⟨#[]⟩:ByteArray),(⟨#[]⟩:ByteArray),([]:List (S46)),false))
theorem reply_entered.mono_l:∀ k,(∀ y0 y1 y2 y3,LeO (reply_entered.l0 k y0 y1 y2 y3) (reply_entered.l0 (k+1) y0 y1 y2 y3))∧(∀ y0 y1 y2 y3 y4 y5,LeO (reply_entered.l1 k y0 y1 y2 y3 y4 y5) (reply_entered.l1 (k+1) y0 y1 y2 y3 y4 y5))
 |0=>⟨fun _ _ _ _ r h=>by simp[reply_entered.l0] at h,fun _ _ _ _ _ _ r h=>by simp[reply_entered.l1] at h⟩
 |k+1=>by
  obtain⟨ih0,ih1⟩:=reply_entered.mono_l k
  refine⟨?_,?_⟩
  ·intro y0 y1 y2 y3
   unfold reply_entered.l0
   with_reducible repeat' first|exact ih0 _ _ _ _|exact ih1 _ _ _ _ _ _|exact LeO.refl _|exact LeO.none _|refine LeO.ite ?_ ?_|refine LeO.bind ?_ (fun _=>?_)
  intro y0 y1 y2 y3 y4 y5
  unfold reply_entered.l1
  with_reducible repeat' first|exact ih0 _ _ _ _|exact ih1 _ _ _ _ _ _|exact LeO.refl _|exact LeO.none _|refine LeO.ite ?_ ?_|refine LeO.bind ?_ (fun _=>?_)
theorem reply_entered.mono:∀ a0_ a1_ k,LeO (reply_entered.f k a0_ a1_) (reply_entered.f (k+1) a0_ a1_):=by
 intro a0_ a1_ k
 obtain⟨ih0,ih1⟩:=reply_entered.mono_l k
 unfold reply_entered.f
 with_reducible repeat' first|exact ih0 _ _ _ _|exact ih1 _ _ _ _ _ _|exact LeO.refl _|exact LeO.none _|refine LeO.ite ?_ ?_|refine LeO.bind ?_ (fun _=>?_)
theorem reply_entered.calls (k:Nat) (P_:Nat→Prop) (a0:Int) (A1:Option Addr) (c1:Nat) (l1:List (S57)) (r1:Int) (r2:Int) (r3:Bool) (r4:Int) (r5:ByteArray) (r6:ByteArray) (r7:ByteArray) (r8:List (S46)) (r9:Bool) (w:World) (hs1:Kd.F k57 w P_ A1 l1.length l1) (hc1:l1.length≤c1) (h:reply_entered.f k a0 l1=some (r1,r2,r3,r4,r5,r6,r7,r8,r9)):
  Calls Try.prog 51 #[.int .i64 a0,.slice A1 l1.length c1] w (fun e w'=>∃ v7_:Value,e=.returned (.tuple #[.agg #[.int .i64 r1,.int .i64 r2,.bool r3,.int .i64 r4,.string r5,.string r6,.string r7,v7_],.bool r9])∧Kd.N k46 46 w' w.heap.size (fun k_=>P_ k_∨w.heap.size≤k_) v7_ r8∧Below w.heap.size w w'):=by
 unfold reply_entered.f at h
 have HH:=za h
 clear h
 have HF1:=zfp hs1
 clear hs1 hc1
 have HB:=za (Below.refl w.heap.size w)
 have hu27:=Try.underlying27
 have hu46:=Try.underlying46
 have hu57:=Try.underlying57
 go_enter Try.func51,Try.ntmps51
 go_wp2_with ((with_reducible refine gd 4 rfl ?_);refine zb 4 27 #[.int .i64 0,.int .i64 0,.bool false,.int .i64 0,.string (⟨#[]⟩:ByteArray),.string (⟨#[]⟩:ByteArray),.string (⟨#[]⟩:ByteArray),.slice none 0 0] (h:=?_);intro g1 hg w2 BKg1 hb)
 refine zg ?_
 have GEg1:=zge hg (below_size HB.out)
 replace HF1:=zfe HF1.out hg hb
 replace HB:=zhb HB.out hb
 clear hg hb
 replace cBKg1:=MB.lz8 BKg1.out
 go_wp2_with ((with_reducible refine gd 6 rfl ?_);refine zb 6 27 #[.int .i64 0,.int .i64 0,.bool false,.int .i64 0,.string (⟨#[]⟩:ByteArray),.string (⟨#[]⟩:ByteArray),.string (⟨#[]⟩:ByteArray),.slice none 0 0] (h:=?_);intro g11 hg w12 BKg11 hb)
 refine zg ?_
 have GEg11:=zge hg (below_size HB.out)
 have NEg1_g11:=znq hg BKg1.out
 have NEg11_g1:=zsy NEg1_g11
 replace HF1:=zfe HF1.out hg hb
 replace BKg1:=zbb BKg1.out hb
 replace HB:=zhb HB.out hb
 clear hg hb
 replace cBKg1:=MB.lz8 BKg1.out
 replace cBKg11:=MB.lz8 BKg11.out
 go_wp2_with ((with_reducible refine gs 27 6 rfl ?_);refine zs 27 6 #[.int .i64 a0,.int .i64 3,.bool true,.int .i64 0,.string (⟨#[]⟩:ByteArray),.string (⟨#[]⟩:ByteArray),.string (⟨#[]⟩:ByteArray),.slice none 0 0] BKg11.out [.int .i64 a0,.int .i64 3,.bool true,.int .i64 0,.string (⟨#[]⟩:ByteArray),.string (⟨#[]⟩:ByteArray),.string (⟨#[]⟩:ByteArray),.slice none 0 0] (h:=?_);intro w29 hbk hg)
 refine zg ?_
 replace HF1:=zfg HF1.out hg fun k_ hk_=>hk_.2
 replace BKg1:=zbg BKg1.out hg NEg1_g11
 replace HB:=zhg HB.out hg (below_size HB.out) GEg11
 replace BKg11:=hbk
 clear hg hbk
 replace cBKg1:=MB.lz8 BKg1.out
 replace cBKg11:=MB.lz8 BKg11.out
 replace HH:=zqe HH
 rcases HH with⟨HH,hk47,hk48⟩|⟨HH,hk498,hk499⟩
 ·replace HH:=zqno 0 HH
  obtain⟨HH,hk50,hk51,hk52,hk53⟩:=HH
  have p54:0≤(0:Int):=by decide
  have q54:(0:Int)<(l1.length:Int):=of_decide_eq_true (by first|(with_reducible assumption)|assumption)
  obtain⟨ad54,A54_4,c54_4,e54,hx54_0,hx54_1,hx54_2,hx54_3,hx54_4,hl54_4,hi54_4⟩:=atF_T57 HF1.out (0:Int) p54 q54
  cases e54
  (try simp only[show((0:Int)).toNat=0 from rfl,show 0*5=0 from rfl] at hx54_0)
  (try rw[Addr.add_zero'] at hx54_0)
  (try simp only[show((0:Int)).toNat=0 from rfl,show 0*5=0 from rfl] at hx54_1)
  (try rw[Addr.add_zero'] at hx54_1)
  (try simp only[show((0:Int)).toNat=0 from rfl,show 0*5=0 from rfl] at hx54_2)
  (try rw[Addr.add_zero'] at hx54_2)
  (try simp only[show((0:Int)).toNat=0 from rfl,show 0*5=0 from rfl] at hx54_3)
  (try rw[Addr.add_zero'] at hx54_3)
  (try simp only[show((0:Int)).toNat=0 from rfl,show 0*5=0 from rfl] at hx54_4)
  (try rw[Addr.add_zero'] at hx54_4)
  have HF54_4:=za hi54_4
  clear hi54_4 hl54_4
  replace p54:=eq_true p54
  replace q54:=eq_true q54
  go_wp2_with ((with_reducible refine gs 9 22 rfl ?_);refine zs 9 22 #[.int .i64 a0,.int .i64 3,.bool true,.int .i64 0,.string (⟨#[]⟩:ByteArray),.string (⟨#[]⟩:ByteArray),.string ((rd_T57 l1 (0:Int)).f3),.slice none 0 0] BKg11.out [.string ((rd_T57 l1 (0:Int)).f3)] (h:=?_);intro w55 hbk hg)
  refine zg ?_
  replace HF1:=zfg HF1.out hg fun k_ hk_=>hk_.2
  replace HF54_4:=zfg HF54_4.out hg fun k_ hk_=>hk_.2
  replace BKg1:=zbg BKg1.out hg NEg1_g11
  replace HB:=zhg HB.out hg (below_size HB.out) GEg11
  replace BKg11:=hbk
  clear hg hbk
  clear hx54_0 hx54_1 hx54_2 hx54_3 hx54_4 p54 q54
  replace cBKg1:=MB.lz8 BKg1.out
  replace cBKg11:=MB.lz8 BKg11.out
  replace HH:=zqno 1 HH
  obtain⟨HH,hk73,hk74,hk75,hk76⟩:=HH
  have p77:0≤(1:Int):=by decide
  have q77:(1:Int)<(l1.length:Int):=of_decide_eq_true (by first|(with_reducible assumption)|assumption)
  obtain⟨ad77,A77_4,c77_4,e77,hx77_0,hx77_1,hx77_2,hx77_3,hx77_4,hl77_4,hi77_4⟩:=atF_T57 HF1.out (1:Int) p77 q77
  cases e77
  (try simp only[show((1:Int)).toNat=1 from rfl,show 1*5=5 from rfl] at hx77_0)
  (try simp only[Nat.reduceMul,Nat.reduceEqDiff,Go.Addr.add,↓reduceIte] at hx77_0)
  (try simp only[show((1:Int)).toNat=1 from rfl,show 1*5=5 from rfl] at hx77_1)
  (try simp only[Nat.reduceMul,Nat.reduceEqDiff,Go.Addr.add,↓reduceIte] at hx77_1)
  (try simp only[show((1:Int)).toNat=1 from rfl,show 1*5=5 from rfl] at hx77_2)
  (try simp only[Nat.reduceMul,Nat.reduceEqDiff,Go.Addr.add,↓reduceIte] at hx77_2)
  (try simp only[show((1:Int)).toNat=1 from rfl,show 1*5=5 from rfl] at hx77_3)
  (try simp only[Nat.reduceMul,Nat.reduceEqDiff,Go.Addr.add,↓reduceIte] at hx77_3)
  (try simp only[show((1:Int)).toNat=1 from rfl,show 1*5=5 from rfl] at hx77_4)
  (try simp only[Nat.reduceMul,Nat.reduceEqDiff,Go.Addr.add,↓reduceIte] at hx77_4)
  have HF77_4:=za hi77_4
  clear hi77_4 hl77_4
  replace p77:=eq_true p77
  replace q77:=eq_true q77
  go_wp2
  go_loopg [28] k (fun kq u28 w'=>∃ (x79:Int) (x80:List (S46)) (v78:Value),u28=.int .i64 x79∧Aside0 ((reply_entered.l0 kq x79 x80 a0 l1)=some (r1,r2,r3,r4,r5,r6,r7,r8,r9))∧Aside0 (kq≤k)∧Aside0 (Kd.F k57 w' (fun k_=>(((P_ k_∨w.heap.size≤k_)∧some k_≠(v78:Value).ownBlock)∧k_≠g1)∧k_≠g11) A77_4 ((rd_T57 l1 (1:Int)).f4).length ((rd_T57 l1 (1:Int)).f4))∧Aside0 (Kd.N k46 46 w' w.heap.size (fun k_=>((P_ k_∨w.heap.size≤k_)∧k_≠g1)∧k_≠g11) v78 x80)∧Aside0 (w'.heap[g1]? =some (.cells #[.int .i64 0,.int .i64 0,.bool false,.int .i64 0,.string (⟨#[]⟩:ByteArray),.string (⟨#[]⟩:ByteArray),.string (⟨#[]⟩:ByteArray),.slice none 0 0] 27 (0,0)))∧Aside0 (w'.heap[g11]? =some (.cells #[.int .i64 a0,.int .i64 3,.bool true,.int .i64 0,.string (⟨#[]⟩:ByteArray),.string (⟨#[]⟩:ByteArray),.string ((rd_T57 l1 (0:Int)).f3),v78] 27 (0,0)))∧Aside0 (Below w.heap.size w w'))
  case atStart=>exact⟨0,([]:List (S46)),.slice none 0 0,(by first|rfl|(simp;done)|(simp[*];done)),HH,⟨Nat.le_refl _⟩,⟨(Kd.F_mono (ok:=(fun k_=>((P_ k_∨w.heap.size≤k_)∧k_≠g1)∧k_≠g11)) HF77_4.out (fun k_ hk_=>⟨⟨⟨hk_.1.1,(by simp[Value.ownBlock])⟩,hk_.1.2⟩,hk_.2⟩))⟩,⟨Kd.N_nil _ _ _ _ _⟩,⟨BKg1.out⟩,⟨BKg11.out⟩,⟨HB.out⟩⟩
  case round=>
   clear hx77_0 hx77_1 hx77_2 hx77_3 hx77_4 p77 q77
   clear hk47
   clear hk48
   clear hk50
   clear hk51
   clear hk52
   clear hk53
   clear hk73
   clear hk74
   clear hk75
   clear hk76
   clear HH
   clear HF1 HF54_4 HF77_4 BKg1 BKg11 HB
   obtain⟨x79,x80,v78,rfl,HA,HK0,HF77_4,HN81,BKg1,BKg11,HB⟩:=hrel
   obtain⟨w83,rfl⟩:∃ wo_:World,wo_=wr:=⟨_,rfl⟩
   cases gk with
   |zero=>exact absurd HA.out (by simp[reply_entered.l0])
   |succ k82=>
    have H:=HA.out
    clear HA
    simp only[reply_entered.l0] at H
    have HH:=za H
    clear H
    replace cBKg1:=MB.lz8 BKg1.out
    replace cBKg11:=MB.lz8 BKg11.out
    replace HH:=zqt HH
    rcases HH with⟨HH,hk101,hk102⟩|⟨HH,hk469,hk470⟩
    ·replace HH:=zqdo HH
     obtain⟨HH,hk104⟩:=HH
     have p105:0≤(x79:Int):=of_decide_eq_true (by first|(with_reducible assumption)|assumption)
     have q105:x79<(((rd_T57 l1 (1:Int)).f4).length:Int):=of_decide_eq_true (by first|(with_reducible assumption)|assumption)
     obtain⟨ad105,A105_4,c105_4,e105,hx105_0,hx105_1,hx105_2,hx105_3,hx105_4,hl105_4,hi105_4⟩:=atF_T57 HF77_4.out x79 p105 q105
     cases e105
     have HF105_4:=za hi105_4
     clear hi105_4 hl105_4
     replace p105:=eq_true p105
     replace q105:=eq_true q105
     go_wp2_with ((with_reducible refine gd 8 rfl ?_);refine zb 8 57 #[.int .i64 0,.bool false,.int .i64 0,.string (⟨#[]⟩:ByteArray),.slice none 0 0] (h:=?_);intro g106 hg w107 BKg106 hb)
     refine zg ?_
     have GEg106:=zge hg (below_size HB.out)
     have NEg1_g106:=znq hg BKg1.out
     have NEg106_g1:=zsy NEg1_g106
     have NEg11_g106:=znq hg BKg11.out
     have NEg106_g11:=zsy NEg11_g106
     replace HF77_4:=zfe HF77_4.out hg hb
     replace HF105_4:=zfe HF105_4.out hg hb
     replace HN81:=zne HN81.out hg hb
     replace BKg1:=zbb BKg1.out hb
     replace BKg11:=zbb BKg11.out hb
     replace HB:=zhb HB.out hb
     clear hg hb
     clear hx105_0 hx105_1 hx105_2 hx105_3 hx105_4 p105 q105
     replace cBKg1:=MB.lz8 BKg1.out
     replace cBKg11:=MB.lz8 BKg11.out
     replace cBKg106:=MB.lz5 BKg106.out
     go_wp2_with ((with_reducible refine gs 57 8 rfl ?_);refine zs 57 8 #[.int .i64 ((rd_T57 ((rd_T57 l1 (1:Int)).f4) x79).f0),.bool ((rd_T57 ((rd_T57 l1 (1:Int)).f4) x79).f1),.int .i64 ((rd_T57 ((rd_T57 l1 (1:Int)).f4) x79).f2),.string ((rd_T57 ((rd_T57 l1 (1:Int)).f4) x79).f3),.slice A105_4 ((rd_T57 ((rd_T57 l1 (1:Int)).f4) x79).f4).length c105_4] BKg106.out [.int .i64 ((rd_T57 ((rd_T57 l1 (1:Int)).f4) x79).f0),.bool ((rd_T57 ((rd_T57 l1 (1:Int)).f4) x79).f1),.int .i64 ((rd_T57 ((rd_T57 l1 (1:Int)).f4) x79).f2),.string ((rd_T57 ((rd_T57 l1 (1:Int)).f4) x79).f3),.slice A105_4 ((rd_T57 ((rd_T57 l1 (1:Int)).f4) x79).f4).length c105_4] (h:=?_);intro w129 hbk hg)
     refine zg ?_
     replace HF77_4:=zfg HF77_4.out hg fun k_ hk_=>hk_.2
     replace HF105_4:=zfg HF105_4.out hg fun k_ hk_=>hk_.2
     replace HN81:=zng HN81.out hg fun k_ hk_=>hk_.2
     replace BKg1:=zbg BKg1.out hg NEg1_g106
     replace BKg11:=zbg BKg11.out hg NEg11_g106
     replace HB:=zhg HB.out hg (below_size HB.out) GEg106
     replace BKg106:=hbk
     clear hg hbk
     replace cBKg1:=MB.lz8 BKg1.out
     replace cBKg11:=MB.lz8 BKg11.out
     replace cBKg106:=MB.lz5 BKg106.out
     replace HH:=zqe HH
     rcases HH with⟨HH,hk152,hk153⟩|⟨HH,hk442,hk443⟩
     ·replace HH:=zqno 0 HH
      obtain⟨HH,hk155,hk156,hk157,hk158⟩:=HH
      have p159:0≤(0:Int):=by decide
      have q159:(0:Int)<(((rd_T57 ((rd_T57 l1 (1:Int)).f4) x79).f4).length:Int):=of_decide_eq_true (by first|(with_reducible assumption)|assumption)
      obtain⟨ad159,A159_4,c159_4,e159,hx159_0,hx159_1,hx159_2,hx159_3,hx159_4,hl159_4,hi159_4⟩:=atF_T57 HF105_4.out (0:Int) p159 q159
      cases e159
      (try simp only[show((0:Int)).toNat=0 from rfl,show 0*5=0 from rfl] at hx159_0)
      (try rw[Addr.add_zero'] at hx159_0)
      (try simp only[show((0:Int)).toNat=0 from rfl,show 0*5=0 from rfl] at hx159_1)
      (try rw[Addr.add_zero'] at hx159_1)
      (try simp only[show((0:Int)).toNat=0 from rfl,show 0*5=0 from rfl] at hx159_2)
      (try rw[Addr.add_zero'] at hx159_2)
      (try simp only[show((0:Int)).toNat=0 from rfl,show 0*5=0 from rfl] at hx159_3)
      (try rw[Addr.add_zero'] at hx159_3)
      (try simp only[show((0:Int)).toNat=0 from rfl,show 0*5=0 from rfl] at hx159_4)
      (try rw[Addr.add_zero'] at hx159_4)
      have HF159_4:=za hi159_4
      clear hi159_4 hl159_4
      replace p159:=eq_true p159
      replace q159:=eq_true q159
      go_wp2_with ((with_reducible refine gd 9 rfl ?_);refine zb 9 46 #[.string (⟨#[]⟩:ByteArray),.slice none 0 0] (h:=?_);intro g160 hg w161 BKg160 hb)
      refine zg ?_
      have GEg160:=zge hg (below_size HB.out)
      have NEg1_g160:=znq hg BKg1.out
      have NEg11_g160:=znq hg BKg11.out
      have NEg160_g11:=zsy NEg11_g160
      have NEg106_g160:=znq hg BKg106.out
      replace HF77_4:=zfe HF77_4.out hg hb
      replace HF105_4:=zfe HF105_4.out hg hb
      replace HF159_4:=zfe HF159_4.out hg hb
      replace HN81:=zne HN81.out hg hb
      replace BKg1:=zbb BKg1.out hb
      replace BKg11:=zbb BKg11.out hb
      replace BKg106:=zbb BKg106.out hb
      replace HB:=zhb HB.out hb
      clear hg hb
      clear hx159_0 hx159_1 hx159_2 hx159_3 hx159_4 p159 q159
      replace cBKg1:=MB.lz8 BKg1.out
      replace cBKg11:=MB.lz8 BKg11.out
      replace cBKg106:=MB.lz5 BKg106.out
      replace cBKg160:=MB.lz2 BKg160.out
      go_wp2_with ((with_reducible refine gs 46 9 rfl ?_);refine zs 46 9 #[.string ((rd_T57 ((rd_T57 ((rd_T57 l1 (1:Int)).f4) x79).f4) (0:Int)).f3),.slice none 0 0] BKg160.out [.string ((rd_T57 ((rd_T57 ((rd_T57 l1 (1:Int)).f4) x79).f4) (0:Int)).f3),.slice none 0 0] (h:=?_);intro w185 hbk hg)
      refine zg ?_
      replace HF77_4:=zfg HF77_4.out hg fun k_ hk_=>hk_.2
      replace HF105_4:=zfg HF105_4.out hg fun k_ hk_=>hk_.2
      replace HF159_4:=zfg HF159_4.out hg fun k_ hk_=>hk_.2
      replace HN81:=zng HN81.out hg fun k_ hk_=>hk_.2
      replace BKg1:=zbg BKg1.out hg NEg1_g160
      replace BKg11:=zbg BKg11.out hg NEg11_g160
      replace BKg106:=zbg BKg106.out hg NEg106_g160
      replace HB:=zhg HB.out hg (below_size HB.out) GEg160
      replace BKg160:=hbk
      clear hg hbk
      replace cBKg1:=MB.lz8 BKg1.out
      replace cBKg11:=MB.lz8 BKg11.out
      replace cBKg106:=MB.lz5 BKg106.out
      replace cBKg160:=MB.lz2 BKg160.out
      replace HH:=zqno 1 HH
      obtain⟨HH,hk210,hk211,hk212,hk213⟩:=HH
      have p214:0≤(1:Int):=by decide
      have q214:(1:Int)<(((rd_T57 ((rd_T57 l1 (1:Int)).f4) x79).f4).length:Int):=of_decide_eq_true (by first|(with_reducible assumption)|assumption)
      obtain⟨ad214,A214_4,c214_4,e214,hx214_0,hx214_1,hx214_2,hx214_3,hx214_4,hl214_4,hi214_4⟩:=atF_T57 HF105_4.out (1:Int) p214 q214
      cases e214
      (try simp only[show((1:Int)).toNat=1 from rfl,show 1*5=5 from rfl] at hx214_0)
      (try simp only[Nat.reduceMul,Nat.reduceEqDiff,Go.Addr.add,↓reduceIte] at hx214_0)
      (try simp only[show((1:Int)).toNat=1 from rfl,show 1*5=5 from rfl] at hx214_1)
      (try simp only[Nat.reduceMul,Nat.reduceEqDiff,Go.Addr.add,↓reduceIte] at hx214_1)
      (try simp only[show((1:Int)).toNat=1 from rfl,show 1*5=5 from rfl] at hx214_2)
      (try simp only[Nat.reduceMul,Nat.reduceEqDiff,Go.Addr.add,↓reduceIte] at hx214_2)
      (try simp only[show((1:Int)).toNat=1 from rfl,show 1*5=5 from rfl] at hx214_3)
      (try simp only[Nat.reduceMul,Nat.reduceEqDiff,Go.Addr.add,↓reduceIte] at hx214_3)
      (try simp only[show((1:Int)).toNat=1 from rfl,show 1*5=5 from rfl] at hx214_4)
      (try simp only[Nat.reduceMul,Nat.reduceEqDiff,Go.Addr.add,↓reduceIte] at hx214_4)
      have HF214_4:=za hi214_4
      clear hi214_4 hl214_4
      replace p214:=eq_true p214
      replace q214:=eq_true q214
      go_wp2
      go_loopg [49] k82 (fun kq u49 w'=>∃ (x216:Int) (x217:List ByteArray) (v215:Value),u49=.int .i64 x216∧Aside0 ((reply_entered.l1 kq x216 x217 a0 l1 x79 x80)=some (r1,r2,r3,r4,r5,r6,r7,r8,r9))∧Aside0 (kq≤k82)∧Aside0 (Kd.F k57 w' (fun k_=>((((((P_ k_∨w.heap.size≤k_)∧some k_≠(v78:Value).ownBlock)∧some k_≠(v215:Value).ownBlock)∧k_≠g1)∧k_≠g11)∧k_≠g106)∧k_≠g160) (some ad105) ((rd_T57 l1 (1:Int)).f4).length ((rd_T57 l1 (1:Int)).f4))∧Aside0 (Kd.F k57 w' (fun k_=>((((((P_ k_∨w.heap.size≤k_)∧some k_≠(v78:Value).ownBlock)∧some k_≠(v215:Value).ownBlock)∧k_≠g1)∧k_≠g11)∧k_≠g106)∧k_≠g160) (some ad159) ((rd_T57 ((rd_T57 l1 (1:Int)).f4) x79).f4).length ((rd_T57 ((rd_T57 l1 (1:Int)).f4) x79).f4))∧Aside0 (Kd.F k57 w' (fun k_=>((((((P_ k_∨w.heap.size≤k_)∧some k_≠(v78:Value).ownBlock)∧some k_≠(v215:Value).ownBlock)∧k_≠g1)∧k_≠g11)∧k_≠g106)∧k_≠g160) A214_4 ((rd_T57 ((rd_T57 ((rd_T57 l1 (1:Int)).f4) x79).f4) (1:Int)).f4).length ((rd_T57 ((rd_T57 ((rd_T57 l1 (1:Int)).f4) x79).f4) (1:Int)).f4))∧Aside0 (Kd.N k46 46 w' w.heap.size (fun k_=>(((((P_ k_∨w.heap.size≤k_)∧some k_≠(v215:Value).ownBlock)∧k_≠g1)∧k_≠g11)∧k_≠g106)∧k_≠g160) v78 x80)∧Aside0 (Kd.N Kd.string 9 w' w.heap.size (fun k_=>(((((P_ k_∨w.heap.size≤k_)∧some k_≠(v78:Value).ownBlock)∧k_≠g1)∧k_≠g11)∧k_≠g106)∧k_≠g160) v215 x217)∧Aside0 (w'.heap[g1]? =some (.cells #[.int .i64 0,.int .i64 0,.bool false,.int .i64 0,.string (⟨#[]⟩:ByteArray),.string (⟨#[]⟩:ByteArray),.string (⟨#[]⟩:ByteArray),.slice none 0 0] 27 (0,0)))∧Aside0 (w'.heap[g11]? =some (.cells #[.int .i64 a0,.int .i64 3,.bool true,.int .i64 0,.string (⟨#[]⟩:ByteArray),.string (⟨#[]⟩:ByteArray),.string ((rd_T57 l1 (0:Int)).f3),v78] 27 (0,0)))∧Aside0 (w'.heap[g106]? =some (.cells #[.int .i64 ((rd_T57 ((rd_T57 l1 (1:Int)).f4) x79).f0),.bool ((rd_T57 ((rd_T57 l1 (1:Int)).f4) x79).f1),.int .i64 ((rd_T57 ((rd_T57 l1 (1:Int)).f4) x79).f2),.string ((rd_T57 ((rd_T57 l1 (1:Int)).f4) x79).f3),.slice (some ad159) ((rd_T57 ((rd_T57 l1 (1:Int)).f4) x79).f4).length c105_4] 57 (0,0)))∧Aside0 (w'.heap[g160]? =some (.cells #[.string ((rd_T57 ((rd_T57 ((rd_T57 l1 (1:Int)).f4) x79).f4) (0:Int)).f3),v215] 46 (0,0)))∧Aside0 (Below w.heap.size w w'))
      case atStart=>exact⟨0,([]:List ByteArray),.slice none 0 0,(by first|rfl|(simp;done)|(simp[*];done)),HH,⟨Nat.le_refl _⟩,⟨(Kd.F_mono (ok:=(fun k_=>(((((P_ k_∨w.heap.size≤k_)∧some k_≠(v78:Value).ownBlock)∧k_≠g1)∧k_≠g11)∧k_≠g106)∧k_≠g160)) HF77_4.out (fun k_ hk_=>⟨⟨⟨⟨⟨⟨hk_.1.1.1.1.1,hk_.1.1.1.1.2⟩,(by simp[Value.ownBlock])⟩,hk_.1.1.1.2⟩,hk_.1.1.2⟩,hk_.1.2⟩,hk_.2⟩))⟩,⟨(Kd.F_mono (ok:=(fun k_=>(((((P_ k_∨w.heap.size≤k_)∧some k_≠(v78:Value).ownBlock)∧k_≠g1)∧k_≠g11)∧k_≠g106)∧k_≠g160)) HF105_4.out (fun k_ hk_=>⟨⟨⟨⟨⟨⟨hk_.1.1.1.1.1,hk_.1.1.1.1.2⟩,(by simp[Value.ownBlock])⟩,hk_.1.1.1.2⟩,hk_.1.1.2⟩,hk_.1.2⟩,hk_.2⟩))⟩,⟨(Kd.F_mono (ok:=(fun k_=>(((((P_ k_∨w.heap.size≤k_)∧some k_≠(v78:Value).ownBlock)∧k_≠g1)∧k_≠g11)∧k_≠g106)∧k_≠g160)) HF214_4.out (fun k_ hk_=>⟨⟨⟨⟨⟨⟨hk_.1.1.1.1.1,hk_.1.1.1.1.2⟩,(by simp[Value.ownBlock])⟩,hk_.1.1.1.2⟩,hk_.1.1.2⟩,hk_.1.2⟩,hk_.2⟩))⟩,⟨(Kd.N_mono (ok:=(fun k_=>((((P_ k_∨w.heap.size≤k_)∧k_≠g1)∧k_≠g11)∧k_≠g106)∧k_≠g160)) HN81.out (fun k_ hk_=>⟨⟨⟨⟨⟨hk_.1.1.1.1,(by simp[Value.ownBlock])⟩,hk_.1.1.1.2⟩,hk_.1.1.2⟩,hk_.1.2⟩,hk_.2⟩))⟩,⟨Kd.N_nil _ _ _ _ _⟩,⟨BKg1.out⟩,⟨BKg11.out⟩,⟨BKg106.out⟩,⟨BKg160.out⟩,⟨HB.out⟩⟩
      case round=>
       clear hx214_0 hx214_1 hx214_2 hx214_3 hx214_4 p214 q214
       clear hk101
       clear hk102
       clear hk104
       clear hk152
       clear hk153
       clear hk155
       clear hk156
       clear hk157
       clear hk158
       clear hk210
       clear hk211
       clear hk212
       clear hk213
       clear HH
       clear HF77_4 HF105_4 HF159_4 HF214_4 HN81 BKg1 BKg11 BKg106 BKg160 HB
       obtain⟨x216,x217,v215,rfl,HA,HK1,HF77_4,HF105_4,HF214_4,HN81,HN218,BKg1,BKg11,BKg106,BKg160,HB⟩:=hrel
       obtain⟨w220,rfl⟩:∃ wo_:World,wo_=wr:=⟨_,rfl⟩
       cases gk with
       |zero=>exact absurd HA.out (by simp[reply_entered.l1])
       |succ k219=>
        have H:=HA.out
        clear HA
        simp only[reply_entered.l1] at H
        have HH:=za H
        clear H
        replace cBKg1:=MB.lz8 BKg1.out
        replace cBKg11:=MB.lz8 BKg11.out
        replace cBKg106:=MB.lz5 BKg106.out
        replace cBKg160:=MB.lz2 BKg160.out
        replace HH:=zqt HH
        rcases HH with⟨HH,hk245,hk246⟩|⟨HH,hk374,hk375⟩
        ·replace HH:=zqdo HH
         obtain⟨HH,hk248⟩:=HH
         have p249:0≤(x216:Int):=of_decide_eq_true (by first|(with_reducible assumption)|assumption)
         have q249:x216<(((rd_T57 ((rd_T57 ((rd_T57 l1 (1:Int)).f4) x79).f4) (1:Int)).f4).length:Int):=of_decide_eq_true (by first|(with_reducible assumption)|assumption)
         obtain⟨ad249,A249_4,c249_4,e249,hx249_0,hx249_1,hx249_2,hx249_3,hx249_4,hl249_4,hi249_4⟩:=atF_T57 HF214_4.out x216 p249 q249
         cases e249
         clear hi249_4 hl249_4
         replace p249:=eq_true p249
         replace q249:=eq_true q249
         go_wp2_with ((with_reducible refine gd 11 rfl ?_);refine zb 11 57 #[.int .i64 0,.bool false,.int .i64 0,.string (⟨#[]⟩:ByteArray),.slice none 0 0] (h:=?_);intro g250 hg w251 BKg250 hb)
         refine zg ?_
         have GEg250:=zge hg (below_size HB.out)
         have NEg1_g250:=znq hg BKg1.out
         have NEg11_g250:=znq hg BKg11.out
         have NEg106_g250:=znq hg BKg106.out
         have NEg160_g250:=znq hg BKg160.out
         have NEg250_g160:=zsy NEg160_g250
         replace HF77_4:=zfe HF77_4.out hg hb
         replace HF105_4:=zfe HF105_4.out hg hb
         replace HF214_4:=zfe HF214_4.out hg hb
         replace HN81:=zne HN81.out hg hb
         replace HN218:=zne HN218.out hg hb
         replace BKg1:=zbb BKg1.out hb
         replace BKg11:=zbb BKg11.out hb
         replace BKg106:=zbb BKg106.out hb
         replace BKg160:=zbb BKg160.out hb
         replace HB:=zhb HB.out hb
         clear hg hb
         clear hx249_0 hx249_1 hx249_2 hx249_3 hx249_4 p249 q249
         replace cBKg1:=MB.lz8 BKg1.out
         replace cBKg11:=MB.lz8 BKg11.out
         replace cBKg106:=MB.lz5 BKg106.out
         replace cBKg160:=MB.lz2 BKg160.out
         replace cBKg250:=MB.lz5 BKg250.out
         go_wp2_with ((with_reducible refine gs 57 11 rfl ?_);refine zs 57 11 #[.int .i64 ((rd_T57 ((rd_T57 ((rd_T57 ((rd_T57 l1 (1:Int)).f4) x79).f4) (1:Int)).f4) x216).f0),.bool ((rd_T57 ((rd_T57 ((rd_T57 ((rd_T57 l1 (1:Int)).f4) x79).f4) (1:Int)).f4) x216).f1),.int .i64 ((rd_T57 ((rd_T57 ((rd_T57 ((rd_T57 l1 (1:Int)).f4) x79).f4) (1:Int)).f4) x216).f2),.string ((rd_T57 ((rd_T57 ((rd_T57 ((rd_T57 l1 (1:Int)).f4) x79).f4) (1:Int)).f4) x216).f3),.slice A249_4 ((rd_T57 ((rd_T57 ((rd_T57 ((rd_T57 l1 (1:Int)).f4) x79).f4) (1:Int)).f4) x216).f4).length c249_4] BKg250.out [.int .i64 ((rd_T57 ((rd_T57 ((rd_T57 ((rd_T57 l1 (1:Int)).f4) x79).f4) (1:Int)).f4) x216).f0),.bool ((rd_T57 ((rd_T57 ((rd_T57 ((rd_T57 l1 (1:Int)).f4) x79).f4) (1:Int)).f4) x216).f1),.int .i64 ((rd_T57 ((rd_T57 ((rd_T57 ((rd_T57 l1 (1:Int)).f4) x79).f4) (1:Int)).f4) x216).f2),.string ((rd_T57 ((rd_T57 ((rd_T57 ((rd_T57 l1 (1:Int)).f4) x79).f4) (1:Int)).f4) x216).f3),.slice A249_4 ((rd_T57 ((rd_T57 ((rd_T57 ((rd_T57 l1 (1:Int)).f4) x79).f4) (1:Int)).f4) x216).f4).length c249_4] (h:=?_);intro w280 hbk hg)
         refine zg ?_
         replace HF77_4:=zfg HF77_4.out hg fun k_ hk_=>hk_.2
         replace HF105_4:=zfg HF105_4.out hg fun k_ hk_=>hk_.2
         replace HF214_4:=zfg HF214_4.out hg fun k_ hk_=>hk_.2
         replace HN81:=zng HN81.out hg fun k_ hk_=>hk_.2
         replace HN218:=zng HN218.out hg fun k_ hk_=>hk_.2
         replace BKg1:=zbg BKg1.out hg NEg1_g250
         replace BKg11:=zbg BKg11.out hg NEg11_g250
         replace BKg106:=zbg BKg106.out hg NEg106_g250
         replace BKg160:=zbg BKg160.out hg NEg160_g250
         replace HB:=zhg HB.out hg (below_size HB.out) GEg250
         replace BKg250:=hbk
         clear hg hbk
         replace cBKg1:=MB.lz8 BKg1.out
         replace cBKg11:=MB.lz8 BKg11.out
         replace cBKg106:=MB.lz5 BKg106.out
         replace cBKg160:=MB.lz2 BKg160.out
         replace cBKg250:=MB.lz5 BKg250.out
         obtain⟨HH,LMc309⟩:=zlm HH
         obtain⟨y310,hy310⟩:∃ y_:List ByteArray,y_=(x217++[(rd_T57 ((rd_T57 ((rd_T57 ((rd_T57 l1 (1:Int)).f4) x79).f4) (1:Int)).f4) x216).f3]):=⟨_,rfl⟩
         have H:((reply_entered.l1 k219 (wrap64 (x216+1)) y310 a0 l1 x79 x80))=some (r1,r2,r3,r4,r5,r6,r7,r8,r9):=by rw[hy310];exact HH.out
         replace HH:=za H
         clear H
         have NYy310:=za hy310
         clear hy310
         go_wp2_with (((with_reducible refine gate_dst (N:=58) rfl ?_);(try(refine gate_guard (by rfl) ?_;dsimp only));refine Kd.N_append Kd.string w.heap.size rfl _ _ 31 9 (.string ⟨#[]⟩) 16 rfl Try.underlying31 info9 rfl (by decide) (by decide) (v215) x217 ((rd_T57 ((rd_T57 ((rd_T57 ((rd_T57 l1 (1:Int)).f4) x79).f4) (1:Int)).f4) x216).f3) [.string ((rd_T57 ((rd_T57 ((rd_T57 ((rd_T57 l1 (1:Int)).f4) x79).f4) (1:Int)).f4) x216).f3)] (fun k_=>((((((P_ k_∨w.heap.size≤k_)∧some k_≠(v78:Value).ownBlock)∧k_≠g1)∧k_≠g11)∧k_≠g106)∧k_≠g160)∧k_≠g250) (fun k_=>(fun k_=>((((((P_ k_∨w.heap.size≤k_)∧some k_≠(v78:Value).ownBlock)∧k_≠g1)∧k_≠g11)∧k_≠g106)∧k_≠g160)∧k_≠g250) k_∧some k_≠(v215:Value).ownBlock) rfl rfl (fun _ _=>rfl) (fun _ hk_=>hk_) (fun k_ h_=>⟨⟨⟨⟨⟨⟨.inr (Nat.le_trans (below_size (by repeat(first|(with_reducible first|exact HB.out|apply below_alloc|apply pw_below_drewN|apply below_drew1)|exact HB.out))) h_),Kd.fresh' (Kd.N_lt (by(with_reducible repeat(first|apply Kd.N_alloc|apply Kd.N_drewN|apply Kd.N_drew));exact HN81.out)) k_ h_⟩,Kd.freshB (g:=g1) (o:=.cells #[.int .i64 0,.int .i64 0,.bool false,.int .i64 0,.string (⟨#[]⟩:ByteArray),.string (⟨#[]⟩:ByteArray),.string (⟨#[]⟩:ByteArray),.slice none 0 0] 27 (0,0)) (by(with_reducible repeat(first|refine blk_drewN ?_ _|refine blk_drew ?_|refine blk_alloc ?_ _));exact BKg1.out) k_ h_⟩,Kd.freshB (g:=g11) (o:=.cells #[.int .i64 a0,.int .i64 3,.bool true,.int .i64 0,.string (⟨#[]⟩:ByteArray),.string (⟨#[]⟩:ByteArray),.string ((rd_T57 l1 (0:Int)).f3),v78] 27 (0,0)) (by(with_reducible repeat(first|refine blk_drewN ?_ _|refine blk_drew ?_|refine blk_alloc ?_ _));exact BKg11.out) k_ h_⟩,Kd.freshB (g:=g106) (o:=.cells #[.int .i64 ((rd_T57 ((rd_T57 l1 (1:Int)).f4) x79).f0),.bool ((rd_T57 ((rd_T57 l1 (1:Int)).f4) x79).f1),.int .i64 ((rd_T57 ((rd_T57 l1 (1:Int)).f4) x79).f2),.string ((rd_T57 ((rd_T57 l1 (1:Int)).f4) x79).f3),.slice (some ad159) ((rd_T57 ((rd_T57 l1 (1:Int)).f4) x79).f4).length c105_4] 57 (0,0)) (by(with_reducible repeat(first|refine blk_drewN ?_ _|refine blk_drew ?_|refine blk_alloc ?_ _));exact BKg106.out) k_ h_⟩,Kd.freshB (g:=g160) (o:=.cells #[.string ((rd_T57 ((rd_T57 ((rd_T57 l1 (1:Int)).f4) x79).f4) (0:Int)).f3),v215] 46 (0,0)) (by(with_reducible repeat(first|refine blk_drewN ?_ _|refine blk_drew ?_|refine blk_alloc ?_ _));exact BKg160.out) k_ h_⟩,Kd.freshB (g:=g250) (o:=.cells #[.int .i64 ((rd_T57 ((rd_T57 ((rd_T57 ((rd_T57 l1 (1:Int)).f4) x79).f4) (1:Int)).f4) x216).f0),.bool ((rd_T57 ((rd_T57 ((rd_T57 ((rd_T57 l1 (1:Int)).f4) x79).f4) (1:Int)).f4) x216).f1),.int .i64 ((rd_T57 ((rd_T57 ((rd_T57 ((rd_T57 l1 (1:Int)).f4) x79).f4) (1:Int)).f4) x216).f2),.string ((rd_T57 ((rd_T57 ((rd_T57 ((rd_T57 l1 (1:Int)).f4) x79).f4) (1:Int)).f4) x216).f3),.slice A249_4 ((rd_T57 ((rd_T57 ((rd_T57 ((rd_T57 l1 (1:Int)).f4) x79).f4) (1:Int)).f4) x216).f4).length c249_4] 57 (0,0)) (by(with_reducible repeat(first|refine blk_drewN ?_ _|refine blk_drew ?_|refine blk_alloc ?_ _));exact BKg250.out) k_ h_⟩) (by(with_reducible repeat(first|apply Kd.N_alloc|apply Kd.N_drewN|apply Kd.N_drew));exact HN218.out) (by repeat(first|(with_reducible first|exact HB.out|apply below_alloc|apply pw_below_drewN|apply below_drew1)|exact HB.out)) (below_size (by repeat(first|(with_reducible first|exact HB.out|apply below_alloc|apply pw_below_drewN|apply below_drew1)|exact HB.out))) (by first|(have:=LMc309.out;omega)|(have:=LMc309.out;simp at *;omega)) ?_;intro v311 w312 hn1 hb1 hg1 hat1);replace hat1:=za hat1;refine stop_ ?_)
         refine zg ?_
         replace hat1:=hat1.out
         replace HF77_4:=za (Kd.F_mono (Kd.F_after (v:=v215) (ok:=(fun k_=>((((((P_ k_∨w.heap.size≤k_)∧some k_≠(v78:Value).ownBlock)∧k_≠g1)∧k_≠g11)∧k_≠g106)∧k_≠g160)∧k_≠g250)) (Kd.F_mono (ok:=(fun k_=>(((((((P_ k_∨w.heap.size≤k_)∧some k_≠(v78:Value).ownBlock)∧some k_≠(v215:Value).ownBlock)∧k_≠g1)∧k_≠g11)∧k_≠g106)∧k_≠g160)∧k_≠g250)) (by(with_reducible repeat(first|apply Kd.F_alloc|apply Kd.F_drewN|apply Kd.F_drew));exact HF77_4.out) (fun k_ hk_=>⟨⟨⟨⟨⟨⟨⟨hk_.1.1.1.1.1.1.1,hk_.1.1.1.1.1.1.2⟩,hk_.1.1.1.1.2⟩,hk_.1.1.1.2⟩,hk_.1.1.2⟩,hk_.1.2⟩,hk_.2⟩,hk_.1.1.1.1.1.2⟩)) hg1 hat1) (fun k_ hk_=>hk_):Kd.F k57 _ (fun k_=>(((((((P_ k_∨w.heap.size≤k_)∧some k_≠(v78:Value).ownBlock)∧k_≠g1)∧k_≠g11)∧k_≠g106)∧k_≠g160)∧k_≠g250)∧some k_≠(v311:Value).ownBlock) _ _ _)
         replace HF105_4:=za (Kd.F_mono (Kd.F_after (v:=v215) (ok:=(fun k_=>((((((P_ k_∨w.heap.size≤k_)∧some k_≠(v78:Value).ownBlock)∧k_≠g1)∧k_≠g11)∧k_≠g106)∧k_≠g160)∧k_≠g250)) (Kd.F_mono (ok:=(fun k_=>(((((((P_ k_∨w.heap.size≤k_)∧some k_≠(v78:Value).ownBlock)∧some k_≠(v215:Value).ownBlock)∧k_≠g1)∧k_≠g11)∧k_≠g106)∧k_≠g160)∧k_≠g250)) (by(with_reducible repeat(first|apply Kd.F_alloc|apply Kd.F_drewN|apply Kd.F_drew));exact HF105_4.out) (fun k_ hk_=>⟨⟨⟨⟨⟨⟨⟨hk_.1.1.1.1.1.1.1,hk_.1.1.1.1.1.1.2⟩,hk_.1.1.1.1.2⟩,hk_.1.1.1.2⟩,hk_.1.1.2⟩,hk_.1.2⟩,hk_.2⟩,hk_.1.1.1.1.1.2⟩)) hg1 hat1) (fun k_ hk_=>hk_):Kd.F k57 _ (fun k_=>(((((((P_ k_∨w.heap.size≤k_)∧some k_≠(v78:Value).ownBlock)∧k_≠g1)∧k_≠g11)∧k_≠g106)∧k_≠g160)∧k_≠g250)∧some k_≠(v311:Value).ownBlock) _ _ _)
         replace HF214_4:=za (Kd.F_mono (Kd.F_after (v:=v215) (ok:=(fun k_=>((((((P_ k_∨w.heap.size≤k_)∧some k_≠(v78:Value).ownBlock)∧k_≠g1)∧k_≠g11)∧k_≠g106)∧k_≠g160)∧k_≠g250)) (Kd.F_mono (ok:=(fun k_=>(((((((P_ k_∨w.heap.size≤k_)∧some k_≠(v78:Value).ownBlock)∧some k_≠(v215:Value).ownBlock)∧k_≠g1)∧k_≠g11)∧k_≠g106)∧k_≠g160)∧k_≠g250)) (by(with_reducible repeat(first|apply Kd.F_alloc|apply Kd.F_drewN|apply Kd.F_drew));exact HF214_4.out) (fun k_ hk_=>⟨⟨⟨⟨⟨⟨⟨hk_.1.1.1.1.1.1.1,hk_.1.1.1.1.1.1.2⟩,hk_.1.1.1.1.2⟩,hk_.1.1.1.2⟩,hk_.1.1.2⟩,hk_.1.2⟩,hk_.2⟩,hk_.1.1.1.1.1.2⟩)) hg1 hat1) (fun k_ hk_=>hk_):Kd.F k57 _ (fun k_=>(((((((P_ k_∨w.heap.size≤k_)∧some k_≠(v78:Value).ownBlock)∧k_≠g1)∧k_≠g11)∧k_≠g106)∧k_≠g160)∧k_≠g250)∧some k_≠(v311:Value).ownBlock) _ _ _)
         replace HN81:=za (Kd.N_mono (Kd.N_after (u:=v215) (ok:=(fun k_=>(((((P_ k_∨w.heap.size≤k_)∧k_≠g1)∧k_≠g11)∧k_≠g106)∧k_≠g160)∧k_≠g250)) (Kd.N_mono (ok:=(fun k_=>((((((P_ k_∨w.heap.size≤k_)∧some k_≠(v215:Value).ownBlock)∧k_≠g1)∧k_≠g11)∧k_≠g106)∧k_≠g160)∧k_≠g250)) (by(with_reducible repeat(first|apply Kd.N_alloc|apply Kd.N_drewN|apply Kd.N_drew));exact HN81.out) (fun k_ hk_=>⟨⟨⟨⟨⟨⟨hk_.1.1.1.1.1.1,hk_.1.1.1.1.2⟩,hk_.1.1.1.2⟩,hk_.1.1.2⟩,hk_.1.2⟩,hk_.2⟩,hk_.1.1.1.1.1.2⟩)) hg1 hat1) (fun k_ hk_=>hk_):Kd.N k46 _ _ _ (fun k_=>((((((P_ k_∨w.heap.size≤k_)∧k_≠g1)∧k_≠g11)∧k_≠g106)∧k_≠g160)∧k_≠g250)∧some k_≠(v311:Value).ownBlock) _ _)
         replace BKg1:=za (blk_grown (g:=g1) (o:=.cells #[.int .i64 0,.int .i64 0,.bool false,.int .i64 0,.string (⟨#[]⟩:ByteArray),.string (⟨#[]⟩:ByteArray),.string (⟨#[]⟩:ByteArray),.slice none 0 0] 27 (0,0)) (by(with_reducible repeat(first|refine blk_drewN ?_ _|refine blk_drew ?_|refine blk_alloc ?_ _));exact BKg1.out) hg1 (Kd.N_away (ok:=(fun k_=>((((((P_ k_∨w.heap.size≤k_)∧some k_≠(v78:Value).ownBlock)∧k_≠g1)∧k_≠g11)∧k_≠g106)∧k_≠g160)∧k_≠g250)) HN218.out (fun k_ hk_=>hk_.1.1.1.1.2)))
         replace BKg11:=za (blk_grown (g:=g11) (o:=.cells #[.int .i64 a0,.int .i64 3,.bool true,.int .i64 0,.string (⟨#[]⟩:ByteArray),.string (⟨#[]⟩:ByteArray),.string ((rd_T57 l1 (0:Int)).f3),v78] 27 (0,0)) (by(with_reducible repeat(first|refine blk_drewN ?_ _|refine blk_drew ?_|refine blk_alloc ?_ _));exact BKg11.out) hg1 (Kd.N_away (ok:=(fun k_=>((((((P_ k_∨w.heap.size≤k_)∧some k_≠(v78:Value).ownBlock)∧k_≠g1)∧k_≠g11)∧k_≠g106)∧k_≠g160)∧k_≠g250)) HN218.out (fun k_ hk_=>hk_.1.1.1.2)))
         replace BKg106:=za (blk_grown (g:=g106) (o:=.cells #[.int .i64 ((rd_T57 ((rd_T57 l1 (1:Int)).f4) x79).f0),.bool ((rd_T57 ((rd_T57 l1 (1:Int)).f4) x79).f1),.int .i64 ((rd_T57 ((rd_T57 l1 (1:Int)).f4) x79).f2),.string ((rd_T57 ((rd_T57 l1 (1:Int)).f4) x79).f3),.slice (some ad159) ((rd_T57 ((rd_T57 l1 (1:Int)).f4) x79).f4).length c105_4] 57 (0,0)) (by(with_reducible repeat(first|refine blk_drewN ?_ _|refine blk_drew ?_|refine blk_alloc ?_ _));exact BKg106.out) hg1 (Kd.N_away (ok:=(fun k_=>((((((P_ k_∨w.heap.size≤k_)∧some k_≠(v78:Value).ownBlock)∧k_≠g1)∧k_≠g11)∧k_≠g106)∧k_≠g160)∧k_≠g250)) HN218.out (fun k_ hk_=>hk_.1.1.2)))
         replace BKg160:=za (blk_grown (g:=g160) (o:=.cells #[.string ((rd_T57 ((rd_T57 ((rd_T57 l1 (1:Int)).f4) x79).f4) (0:Int)).f3),v215] 46 (0,0)) (by(with_reducible repeat(first|refine blk_drewN ?_ _|refine blk_drew ?_|refine blk_alloc ?_ _));exact BKg160.out) hg1 (Kd.N_away (ok:=(fun k_=>((((((P_ k_∨w.heap.size≤k_)∧some k_≠(v78:Value).ownBlock)∧k_≠g1)∧k_≠g11)∧k_≠g106)∧k_≠g160)∧k_≠g250)) HN218.out (fun k_ hk_=>hk_.1.2)))
         replace BKg250:=za (blk_grown (g:=g250) (o:=.cells #[.int .i64 ((rd_T57 ((rd_T57 ((rd_T57 ((rd_T57 l1 (1:Int)).f4) x79).f4) (1:Int)).f4) x216).f0),.bool ((rd_T57 ((rd_T57 ((rd_T57 ((rd_T57 l1 (1:Int)).f4) x79).f4) (1:Int)).f4) x216).f1),.int .i64 ((rd_T57 ((rd_T57 ((rd_T57 ((rd_T57 l1 (1:Int)).f4) x79).f4) (1:Int)).f4) x216).f2),.string ((rd_T57 ((rd_T57 ((rd_T57 ((rd_T57 l1 (1:Int)).f4) x79).f4) (1:Int)).f4) x216).f3),.slice A249_4 ((rd_T57 ((rd_T57 ((rd_T57 ((rd_T57 l1 (1:Int)).f4) x79).f4) (1:Int)).f4) x216).f4).length c249_4] 57 (0,0)) (by(with_reducible repeat(first|refine blk_drewN ?_ _|refine blk_drew ?_|refine blk_alloc ?_ _));exact BKg250.out) hg1 (Kd.N_away (ok:=(fun k_=>((((((P_ k_∨w.heap.size≤k_)∧some k_≠(v78:Value).ownBlock)∧k_≠g1)∧k_≠g11)∧k_≠g106)∧k_≠g160)∧k_≠g250)) HN218.out (fun k_ hk_=>hk_.2)))
         replace HB:=za hb1
         clear HN218
         have HN313:=za hn1
         clear hn1 hb1 hg1 hat1
         replace HN313:=za (by rw[NYy310.out];exact HN313.out:Kd.N Kd.string 9 w312 w.heap.size (fun k_=>((((((P_ k_∨w.heap.size≤k_)∧some k_≠(v78:Value).ownBlock)∧k_≠g1)∧k_≠g11)∧k_≠g106)∧k_≠g160)∧k_≠g250) v311 y310)
         replace cBKg1:=MB.lz8 BKg1.out
         replace cBKg11:=MB.lz8 BKg11.out
         replace cBKg106:=MB.lz5 BKg106.out
         replace cBKg160:=MB.lz2 BKg160.out
         replace cBKg250:=MB.lz5 BKg250.out
         obtain⟨A343,cp344,he_⟩:=Kd.N_slice HN313.out
         subst he_
         go_wp2_with ((with_reducible refine gs 31 59 rfl ?_);refine zs 31 59 #[.string ((rd_T57 ((rd_T57 ((rd_T57 l1 (1:Int)).f4) x79).f4) (0:Int)).f3),(.slice A343 y310.length cp344)] BKg160.out [(.slice A343 y310.length cp344)] (h:=?_);intro w342 hbk hg)
         refine zg ?_
         replace HF77_4:=zfg HF77_4.out hg fun k_ hk_=>hk_.1.1.2
         replace HF105_4:=zfg HF105_4.out hg fun k_ hk_=>hk_.1.1.2
         replace HF214_4:=zfg HF214_4.out hg fun k_ hk_=>hk_.1.1.2
         replace HN81:=zng HN81.out hg fun k_ hk_=>hk_.1.1.2
         replace HN313:=zng HN313.out hg fun k_ hk_=>hk_.1.2
         replace BKg1:=zbg BKg1.out hg NEg1_g160
         replace BKg11:=zbg BKg11.out hg NEg11_g160
         replace BKg106:=zbg BKg106.out hg NEg106_g160
         replace BKg250:=zbg BKg250.out hg NEg250_g160
         replace HB:=zhg HB.out hg (below_size HB.out) GEg160
         replace BKg160:=hbk
         clear hg hbk
         replace cBKg1:=MB.lz8 BKg1.out
         replace cBKg11:=MB.lz8 BKg11.out
         replace cBKg106:=MB.lz5 BKg106.out
         replace cBKg160:=MB.lz2 BKg160.out
         replace cBKg250:=MB.lz5 BKg250.out
         go_wp2
         go_roundg k219
         case measure=>have:=HK0.out;have:=HK1.out;omega
         case rel=>exact⟨wrap64 (x216+1),y310,(.slice A343 y310.length cp344),(by first|rfl|(simp;done)|(simp[*];done)),HH,⟨by have:=HK0.out;have:=HK1.out;omega⟩,⟨(Kd.F_mono (ok:=(fun k_=>(((((((P_ k_∨w.heap.size≤k_)∧some k_≠(v78:Value).ownBlock)∧k_≠g1)∧k_≠g11)∧k_≠g106)∧k_≠g160)∧k_≠g250)∧some k_≠((.slice A343 y310.length cp344):Value).ownBlock)) HF77_4.out (fun k_ hk_=>⟨⟨⟨⟨⟨⟨hk_.1.1.1.1.1.1.1,hk_.1.1.1.1.1.1.2⟩,hk_.2⟩,hk_.1.1.1.1.1.2⟩,hk_.1.1.1.1.2⟩,hk_.1.1.1.2⟩,hk_.1.1.2⟩))⟩,⟨(Kd.F_mono (ok:=(fun k_=>(((((((P_ k_∨w.heap.size≤k_)∧some k_≠(v78:Value).ownBlock)∧k_≠g1)∧k_≠g11)∧k_≠g106)∧k_≠g160)∧k_≠g250)∧some k_≠((.slice A343 y310.length cp344):Value).ownBlock)) HF105_4.out (fun k_ hk_=>⟨⟨⟨⟨⟨⟨hk_.1.1.1.1.1.1.1,hk_.1.1.1.1.1.1.2⟩,hk_.2⟩,hk_.1.1.1.1.1.2⟩,hk_.1.1.1.1.2⟩,hk_.1.1.1.2⟩,hk_.1.1.2⟩))⟩,⟨(Kd.F_mono (ok:=(fun k_=>(((((((P_ k_∨w.heap.size≤k_)∧some k_≠(v78:Value).ownBlock)∧k_≠g1)∧k_≠g11)∧k_≠g106)∧k_≠g160)∧k_≠g250)∧some k_≠((.slice A343 y310.length cp344):Value).ownBlock)) HF214_4.out (fun k_ hk_=>⟨⟨⟨⟨⟨⟨hk_.1.1.1.1.1.1.1,hk_.1.1.1.1.1.1.2⟩,hk_.2⟩,hk_.1.1.1.1.1.2⟩,hk_.1.1.1.1.2⟩,hk_.1.1.1.2⟩,hk_.1.1.2⟩))⟩,⟨(Kd.N_mono (ok:=(fun k_=>((((((P_ k_∨w.heap.size≤k_)∧k_≠g1)∧k_≠g11)∧k_≠g106)∧k_≠g160)∧k_≠g250)∧some k_≠((.slice A343 y310.length cp344):Value).ownBlock)) HN81.out (fun k_ hk_=>⟨⟨⟨⟨⟨hk_.1.1.1.1.1.1,hk_.2⟩,hk_.1.1.1.1.1.2⟩,hk_.1.1.1.1.2⟩,hk_.1.1.1.2⟩,hk_.1.1.2⟩))⟩,⟨(Kd.N_mono (ok:=(fun k_=>((((((P_ k_∨w.heap.size≤k_)∧some k_≠(v78:Value).ownBlock)∧k_≠g1)∧k_≠g11)∧k_≠g106)∧k_≠g160)∧k_≠g250)) HN313.out (fun k_ hk_=>⟨⟨⟨⟨⟨hk_.1.1.1.1.1.1,hk_.1.1.1.1.1.2⟩,hk_.1.1.1.1.2⟩,hk_.1.1.1.2⟩,hk_.1.1.2⟩,hk_.1.2⟩))⟩,⟨BKg1.out⟩,⟨BKg11.out⟩,⟨BKg106.out⟩,⟨BKg160.out⟩,⟨HB.out⟩⟩
        obtain⟨A376,cp377,he_⟩:=Kd.N_slice HN218.out
        subst he_
        have HL379:=za (Kd.N_reads' HN218.out).2.1
        have HF378:=za (Kd.N_F HN218.out)
        clear HN218
        replace HF77_4:=za (Kd.F_mono (ok:=(fun k_=>((((((P_ k_∨w.heap.size≤k_)∧some k_≠(v78:Value).ownBlock)∧some k_≠((.slice A376 x217.length cp377):Value).ownBlock)∧k_≠g1)∧k_≠g11)∧k_≠g106)∧k_≠g160)) HF77_4.out (fun k_ hk_=>⟨⟨⟨⟨⟨hk_.1.1.1.1.1.1,hk_.1.1.1.1.1.2⟩,hk_.1.1.1.2⟩,hk_.1.1.2⟩,hk_.1.2⟩,hk_.2⟩):Kd.F k57 _ (fun k_=>(((((P_ k_∨w.heap.size≤k_)∧some k_≠(v78:Value).ownBlock)∧k_≠g1)∧k_≠g11)∧k_≠g106)∧k_≠g160) _ _ _)
        replace HN81:=za (Kd.N_mono (ok:=(fun k_=>(((((P_ k_∨w.heap.size≤k_)∧some k_≠((.slice A376 x217.length cp377):Value).ownBlock)∧k_≠g1)∧k_≠g11)∧k_≠g106)∧k_≠g160)) HN81.out (fun k_ hk_=>⟨⟨⟨⟨hk_.1.1.1.1.1,hk_.1.1.1.2⟩,hk_.1.1.2⟩,hk_.1.2⟩,hk_.2⟩):Kd.N k46 _ _ _ (fun k_=>((((P_ k_∨w.heap.size≤k_)∧k_≠g1)∧k_≠g11)∧k_≠g106)∧k_≠g160) _ _)
        obtain⟨HH,LMc380⟩:=zlm HH
        obtain⟨y381,hy381⟩:∃ y_:List (S46),y_=(x80++[(⟨(rd_T57 ((rd_T57 ((rd_T57 l1 (1:Int)).f4) x79).f4) (0:Int)).f3,x217⟩:S46)]):=⟨_,rfl⟩
        have H:((reply_entered.l0 k219 (wrap64 (x79+1)) y381 a0 l1))=some (r1,r2,r3,r4,r5,r6,r7,r8,r9):=by rw[hy381];exact HH.out
        replace HH:=za H
        clear H
        have NYy381:=za hy381
        clear hy381
        go_wp2_with (((with_reducible refine gate_dst (N:=65) rfl ?_);(try(refine gate_guard (by rfl) ?_;dsimp only));refine Kd.N_append k46 w.heap.size rfl _ _ 25 46 (.agg #[(.string ⟨#[]⟩),(.slice none 0 0)]) 40 rfl Try.underlying25 info46 rfl (by decide) (by decide) (v78) x80 (⟨(rd_T57 ((rd_T57 ((rd_T57 l1 (1:Int)).f4) x79).f4) (0:Int)).f3,x217⟩:S46) [.string ((rd_T57 ((rd_T57 ((rd_T57 l1 (1:Int)).f4) x79).f4) (0:Int)).f3),.slice A376 x217.length cp377] (fun k_=>((((P_ k_∨w.heap.size≤k_)∧k_≠g1)∧k_≠g11)∧k_≠g106)∧k_≠g160) (fun k_=>(fun k_=>((((P_ k_∨w.heap.size≤k_)∧k_≠g1)∧k_≠g11)∧k_≠g106)∧k_≠g160) k_∧some k_≠(v78:Value).ownBlock) rfl rfl (k46_mkF _ _ (⟨(rd_T57 ((rd_T57 ((rd_T57 l1 (1:Int)).f4) x79).f4) (0:Int)).f3,x217⟩:S46) HL379.out (Kd.F_mono (ok:=(fun k_=>(((((P_ k_∨w.heap.size≤k_)∧some k_≠(v78:Value).ownBlock)∧k_≠g1)∧k_≠g11)∧k_≠g106)∧k_≠g160)) (by(with_reducible repeat(first|apply Kd.F_alloc|apply Kd.F_drewN|apply Kd.F_drew));exact HF378.out) (fun k_ hk_=>⟨⟨⟨⟨⟨hk_.1.1.1.1.1,hk_.1.1.1.2⟩,hk_.1.1.2⟩,hk_.1.2⟩,hk_.2⟩,hk_.1.1.1.1.2⟩))) (fun _ hk_=>hk_) (fun k_ h_=>⟨⟨⟨⟨.inr (Nat.le_trans (below_size (by repeat(first|(with_reducible first|exact HB.out|apply below_alloc|apply pw_below_drewN|apply below_drew1)|exact HB.out))) h_),Kd.freshB (g:=g1) (o:=.cells #[.int .i64 0,.int .i64 0,.bool false,.int .i64 0,.string (⟨#[]⟩:ByteArray),.string (⟨#[]⟩:ByteArray),.string (⟨#[]⟩:ByteArray),.slice none 0 0] 27 (0,0)) (by(with_reducible repeat(first|refine blk_drewN ?_ _|refine blk_drew ?_|refine blk_alloc ?_ _));exact BKg1.out) k_ h_⟩,Kd.freshB (g:=g11) (o:=.cells #[.int .i64 a0,.int .i64 3,.bool true,.int .i64 0,.string (⟨#[]⟩:ByteArray),.string (⟨#[]⟩:ByteArray),.string ((rd_T57 l1 (0:Int)).f3),v78] 27 (0,0)) (by(with_reducible repeat(first|refine blk_drewN ?_ _|refine blk_drew ?_|refine blk_alloc ?_ _));exact BKg11.out) k_ h_⟩,Kd.freshB (g:=g106) (o:=.cells #[.int .i64 ((rd_T57 ((rd_T57 l1 (1:Int)).f4) x79).f0),.bool ((rd_T57 ((rd_T57 l1 (1:Int)).f4) x79).f1),.int .i64 ((rd_T57 ((rd_T57 l1 (1:Int)).f4) x79).f2),.string ((rd_T57 ((rd_T57 l1 (1:Int)).f4) x79).f3),.slice (some ad159) ((rd_T57 ((rd_T57 l1 (1:Int)).f4) x79).f4).length c105_4] 57 (0,0)) (by(with_reducible repeat(first|refine blk_drewN ?_ _|refine blk_drew ?_|refine blk_alloc ?_ _));exact BKg106.out) k_ h_⟩,Kd.freshB (g:=g160) (o:=.cells #[.string ((rd_T57 ((rd_T57 ((rd_T57 l1 (1:Int)).f4) x79).f4) (0:Int)).f3),.slice A376 x217.length cp377] 46 (0,0)) (by(with_reducible repeat(first|refine blk_drewN ?_ _|refine blk_drew ?_|refine blk_alloc ?_ _));exact BKg160.out) k_ h_⟩) (by(with_reducible repeat(first|apply Kd.N_alloc|apply Kd.N_drewN|apply Kd.N_drew));exact HN81.out) (by repeat(first|(with_reducible first|exact HB.out|apply below_alloc|apply pw_below_drewN|apply below_drew1)|exact HB.out)) (below_size (by repeat(first|(with_reducible first|exact HB.out|apply below_alloc|apply pw_below_drewN|apply below_drew1)|exact HB.out))) (by first|(have:=LMc380.out;omega)|(have:=LMc380.out;simp at *;omega)) ?_;intro v382 w383 hn1 hb1 hg1 hat1);replace hat1:=za hat1;refine stop_ ?_)
        refine zg ?_
        replace hat1:=hat1.out
        replace HF77_4:=za (Kd.F_mono (Kd.F_after (v:=v78) (ok:=(fun k_=>((((P_ k_∨w.heap.size≤k_)∧k_≠g1)∧k_≠g11)∧k_≠g106)∧k_≠g160)) (Kd.F_mono (ok:=(fun k_=>(((((P_ k_∨w.heap.size≤k_)∧some k_≠(v78:Value).ownBlock)∧k_≠g1)∧k_≠g11)∧k_≠g106)∧k_≠g160)) (by(with_reducible repeat(first|apply Kd.F_alloc|apply Kd.F_drewN|apply Kd.F_drew));exact HF77_4.out) (fun k_ hk_=>⟨⟨⟨⟨⟨hk_.1.1.1.1.1,hk_.1.1.1.2⟩,hk_.1.1.2⟩,hk_.1.2⟩,hk_.2⟩,hk_.1.1.1.1.2⟩)) hg1 hat1) (fun k_ hk_=>hk_):Kd.F k57 _ (fun k_=>(((((P_ k_∨w.heap.size≤k_)∧k_≠g1)∧k_≠g11)∧k_≠g106)∧k_≠g160)∧some k_≠(v382:Value).ownBlock) _ _ _)
        replace BKg1:=za (blk_grown (g:=g1) (o:=.cells #[.int .i64 0,.int .i64 0,.bool false,.int .i64 0,.string (⟨#[]⟩:ByteArray),.string (⟨#[]⟩:ByteArray),.string (⟨#[]⟩:ByteArray),.slice none 0 0] 27 (0,0)) (by(with_reducible repeat(first|refine blk_drewN ?_ _|refine blk_drew ?_|refine blk_alloc ?_ _));exact BKg1.out) hg1 (Kd.N_away (ok:=(fun k_=>((((P_ k_∨w.heap.size≤k_)∧k_≠g1)∧k_≠g11)∧k_≠g106)∧k_≠g160)) HN81.out (fun k_ hk_=>hk_.1.1.1.2)))
        replace BKg11:=za (blk_grown (g:=g11) (o:=.cells #[.int .i64 a0,.int .i64 3,.bool true,.int .i64 0,.string (⟨#[]⟩:ByteArray),.string (⟨#[]⟩:ByteArray),.string ((rd_T57 l1 (0:Int)).f3),v78] 27 (0,0)) (by(with_reducible repeat(first|refine blk_drewN ?_ _|refine blk_drew ?_|refine blk_alloc ?_ _));exact BKg11.out) hg1 (Kd.N_away (ok:=(fun k_=>((((P_ k_∨w.heap.size≤k_)∧k_≠g1)∧k_≠g11)∧k_≠g106)∧k_≠g160)) HN81.out (fun k_ hk_=>hk_.1.1.2)))
        replace BKg106:=za (blk_grown (g:=g106) (o:=.cells #[.int .i64 ((rd_T57 ((rd_T57 l1 (1:Int)).f4) x79).f0),.bool ((rd_T57 ((rd_T57 l1 (1:Int)).f4) x79).f1),.int .i64 ((rd_T57 ((rd_T57 l1 (1:Int)).f4) x79).f2),.string ((rd_T57 ((rd_T57 l1 (1:Int)).f4) x79).f3),.slice (some ad159) ((rd_T57 ((rd_T57 l1 (1:Int)).f4) x79).f4).length c105_4] 57 (0,0)) (by(with_reducible repeat(first|refine blk_drewN ?_ _|refine blk_drew ?_|refine blk_alloc ?_ _));exact BKg106.out) hg1 (Kd.N_away (ok:=(fun k_=>((((P_ k_∨w.heap.size≤k_)∧k_≠g1)∧k_≠g11)∧k_≠g106)∧k_≠g160)) HN81.out (fun k_ hk_=>hk_.1.2)))
        replace BKg160:=za (blk_grown (g:=g160) (o:=.cells #[.string ((rd_T57 ((rd_T57 ((rd_T57 l1 (1:Int)).f4) x79).f4) (0:Int)).f3),.slice A376 x217.length cp377] 46 (0,0)) (by(with_reducible repeat(first|refine blk_drewN ?_ _|refine blk_drew ?_|refine blk_alloc ?_ _));exact BKg160.out) hg1 (Kd.N_away (ok:=(fun k_=>((((P_ k_∨w.heap.size≤k_)∧k_≠g1)∧k_≠g11)∧k_≠g106)∧k_≠g160)) HN81.out (fun k_ hk_=>hk_.2)))
        replace HB:=za hb1
        clear HN81
        have HN384:=za hn1
        clear hn1 hb1 hg1 hat1
        replace HN384:=za (by rw[NYy381.out];exact HN384.out:Kd.N k46 46 w383 w.heap.size (fun k_=>((((P_ k_∨w.heap.size≤k_)∧k_≠g1)∧k_≠g11)∧k_≠g106)∧k_≠g160) v382 y381)
        replace cBKg1:=MB.lz8 BKg1.out
        replace cBKg11:=MB.lz8 BKg11.out
        replace cBKg106:=MB.lz5 BKg106.out
        replace cBKg160:=MB.lz2 BKg160.out
        obtain⟨A409,cp410,he_⟩:=Kd.N_slice HN384.out
        subst he_
        go_wp2_with ((with_reducible refine gs 25 66 rfl ?_);refine zs 25 66 #[.int .i64 a0,.int .i64 3,.bool true,.int .i64 0,.string (⟨#[]⟩:ByteArray),.string (⟨#[]⟩:ByteArray),.string ((rd_T57 l1 (0:Int)).f3),(.slice A409 y381.length cp410)] BKg11.out [(.slice A409 y381.length cp410)] (h:=?_);intro w408 hbk hg)
        refine zg ?_
        replace HF77_4:=zfg HF77_4.out hg fun k_ hk_=>hk_.1.1.1.2
        replace HN384:=zng HN384.out hg fun k_ hk_=>hk_.1.1.2
        replace BKg1:=zbg BKg1.out hg NEg1_g11
        replace BKg106:=zbg BKg106.out hg NEg106_g11
        replace BKg160:=zbg BKg160.out hg NEg160_g11
        replace HB:=zhg HB.out hg (below_size HB.out) GEg11
        replace BKg11:=hbk
        clear hg hbk
        replace cBKg1:=MB.lz8 BKg1.out
        replace cBKg11:=MB.lz8 BKg11.out
        replace cBKg106:=MB.lz5 BKg106.out
        replace cBKg160:=MB.lz2 BKg160.out
        go_wp2
        go_roundg k219
        case measure=>have:=HK0.out;have:=HK1.out;omega
        case rel=>exact⟨wrap64 (x79+1),y381,(.slice A409 y381.length cp410),(by first|rfl|(simp;done)|(simp[*];done)),HH,⟨by have:=HK0.out;have:=HK1.out;omega⟩,⟨(Kd.F_mono (ok:=(fun k_=>(((((P_ k_∨w.heap.size≤k_)∧k_≠g1)∧k_≠g11)∧k_≠g106)∧k_≠g160)∧some k_≠((.slice A409 y381.length cp410):Value).ownBlock)) HF77_4.out (fun k_ hk_=>⟨⟨⟨hk_.1.1.1.1.1,hk_.2⟩,hk_.1.1.1.1.2⟩,hk_.1.1.1.2⟩))⟩,⟨(Kd.N_mono (ok:=(fun k_=>((((P_ k_∨w.heap.size≤k_)∧k_≠g1)∧k_≠g11)∧k_≠g106)∧k_≠g160)) HN384.out (fun k_ hk_=>⟨⟨hk_.1.1.1.1,hk_.1.1.1.2⟩,hk_.1.1.2⟩))⟩,⟨BKg1.out⟩,⟨BKg11.out⟩,⟨HB.out⟩⟩
     obtain⟨A445,cp446,he_⟩:=Kd.N_slice HN81.out
     subst he_
     go_wp2_with ((with_reducible refine gs 27 4 rfl ?_);refine zs 27 4 #[.int .i64 a0,.int .i64 3,.bool true,.int .i64 0,.string (⟨#[]⟩:ByteArray),.string (⟨#[]⟩:ByteArray),.string ((rd_T57 l1 (0:Int)).f3),(.slice A445 x80.length cp446)] BKg1.out [.int .i64 a0,.int .i64 3,.bool true,.int .i64 0,.string (⟨#[]⟩:ByteArray),.string (⟨#[]⟩:ByteArray),.string ((rd_T57 l1 (0:Int)).f3),(.slice A445 x80.length cp446)] (h:=?_);intro w444 hbk hg)
     refine zg ?_
     replace HN81:=zng HN81.out hg fun k_ hk_=>hk_.1.1.2
     replace BKg11:=zbg BKg11.out hg NEg11_g1
     replace BKg106:=zbg BKg106.out hg NEg106_g1
     replace HB:=zhg HB.out hg (below_size HB.out) GEg1
     replace BKg1:=hbk
     clear hg hbk
     replace cBKg1:=MB.lz8 BKg1.out
     replace cBKg11:=MB.lz8 BKg11.out
     replace cBKg106:=MB.lz5 BKg106.out
     have H:=HH.out
     simp only[Option.some.injEq,Prod.mk.injEq] at H
     obtain⟨rfl,rfl,rfl,rfl,rfl,rfl,rfl,rfl,rfl⟩:=H
     clear HH
     go_wp2
     refine bodyPost_ret (results_ct rfl _ _ g1 27 #[.int .i64 a0,.int .i64 3,.bool true,.int .i64 0,.string (⟨#[]⟩:ByteArray),.string (⟨#[]⟩:ByteArray),.string ((rd_T57 l1 (0:Int)).f3),(.slice A445 x80.length cp446)] (0,0) _ rfl BKg1.out Try.underlying27 rfl (by kernel_rfl)) rfl ?_
     exact⟨_,by first|rfl|(simp;done)|(simp[*];done),(Kd.N_mono (ok:=(fun k_=>(((P_ k_∨w.heap.size≤k_)∧k_≠g1)∧k_≠g11)∧k_≠g106)) HN81.out (fun k_ hk_=>hk_.1.1.1)),HB.out⟩
    obtain⟨A472,cp473,he_⟩:=Kd.N_slice HN81.out
    subst he_
    go_wp2_with ((with_reducible refine gs 27 4 rfl ?_);refine zs 27 4 #[.int .i64 a0,.int .i64 3,.bool true,.int .i64 0,.string (⟨#[]⟩:ByteArray),.string (⟨#[]⟩:ByteArray),.string ((rd_T57 l1 (0:Int)).f3),(.slice A472 x80.length cp473)] BKg1.out [.int .i64 a0,.int .i64 3,.bool true,.int .i64 0,.string (⟨#[]⟩:ByteArray),.string (⟨#[]⟩:ByteArray),.string ((rd_T57 l1 (0:Int)).f3),(.slice A472 x80.length cp473)] (h:=?_);intro w471 hbk hg)
    refine zg ?_
    replace HN81:=zng HN81.out hg fun k_ hk_=>hk_.1.2
    replace BKg11:=zbg BKg11.out hg NEg11_g1
    replace HB:=zhg HB.out hg (below_size HB.out) GEg1
    replace BKg1:=hbk
    clear hg hbk
    replace cBKg1:=MB.lz8 BKg1.out
    replace cBKg11:=MB.lz8 BKg11.out
    have H:=HH.out
    simp only[Option.some.injEq,Prod.mk.injEq] at H
    obtain⟨rfl,rfl,rfl,rfl,rfl,rfl,rfl,rfl,rfl⟩:=H
    clear HH
    go_wp2
    refine bodyPost_ret (results_ct rfl _ _ g1 27 #[.int .i64 a0,.int .i64 3,.bool true,.int .i64 0,.string (⟨#[]⟩:ByteArray),.string (⟨#[]⟩:ByteArray),.string ((rd_T57 l1 (0:Int)).f3),(.slice A472 x80.length cp473)] (0,0) _ rfl BKg1.out Try.underlying27 rfl (by kernel_rfl)) rfl ?_
    exact⟨_,by first|rfl|(simp;done)|(simp[*];done),(Kd.N_mono (ok:=(fun k_=>((P_ k_∨w.heap.size≤k_)∧k_≠g1)∧k_≠g11)) HN81.out (fun k_ hk_=>hk_.1.1)),HB.out⟩
 go_wp2_with ((with_reducible refine gs 27 4 rfl ?_);refine zs 27 4 #[.int .i64 a0,.int .i64 3,.bool true,.int .i64 0,.string (⟨#[]⟩:ByteArray),.string (⟨#[]⟩:ByteArray),.string (⟨#[]⟩:ByteArray),.slice none 0 0] BKg1.out [.int .i64 a0,.int .i64 3,.bool true,.int .i64 0,.string (⟨#[]⟩:ByteArray),.string (⟨#[]⟩:ByteArray),.string (⟨#[]⟩:ByteArray),.slice none 0 0] (h:=?_);intro w500 hbk hg)
 refine zg ?_
 replace BKg11:=zbg BKg11.out hg NEg11_g1
 replace HB:=zhg HB.out hg (below_size HB.out) GEg1
 replace BKg1:=hbk
 clear hg hbk
 replace cBKg1:=MB.lz8 BKg1.out
 replace cBKg11:=MB.lz8 BKg11.out
 have H:=HH.out
 simp only[Option.some.injEq,Prod.mk.injEq] at H
 obtain⟨rfl,rfl,rfl,rfl,rfl,rfl,rfl,rfl,rfl⟩:=H
 clear HH
 go_wp2
 refine bodyPost_ret (results_ct rfl _ _ g1 27 #[.int .i64 a0,.int .i64 3,.bool true,.int .i64 0,.string (⟨#[]⟩:ByteArray),.string (⟨#[]⟩:ByteArray),.string (⟨#[]⟩:ByteArray),.slice none 0 0] (0,0) _ rfl BKg1.out Try.underlying27 rfl (by kernel_rfl)) rfl ?_
 exact⟨_,by first|rfl|(simp;done)|(simp[*];done),(Kd.N_nil _ _ _ _ _),HB.out⟩
end Go.Proofs.Ytdjkemhmhkpmkaa.GA
