import Derived.Test.YtdjkemhmhkpmkaaGA0
import Derived.Test.YtdjkemhmhkpmkaaGM2
import Derived.Test.YtdjkemhmhkpmkaaMX
namespace Go.Proofs.Ytdjkemhmhkpmkaa.GA
open Go.RowKit Go.Proofs.Ytdjkemhmhkpmkaa Go.Proofs.Ytdjkemhmhkpmkaa.MW Go.Proofs.YtdjkemhmhkpmkaaW.PrintWords Go.Proofs.YtdjkemhmhkpmkaaW.PrintLast Go.Proofs.YtdjkemhmhkpmkaaW.PrintMore
attribute [local go_sem] max2_int min2_int max_two min_two
set_option maxHeartbeats 8000000
set_option maxRecDepth 100000
set_option linter.unusedVariables false
set_option linter.unusedSimpArgs false
def toponymref27_entry.l0:Nat→Int→(List (S46))→(List (S57))→Option (Int × Int × Bool × Int × ByteArray × ByteArray × ByteArray × (List (S46)) × Bool)
 |0,_,_,_=>none
 |k+1,x90,x91,l0=>if 1<(l0.length:Int) then(if x90<(((rd_T57 l0 (1:Int)).f4).length:Int) then(if 0≤x90 then(if ((rd_T57 ((rd_T57 l0 (1:Int)).f4) x90).f0)=0 then(if ((rd_T57 ((rd_T57 l0 (1:Int)).f4) x90).f2)=16 then(if (rd_T57 ((rd_T57 l0 (1:Int)).f4) x90).f1=true then((toponymref26_Shape.f k ((rd_T57 ((rd_T57 l0 (1:Int)).f4) x90).f4) (⟨#[116,115]⟩:ByteArray)).bind fun t176=>(if t176=true then(if 1<(((rd_T57 ((rd_T57 l0 (1:Int)).f4) x90).f4).length:Int) then((toponymref16_Texts.f k ((rd_T57 ((rd_T57 ((rd_T57 l0 (1:Int)).f4) x90).f4) (1:Int)).f0) ((rd_T57 ((rd_T57 ((rd_T57 l0 (1:Int)).f4) x90).f4) (1:Int)).f1) ((rd_T57 ((rd_T57 ((rd_T57 l0 (1:Int)).f4) x90).f4) (1:Int)).f2) ((rd_T57 ((rd_T57 ((rd_T57 l0 (1:Int)).f4) x90).f4) (1:Int)).f3) ((rd_T57 ((rd_T57 ((rd_T57 l0 (1:Int)).f4) x90).f4) (1:Int)).f4)).bind fun bt207=>(if bt207.2=0 then(if 0<(((rd_T57 ((rd_T57 l0 (1:Int)).f4) x90).f4).length:Int) then(if x91.length+[(⟨(rd_T57 ((rd_T57 ((rd_T57 l0 (1:Int)).f4) x90).f4) (0:Int)).f3,bt207.1⟩:S46)].length<3518437208883 then((some (x91++[(⟨(rd_T57 ((rd_T57 ((rd_T57 l0 (1:Int)).f4) x90).f4) (0:Int)).f3,bt207.1⟩:S46)]:List (S46))).bind fun y300=>((toponymref27_entry.l0 k (wrap64 (x90+1)) y300 l0))) else(none)) else(none)) else(some (0,3,true,0,(⟨#[]⟩:ByteArray),(⟨#[]⟩:ByteArray),(rd_T57 l0 (0:Int)).f3,x91,false)))) else(none)) else(some (0,3,true,0,(⟨#[]⟩:ByteArray),(⟨#[]⟩:ByteArray),(rd_T57 l0 (0:Int)).f3,x91,false)))) else(some (0,3,true,0,(⟨#[]⟩:ByteArray),(⟨#[]⟩:ByteArray),(rd_T57 l0 (0:Int)).f3,x91,false))) else(some (0,3,true,0,(⟨#[]⟩:ByteArray),(⟨#[]⟩:ByteArray),(rd_T57 l0 (0:Int)).f3,x91,false))) else(some (0,3,true,0,(⟨#[]⟩:ByteArray),(⟨#[]⟩:ByteArray),(rd_T57 l0 (0:Int)).f3,x91,false))) else(none)) else(some (0,3,true,0,(⟨#[]⟩:ByteArray),(⟨#[]⟩:ByteArray),(rd_T57 l0 (0:Int)).f3,x91,true))) else(none)
def toponymref27_entry.f (k:Nat) (l0:List (S57)):Option (Int × Int × Bool × Int × ByteArray × ByteArray × ByteArray × (List (S46)) × Bool):=(toponymref26_Shape.f k l0 (⟨#[116,103]⟩:ByteArray)).bind fun t46=>(if t46=true then(if 0<(l0.length:Int) then((toponymref27_entry.l0 k 0 ([]:List (S46)) l0)) else(none)) else(some (0,3,true,0,(⟨#[]⟩:ByteArray),(⟨#[]⟩:ByteArray),(⟨#[]⟩:ByteArray),([]:List (S46)),false)))
theorem toponymref27_entry.mono_l:∀ k,(∀ y0 y1 y2,LeO (toponymref27_entry.l0 k y0 y1 y2) (toponymref27_entry.l0 (k+1) y0 y1 y2))
 |0=>fun _ _ _ r h=>by simp[toponymref27_entry.l0] at h
 |k+1=>by
  have ih0:=toponymref27_entry.mono_l k
  ·intro y0 y1 y2
   unfold toponymref27_entry.l0
   with_reducible repeat' first|exact ih0 _ _ _|exact toponymref16_Texts.mono _ _ _ _ _ _|exact toponymref26_Shape.mono _ _ _|exact LeO.refl _|exact LeO.none _|refine LeO.ite ?_ ?_|refine LeO.bind ?_ (fun _=>?_)
theorem toponymref27_entry.mono:∀ a0_ k,LeO (toponymref27_entry.f k a0_) (toponymref27_entry.f (k+1) a0_):=by
 intro a0_ k
 have ih0:=toponymref27_entry.mono_l k
 unfold toponymref27_entry.f
 with_reducible repeat' first|exact ih0 _ _ _|exact toponymref16_Texts.mono _ _ _ _ _ _|exact toponymref26_Shape.mono _ _ _|exact LeO.refl _|exact LeO.none _|refine LeO.ite ?_ ?_|refine LeO.bind ?_ (fun _=>?_)
theorem toponymref27_entry.calls (k:Nat) (P_:Nat→Prop) (A0:Option Addr) (c0:Nat) (l0:List (S57)) (r1:Int) (r2:Int) (r3:Bool) (r4:Int) (r5:ByteArray) (r6:ByteArray) (r7:ByteArray) (r8:List (S46)) (r9:Bool) (w:World) (hs0:Kd.F k57 w P_ A0 l0.length l0) (hc0:l0.length≤c0) (h:toponymref27_entry.f k l0=some (r1,r2,r3,r4,r5,r6,r7,r8,r9)):
  Calls Try.prog 32 #[.slice A0 l0.length c0] w (fun e w'=>∃ v7_:Value,e=.returned (.tuple #[.agg #[.int .i64 r1,.int .i64 r2,.bool r3,.int .i64 r4,.string r5,.string r6,.string r7,v7_],.bool r9])∧Kd.N k46 46 w' w.heap.size (fun k_=>P_ k_∨w.heap.size≤k_) v7_ r8∧Below w.heap.size w w'):=by
 unfold toponymref27_entry.f at h
 have HH:=za h
 clear h
 have HF0:=zfp hs0
 have HL0:=za hc0
 clear hs0 hc0
 have HB:=za (Below.refl w.heap.size w)
 have hu27:=Try.underlying27
 have hu46:=Try.underlying46
 have hu57:=Try.underlying57
 go_enter Try.func32,Try.ntmps32
 go_wp2_with ((with_reducible refine gd 2 rfl ?_);refine zb 2 27 #[.int .i64 0,.int .i64 0,.bool false,.int .i64 0,.string (⟨#[]⟩:ByteArray),.string (⟨#[]⟩:ByteArray),.string (⟨#[]⟩:ByteArray),.slice none 0 0] (h:=?_);intro g1 hg w2 BKg1 hb)
 refine zg ?_
 have GEg1:=zge hg (below_size HB.out)
 replace HF0:=zfe HF0.out hg hb
 replace HB:=zhb HB.out hb
 clear hg hb
 replace cBKg1:=MB.lz8 BKg1.out
 go_wp2_with ((with_reducible refine gd 4 rfl ?_);refine zb 4 27 #[.int .i64 0,.int .i64 0,.bool false,.int .i64 0,.string (⟨#[]⟩:ByteArray),.string (⟨#[]⟩:ByteArray),.string (⟨#[]⟩:ByteArray),.slice none 0 0] (h:=?_);intro g11 hg w12 BKg11 hb)
 refine zg ?_
 have GEg11:=zge hg (below_size HB.out)
 have NEg1_g11:=znq hg BKg1.out
 have NEg11_g1:=zsy NEg1_g11
 replace HF0:=zfe HF0.out hg hb
 replace BKg1:=zbb BKg1.out hb
 replace HB:=zhb HB.out hb
 clear hg hb
 replace cBKg1:=MB.lz8 BKg1.out
 replace cBKg11:=MB.lz8 BKg11.out
 go_wp2_with ((with_reducible refine gs 27 4 rfl ?_);refine zs 27 4 #[.int .i64 0,.int .i64 3,.bool true,.int .i64 0,.string (⟨#[]⟩:ByteArray),.string (⟨#[]⟩:ByteArray),.string (⟨#[]⟩:ByteArray),.slice none 0 0] BKg11.out [.int .i64 0,.int .i64 3,.bool true,.int .i64 0,.string (⟨#[]⟩:ByteArray),.string (⟨#[]⟩:ByteArray),.string (⟨#[]⟩:ByteArray),.slice none 0 0] (h:=?_);intro w29 hbk hg)
 refine zg ?_
 replace HF0:=zfg HF0.out hg fun k_ hk_=>hk_.2
 replace BKg1:=zbg BKg1.out hg NEg1_g11
 replace HB:=zhg HB.out hg (below_size HB.out) GEg11
 replace BKg11:=hbk
 clear hg hbk
 replace cBKg1:=MB.lz8 BKg1.out
 replace cBKg11:=MB.lz8 BKg11.out
 replace HH:=zd HH
 obtain⟨t46,At47,HH⟩:=HH
 go_wp2_with ((with_reducible refine gc 30 rfl ?_);refine zc 30 (some 11) Try.func30 #[.slice A0 l0.length c0,.string (⟨#[116,103]⟩:ByteArray)] (h:=?_);(with_reducible refine(toponymref26_Shape.calls k (fun k_=>((P_ k_∨w.heap.size≤k_)∧k_≠g1)∧k_≠g11) _ _ l0 (⟨#[116,103]⟩:ByteArray) t46 _ HF0.out HL0.out At47.out).mono ?_);rintro e w48 ⟨rfl,hb⟩;refine⟨_,rfl,?_⟩)
 refine zg ?_
 replace HF0:=zfb HF0.out hb
 replace BKg1:=zbb BKg1.out hb
 replace BKg11:=zbb BKg11.out hb
 replace HB:=zhb HB.out hb
 clear hb
 replace cBKg1:=MB.lz8 BKg1.out
 replace cBKg11:=MB.lz8 BKg11.out
 by_cases c65:t46=true
 ·replace HH:=MW.hpos HH c65
  subst c65
  replace HH:=zqno 0 HH
  obtain⟨HH,hk67,hk68,hk69,hk70⟩:=HH
  have p71:0≤(0:Int):=by decide
  have q71:(0:Int)<(l0.length:Int):=of_decide_eq_true (by first|(with_reducible assumption)|assumption)
  obtain⟨ad71,A71_4,c71_4,e71,hx71_0,hx71_1,hx71_2,hx71_3,hx71_4,hl71_4,hi71_4⟩:=atF_T57 HF0.out (0:Int) p71 q71
  cases e71
  (try simp only[show((0:Int)).toNat=0 from rfl,show 0*5=0 from rfl] at hx71_0)
  (try rw[Addr.add_zero'] at hx71_0)
  (try simp only[show((0:Int)).toNat=0 from rfl,show 0*5=0 from rfl] at hx71_1)
  (try rw[Addr.add_zero'] at hx71_1)
  (try simp only[show((0:Int)).toNat=0 from rfl,show 0*5=0 from rfl] at hx71_2)
  (try rw[Addr.add_zero'] at hx71_2)
  (try simp only[show((0:Int)).toNat=0 from rfl,show 0*5=0 from rfl] at hx71_3)
  (try rw[Addr.add_zero'] at hx71_3)
  (try simp only[show((0:Int)).toNat=0 from rfl,show 0*5=0 from rfl] at hx71_4)
  (try rw[Addr.add_zero'] at hx71_4)
  have HF71_4:=za hi71_4
  clear hi71_4 hl71_4
  replace p71:=eq_true p71
  replace q71:=eq_true q71
  go_wp2_with ((with_reducible refine gs 9 18 rfl ?_);refine zs 9 18 #[.int .i64 0,.int .i64 3,.bool true,.int .i64 0,.string (⟨#[]⟩:ByteArray),.string (⟨#[]⟩:ByteArray),.string ((rd_T57 l0 (0:Int)).f3),.slice none 0 0] BKg11.out [.string ((rd_T57 l0 (0:Int)).f3)] (h:=?_);intro w72 hbk hg)
  refine zg ?_
  replace HF0:=zfg HF0.out hg fun k_ hk_=>hk_.2
  replace HF71_4:=zfg HF71_4.out hg fun k_ hk_=>hk_.2
  replace BKg1:=zbg BKg1.out hg NEg1_g11
  replace HB:=zhg HB.out hg (below_size HB.out) GEg11
  replace BKg11:=hbk
  clear hg hbk
  clear hx71_0 hx71_1 hx71_2 hx71_3 hx71_4 p71 q71
  replace cBKg1:=MB.lz8 BKg1.out
  replace cBKg11:=MB.lz8 BKg11.out
  go_wp2
  go_loopg [5] k (fun kq u5 w'=>∃ (x90:Int) (x91:List (S46)) (v89:Value),u5=.int .i64 x90∧Aside0 ((toponymref27_entry.l0 kq x90 x91 l0)=some (r1,r2,r3,r4,r5,r6,r7,r8,r9))∧Aside0 (kq≤k)∧Aside0 (Kd.F k57 w' (fun k_=>(((P_ k_∨w.heap.size≤k_)∧some k_≠(v89:Value).ownBlock)∧k_≠g1)∧k_≠g11) (some ad71) l0.length l0)∧Aside0 (Kd.N k46 46 w' w.heap.size (fun k_=>((P_ k_∨w.heap.size≤k_)∧k_≠g1)∧k_≠g11) v89 x91)∧Aside0 (w'.heap[g1]? =some (.cells #[.int .i64 0,.int .i64 0,.bool false,.int .i64 0,.string (⟨#[]⟩:ByteArray),.string (⟨#[]⟩:ByteArray),.string (⟨#[]⟩:ByteArray),.slice none 0 0] 27 (0,0)))∧Aside0 (w'.heap[g11]? =some (.cells #[.int .i64 0,.int .i64 3,.bool true,.int .i64 0,.string (⟨#[]⟩:ByteArray),.string (⟨#[]⟩:ByteArray),.string ((rd_T57 l0 (0:Int)).f3),v89] 27 (0,0)))∧Aside0 (Below w.heap.size w w'))
  case atStart=>exact⟨0,([]:List (S46)),.slice none 0 0,(by first|rfl|(simp;done)|(simp[*];done)),HH,⟨Nat.le_refl _⟩,⟨(Kd.F_mono (ok:=(fun k_=>((P_ k_∨w.heap.size≤k_)∧k_≠g1)∧k_≠g11)) HF0.out (fun k_ hk_=>⟨⟨⟨hk_.1.1,(by simp[Value.ownBlock])⟩,hk_.1.2⟩,hk_.2⟩))⟩,⟨Kd.N_nil _ _ _ _ _⟩,⟨BKg1.out⟩,⟨BKg11.out⟩,⟨HB.out⟩⟩
  case round=>
   clear hk67
   clear hk68
   clear hk69
   clear hk70
   clear HH
   clear HF0 HF71_4 BKg1 BKg11 HB
   obtain⟨x90,x91,v89,rfl,HA,HK0,HF0,HN92,BKg1,BKg11,HB⟩:=hrel
   obtain⟨w94,rfl⟩:∃ wo_:World,wo_=wr:=⟨_,rfl⟩
   cases gk with
   |zero=>exact absurd HA.out (by simp[toponymref27_entry.l0])
   |succ k93=>
    have H:=HA.out
    clear HA
    simp only[toponymref27_entry.l0] at H
    have HH:=za H
    clear H
    replace cBKg1:=MB.lz8 BKg1.out
    replace cBKg11:=MB.lz8 BKg11.out
    replace HH:=zqno 1 HH
    obtain⟨HH,hk112,hk113,hk114,hk115⟩:=HH
    have p116:0≤(1:Int):=by decide
    have q116:(1:Int)<(l0.length:Int):=of_decide_eq_true (by first|(with_reducible assumption)|assumption)
    obtain⟨ad116,A116_4,c116_4,e116,hx116_0,hx116_1,hx116_2,hx116_3,hx116_4,hl116_4,hi116_4⟩:=atF_T57 HF0.out (1:Int) p116 q116
    cases e116
    (try simp only[show((1:Int)).toNat=1 from rfl,show 1*5=5 from rfl] at hx116_0)
    (try simp only[Nat.reduceMul,Nat.reduceEqDiff,Go.Addr.add,↓reduceIte] at hx116_0)
    (try simp only[show((1:Int)).toNat=1 from rfl,show 1*5=5 from rfl] at hx116_1)
    (try simp only[Nat.reduceMul,Nat.reduceEqDiff,Go.Addr.add,↓reduceIte] at hx116_1)
    (try simp only[show((1:Int)).toNat=1 from rfl,show 1*5=5 from rfl] at hx116_2)
    (try simp only[Nat.reduceMul,Nat.reduceEqDiff,Go.Addr.add,↓reduceIte] at hx116_2)
    (try simp only[show((1:Int)).toNat=1 from rfl,show 1*5=5 from rfl] at hx116_3)
    (try simp only[Nat.reduceMul,Nat.reduceEqDiff,Go.Addr.add,↓reduceIte] at hx116_3)
    (try simp only[show((1:Int)).toNat=1 from rfl,show 1*5=5 from rfl] at hx116_4)
    (try simp only[Nat.reduceMul,Nat.reduceEqDiff,Go.Addr.add,↓reduceIte] at hx116_4)
    have HF116_4:=za hi116_4
    clear hi116_4 hl116_4
    replace p116:=eq_true p116
    replace q116:=eq_true q116
    replace HH:=zqt HH
    rcases HH with⟨HH,hk118,hk119⟩|⟨HH,hk485,hk486⟩
    ·replace HH:=zqdo HH
     obtain⟨HH,hk121⟩:=HH
     have p122:0≤(x90:Int):=of_decide_eq_true (by first|(with_reducible assumption)|assumption)
     have q122:x90<(((rd_T57 l0 (1:Int)).f4).length:Int):=of_decide_eq_true (by first|(with_reducible assumption)|assumption)
     obtain⟨ad122,A122_4,c122_4,e122,hx122_0,hx122_1,hx122_2,hx122_3,hx122_4,hl122_4,hi122_4⟩:=atF_T57 HF116_4.out x90 p122 q122
     cases e122
     have HF122_4:=za hi122_4
     have HL122_4:=za hl122_4
     clear hi122_4 hl122_4
     replace p122:=eq_true p122
     replace q122:=eq_true q122
     go_wp2_with ((with_reducible refine gd 6 rfl ?_);refine zb 6 57 #[.int .i64 0,.bool false,.int .i64 0,.string (⟨#[]⟩:ByteArray),.slice none 0 0] (h:=?_);intro g123 hg w124 BKg123 hb)
     refine zg ?_
     have GEg123:=zge hg (below_size HB.out)
     have NEg1_g123:=znq hg BKg1.out
     have NEg123_g1:=zsy NEg1_g123
     have NEg11_g123:=znq hg BKg11.out
     have NEg123_g11:=zsy NEg11_g123
     replace HF0:=zfe HF0.out hg hb
     replace HF122_4:=zfe HF122_4.out hg hb
     replace HN92:=zne HN92.out hg hb
     replace BKg1:=zbb BKg1.out hb
     replace BKg11:=zbb BKg11.out hb
     replace HB:=zhb HB.out hb
     clear hg hb
     clear hx116_0 hx116_1 hx116_2 hx116_3 hx116_4 p116 q116 hx122_0 hx122_1 hx122_2 hx122_3 hx122_4 p122 q122
     replace cBKg1:=MB.lz8 BKg1.out
     replace cBKg11:=MB.lz8 BKg11.out
     replace cBKg123:=MB.lz5 BKg123.out
     go_wp2_with ((with_reducible refine gs 57 6 rfl ?_);refine zs 57 6 #[.int .i64 ((rd_T57 ((rd_T57 l0 (1:Int)).f4) x90).f0),.bool ((rd_T57 ((rd_T57 l0 (1:Int)).f4) x90).f1),.int .i64 ((rd_T57 ((rd_T57 l0 (1:Int)).f4) x90).f2),.string ((rd_T57 ((rd_T57 l0 (1:Int)).f4) x90).f3),.slice A122_4 ((rd_T57 ((rd_T57 l0 (1:Int)).f4) x90).f4).length c122_4] BKg123.out [.int .i64 ((rd_T57 ((rd_T57 l0 (1:Int)).f4) x90).f0),.bool ((rd_T57 ((rd_T57 l0 (1:Int)).f4) x90).f1),.int .i64 ((rd_T57 ((rd_T57 l0 (1:Int)).f4) x90).f2),.string ((rd_T57 ((rd_T57 l0 (1:Int)).f4) x90).f3),.slice A122_4 ((rd_T57 ((rd_T57 l0 (1:Int)).f4) x90).f4).length c122_4] (h:=?_);intro w146 hbk hg)
     refine zg ?_
     replace HF0:=zfg HF0.out hg fun k_ hk_=>hk_.2
     replace HF122_4:=zfg HF122_4.out hg fun k_ hk_=>hk_.2
     replace HN92:=zng HN92.out hg fun k_ hk_=>hk_.2
     replace BKg1:=zbg BKg1.out hg NEg1_g123
     replace BKg11:=zbg BKg11.out hg NEg11_g123
     replace HB:=zhg HB.out hg (below_size HB.out) GEg123
     replace BKg123:=hbk
     clear hg hbk
     replace cBKg1:=MB.lz8 BKg1.out
     replace cBKg11:=MB.lz8 BKg11.out
     replace cBKg123:=MB.lz5 BKg123.out
     replace HH:=zqe HH
     rcases HH with⟨HH,hk169,hk170⟩|⟨HH,hk458,hk459⟩
     ·replace HH:=zqe HH
      rcases HH with⟨HH,hk172,hk173⟩|⟨HH,hk432,hk433⟩
      ·by_cases c174:(rd_T57 ((rd_T57 l0 (1:Int)).f4) x90).f1=true
       ·replace HH:=MW.hpos HH c174
        have hk175:(rd_T57 ((rd_T57 l0 (1:Int)).f4) x90).f1=true:=c174
        clear c174
        replace HH:=zd HH
        obtain⟨t176,At177,HH⟩:=HH
        go_wp2_with ((with_reducible refine gc 30 rfl ?_);refine zc 30 (some 51) Try.func30 #[.slice A122_4 ((rd_T57 ((rd_T57 l0 (1:Int)).f4) x90).f4).length c122_4,.string (⟨#[116,115]⟩:ByteArray)] (h:=?_);(with_reducible refine(toponymref26_Shape.calls k93 (fun k_=>((((P_ k_∨w.heap.size≤k_)∧some k_≠(v89:Value).ownBlock)∧k_≠g1)∧k_≠g11)∧k_≠g123) _ _ ((rd_T57 ((rd_T57 l0 (1:Int)).f4) x90).f4) (⟨#[116,115]⟩:ByteArray) t176 _ HF122_4.out HL122_4.out At177.out).mono ?_);rintro e w178 ⟨rfl,hb⟩;refine⟨_,rfl,?_⟩)
        refine zg ?_
        replace HF0:=zfb HF0.out hb
        replace HF122_4:=zfb HF122_4.out hb
        replace HN92:=znb HN92.out hb
        replace BKg1:=zbb BKg1.out hb
        replace BKg11:=zbb BKg11.out hb
        replace BKg123:=zbb BKg123.out hb
        replace HB:=zhb HB.out hb
        clear hb
        replace cBKg1:=MB.lz8 BKg1.out
        replace cBKg11:=MB.lz8 BKg11.out
        replace cBKg123:=MB.lz5 BKg123.out
        by_cases c200:t176=true
        ·replace HH:=MW.hpos HH c200
         subst c200
         replace HH:=zqno 1 HH
         obtain⟨HH,hk202,hk203,hk204,hk205⟩:=HH
         have p206:0≤(1:Int):=by decide
         have q206:(1:Int)<(((rd_T57 ((rd_T57 l0 (1:Int)).f4) x90).f4).length:Int):=of_decide_eq_true (by first|(with_reducible assumption)|assumption)
         obtain⟨ad206,A206_4,c206_4,e206,hx206_0,hx206_1,hx206_2,hx206_3,hx206_4,hl206_4,hi206_4⟩:=atF_T57 HF122_4.out (1:Int) p206 q206
         cases e206
         (try simp only[show((1:Int)).toNat=1 from rfl,show 1*5=5 from rfl] at hx206_0)
         (try simp only[Nat.reduceMul,Nat.reduceEqDiff,Go.Addr.add,↓reduceIte] at hx206_0)
         (try simp only[show((1:Int)).toNat=1 from rfl,show 1*5=5 from rfl] at hx206_1)
         (try simp only[Nat.reduceMul,Nat.reduceEqDiff,Go.Addr.add,↓reduceIte] at hx206_1)
         (try simp only[show((1:Int)).toNat=1 from rfl,show 1*5=5 from rfl] at hx206_2)
         (try simp only[Nat.reduceMul,Nat.reduceEqDiff,Go.Addr.add,↓reduceIte] at hx206_2)
         (try simp only[show((1:Int)).toNat=1 from rfl,show 1*5=5 from rfl] at hx206_3)
         (try simp only[Nat.reduceMul,Nat.reduceEqDiff,Go.Addr.add,↓reduceIte] at hx206_3)
         (try simp only[show((1:Int)).toNat=1 from rfl,show 1*5=5 from rfl] at hx206_4)
         (try simp only[Nat.reduceMul,Nat.reduceEqDiff,Go.Addr.add,↓reduceIte] at hx206_4)
         have HF206_4:=za hi206_4
         have HL206_4:=za hl206_4
         clear hi206_4 hl206_4
         replace p206:=eq_true p206
         replace q206:=eq_true q206
         replace HH:=zd HH
         obtain⟨⟨t207,t208⟩,At209,HH⟩:=HH
         dsimp only at HH
         go_wp2_with ((with_reducible refine gc 55 rfl ?_);refine zc 55 (some 60) Try.func55 #[.agg #[.int .i64 ((rd_T57 ((rd_T57 ((rd_T57 l0 (1:Int)).f4) x90).f4) (1:Int)).f0),.bool ((rd_T57 ((rd_T57 ((rd_T57 l0 (1:Int)).f4) x90).f4) (1:Int)).f1),.int .i64 ((rd_T57 ((rd_T57 ((rd_T57 l0 (1:Int)).f4) x90).f4) (1:Int)).f2),.string ((rd_T57 ((rd_T57 ((rd_T57 l0 (1:Int)).f4) x90).f4) (1:Int)).f3),.slice A206_4 ((rd_T57 ((rd_T57 ((rd_T57 l0 (1:Int)).f4) x90).f4) (1:Int)).f4).length c206_4]] (h:=?_);(with_reducible refine(toponymref16_Texts.calls k93 (fun k_=>((((P_ k_∨w.heap.size≤k_)∧some k_≠(v89:Value).ownBlock)∧k_≠g1)∧k_≠g11)∧k_≠g123) ((rd_T57 ((rd_T57 ((rd_T57 l0 (1:Int)).f4) x90).f4) (1:Int)).f0) ((rd_T57 ((rd_T57 ((rd_T57 l0 (1:Int)).f4) x90).f4) (1:Int)).f1) ((rd_T57 ((rd_T57 ((rd_T57 l0 (1:Int)).f4) x90).f4) (1:Int)).f2) ((rd_T57 ((rd_T57 ((rd_T57 l0 (1:Int)).f4) x90).f4) (1:Int)).f3) _ _ ((rd_T57 ((rd_T57 ((rd_T57 l0 (1:Int)).f4) x90).f4) (1:Int)).f4) t207 t208 _ HF206_4.out HL206_4.out At209.out).mono ?_);rintro e w210 ⟨v211,rfl,hn211,hb⟩;refine⟨_,rfl,?_⟩)
         refine zg ?_
         have hba:=Kd.N_base hn211
         have HN211:=znl (ok2:=(fun k_=>((((P_ k_∨w.heap.size≤k_)∧some k_≠(v89:Value).ownBlock)∧k_≠g1)∧k_≠g11)∧k_≠g123)) hn211 (below_size HB.out) (fun k_ hk_=>hk_.elim (fun h_=>h_) (fun h_=>⟨⟨⟨⟨.inr (Nat.le_trans (below_size HB.out) h_),Kd.fresh' (Kd.N_lt HN92.out) k_ h_⟩,Kd.freshB (g:=g1) BKg1.out k_ h_⟩,Kd.freshB (g:=g11) BKg11.out k_ h_⟩,Kd.freshB (g:=g123) BKg123.out k_ h_⟩))
         replace HF0:=zfr (v:=v211) HF0.out hba hb
         replace HF122_4:=zfr (v:=v211) HF122_4.out hba hb
         replace HN92:=znr (u:=v211) HN92.out hba hb
         replace BKg1:=zbb BKg1.out hb
         replace BKg11:=zbb BKg11.out hb
         replace BKg123:=zbb BKg123.out hb
         replace HB:=zhb HB.out hb
         clear hn211 hba hb
         clear hx206_0 hx206_1 hx206_2 hx206_3 hx206_4 p206 q206
         replace cBKg1:=MB.lz8 BKg1.out
         replace cBKg11:=MB.lz8 BKg11.out
         replace cBKg123:=MB.lz5 BKg123.out
         replace HH:=zqe HH
         rcases HH with⟨HH,hk234,hk235⟩|⟨HH,hk353,hk354⟩
         ·go_wp2
          have hwr_:∀ n_:Int,IntKind.i64.wrap n_=wrap64 n_:=fun n_=>IntWalk.i64_left n_
          refine wp_region_any (by kernel_rfl) ?_
          change wpAny _ _ _ _ 13 #[false,false,false,false,false,false,false,false,false,false,false,false,false] _ w210.drew
          obtain⟨w236,hw_⟩:∃ w_:World,w_=w210.drew:=⟨_,rfl⟩
          rw[← hw_]
          have hb:Below w210.heap.size w210 w236:=by rw[hw_];exact below_drew1 (Below.refl _ _)
          clear hw_
          replace HF0:=zfb HF0.out hb
          replace HF122_4:=zfb HF122_4.out hb
          replace HN92:=znb HN92.out hb
          replace HN211:=znb HN211.out hb
          replace BKg1:=zbb BKg1.out hb
          replace BKg11:=zbb BKg11.out hb
          replace BKg123:=zbb BKg123.out hb
          replace HB:=zhb HB.out hb
          clear hb
          replace cBKg1:=MB.lz8 BKg1.out
          obtain⟨j3X,j3Y,j3Z,j40,j41,j42,j43,j44⟩:=MB.lz8 BKg11.out
          obtain⟨j45,j46,j47,j48,j49⟩:=MB.lz5 BKg123.out
          replace HH:=zqno 0 HH
          obtain⟨HH,hk259,hk260,hk261,hk262⟩:=HH
          have p263:0≤(0:Int):=by decide
          have q263:(0:Int)<(((rd_T57 ((rd_T57 l0 (1:Int)).f4) x90).f4).length:Int):=of_decide_eq_true (by first|(with_reducible assumption)|assumption)
          obtain⟨ad263,A263_4,c263_4,e263,hx263_0,hx263_1,hx263_2,hx263_3,hx263_4,hl263_4,hi263_4⟩:=atF_T57 HF122_4.out (0:Int) p263 q263
          cases e263
          (try simp only[show((0:Int)).toNat=0 from rfl,show 0*5=0 from rfl] at hx263_0)
          (try rw[Addr.add_zero'] at hx263_0)
          (try simp only[show((0:Int)).toNat=0 from rfl,show 0*5=0 from rfl] at hx263_1)
          (try rw[Addr.add_zero'] at hx263_1)
          (try simp only[show((0:Int)).toNat=0 from rfl,show 0*5=0 from rfl] at hx263_2)
          (try rw[Addr.add_zero'] at hx263_2)
          (try simp only[show((0:Int)).toNat=0 from rfl,show 0*5=0 from rfl] at hx263_3)
          (try rw[Addr.add_zero'] at hx263_3)
          (try simp only[show((0:Int)).toNat=0 from rfl,show 0*5=0 from rfl] at hx263_4)
          (try rw[Addr.add_zero'] at hx263_4)
          clear hi263_4 hl263_4
          replace p263:=eq_true p263
          replace q263:=eq_true q263
          refine MW.last_in (ds:=[10,12]) (zk j44 (zk j49 (zk hx263_3 z0))) ?_
          refine zlp 0 (.pointer (some ⟨g11,7,none⟩)) #[_,_,_,_,_,_,_,_,_,_,_,_,_] ⟨[_,_,_,_,_,_,_,_,_,_,_,_,_,_,_,_,_,_,_,_,_,_,_,_,_,_,_,_,_,_,_,_,_,_,_,_,_,_,_,_,_,_,_,_,_,_,_,_,_,_,_,_,_,_,_,_,_,_,_,_,_,_,_,_,_,_,_,_,_,_,_,_,_,_,_,_,_,_,_].toArray,[]⟩ (h:=?_)
          refine zlp 2 (.pointer (some ⟨g123,4,none⟩)) #[_,_,_,_,_,_,_,_,_,_,_,_,_] ⟨[_,_,_,_,_,_,_,_,_,_,_,_,_,_,_,_,_,_,_,_,_,_,_,_,_,_,_,_,_,_,_,_,_,_,_,_,_,_,_,_,_,_,_,_,_,_,_,_,_,_,_,_,_,_,_,_,_,_,_,_,_,_,_,_,_,_,_,_,_,_,_,_,_,_,_,_,_,_,_].toArray,[]⟩ (h:=?_)
          refine zlp 7 (v211) #[_,_,_,_,_,_,_,_,_,_,_,_,_] ⟨[_,_,_,_,_,_,_,_,_,_,_,_,_,_,_,_,_,_,_,_,_,_,_,_,_,_,_,_,_,_,_,_,_,_,_,_,_,_,_,_,_,_,_,_,_,_,_,_,_,_,_,_,_,_,_,_,_,_,_,_,_,_,_,_,_,_,_,_,_,_,_,_,_,_,_,_,_,_,_].toArray,[]⟩ (h:=?_)
          refine MW.last_take (i:=1) (v:=v89) (listed':= #[_,_,_,_,_,_,_,_,_,_,_,_,_]) (a':=⟨[_,_,_,_,_,_,_,_,_,_,_,_,_,_,_,_,_,_,_,_,_,_,_,_,_,_,_,_,_,_,_,_,_,_,_,_,_,_,_,_,_,_,_,_,_,_,_,_,_,_,_,_,_,_,_,_,_,_,_,_,_,_,_,_,_,_,_,_,_,_,_,_,_,_,_,_,_,_,_].toArray,[]⟩) rfl (by kernel_rfl) (by kernel_rfl) (by kernel_rfl) (by kernel_rfl) (by kernel_rfl) (fun _ _ _ h_=>h_) (by kernel_rfl) (fun w_ hS_=>?go) (zk j44 (zk j49 (zk hx263_3 z0))) rfl rfl ?_
          case go=>obtain⟨hs0_,_,_,_⟩:=hS_;first|(go_simp;done)|(go_simp;rfl)
          refine MW.last_take (i:=3) (v:=.slice (some ad206) ((rd_T57 ((rd_T57 l0 (1:Int)).f4) x90).f4).length c122_4) (listed':= #[_,_,_,_,_,_,_,_,_,_,_,_,_]) (a':=⟨[_,_,_,_,_,_,_,_,_,_,_,_,_,_,_,_,_,_,_,_,_,_,_,_,_,_,_,_,_,_,_,_,_,_,_,_,_,_,_,_,_,_,_,_,_,_,_,_,_,_,_,_,_,_,_,_,_,_,_,_,_,_,_,_,_,_,_,_,_,_,_,_,_,_,_,_,_,_,_].toArray,[]⟩) rfl (by kernel_rfl) (by kernel_rfl) (by kernel_rfl) (by kernel_rfl) (by kernel_rfl) (fun _ _ _ h_=>h_) (by kernel_rfl) (fun w_ hS_=>?go) (zk j44 (zk j49 (zk hx263_3 z0))) rfl rfl ?_
          case go=>obtain⟨_,hs1_,_,_⟩:=hS_;first|(go_simp;done)|(go_simp;rfl)
          refine zlp 4 (.pointer (some (ad206.add (0*5)))) #[_,_,_,_,_,_,_,_,_,_,_,_,_] ⟨[_,_,_,_,_,_,_,_,_,_,_,_,_,_,_,_,_,_,_,_,_,_,_,_,_,_,_,_,_,_,_,_,_,_,_,_,_,_,_,_,_,_,_,_,_,_,_,_,_,_,_,_,_,_,_,_,_,_,_,_,_,_,_,_,_,_,_,_,_,_,_,_,_,_,_,_,_,_,_].toArray,[]⟩ (h:=?_)
          refine zlp 5 (.pointer (some (ad206.add (0*5+3)))) #[_,_,_,_,_,_,_,_,_,_,_,_,_] ⟨[_,_,_,_,_,_,_,_,_,_,_,_,_,_,_,_,_,_,_,_,_,_,_,_,_,_,_,_,_,_,_,_,_,_,_,_,_,_,_,_,_,_,_,_,_,_,_,_,_,_,_,_,_,_,_,_,_,_,_,_,_,_,_,_,_,_,_,_,_,_,_,_,_,_,_,_,_,_,_].toArray,[]⟩ (h:=?_)
          refine MW.last_take (i:=6) (v:=.string ((rd_T57 ((rd_T57 ((rd_T57 l0 (1:Int)).f4) x90).f4) (0:Int)).f3)) (listed':= #[_,_,_,_,_,_,_,_,_,_,_,_,_]) (a':=⟨[_,_,_,_,_,_,_,_,_,_,_,_,_,_,_,_,_,_,_,_,_,_,_,_,_,_,_,_,_,_,_,_,_,_,_,_,_,_,_,_,_,_,_,_,_,_,_,_,_,_,_,_,_,_,_,_,_,_,_,_,_,_,_,_,_,_,_,_,_,_,_,_,_,_,_,_,_,_,_].toArray,[]⟩) rfl (by kernel_rfl) (by kernel_rfl) (by kernel_rfl) (by kernel_rfl) (by kernel_rfl) (fun _ _ _ h_=>h_) (by kernel_rfl) (fun w_ hS_=>?go) (zk j44 (zk j49 (zk hx263_3 z0))) rfl rfl ?_
          case go=>obtain⟨_,_,hs2_,_⟩:=hS_;first|(go_simp;done)|(go_simp;rfl)
          obtain⟨A264,cp265,he_⟩:=Kd.N_slice HN211.out
          subst he_
          refine zlp 8 (.agg #[.string ((rd_T57 ((rd_T57 ((rd_T57 l0 (1:Int)).f4) x90).f4) (0:Int)).f3),(.slice A264 t207.length cp265)]) #[_,_,_,_,_,_,_,_,_,_,_,_,_] ⟨[_,_,_,_,_,_,_,_,_,_,_,_,_,_,_,_,_,_,_,_,_,_,_,_,_,_,_,_,_,_,_,_,_,_,_,_,_,_,_,_,_,_,_,_,_,_,_,_,_,_,_,_,_,_,_,_,_,_,_,_,_,_,_,_,_,_,_,_,_,_,_,_,_,_,_,_,_,_,_].toArray,[]⟩ (h:=?_)
          refine MW.last_act (i:=9) (listed':= #[true,true,true,true,true,true,true,true,true,true,false,false,false]) rfl (by kernel_rfl) (by kernel_rfl) (by decide) ?_
          have HL269:=za (Kd.N_reads' HN211.out).2.1
          have HF268:=za (Kd.N_F HN211.out)
          clear HN211
          replace HF0:=za (Kd.F_mono (ok:=(fun k_=>(((((P_ k_∨w.heap.size≤k_)∧some k_≠(v89:Value).ownBlock)∧k_≠g1)∧k_≠g11)∧k_≠g123)∧some k_≠((.slice A264 t207.length cp265):Value).ownBlock)) HF0.out (fun k_ hk_=>hk_.1):Kd.F k57 _ (fun k_=>((((P_ k_∨w.heap.size≤k_)∧some k_≠(v89:Value).ownBlock)∧k_≠g1)∧k_≠g11)∧k_≠g123) _ _ _)
          replace HF122_4:=za (Kd.F_mono (ok:=(fun k_=>(((((P_ k_∨w.heap.size≤k_)∧some k_≠(v89:Value).ownBlock)∧k_≠g1)∧k_≠g11)∧k_≠g123)∧some k_≠((.slice A264 t207.length cp265):Value).ownBlock)) HF122_4.out (fun k_ hk_=>hk_.1):Kd.F k57 _ (fun k_=>((((P_ k_∨w.heap.size≤k_)∧some k_≠(v89:Value).ownBlock)∧k_≠g1)∧k_≠g11)∧k_≠g123) _ _ _)
          replace HN92:=za (Kd.N_mono (ok:=(fun k_=>((((P_ k_∨w.heap.size≤k_)∧k_≠g1)∧k_≠g11)∧k_≠g123)∧some k_≠((.slice A264 t207.length cp265):Value).ownBlock)) HN92.out (fun k_ hk_=>hk_.1):Kd.N k46 _ _ _ (fun k_=>(((P_ k_∨w.heap.size≤k_)∧k_≠g1)∧k_≠g11)∧k_≠g123) _ _)
          go_wp2_with (((with_reducible refine gate_dst (N:=75) rfl ?_);(try(refine gate_guard (by rfl) ?_;dsimp only));refine Kd.N_lit k46 w.heap.size 46 rfl (N':=75) rfl (xs:=[(⟨(rd_T57 ((rd_T57 ((rd_T57 l0 (1:Int)).f4) x90).f4) (0:Int)).f3,t207⟩:S46)]) (inner:=[.string ((rd_T57 ((rd_T57 ((rd_T57 l0 (1:Int)).f4) x90).f4) (0:Int)).f3),.slice A264 t207.length cp265]) (ok:=(fun k_=>((((P_ k_∨w.heap.size≤k_)∧some k_≠(v89:Value).ownBlock)∧k_≠g1)∧k_≠g11)∧k_≠g123)) (okp:=(fun k_=>((((P_ k_∨w.heap.size≤k_)∧some k_≠(v89:Value).ownBlock)∧k_≠g1)∧k_≠g11)∧k_≠g123)) ?hr ?hp (fun _ hk_=>hk_) ?hf HB.out (below_size HB.out) (by first|simp|decide) ?_;(case hr=>first|(go_simp;done)|(go_simp;rfl));(case hp=>exact(Reps.c2 (k46_mkF _ _ (⟨(rd_T57 ((rd_T57 ((rd_T57 l0 (1:Int)).f4) x90).f4) (0:Int)).f3,t207⟩:S46) HL269.out HF268.out) (Reps.none _ _)));(case hf=>exact(show ∀ k_,w236.heap.size≤k_→(fun k_=>((((P_ k_∨w.heap.size≤k_)∧some k_≠(v89:Value).ownBlock)∧k_≠g1)∧k_≠g11)∧k_≠g123) k_ from fun k_ h_=>⟨⟨⟨⟨.inr (Nat.le_trans (below_size HB.out) h_),Kd.fresh' (Kd.N_lt HN92.out) k_ h_⟩,Kd.freshB (g:=g1) BKg1.out k_ h_⟩,Kd.freshB (g:=g11) BKg11.out k_ h_⟩,Kd.freshB (g:=g123) BKg123.out k_ h_⟩) _ (Nat.le_refl _));intro v270 w271 hn1 hb1 hg1 hat1);replace hat1:=za hat1;refine stop_ ?_)
          refine zg ?_
          replace hat1:=hat1.out
          have hbe:=MW.grown_below hg1
          have hba:=MW.base_of hat1
          replace HF0:=za (Kd.F_mono (Kd.F_elder' (ok:=(fun k_=>((((P_ k_∨w.heap.size≤k_)∧some k_≠(v89:Value).ownBlock)∧k_≠g1)∧k_≠g11)∧k_≠g123)) HF0.out hba hbe) (fun k_ hk_=>hk_):Kd.F k57 _ (fun k_=>(((((P_ k_∨w.heap.size≤k_)∧some k_≠(v89:Value).ownBlock)∧k_≠g1)∧k_≠g11)∧k_≠g123)∧some k_≠(v270:Value).ownBlock) _ _ _)
          replace HF122_4:=za (Kd.F_mono (Kd.F_elder' (ok:=(fun k_=>((((P_ k_∨w.heap.size≤k_)∧some k_≠(v89:Value).ownBlock)∧k_≠g1)∧k_≠g11)∧k_≠g123)) HF122_4.out hba hbe) (fun k_ hk_=>hk_):Kd.F k57 _ (fun k_=>(((((P_ k_∨w.heap.size≤k_)∧some k_≠(v89:Value).ownBlock)∧k_≠g1)∧k_≠g11)∧k_≠g123)∧some k_≠(v270:Value).ownBlock) _ _ _)
          replace HN92:=za (Kd.N_mono (Kd.N_elder' (ok:=(fun k_=>(((P_ k_∨w.heap.size≤k_)∧k_≠g1)∧k_≠g11)∧k_≠g123)) HN92.out hba hbe) (fun k_ hk_=>hk_):Kd.N k46 _ _ _ (fun k_=>((((P_ k_∨w.heap.size≤k_)∧k_≠g1)∧k_≠g11)∧k_≠g123)∧some k_≠(v270:Value).ownBlock) _ _)
          replace BKg1:=za (blk_below (g:=g1) BKg1.out hbe)
          replace BKg11:=za (blk_below (g:=g11) BKg11.out hbe)
          replace BKg123:=za (blk_below (g:=g123) BKg123.out hbe)
          replace HB:=za hb1
          have HN272:=za hn1
          clear hn1 hb1 hg1 hat1 hbe hba
          clear j3X j3Y j3Z j40 j41 j42 j43 j44 j45 j46 j47 j48 j49 hx263_0 hx263_1 hx263_2 hx263_3 hx263_4 p263 q263
          replace cBKg1:=MB.lz8 BKg1.out
          obtain⟨j4x,j4y,j4z,j4A,j4B,j4C,j4D,j4E⟩:=MB.lz8 BKg11.out
          obtain⟨j4F,j4G,j4H,j4I,j4J⟩:=MB.lz5 BKg123.out
          have p294:0≤(0:Int):=by decide
          have q294:(0:Int)<(((rd_T57 ((rd_T57 l0 (1:Int)).f4) x90).f4).length:Int):=of_decide_eq_true (by first|(with_reducible assumption)|assumption)
          obtain⟨ad294,A294_4,c294_4,e294,hx294_0,hx294_1,hx294_2,hx294_3,hx294_4,hl294_4,hi294_4⟩:=atF_T57 HF122_4.out (0:Int) p294 q294
          cases e294
          (try simp only[show((0:Int)).toNat=0 from rfl,show 0*5=0 from rfl] at hx294_0)
          (try rw[Addr.add_zero'] at hx294_0)
          (try simp only[show((0:Int)).toNat=0 from rfl,show 0*5=0 from rfl] at hx294_1)
          (try rw[Addr.add_zero'] at hx294_1)
          (try simp only[show((0:Int)).toNat=0 from rfl,show 0*5=0 from rfl] at hx294_2)
          (try rw[Addr.add_zero'] at hx294_2)
          (try simp only[show((0:Int)).toNat=0 from rfl,show 0*5=0 from rfl] at hx294_3)
          (try rw[Addr.add_zero'] at hx294_3)
          (try simp only[show((0:Int)).toNat=0 from rfl,show 0*5=0 from rfl] at hx294_4)
          (try rw[Addr.add_zero'] at hx294_4)
          clear hi294_4 hl294_4
          replace p294:=eq_true p294
          replace q294:=eq_true q294
          refine wpList_nil ?_
          change MW.Cells _ _∧wpAnyLast _ _ _ _ _ _ 3 #[true,true,true,true,true,true,true,true,true,true,false,false,false] ⟨[_,_,_,_,_,_,_,_,_,_,_,_,_,_,_,_,_,_,_,_,_,_,_,_,_,_,_,_,_,_,_,_,_,_,_,_,_,_,_,_,_,_,_,_,_,_,_,_,_,_,_,_,_,_,_,_,_,_,_,_,_,_,_,_,_,_,_,_,_,_,_,_,_,_,_,_,_,_,_].toArray,[]⟩ _
          refine⟨(zk j4E (zk j4J (zk hx294_3 z0))),?_⟩
          refine MW.last_fin (i:=10) (listed':= #[true,true,true,true,true,true,true,true,true,true,true,false,false]) rfl (by kernel_rfl) (by kernel_rfl) (by kernel_rfl) ?_
          obtain⟨A295,cp296,he_⟩:=Kd.N_slice HN272.out
          subst he_
          have HF297:=za (Kd.N_F HN272.out)
          clear HN272
          replace HF0:=za (Kd.F_mono (ok:=(fun k_=>(((((P_ k_∨w.heap.size≤k_)∧some k_≠(v89:Value).ownBlock)∧k_≠g1)∧k_≠g11)∧k_≠g123)∧some k_≠((.slice A295 [(⟨(rd_T57 ((rd_T57 ((rd_T57 l0 (1:Int)).f4) x90).f4) (0:Int)).f3,t207⟩:S46)].length cp296):Value).ownBlock)) HF0.out (fun k_ hk_=>hk_.1):Kd.F k57 _ (fun k_=>((((P_ k_∨w.heap.size≤k_)∧some k_≠(v89:Value).ownBlock)∧k_≠g1)∧k_≠g11)∧k_≠g123) _ _ _)
          replace HN92:=za (Kd.N_mono (ok:=(fun k_=>((((P_ k_∨w.heap.size≤k_)∧k_≠g1)∧k_≠g11)∧k_≠g123)∧some k_≠((.slice A295 [(⟨(rd_T57 ((rd_T57 ((rd_T57 l0 (1:Int)).f4) x90).f4) (0:Int)).f3,t207⟩:S46)].length cp296):Value).ownBlock)) HN92.out (fun k_ hk_=>hk_.1):Kd.N k46 _ _ _ (fun k_=>(((P_ k_∨w.heap.size≤k_)∧k_≠g1)∧k_≠g11)∧k_≠g123) _ _)
          obtain⟨HH,LMc299⟩:=zlm HH
          obtain⟨y300,hy300⟩:∃ y_:List (S46),y_=(x91++[(⟨(rd_T57 ((rd_T57 ((rd_T57 l0 (1:Int)).f4) x90).f4) (0:Int)).f3,t207⟩:S46)]):=⟨_,rfl⟩
          have H:((toponymref27_entry.l0 k93 (wrap64 (x90+1)) y300 l0))=some (r1,r2,r3,r4,r5,r6,r7,r8,r9):=by rw[hy300];exact HH.out
          replace HH:=za H
          clear H
          have NYy300:=za hy300
          clear hy300
          go_wp2_with (((with_reducible refine gate_dst (N:=76) rfl ?_);(try(refine gate_guard (by rfl) ?_;dsimp only));refine Kd.N_append_rows k46 w.heap.size rfl _ _ 25 46 (.agg #[(.string ⟨#[]⟩),(.slice none 0 0)]) 40 rfl Try.underlying25 info46 rfl (by decide) (by decide) (v89) x91 [(⟨(rd_T57 ((rd_T57 ((rd_T57 l0 (1:Int)).f4) x90).f4) (0:Int)).f3,t207⟩:S46)] _ _ _ (fun k_=>(((P_ k_∨w.heap.size≤k_)∧k_≠g1)∧k_≠g11)∧k_≠g123) (fun k_=>(fun k_=>(((P_ k_∨w.heap.size≤k_)∧k_≠g1)∧k_≠g11)∧k_≠g123) k_∧some k_≠(v89:Value).ownBlock) rfl rfl HN92.out (Kd.F_mono (ok:=(fun k_=>((((P_ k_∨w.heap.size≤k_)∧some k_≠(v89:Value).ownBlock)∧k_≠g1)∧k_≠g11)∧k_≠g123)) HF297.out (fun k_ hk_=>⟨⟨⟨⟨hk_.1.1.1.1,hk_.1.1.2⟩,hk_.1.2⟩,hk_.2⟩,hk_.1.1.1.2⟩)) (fun _ hk_=>hk_) (fun k_ h_=>⟨⟨⟨.inr (Nat.le_trans (below_size HB.out) h_),Kd.freshB (g:=g1) BKg1.out k_ h_⟩,Kd.freshB (g:=g11) BKg11.out k_ h_⟩,Kd.freshB (g:=g123) BKg123.out k_ h_⟩) HB.out (below_size HB.out) (by first|(have:=LMc299.out;simp only[List.length_nil] at *;omega)|(have:=LMc299.out;simp at *;omega)) ?_;intro v301 w302 hn1 hb1 hg1 hat1);replace hat1:=za hat1;refine stop_ ?_)
          refine zg ?_
          replace hat1:=hat1.out
          replace HF0:=za (Kd.F_mono (Kd.F_after (v:=v89) (ok:=(fun k_=>(((P_ k_∨w.heap.size≤k_)∧k_≠g1)∧k_≠g11)∧k_≠g123)) (Kd.F_mono (ok:=(fun k_=>((((P_ k_∨w.heap.size≤k_)∧some k_≠(v89:Value).ownBlock)∧k_≠g1)∧k_≠g11)∧k_≠g123)) HF0.out (fun k_ hk_=>⟨⟨⟨⟨hk_.1.1.1.1,hk_.1.1.2⟩,hk_.1.2⟩,hk_.2⟩,hk_.1.1.1.2⟩)) hg1 hat1) (fun k_ hk_=>hk_):Kd.F k57 _ (fun k_=>((((P_ k_∨w.heap.size≤k_)∧k_≠g1)∧k_≠g11)∧k_≠g123)∧some k_≠(v301:Value).ownBlock) _ _ _)
          replace BKg1:=za (blk_grown (g:=g1) BKg1.out hg1 (Kd.N_away (ok:=(fun k_=>(((P_ k_∨w.heap.size≤k_)∧k_≠g1)∧k_≠g11)∧k_≠g123)) HN92.out (fun k_ hk_=>hk_.1.1.2)))
          replace BKg11:=za (blk_grown (g:=g11) BKg11.out hg1 (Kd.N_away (ok:=(fun k_=>(((P_ k_∨w.heap.size≤k_)∧k_≠g1)∧k_≠g11)∧k_≠g123)) HN92.out (fun k_ hk_=>hk_.1.2)))
          replace BKg123:=za (blk_grown (g:=g123) BKg123.out hg1 (Kd.N_away (ok:=(fun k_=>(((P_ k_∨w.heap.size≤k_)∧k_≠g1)∧k_≠g11)∧k_≠g123)) HN92.out (fun k_ hk_=>hk_.2)))
          replace HB:=za hb1
          clear HN92
          have HN303:=za hn1
          clear hn1 hb1 hg1 hat1
          replace HN303:=za (by rw[NYy300.out];exact HN303.out:Kd.N k46 46 w302 w.heap.size (fun k_=>(((P_ k_∨w.heap.size≤k_)∧k_≠g1)∧k_≠g11)∧k_≠g123) v301 y300)
          clear j4x j4y j4z j4A j4B j4C j4D j4E j4F j4G j4H j4I j4J hx294_0 hx294_1 hx294_2 hx294_3 hx294_4 p294 q294
          replace cBKg1:=MB.lz8 BKg1.out
          replace cBKg11:=MB.lz8 BKg11.out
          replace cBKg123:=MB.lz5 BKg123.out
          refine wpList_nil ?_
          change wpAnyLast _ _ _ _ _ _ 2 #[true,true,true,true,true,true,true,true,true,true,true,false,false] ⟨[_,_,_,_,_,_,_,_,_,_,_,_,_,_,_,_,_,_,_,_,_,_,_,_,_,_,_,_,_,_,_,_,_,_,_,_,_,_,_,_,_,_,_,_,_,_,_,_,_,_,_,_,_,_,_,_,_,_,_,_,_,_,_,_,_,_,_,_,_,_,_,_,_,_,_,_,_,_,_].toArray,[]⟩ _
          refine zlp 11 (.pointer (some ⟨g11,7,none⟩)) #[_,_,_,_,_,_,_,_,_,_,_,_,_] ⟨[_,_,_,_,_,_,_,_,_,_,_,_,_,_,_,_,_,_,_,_,_,_,_,_,_,_,_,_,_,_,_,_,_,_,_,_,_,_,_,_,_,_,_,_,_,_,_,_,_,_,_,_,_,_,_,_,_,_,_,_,_,_,_,_,_,_,_,_,_,_,_,_,_,_,_,_,_,_,_].toArray,[]⟩ (h:=?_)
          refine MW.last_fin (i:=12) (listed':= #[true,true,true,true,true,true,true,true,true,true,true,true,true]) rfl (by kernel_rfl) (by kernel_rfl) (by kernel_rfl) ?_
          obtain⟨A326,cp327,he_⟩:=Kd.N_slice HN303.out
          subst he_
          go_wp2_with ((with_reducible refine gs 25 77 rfl ?_);refine zs 25 77 #[.int .i64 0,.int .i64 3,.bool true,.int .i64 0,.string (⟨#[]⟩:ByteArray),.string (⟨#[]⟩:ByteArray),.string ((rd_T57 l0 (0:Int)).f3),(.slice A326 y300.length cp327)] BKg11.out [(.slice A326 y300.length cp327)] (h:=?_);intro w325 hbk hg)
          refine zg ?_
          replace HF0:=zfg HF0.out hg fun k_ hk_=>hk_.1.1.2
          replace HN303:=zng HN303.out hg fun k_ hk_=>hk_.1.2
          replace BKg1:=zbg BKg1.out hg NEg1_g11
          replace BKg123:=zbg BKg123.out hg NEg123_g11
          replace HB:=zhg HB.out hg (below_size HB.out) GEg11
          replace BKg11:=hbk
          clear hg hbk
          replace cBKg1:=MB.lz8 BKg1.out
          replace cBKg11:=MB.lz8 BKg11.out
          replace cBKg123:=MB.lz5 BKg123.out
          refine wpList_nil ?_
          refine⟨(by kernel_rfl),?_⟩
          clear hwr_
          go_wp2
          go_roundg k93
          case measure=>have:=HK0.out;omega
          case rel=>exact⟨wrap64 (x90+1),y300,(.slice A326 y300.length cp327),(by first|rfl|(simp;done)|(simp[*];done)),HH,⟨by have:=HK0.out;omega⟩,⟨(Kd.F_mono (ok:=(fun k_=>((((P_ k_∨w.heap.size≤k_)∧k_≠g1)∧k_≠g11)∧k_≠g123)∧some k_≠((.slice A326 y300.length cp327):Value).ownBlock)) HF0.out (fun k_ hk_=>⟨⟨⟨hk_.1.1.1.1,hk_.2⟩,hk_.1.1.1.2⟩,hk_.1.1.2⟩))⟩,⟨(Kd.N_mono (ok:=(fun k_=>(((P_ k_∨w.heap.size≤k_)∧k_≠g1)∧k_≠g11)∧k_≠g123)) HN303.out (fun k_ hk_=>⟨⟨hk_.1.1.1,hk_.1.1.2⟩,hk_.1.2⟩))⟩,⟨BKg1.out⟩,⟨BKg11.out⟩,⟨HB.out⟩⟩
         obtain⟨A356,cp357,he_⟩:=Kd.N_slice HN92.out
         subst he_
         go_wp2_with ((with_reducible refine gs 27 2 rfl ?_);refine zs 27 2 #[.int .i64 0,.int .i64 3,.bool true,.int .i64 0,.string (⟨#[]⟩:ByteArray),.string (⟨#[]⟩:ByteArray),.string ((rd_T57 l0 (0:Int)).f3),(.slice A356 x91.length cp357)] BKg1.out [.int .i64 0,.int .i64 3,.bool true,.int .i64 0,.string (⟨#[]⟩:ByteArray),.string (⟨#[]⟩:ByteArray),.string ((rd_T57 l0 (0:Int)).f3),(.slice A356 x91.length cp357)] (h:=?_);intro w355 hbk hg)
         refine zg ?_
         replace HN92:=zng HN92.out hg fun k_ hk_=>hk_.1.1.1.2
         replace BKg11:=zbg BKg11.out hg NEg11_g1
         replace BKg123:=zbg BKg123.out hg NEg123_g1
         replace HB:=zhg HB.out hg (below_size HB.out) GEg1
         replace BKg1:=hbk
         clear hg hbk
         replace cBKg1:=MB.lz8 BKg1.out
         replace cBKg11:=MB.lz8 BKg11.out
         replace cBKg123:=MB.lz5 BKg123.out
         have H:=HH.out
         simp only[Option.some.injEq,Prod.mk.injEq] at H
         obtain⟨rfl,rfl,rfl,rfl,rfl,rfl,rfl,rfl,rfl⟩:=H
         clear HH
         go_wp2
         refine bodyPost_ret (results_ct rfl _ _ g1 27 #[.int .i64 0,.int .i64 3,.bool true,.int .i64 0,.string (⟨#[]⟩:ByteArray),.string (⟨#[]⟩:ByteArray),.string ((rd_T57 l0 (0:Int)).f3),(.slice A356 x91.length cp357)] (0,0) _ rfl BKg1.out Try.underlying27 rfl (by kernel_rfl)) rfl ?_
         exact⟨_,by first|rfl|(simp;done)|(simp[*];done),(Kd.N_mono (ok:=(fun k_=>((((P_ k_∨w.heap.size≤k_)∧k_≠g1)∧k_≠g11)∧k_≠g123)∧some k_≠(v211:Value).ownBlock)) HN92.out (fun k_ hk_=>hk_.1.1.1.1)),HB.out⟩
        replace HH:=MW.hneg HH c200
        replace c200:=Bool.eq_false_iff.mpr c200
        subst c200
        obtain⟨A384,cp385,he_⟩:=Kd.N_slice HN92.out
        subst he_
        go_wp2_with ((with_reducible refine gs 27 2 rfl ?_);refine zs 27 2 #[.int .i64 0,.int .i64 3,.bool true,.int .i64 0,.string (⟨#[]⟩:ByteArray),.string (⟨#[]⟩:ByteArray),.string ((rd_T57 l0 (0:Int)).f3),(.slice A384 x91.length cp385)] BKg1.out [.int .i64 0,.int .i64 3,.bool true,.int .i64 0,.string (⟨#[]⟩:ByteArray),.string (⟨#[]⟩:ByteArray),.string ((rd_T57 l0 (0:Int)).f3),(.slice A384 x91.length cp385)] (h:=?_);intro w383 hbk hg)
        refine zg ?_
        replace HN92:=zng HN92.out hg fun k_ hk_=>hk_.1.1.2
        replace BKg11:=zbg BKg11.out hg NEg11_g1
        replace BKg123:=zbg BKg123.out hg NEg123_g1
        replace HB:=zhg HB.out hg (below_size HB.out) GEg1
        replace BKg1:=hbk
        clear hg hbk
        replace cBKg1:=MB.lz8 BKg1.out
        replace cBKg11:=MB.lz8 BKg11.out
        replace cBKg123:=MB.lz5 BKg123.out
        have H:=HH.out
        simp only[Option.some.injEq,Prod.mk.injEq] at H
        obtain⟨rfl,rfl,rfl,rfl,rfl,rfl,rfl,rfl,rfl⟩:=H
        clear HH
        go_wp2
        refine bodyPost_ret (results_ct rfl _ _ g1 27 #[.int .i64 0,.int .i64 3,.bool true,.int .i64 0,.string (⟨#[]⟩:ByteArray),.string (⟨#[]⟩:ByteArray),.string ((rd_T57 l0 (0:Int)).f3),(.slice A384 x91.length cp385)] (0,0) _ rfl BKg1.out Try.underlying27 rfl (by kernel_rfl)) rfl ?_
        exact⟨_,by first|rfl|(simp;done)|(simp[*];done),(Kd.N_mono (ok:=(fun k_=>(((P_ k_∨w.heap.size≤k_)∧k_≠g1)∧k_≠g11)∧k_≠g123)) HN92.out (fun k_ hk_=>hk_.1.1.1)),HB.out⟩
       replace HH:=MW.hneg HH c174
       have hk407:(rd_T57 ((rd_T57 l0 (1:Int)).f4) x90).f1=false:=by simpa using c174
       clear c174
       obtain⟨A409,cp410,he_⟩:=Kd.N_slice HN92.out
       subst he_
       go_wp2_with ((with_reducible refine gs 27 2 rfl ?_);refine zs 27 2 #[.int .i64 0,.int .i64 3,.bool true,.int .i64 0,.string (⟨#[]⟩:ByteArray),.string (⟨#[]⟩:ByteArray),.string ((rd_T57 l0 (0:Int)).f3),(.slice A409 x91.length cp410)] BKg1.out [.int .i64 0,.int .i64 3,.bool true,.int .i64 0,.string (⟨#[]⟩:ByteArray),.string (⟨#[]⟩:ByteArray),.string ((rd_T57 l0 (0:Int)).f3),(.slice A409 x91.length cp410)] (h:=?_);intro w408 hbk hg)
       refine zg ?_
       replace HN92:=zng HN92.out hg fun k_ hk_=>hk_.1.1.2
       replace BKg11:=zbg BKg11.out hg NEg11_g1
       replace BKg123:=zbg BKg123.out hg NEg123_g1
       replace HB:=zhg HB.out hg (below_size HB.out) GEg1
       replace BKg1:=hbk
       clear hg hbk
       replace cBKg1:=MB.lz8 BKg1.out
       replace cBKg11:=MB.lz8 BKg11.out
       replace cBKg123:=MB.lz5 BKg123.out
       have H:=HH.out
       simp only[Option.some.injEq,Prod.mk.injEq] at H
       obtain⟨rfl,rfl,rfl,rfl,rfl,rfl,rfl,rfl,rfl⟩:=H
       clear HH
       go_wp2
       refine bodyPost_ret (results_ct rfl _ _ g1 27 #[.int .i64 0,.int .i64 3,.bool true,.int .i64 0,.string (⟨#[]⟩:ByteArray),.string (⟨#[]⟩:ByteArray),.string ((rd_T57 l0 (0:Int)).f3),(.slice A409 x91.length cp410)] (0,0) _ rfl BKg1.out Try.underlying27 rfl (by kernel_rfl)) rfl ?_
       exact⟨_,by first|rfl|(simp;done)|(simp[*];done),(Kd.N_mono (ok:=(fun k_=>(((P_ k_∨w.heap.size≤k_)∧k_≠g1)∧k_≠g11)∧k_≠g123)) HN92.out (fun k_ hk_=>hk_.1.1.1)),HB.out⟩
      obtain⟨A435,cp436,he_⟩:=Kd.N_slice HN92.out
      subst he_
      go_wp2_with ((with_reducible refine gs 27 2 rfl ?_);refine zs 27 2 #[.int .i64 0,.int .i64 3,.bool true,.int .i64 0,.string (⟨#[]⟩:ByteArray),.string (⟨#[]⟩:ByteArray),.string ((rd_T57 l0 (0:Int)).f3),(.slice A435 x91.length cp436)] BKg1.out [.int .i64 0,.int .i64 3,.bool true,.int .i64 0,.string (⟨#[]⟩:ByteArray),.string (⟨#[]⟩:ByteArray),.string ((rd_T57 l0 (0:Int)).f3),(.slice A435 x91.length cp436)] (h:=?_);intro w434 hbk hg)
      refine zg ?_
      replace HN92:=zng HN92.out hg fun k_ hk_=>hk_.1.1.2
      replace BKg11:=zbg BKg11.out hg NEg11_g1
      replace BKg123:=zbg BKg123.out hg NEg123_g1
      replace HB:=zhg HB.out hg (below_size HB.out) GEg1
      replace BKg1:=hbk
      clear hg hbk
      replace cBKg1:=MB.lz8 BKg1.out
      replace cBKg11:=MB.lz8 BKg11.out
      replace cBKg123:=MB.lz5 BKg123.out
      have H:=HH.out
      simp only[Option.some.injEq,Prod.mk.injEq] at H
      obtain⟨rfl,rfl,rfl,rfl,rfl,rfl,rfl,rfl,rfl⟩:=H
      clear HH
      go_wp2
      refine bodyPost_ret (results_ct rfl _ _ g1 27 #[.int .i64 0,.int .i64 3,.bool true,.int .i64 0,.string (⟨#[]⟩:ByteArray),.string (⟨#[]⟩:ByteArray),.string ((rd_T57 l0 (0:Int)).f3),(.slice A435 x91.length cp436)] (0,0) _ rfl BKg1.out Try.underlying27 rfl (by kernel_rfl)) rfl ?_
      exact⟨_,by first|rfl|(simp;done)|(simp[*];done),(Kd.N_mono (ok:=(fun k_=>(((P_ k_∨w.heap.size≤k_)∧k_≠g1)∧k_≠g11)∧k_≠g123)) HN92.out (fun k_ hk_=>hk_.1.1.1)),HB.out⟩
     obtain⟨A461,cp462,he_⟩:=Kd.N_slice HN92.out
     subst he_
     go_wp2_with ((with_reducible refine gs 27 2 rfl ?_);refine zs 27 2 #[.int .i64 0,.int .i64 3,.bool true,.int .i64 0,.string (⟨#[]⟩:ByteArray),.string (⟨#[]⟩:ByteArray),.string ((rd_T57 l0 (0:Int)).f3),(.slice A461 x91.length cp462)] BKg1.out [.int .i64 0,.int .i64 3,.bool true,.int .i64 0,.string (⟨#[]⟩:ByteArray),.string (⟨#[]⟩:ByteArray),.string ((rd_T57 l0 (0:Int)).f3),(.slice A461 x91.length cp462)] (h:=?_);intro w460 hbk hg)
     refine zg ?_
     replace HN92:=zng HN92.out hg fun k_ hk_=>hk_.1.1.2
     replace BKg11:=zbg BKg11.out hg NEg11_g1
     replace BKg123:=zbg BKg123.out hg NEg123_g1
     replace HB:=zhg HB.out hg (below_size HB.out) GEg1
     replace BKg1:=hbk
     clear hg hbk
     replace cBKg1:=MB.lz8 BKg1.out
     replace cBKg11:=MB.lz8 BKg11.out
     replace cBKg123:=MB.lz5 BKg123.out
     have H:=HH.out
     simp only[Option.some.injEq,Prod.mk.injEq] at H
     obtain⟨rfl,rfl,rfl,rfl,rfl,rfl,rfl,rfl,rfl⟩:=H
     clear HH
     go_wp2
     refine bodyPost_ret (results_ct rfl _ _ g1 27 #[.int .i64 0,.int .i64 3,.bool true,.int .i64 0,.string (⟨#[]⟩:ByteArray),.string (⟨#[]⟩:ByteArray),.string ((rd_T57 l0 (0:Int)).f3),(.slice A461 x91.length cp462)] (0,0) _ rfl BKg1.out Try.underlying27 rfl (by kernel_rfl)) rfl ?_
     exact⟨_,by first|rfl|(simp;done)|(simp[*];done),(Kd.N_mono (ok:=(fun k_=>(((P_ k_∨w.heap.size≤k_)∧k_≠g1)∧k_≠g11)∧k_≠g123)) HN92.out (fun k_ hk_=>hk_.1.1.1)),HB.out⟩
    obtain⟨A488,cp489,he_⟩:=Kd.N_slice HN92.out
    subst he_
    go_wp2_with ((with_reducible refine gs 27 2 rfl ?_);refine zs 27 2 #[.int .i64 0,.int .i64 3,.bool true,.int .i64 0,.string (⟨#[]⟩:ByteArray),.string (⟨#[]⟩:ByteArray),.string ((rd_T57 l0 (0:Int)).f3),(.slice A488 x91.length cp489)] BKg1.out [.int .i64 0,.int .i64 3,.bool true,.int .i64 0,.string (⟨#[]⟩:ByteArray),.string (⟨#[]⟩:ByteArray),.string ((rd_T57 l0 (0:Int)).f3),(.slice A488 x91.length cp489)] (h:=?_);intro w487 hbk hg)
    refine zg ?_
    replace HN92:=zng HN92.out hg fun k_ hk_=>hk_.1.2
    replace BKg11:=zbg BKg11.out hg NEg11_g1
    replace HB:=zhg HB.out hg (below_size HB.out) GEg1
    replace BKg1:=hbk
    clear hg hbk
    clear hx116_0 hx116_1 hx116_2 hx116_3 hx116_4 p116 q116
    replace cBKg1:=MB.lz8 BKg1.out
    replace cBKg11:=MB.lz8 BKg11.out
    have H:=HH.out
    simp only[Option.some.injEq,Prod.mk.injEq] at H
    obtain⟨rfl,rfl,rfl,rfl,rfl,rfl,rfl,rfl,rfl⟩:=H
    clear HH
    go_wp2
    refine bodyPost_ret (results_ct rfl _ _ g1 27 #[.int .i64 0,.int .i64 3,.bool true,.int .i64 0,.string (⟨#[]⟩:ByteArray),.string (⟨#[]⟩:ByteArray),.string ((rd_T57 l0 (0:Int)).f3),(.slice A488 x91.length cp489)] (0,0) _ rfl BKg1.out Try.underlying27 rfl (by kernel_rfl)) rfl ?_
    exact⟨_,by first|rfl|(simp;done)|(simp[*];done),(Kd.N_mono (ok:=(fun k_=>((P_ k_∨w.heap.size≤k_)∧k_≠g1)∧k_≠g11)) HN92.out (fun k_ hk_=>hk_.1.1)),HB.out⟩
 replace HH:=MW.hneg HH c65
 replace c65:=Bool.eq_false_iff.mpr c65
 subst c65
 go_wp2_with ((with_reducible refine gs 27 2 rfl ?_);refine zs 27 2 #[.int .i64 0,.int .i64 3,.bool true,.int .i64 0,.string (⟨#[]⟩:ByteArray),.string (⟨#[]⟩:ByteArray),.string (⟨#[]⟩:ByteArray),.slice none 0 0] BKg1.out [.int .i64 0,.int .i64 3,.bool true,.int .i64 0,.string (⟨#[]⟩:ByteArray),.string (⟨#[]⟩:ByteArray),.string (⟨#[]⟩:ByteArray),.slice none 0 0] (h:=?_);intro w514 hbk hg)
 refine zg ?_
 replace BKg11:=zbg BKg11.out hg NEg11_g1
 replace HB:=zhg HB.out hg (below_size HB.out) GEg1
 replace BKg1:=hbk
 clear hg hbk
 replace cBKg1:=MB.lz8 BKg1.out
 replace cBKg11:=MB.lz8 BKg11.out
 have H:=HH.out
 simp only[Option.some.injEq,Prod.mk.injEq] at H
 obtain⟨rfl,rfl,rfl,rfl,rfl,rfl,rfl,rfl,rfl⟩:=H
 clear HH
 go_wp2
 refine bodyPost_ret (results_ct rfl _ _ g1 27 #[.int .i64 0,.int .i64 3,.bool true,.int .i64 0,.string (⟨#[]⟩:ByteArray),.string (⟨#[]⟩:ByteArray),.string (⟨#[]⟩:ByteArray),.slice none 0 0] (0,0) _ rfl BKg1.out Try.underlying27 rfl (by kernel_rfl)) rfl ?_
 exact⟨_,by first|rfl|(simp;done)|(simp[*];done),(Kd.N_nil _ _ _ _ _),HB.out⟩
end Go.Proofs.Ytdjkemhmhkpmkaa.GA
