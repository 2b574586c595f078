import Derived.Test.YtdjkemhmhkpmkaaGA0
import Derived.Test.YtdjkemhmhkpmkaaGM1
import Derived.Test.YtdjkemhmhkpmkaaGM2
import Derived.Test.YtdjkemhmhkpmkaaMX
namespace Go.Proofs.Ytdjkemhmhkpmkaa.GA
open Go.RowKit Go.Proofs.Ytdjkemhmhkpmkaa Go.Proofs.Ytdjkemhmhkpmkaa.MW Go.Proofs.YtdjkemhmhkpmkaaW.PrintWords Go.Proofs.YtdjkemhmhkpmkaaW.PrintLast Go.Proofs.YtdjkemhmhkpmkaaW.PrintMore
attribute [local go_sem] max2_int min2_int max_two min_two
set_option maxHeartbeats 8000000
set_option maxRecDepth 100000
set_option linter.unusedVariables false
set_option linter.unusedSimpArgs false
theorem shape_len {k:Nat} {l:List S57} {s:ByteArray} (h:toponymref26_Shape.f k l s=some true):(l.length:Int)=(s.size:Int):=by
 unfold toponymref26_Shape.f at h
 by_cases hc:(l.length:Int)=(s.size:Int)
 ·exact hc
 rw[if_neg hc] at h;cases h
def toponymref27_result.l0:Nat→Int→Int→Int→(List (S57))→Option (Int × Int × Bool × Int × ByteArray × ByteArray × ByteArray × (List (S46)) × Bool)
 |0,_,_,_,_=>none
 |k+1,x46,x47,a0,l1=>if x46≤10 then((toponymref27_tag.f x46).bind fun t68=>(if t68=a0 then(if a0>0 then((toponymref27_result.l0 k (wrap64 (x46+1)) x46 a0 l1)) else((toponymref27_result.l0 k (wrap64 (x46+1)) x47 a0 l1))) else((toponymref27_result.l0 k (wrap64 (x46+1)) x47 a0 l1)))) else((toponymref26_Shape.f k l1 (⟨#[101,116,116]⟩:ByteArray)).bind fun t113=>(if t113=true then(if 0<(l1.length:Int) then((toponymref16_AsInt.f k ((rd_T57 l1 (0:Int)).f0) ((rd_T57 l1 (0:Int)).f1) ((rd_T57 l1 (0:Int)).f2) ((rd_T57 l1 (0:Int)).f3) ((rd_T57 l1 (0:Int)).f4)).bind fun bt139=>(if 1<(l1.length:Int) then(if 2<(l1.length:Int) then(if (l1.length:Int)=3 then(some (0,x47,false,bt139.1,(rd_T57 l1 (1:Int)).f3,(rd_T57 l1 (2:Int)).f3,(⟨#[]⟩:ByteArray),([]:List (S46)),true)) else(if 3<(l1.length:Int) then(if ((rd_T57 l1 (3:Int)).f0)=2 then(if ((rd_T57 l1 (3:Int)).f2)=10 then(if (rd_T57 l1 (3:Int)).f1=true then(some (0,x47,false,bt139.1,(rd_T57 l1 (1:Int)).f3,(rd_T57 l1 (2:Int)).f3,(rd_T57 l1 (3:Int)).f3,([]:List (S46)),false)) else(some (0,x47,false,bt139.1,(rd_T57 l1 (1:Int)).f3,(rd_T57 l1 (2:Int)).f3,(rd_T57 l1 (3:Int)).f3,([]:List (S46)),(((rd_T57 l1 (3:Int)).f3).toList != ([]:List UInt8))))) else(some (0,x47,false,bt139.1,(rd_T57 l1 (1:Int)).f3,(rd_T57 l1 (2:Int)).f3,(rd_T57 l1 (3:Int)).f3,([]:List (S46)),false))) else(some (0,x47,false,bt139.1,(rd_T57 l1 (1:Int)).f3,(rd_T57 l1 (2:Int)).f3,(rd_T57 l1 (3:Int)).f3,([]:List (S46)),false))) else(none))) else(none)) else(none))) else(none)) else((toponymref26_Shape.f k l1 (⟨#[101,116,116,120]⟩:ByteArray)).bind fun t386=>(if t386=true then(if 0<(l1.length:Int) then((toponymref16_AsInt.f k ((rd_T57 l1 (0:Int)).f0) ((rd_T57 l1 (0:Int)).f1) ((rd_T57 l1 (0:Int)).f2) ((rd_T57 l1 (0:Int)).f3) ((rd_T57 l1 (0:Int)).f4)).bind fun bt412=>(if 1<(l1.length:Int) then(if 2<(l1.length:Int) then(if (l1.length:Int)=3 then(some (0,x47,false,bt412.1,(rd_T57 l1 (1:Int)).f3,(rd_T57 l1 (2:Int)).f3,(⟨#[]⟩:ByteArray),([]:List (S46)),true)) else(if 3<(l1.length:Int) then(if ((rd_T57 l1 (3:Int)).f0)=2 then(if ((rd_T57 l1 (3:Int)).f2)=10 then(if (rd_T57 l1 (3:Int)).f1=true then(some (0,x47,false,bt412.1,(rd_T57 l1 (1:Int)).f3,(rd_T57 l1 (2:Int)).f3,(rd_T57 l1 (3:Int)).f3,([]:List (S46)),false)) else(some (0,x47,false,bt412.1,(rd_T57 l1 (1:Int)).f3,(rd_T57 l1 (2:Int)).f3,(rd_T57 l1 (3:Int)).f3,([]:List (S46)),(((rd_T57 l1 (3:Int)).f3).toList != ([]:List UInt8))))) else(some (0,x47,false,bt412.1,(rd_T57 l1 (1:Int)).f3,(rd_T57 l1 (2:Int)).f3,(rd_T57 l1 (3:Int)).f3,([]:List (S46)),false))) else(some (0,x47,false,bt412.1,(rd_T57 l1 (1:Int)).f3,(rd_T57 l1 (2:Int)).f3,(rd_T57 l1 (3:Int)).f3,([]:List (S46)),false))) else(none))) else(none)) else(none))) else(none)) else(some (0,x47,false,0,(⟨#[]⟩:ByteArray),(⟨#[]⟩:ByteArray),(⟨#[]⟩:ByteArray),([]:List (S46)),false))))))
def toponymref27_result.f (k:Nat) (a0:Int) (l1:List (S57)):Option (Int × Int × Bool × Int × ByteArray × ByteArray × ByteArray × (List (S46)) × Bool):=(toponymref27_result.l0 k 1 0 a0 l1)
theorem toponymref27_result.mono_l:∀ k,(∀ y0 y1 y2 y3,LeO (toponymref27_result.l0 k y0 y1 y2 y3) (toponymref27_result.l0 (k+1) y0 y1 y2 y3))
 |0=>fun _ _ _ _ r h=>by simp[toponymref27_result.l0] at h
 |k+1=>by
  have ih0:=toponymref27_result.mono_l k
  ·intro y0 y1 y2 y3
   unfold toponymref27_result.l0
   with_reducible repeat' first|exact ih0 _ _ _ _|exact toponymref16_AsInt.mono _ _ _ _ _ _|exact toponymref26_Shape.mono _ _ _|exact LeO.refl _|exact LeO.none _|refine LeO.ite ?_ ?_|refine LeO.bind ?_ (fun _=>?_)
theorem toponymref27_result.mono:∀ a0_ a1_ k,LeO (toponymref27_result.f k a0_ a1_) (toponymref27_result.f (k+1) a0_ a1_):=by
 intro a0_ a1_ k
 have ih0:=toponymref27_result.mono_l k
 unfold toponymref27_result.f
 with_reducible repeat' first|exact ih0 _ _ _ _|exact toponymref16_AsInt.mono _ _ _ _ _ _|exact toponymref26_Shape.mono _ _ _|exact LeO.refl _|exact LeO.none _|refine LeO.ite ?_ ?_|refine LeO.bind ?_ (fun _=>?_)
theorem toponymref27_result.calls (k:Nat) (P_:Nat→Prop) (a0:Int) (A1:Option Addr) (c1:Nat) (l1:List (S57)) (r1:Int) (r2:Int) (r3:Bool) (r4:Int) (r5:ByteArray) (r6:ByteArray) (r7:ByteArray) (r8:List (S46)) (r9:Bool) (w:World) (hs1:Kd.F k57 w P_ A1 l1.length l1) (hc1:l1.length≤c1) (h:toponymref27_result.f k a0 l1=some (r1,r2,r3,r4,r5,r6,r7,r8,r9)):
  Calls Try.prog 31 #[.int .i64 a0,.slice A1 l1.length c1] w (fun e w'=>∃ v7_:Value,e=.returned (.tuple #[.agg #[.int .i64 r1,.int .i64 r2,.bool r3,.int .i64 r4,.string r5,.string r6,.string r7,v7_],.bool r9])∧Kd.N k46 46 w' w.heap.size (fun k_=>P_ k_∨w.heap.size≤k_) v7_ r8∧Below w.heap.size w w'):=by
 unfold toponymref27_result.f at h
 have HH:=za h
 clear h
 have HF1:=zfp hs1
 have HL1:=za hc1
 clear hs1 hc1
 have HB:=za (Below.refl w.heap.size w)
 have hu27:=Try.underlying27
 have hu57:=Try.underlying57
 go_enter Try.func31,Try.ntmps31
 go_wp2_with ((with_reducible refine gd 4 rfl ?_);refine zb 4 27 #[.int .i64 0,.int .i64 0,.bool false,.int .i64 0,.string (⟨#[]⟩:ByteArray),.string (⟨#[]⟩:ByteArray),.string (⟨#[]⟩:ByteArray),.slice none 0 0] (h:=?_);intro g1 hg w2 BKg1 hb)
 refine zg ?_
 have GEg1:=zge hg (below_size HB.out)
 replace HF1:=zfe HF1.out hg hb
 replace HB:=zhb HB.out hb
 clear hg hb
 replace cBKg1:=MB.lz8 BKg1.out
 go_wp2_with ((with_reducible refine gd 6 rfl ?_);refine zb 6 27 #[.int .i64 0,.int .i64 0,.bool false,.int .i64 0,.string (⟨#[]⟩:ByteArray),.string (⟨#[]⟩:ByteArray),.string (⟨#[]⟩:ByteArray),.slice none 0 0] (h:=?_);intro g11 hg w12 BKg11 hb)
 refine zg ?_
 have GEg11:=zge hg (below_size HB.out)
 have NEg1_g11:=znq hg BKg1.out
 have NEg11_g1:=zsy NEg1_g11
 replace HF1:=zfe HF1.out hg hb
 replace BKg1:=zbb BKg1.out hb
 replace HB:=zhb HB.out hb
 clear hg hb
 replace cBKg1:=MB.lz8 BKg1.out
 replace cBKg11:=MB.lz8 BKg11.out
 go_wp2_with ((with_reducible refine gs 27 6 rfl ?_);refine zs 27 6 #[.int .i64 0,.int .i64 0,.bool false,.int .i64 0,.string (⟨#[]⟩:ByteArray),.string (⟨#[]⟩:ByteArray),.string (⟨#[]⟩:ByteArray),.slice none 0 0] BKg11.out [.int .i64 0,.int .i64 0,.bool false,.int .i64 0,.string (⟨#[]⟩:ByteArray),.string (⟨#[]⟩:ByteArray),.string (⟨#[]⟩:ByteArray),.slice none 0 0] (h:=?_);intro w29 hbk hg)
 refine zg ?_
 replace HF1:=zfg HF1.out hg fun k_ hk_=>hk_.2
 replace BKg1:=zbg BKg1.out hg NEg1_g11
 replace HB:=zhg HB.out hg (below_size HB.out) GEg11
 replace BKg11:=hbk
 clear hg hbk
 replace cBKg1:=MB.lz8 BKg1.out
 replace cBKg11:=MB.lz8 BKg11.out
 go_wp2
 go_loopg [7] k (fun kq u7 w'=>∃ (x46:Int) (x47:Int),u7=.int .i64 x46∧Aside0 ((toponymref27_result.l0 kq x46 x47 a0 l1)=some (r1,r2,r3,r4,r5,r6,r7,r8,r9))∧Aside0 (kq≤k)∧Aside0 (Kd.F k57 w' (fun k_=>((P_ k_∨w.heap.size≤k_)∧k_≠g1)∧k_≠g11) A1 l1.length l1)∧Aside0 (w'.heap[g1]? =some (.cells #[.int .i64 0,.int .i64 0,.bool false,.int .i64 0,.string (⟨#[]⟩:ByteArray),.string (⟨#[]⟩:ByteArray),.string (⟨#[]⟩:ByteArray),.slice none 0 0] 27 (0,0)))∧Aside0 (w'.heap[g11]? =some (.cells #[.int .i64 0,.int .i64 x47,.bool false,.int .i64 0,.string (⟨#[]⟩:ByteArray),.string (⟨#[]⟩:ByteArray),.string (⟨#[]⟩:ByteArray),.slice none 0 0] 27 (0,0)))∧Aside0 (Below w.heap.size w w'))
 case atStart=>exact⟨1,0,(by first|rfl|(simp;done)|(simp[*];done)),HH,⟨Nat.le_refl _⟩,⟨HF1.out⟩,⟨BKg1.out⟩,⟨BKg11.out⟩,⟨HB.out⟩⟩
 case round=>
  clear HH
  clear HF1 BKg1 BKg11 HB
  obtain⟨x46,x47,rfl,HA,HK0,HF1,BKg1,BKg11,HB⟩:=hrel
  obtain⟨w49,rfl⟩:∃ wo_:World,wo_=wr:=⟨_,rfl⟩
  cases gk with
  |zero=>exact absurd HA.out (by simp[toponymref27_result.l0])
  |succ k48=>
   have H:=HA.out
   clear HA
   simp only[toponymref27_result.l0] at H
   have HH:=za H
   clear H
   replace cBKg1:=MB.lz8 BKg1.out
   replace cBKg11:=MB.lz8 BKg11.out
   replace HH:=zqd HH
   rcases HH with⟨HH,hk67⟩|⟨HH,hk112⟩
   ·replace HH:=zd HH
    obtain⟨t68,At69,HH⟩:=HH
    go_wp2_with ((with_reducible refine gc 24 rfl ?_);refine zc 24 (some 16) Try.func24 #[.int .i64 x46] (h:=?_);(with_reducible refine(toponymref27_tag.calls  x46 t68 _  At69.out).mono ?_);rintro e w70 ⟨rfl,hb⟩;refine⟨_,rfl,?_⟩)
    refine zg ?_
    replace HF1:=zfb HF1.out hb
    replace BKg1:=zbb BKg1.out hb
    replace BKg11:=zbb BKg11.out hb
    replace HB:=zhb HB.out hb
    clear hb
    replace cBKg1:=MB.lz8 BKg1.out
    replace cBKg11:=MB.lz8 BKg11.out
    replace HH:=zqe HH
    rcases HH with⟨HH,hk88,hk89⟩|⟨HH,hk110,hk111⟩
    ·replace HH:=zqg HH
     rcases HH with⟨HH,hk91⟩|⟨HH,hk109⟩
     ·go_wp2_with ((with_reducible refine gs 3 24 rfl ?_);refine zs 3 24 #[.int .i64 0,.int .i64 x46,.bool false,.int .i64 0,.string (⟨#[]⟩:ByteArray),.string (⟨#[]⟩:ByteArray),.string (⟨#[]⟩:ByteArray),.slice none 0 0] BKg11.out [.int .i64 x46] (h:=?_);intro w92 hbk hg)
      refine zg ?_
      replace HF1:=zfg HF1.out hg fun k_ hk_=>hk_.2
      replace BKg1:=zbg BKg1.out hg NEg1_g11
      replace HB:=zhg HB.out hg (below_size HB.out) GEg11
      replace BKg11:=hbk
      clear hg hbk
      replace cBKg1:=MB.lz8 BKg1.out
      replace cBKg11:=MB.lz8 BKg11.out
      go_wp2
      go_roundg k48
      case measure=>have:=HK0.out;omega
      case rel=>exact⟨wrap64 (x46+1),x46,(by first|rfl|(simp;done)|(simp[*];done)),HH,⟨by have:=HK0.out;omega⟩,⟨HF1.out⟩,⟨BKg1.out⟩,⟨BKg11.out⟩,⟨HB.out⟩⟩
     go_wp2
     go_roundg k48
     case measure=>have:=HK0.out;omega
     case rel=>exact⟨wrap64 (x46+1),x47,(by first|rfl|(simp;done)|(simp[*];done)),HH,⟨by have:=HK0.out;omega⟩,⟨HF1.out⟩,⟨BKg1.out⟩,⟨BKg11.out⟩,⟨HB.out⟩⟩
    go_wp2
    go_roundg k48
    case measure=>have:=HK0.out;omega
    case rel=>exact⟨wrap64 (x46+1),x47,(by first|rfl|(simp;done)|(simp[*];done)),HH,⟨by have:=HK0.out;omega⟩,⟨HF1.out⟩,⟨BKg1.out⟩,⟨BKg11.out⟩,⟨HB.out⟩⟩
   replace HH:=zd HH
   obtain⟨t113,At114,HH⟩:=HH
   go_wp2_with ((with_reducible refine gc 30 rfl ?_);refine zc 30 (some 26) Try.func30 #[.slice A1 l1.length c1,.string (⟨#[101,116,116]⟩:ByteArray)] (h:=?_);(with_reducible refine(toponymref26_Shape.calls k48 (fun k_=>((P_ k_∨w.heap.size≤k_)∧k_≠g1)∧k_≠g11) _ _ l1 (⟨#[101,116,116]⟩:ByteArray) t113 _ HF1.out HL1.out At114.out).mono ?_);rintro e w115 ⟨rfl,hb⟩;refine⟨_,rfl,?_⟩)
   refine zg ?_
   replace HF1:=zfb HF1.out hb
   replace BKg1:=zbb BKg1.out hb
   replace BKg11:=zbb BKg11.out hb
   replace HB:=zhb HB.out hb
   clear hb
   replace cBKg1:=MB.lz8 BKg1.out
   replace cBKg11:=MB.lz8 BKg11.out
   by_cases c132:t113=true
   ·replace HH:=MW.hpos HH c132
    subst c132
    replace HH:=zqno 0 HH
    obtain⟨HH,hk134,hk135,hk136,hk137⟩:=HH
    have p138:0≤(0:Int):=by decide
    have q138:(0:Int)<(l1.length:Int):=of_decide_eq_true (by first|(with_reducible assumption)|assumption)
    obtain⟨ad138,A138_4,c138_4,e138,hx138_0,hx138_1,hx138_2,hx138_3,hx138_4,hl138_4,hi138_4⟩:=atF_T57 HF1.out (0:Int) p138 q138
    cases e138
    (try simp only[show((0:Int)).toNat=0 from rfl,show 0*5=0 from rfl] at hx138_0)
    (try rw[Addr.add_zero'] at hx138_0)
    (try simp only[show((0:Int)).toNat=0 from rfl,show 0*5=0 from rfl] at hx138_1)
    (try rw[Addr.add_zero'] at hx138_1)
    (try simp only[show((0:Int)).toNat=0 from rfl,show 0*5=0 from rfl] at hx138_2)
    (try rw[Addr.add_zero'] at hx138_2)
    (try simp only[show((0:Int)).toNat=0 from rfl,show 0*5=0 from rfl] at hx138_3)
    (try rw[Addr.add_zero'] at hx138_3)
    (try simp only[show((0:Int)).toNat=0 from rfl,show 0*5=0 from rfl] at hx138_4)
    (try rw[Addr.add_zero'] at hx138_4)
    have HF138_4:=za hi138_4
    have HL138_4:=za hl138_4
    clear hi138_4 hl138_4
    replace p138:=eq_true p138
    replace q138:=eq_true q138
    replace HH:=zd HH
    obtain⟨⟨t139,t140⟩,At141,HH⟩:=HH
    dsimp only at HH
    go_wp2_with ((with_reducible refine gc 33 rfl ?_);refine zc 33 (some 38) Try.func33 #[.agg #[.int .i64 ((rd_T57 l1 (0:Int)).f0),.bool ((rd_T57 l1 (0:Int)).f1),.int .i64 ((rd_T57 l1 (0:Int)).f2),.string ((rd_T57 l1 (0:Int)).f3),.slice A138_4 ((rd_T57 l1 (0:Int)).f4).length c138_4]] (h:=?_);(with_reducible refine(toponymref16_AsInt.calls k48 (fun k_=>((P_ k_∨w.heap.size≤k_)∧k_≠g1)∧k_≠g11) ((rd_T57 l1 (0:Int)).f0) ((rd_T57 l1 (0:Int)).f1) ((rd_T57 l1 (0:Int)).f2) ((rd_T57 l1 (0:Int)).f3) _ _ ((rd_T57 l1 (0:Int)).f4) t139 t140 _ HF138_4.out HL138_4.out At141.out).mono ?_);rintro e w142 ⟨rfl,hb⟩;refine⟨_,rfl,?_⟩)
    refine zg ?_
    replace HF1:=zfb HF1.out hb
    replace BKg1:=zbb BKg1.out hb
    replace BKg11:=zbb BKg11.out hb
    replace HB:=zhb HB.out hb
    clear hb
    clear hx138_0 hx138_1 hx138_2 hx138_3 hx138_4 p138 q138
    replace cBKg1:=MB.lz8 BKg1.out
    replace cBKg11:=MB.lz8 BKg11.out
    go_wp2_with ((with_reducible refine gs 3 42 rfl ?_);refine zs 3 42 #[.int .i64 0,.int .i64 x47,.bool false,.int .i64 t139,.string (⟨#[]⟩:ByteArray),.string (⟨#[]⟩:ByteArray),.string (⟨#[]⟩:ByteArray),.slice none 0 0] BKg11.out [.int .i64 t139] (h:=?_);intro w159 hbk hg)
    refine zg ?_
    replace HF1:=zfg HF1.out hg fun k_ hk_=>hk_.2
    replace BKg1:=zbg BKg1.out hg NEg1_g11
    replace HB:=zhg HB.out hg (below_size HB.out) GEg11
    replace BKg11:=hbk
    clear hg hbk
    replace cBKg1:=MB.lz8 BKg1.out
    replace cBKg11:=MB.lz8 BKg11.out
    replace HH:=zqno 1 HH
    obtain⟨HH,hk177,hk178,hk179,hk180⟩:=HH
    have p181:0≤(1:Int):=by decide
    have q181:(1:Int)<(l1.length:Int):=of_decide_eq_true (by first|(with_reducible assumption)|assumption)
    obtain⟨ad181,A181_4,c181_4,e181,hx181_0,hx181_1,hx181_2,hx181_3,hx181_4,hl181_4,hi181_4⟩:=atF_T57 HF1.out (1:Int) p181 q181
    cases e181
    (try simp only[show((1:Int)).toNat=1 from rfl,show 1*5=5 from rfl] at hx181_0)
    (try simp only[Nat.reduceMul,Nat.reduceEqDiff,Go.Addr.add,↓reduceIte] at hx181_0)
    (try simp only[show((1:Int)).toNat=1 from rfl,show 1*5=5 from rfl] at hx181_1)
    (try simp only[Nat.reduceMul,Nat.reduceEqDiff,Go.Addr.add,↓reduceIte] at hx181_1)
    (try simp only[show((1:Int)).toNat=1 from rfl,show 1*5=5 from rfl] at hx181_2)
    (try simp only[Nat.reduceMul,Nat.reduceEqDiff,Go.Addr.add,↓reduceIte] at hx181_2)
    (try simp only[show((1:Int)).toNat=1 from rfl,show 1*5=5 from rfl] at hx181_3)
    (try simp only[Nat.reduceMul,Nat.reduceEqDiff,Go.Addr.add,↓reduceIte] at hx181_3)
    (try simp only[show((1:Int)).toNat=1 from rfl,show 1*5=5 from rfl] at hx181_4)
    (try simp only[Nat.reduceMul,Nat.reduceEqDiff,Go.Addr.add,↓reduceIte] at hx181_4)
    clear hi181_4 hl181_4
    replace p181:=eq_true p181
    replace q181:=eq_true q181
    go_wp2_with ((with_reducible refine gs 9 47 rfl ?_);refine zs 9 47 #[.int .i64 0,.int .i64 x47,.bool false,.int .i64 t139,.string ((rd_T57 l1 (1:Int)).f3),.string (⟨#[]⟩:ByteArray),.string (⟨#[]⟩:ByteArray),.slice none 0 0] BKg11.out [.string ((rd_T57 l1 (1:Int)).f3)] (h:=?_);intro w182 hbk hg)
    refine zg ?_
    replace HF1:=zfg HF1.out hg fun k_ hk_=>hk_.2
    replace BKg1:=zbg BKg1.out hg NEg1_g11
    replace HB:=zhg HB.out hg (below_size HB.out) GEg11
    replace BKg11:=hbk
    clear hg hbk
    clear hx181_0 hx181_1 hx181_2 hx181_3 hx181_4 p181 q181
    replace cBKg1:=MB.lz8 BKg1.out
    replace cBKg11:=MB.lz8 BKg11.out
    replace HH:=zqno 2 HH
    obtain⟨HH,hk200,hk201,hk202,hk203⟩:=HH
    have p204:0≤(2:Int):=by decide
    have q204:(2:Int)<(l1.length:Int):=of_decide_eq_true (by first|(with_reducible assumption)|assumption)
    obtain⟨ad204,A204_4,c204_4,e204,hx204_0,hx204_1,hx204_2,hx204_3,hx204_4,hl204_4,hi204_4⟩:=atF_T57 HF1.out (2:Int) p204 q204
    cases e204
    (try simp only[show((2:Int)).toNat=2 from rfl,show 2*5=10 from rfl] at hx204_0)
    (try simp only[Nat.reduceMul,Nat.reduceEqDiff,Go.Addr.add,↓reduceIte] at hx204_0)
    (try simp only[show((2:Int)).toNat=2 from rfl,show 2*5=10 from rfl] at hx204_1)
    (try simp only[Nat.reduceMul,Nat.reduceEqDiff,Go.Addr.add,↓reduceIte] at hx204_1)
    (try simp only[show((2:Int)).toNat=2 from rfl,show 2*5=10 from rfl] at hx204_2)
    (try simp only[Nat.reduceMul,Nat.reduceEqDiff,Go.Addr.add,↓reduceIte] at hx204_2)
    (try simp only[show((2:Int)).toNat=2 from rfl,show 2*5=10 from rfl] at hx204_3)
    (try simp only[Nat.reduceMul,Nat.reduceEqDiff,Go.Addr.add,↓reduceIte] at hx204_3)
    (try simp only[show((2:Int)).toNat=2 from rfl,show 2*5=10 from rfl] at hx204_4)
    (try simp only[Nat.reduceMul,Nat.reduceEqDiff,Go.Addr.add,↓reduceIte] at hx204_4)
    clear hi204_4 hl204_4
    replace p204:=eq_true p204
    replace q204:=eq_true q204
    go_wp2_with ((with_reducible refine gs 9 52 rfl ?_);refine zs 9 52 #[.int .i64 0,.int .i64 x47,.bool false,.int .i64 t139,.string ((rd_T57 l1 (1:Int)).f3),.string ((rd_T57 l1 (2:Int)).f3),.string (⟨#[]⟩:ByteArray),.slice none 0 0] BKg11.out [.string ((rd_T57 l1 (2:Int)).f3)] (h:=?_);intro w205 hbk hg)
    refine zg ?_
    replace BKg1:=zbg BKg1.out hg NEg1_g11
    replace HB:=zhg HB.out hg (below_size HB.out) GEg11
    replace BKg11:=hbk
    clear hg hbk
    clear hx204_0 hx204_1 hx204_2 hx204_3 hx204_4 p204 q204
    replace cBKg1:=MB.lz8 BKg1.out
    replace cBKg11:=MB.lz8 BKg11.out
    replace HH:=zqe HH
    rcases HH with⟨HH,hk223,hk224⟩|⟨HH,hk242,hk243⟩
    ·go_wp2_with ((with_reducible refine gs 27 4 rfl ?_);refine zs 27 4 #[.int .i64 0,.int .i64 x47,.bool false,.int .i64 t139,.string ((rd_T57 l1 (1:Int)).f3),.string ((rd_T57 l1 (2:Int)).f3),.string (⟨#[]⟩:ByteArray),.slice none 0 0] BKg1.out [.int .i64 0,.int .i64 x47,.bool false,.int .i64 t139,.string ((rd_T57 l1 (1:Int)).f3),.string ((rd_T57 l1 (2:Int)).f3),.string (⟨#[]⟩:ByteArray),.slice none 0 0] (h:=?_);intro w225 hbk hg)
     refine zg ?_
     replace BKg11:=zbg BKg11.out hg NEg11_g1
     replace HB:=zhg HB.out hg (below_size HB.out) GEg1
     replace BKg1:=hbk
     clear hg hbk
     replace cBKg1:=MB.lz8 BKg1.out
     replace cBKg11:=MB.lz8 BKg11.out
     have H:=HH.out
     simp only[Option.some.injEq,Prod.mk.injEq] at H
     obtain⟨rfl,rfl,rfl,rfl,rfl,rfl,rfl,rfl,rfl⟩:=H
     clear HH
     go_wp2
     refine bodyPost_ret (results_ct rfl _ _ g1 27 #[.int .i64 0,.int .i64 x47,.bool false,.int .i64 t139,.string ((rd_T57 l1 (1:Int)).f3),.string ((rd_T57 l1 (2:Int)).f3),.string (⟨#[]⟩:ByteArray),.slice none 0 0] (0,0) _ rfl BKg1.out Try.underlying27 rfl (by kernel_rfl)) rfl ?_
     exact⟨_,by first|rfl|(simp;done)|(simp[*];done),(Kd.N_nil _ _ _ _ _),HB.out⟩
    exact absurd (show(l1.length:Int)=3 from shape_len At114.out) (by simpa using hk242)
   replace HH:=MW.hneg HH c132
   replace c132:=Bool.eq_false_iff.mpr c132
   subst c132
   replace HH:=zd HH
   obtain⟨t386,At387,HH⟩:=HH
   go_wp2_with ((with_reducible refine gc 30 rfl ?_);refine zc 30 (some 30) Try.func30 #[.slice A1 l1.length c1,.string (⟨#[101,116,116,120]⟩:ByteArray)] (h:=?_);(with_reducible refine(toponymref26_Shape.calls k48 (fun k_=>((P_ k_∨w.heap.size≤k_)∧k_≠g1)∧k_≠g11) _ _ l1 (⟨#[101,116,116,120]⟩:ByteArray) t386 _ HF1.out HL1.out At387.out).mono ?_);rintro e w388 ⟨rfl,hb⟩;refine⟨_,rfl,?_⟩)
   refine zg ?_
   replace HF1:=zfb HF1.out hb
   replace BKg1:=zbb BKg1.out hb
   replace BKg11:=zbb BKg11.out hb
   replace HB:=zhb HB.out hb
   clear hb
   replace cBKg1:=MB.lz8 BKg1.out
   replace cBKg11:=MB.lz8 BKg11.out
   by_cases c405:t386=true
   ·replace HH:=MW.hpos HH c405
    subst c405
    replace HH:=zqno 0 HH
    obtain⟨HH,hk407,hk408,hk409,hk410⟩:=HH
    have p411:0≤(0:Int):=by decide
    have q411:(0:Int)<(l1.length:Int):=of_decide_eq_true (by first|(with_reducible assumption)|assumption)
    obtain⟨ad411,A411_4,c411_4,e411,hx411_0,hx411_1,hx411_2,hx411_3,hx411_4,hl411_4,hi411_4⟩:=atF_T57 HF1.out (0:Int) p411 q411
    cases e411
    (try simp only[show((0:Int)).toNat=0 from rfl,show 0*5=0 from rfl] at hx411_0)
    (try rw[Addr.add_zero'] at hx411_0)
    (try simp only[show((0:Int)).toNat=0 from rfl,show 0*5=0 from rfl] at hx411_1)
    (try rw[Addr.add_zero'] at hx411_1)
    (try simp only[show((0:Int)).toNat=0 from rfl,show 0*5=0 from rfl] at hx411_2)
    (try rw[Addr.add_zero'] at hx411_2)
    (try simp only[show((0:Int)).toNat=0 from rfl,show 0*5=0 from rfl] at hx411_3)
    (try rw[Addr.add_zero'] at hx411_3)
    (try simp only[show((0:Int)).toNat=0 from rfl,show 0*5=0 from rfl] at hx411_4)
    (try rw[Addr.add_zero'] at hx411_4)
    have HF411_4:=za hi411_4
    have HL411_4:=za hl411_4
    clear hi411_4 hl411_4
    replace p411:=eq_true p411
    replace q411:=eq_true q411
    replace HH:=zd HH
    obtain⟨⟨t412,t413⟩,At414,HH⟩:=HH
    dsimp only at HH
    go_wp2_with ((with_reducible refine gc 33 rfl ?_);refine zc 33 (some 38) Try.func33 #[.agg #[.int .i64 ((rd_T57 l1 (0:Int)).f0),.bool ((rd_T57 l1 (0:Int)).f1),.int .i64 ((rd_T57 l1 (0:Int)).f2),.string ((rd_T57 l1 (0:Int)).f3),.slice A411_4 ((rd_T57 l1 (0:Int)).f4).length c411_4]] (h:=?_);(with_reducible refine(toponymref16_AsInt.calls k48 (fun k_=>((P_ k_∨w.heap.size≤k_)∧k_≠g1)∧k_≠g11) ((rd_T57 l1 (0:Int)).f0) ((rd_T57 l1 (0:Int)).f1) ((rd_T57 l1 (0:Int)).f2) ((rd_T57 l1 (0:Int)).f3) _ _ ((rd_T57 l1 (0:Int)).f4) t412 t413 _ HF411_4.out HL411_4.out At414.out).mono ?_);rintro e w415 ⟨rfl,hb⟩;refine⟨_,rfl,?_⟩)
    refine zg ?_
    replace HF1:=zfb HF1.out hb
    replace BKg1:=zbb BKg1.out hb
    replace BKg11:=zbb BKg11.out hb
    replace HB:=zhb HB.out hb
    clear hb
    clear hx411_0 hx411_1 hx411_2 hx411_3 hx411_4 p411 q411
    replace cBKg1:=MB.lz8 BKg1.out
    replace cBKg11:=MB.lz8 BKg11.out
    go_wp2_with ((with_reducible refine gs 3 42 rfl ?_);refine zs 3 42 #[.int .i64 0,.int .i64 x47,.bool false,.int .i64 t412,.string (⟨#[]⟩:ByteArray),.string (⟨#[]⟩:ByteArray),.string (⟨#[]⟩:ByteArray),.slice none 0 0] BKg11.out [.int .i64 t412] (h:=?_);intro w432 hbk hg)
    refine zg ?_
    replace HF1:=zfg HF1.out hg fun k_ hk_=>hk_.2
    replace BKg1:=zbg BKg1.out hg NEg1_g11
    replace HB:=zhg HB.out hg (below_size HB.out) GEg11
    replace BKg11:=hbk
    clear hg hbk
    replace cBKg1:=MB.lz8 BKg1.out
    replace cBKg11:=MB.lz8 BKg11.out
    replace HH:=zqno 1 HH
    obtain⟨HH,hk450,hk451,hk452,hk453⟩:=HH
    have p454:0≤(1:Int):=by decide
    have q454:(1:Int)<(l1.length:Int):=of_decide_eq_true (by first|(with_reducible assumption)|assumption)
    obtain⟨ad454,A454_4,c454_4,e454,hx454_0,hx454_1,hx454_2,hx454_3,hx454_4,hl454_4,hi454_4⟩:=atF_T57 HF1.out (1:Int) p454 q454
    cases e454
    (try simp only[show((1:Int)).toNat=1 from rfl,show 1*5=5 from rfl] at hx454_0)
    (try simp only[Nat.reduceMul,Nat.reduceEqDiff,Go.Addr.add,↓reduceIte] at hx454_0)
    (try simp only[show((1:Int)).toNat=1 from rfl,show 1*5=5 from rfl] at hx454_1)
    (try simp only[Nat.reduceMul,Nat.reduceEqDiff,Go.Addr.add,↓reduceIte] at hx454_1)
    (try simp only[show((1:Int)).toNat=1 from rfl,show 1*5=5 from rfl] at hx454_2)
    (try simp only[Nat.reduceMul,Nat.reduceEqDiff,Go.Addr.add,↓reduceIte] at hx454_2)
    (try simp only[show((1:Int)).toNat=1 from rfl,show 1*5=5 from rfl] at hx454_3)
    (try simp only[Nat.reduceMul,Nat.reduceEqDiff,Go.Addr.add,↓reduceIte] at hx454_3)
    (try simp only[show((1:Int)).toNat=1 from rfl,show 1*5=5 from rfl] at hx454_4)
    (try simp only[Nat.reduceMul,Nat.reduceEqDiff,Go.Addr.add,↓reduceIte] at hx454_4)
    clear hi454_4 hl454_4
    replace p454:=eq_true p454
    replace q454:=eq_true q454
    go_wp2_with ((with_reducible refine gs 9 47 rfl ?_);refine zs 9 47 #[.int .i64 0,.int .i64 x47,.bool false,.int .i64 t412,.string ((rd_T57 l1 (1:Int)).f3),.string (⟨#[]⟩:ByteArray),.string (⟨#[]⟩:ByteArray),.slice none 0 0] BKg11.out [.string ((rd_T57 l1 (1:Int)).f3)] (h:=?_);intro w455 hbk hg)
    refine zg ?_
    replace HF1:=zfg HF1.out hg fun k_ hk_=>hk_.2
    replace BKg1:=zbg BKg1.out hg NEg1_g11
    replace HB:=zhg HB.out hg (below_size HB.out) GEg11
    replace BKg11:=hbk
    clear hg hbk
    clear hx454_0 hx454_1 hx454_2 hx454_3 hx454_4 p454 q454
    replace cBKg1:=MB.lz8 BKg1.out
    replace cBKg11:=MB.lz8 BKg11.out
    replace HH:=zqno 2 HH
    obtain⟨HH,hk473,hk474,hk475,hk476⟩:=HH
    have p477:0≤(2:Int):=by decide
    have q477:(2:Int)<(l1.length:Int):=of_decide_eq_true (by first|(with_reducible assumption)|assumption)
    obtain⟨ad477,A477_4,c477_4,e477,hx477_0,hx477_1,hx477_2,hx477_3,hx477_4,hl477_4,hi477_4⟩:=atF_T57 HF1.out (2:Int) p477 q477
    cases e477
    (try simp only[show((2:Int)).toNat=2 from rfl,show 2*5=10 from rfl] at hx477_0)
    (try simp only[Nat.reduceMul,Nat.reduceEqDiff,Go.Addr.add,↓reduceIte] at hx477_0)
    (try simp only[show((2:Int)).toNat=2 from rfl,show 2*5=10 from rfl] at hx477_1)
    (try simp only[Nat.reduceMul,Nat.reduceEqDiff,Go.Addr.add,↓reduceIte] at hx477_1)
    (try simp only[show((2:Int)).toNat=2 from rfl,show 2*5=10 from rfl] at hx477_2)
    (try simp only[Nat.reduceMul,Nat.reduceEqDiff,Go.Addr.add,↓reduceIte] at hx477_2)
    (try simp only[show((2:Int)).toNat=2 from rfl,show 2*5=10 from rfl] at hx477_3)
    (try simp only[Nat.reduceMul,Nat.reduceEqDiff,Go.Addr.add,↓reduceIte] at hx477_3)
    (try simp only[show((2:Int)).toNat=2 from rfl,show 2*5=10 from rfl] at hx477_4)
    (try simp only[Nat.reduceMul,Nat.reduceEqDiff,Go.Addr.add,↓reduceIte] at hx477_4)
    clear hi477_4 hl477_4
    replace p477:=eq_true p477
    replace q477:=eq_true q477
    go_wp2_with ((with_reducible refine gs 9 52 rfl ?_);refine zs 9 52 #[.int .i64 0,.int .i64 x47,.bool false,.int .i64 t412,.string ((rd_T57 l1 (1:Int)).f3),.string ((rd_T57 l1 (2:Int)).f3),.string (⟨#[]⟩:ByteArray),.slice none 0 0] BKg11.out [.string ((rd_T57 l1 (2:Int)).f3)] (h:=?_);intro w478 hbk hg)
    refine zg ?_
    replace HF1:=zfg HF1.out hg fun k_ hk_=>hk_.2
    replace BKg1:=zbg BKg1.out hg NEg1_g11
    replace HB:=zhg HB.out hg (below_size HB.out) GEg11
    replace BKg11:=hbk
    clear hg hbk
    clear hx477_0 hx477_1 hx477_2 hx477_3 hx477_4 p477 q477
    replace cBKg1:=MB.lz8 BKg1.out
    replace cBKg11:=MB.lz8 BKg11.out
    replace HH:=zqe HH
    rcases HH with⟨HH,hk496,hk497⟩|⟨HH,hk515,hk516⟩
    ·go_wp2_with ((with_reducible refine gs 27 4 rfl ?_);refine zs 27 4 #[.int .i64 0,.int .i64 x47,.bool false,.int .i64 t412,.string ((rd_T57 l1 (1:Int)).f3),.string ((rd_T57 l1 (2:Int)).f3),.string (⟨#[]⟩:ByteArray),.slice none 0 0] BKg1.out [.int .i64 0,.int .i64 x47,.bool false,.int .i64 t412,.string ((rd_T57 l1 (1:Int)).f3),.string ((rd_T57 l1 (2:Int)).f3),.string (⟨#[]⟩:ByteArray),.slice none 0 0] (h:=?_);intro w498 hbk hg)
     refine zg ?_
     replace BKg11:=zbg BKg11.out hg NEg11_g1
     replace HB:=zhg HB.out hg (below_size HB.out) GEg1
     replace BKg1:=hbk
     clear hg hbk
     replace cBKg1:=MB.lz8 BKg1.out
     replace cBKg11:=MB.lz8 BKg11.out
     have H:=HH.out
     simp only[Option.some.injEq,Prod.mk.injEq] at H
     obtain⟨rfl,rfl,rfl,rfl,rfl,rfl,rfl,rfl,rfl⟩:=H
     clear HH
     go_wp2
     refine bodyPost_ret (results_ct rfl _ _ g1 27 #[.int .i64 0,.int .i64 x47,.bool false,.int .i64 t412,.string ((rd_T57 l1 (1:Int)).f3),.string ((rd_T57 l1 (2:Int)).f3),.string (⟨#[]⟩:ByteArray),.slice none 0 0] (0,0) _ rfl BKg1.out Try.underlying27 rfl (by kernel_rfl)) rfl ?_
     exact⟨_,by first|rfl|(simp;done)|(simp[*];done),(Kd.N_nil _ _ _ _ _),HB.out⟩
    replace HH:=zqno 3 HH
    obtain⟨HH,hk518,hk519,hk520,hk521⟩:=HH
    have p522:0≤(3:Int):=by decide
    have q522:(3:Int)<(l1.length:Int):=of_decide_eq_true (by first|(with_reducible assumption)|assumption)
    obtain⟨ad522,A522_4,c522_4,e522,hx522_0,hx522_1,hx522_2,hx522_3,hx522_4,hl522_4,hi522_4⟩:=atF_T57 HF1.out (3:Int) p522 q522
    cases e522
    (try simp only[show((3:Int)).toNat=3 from rfl,show 3*5=15 from rfl] at hx522_0)
    (try simp only[Nat.reduceMul,Nat.reduceEqDiff,Go.Addr.add,↓reduceIte] at hx522_0)
    (try simp only[show((3:Int)).toNat=3 from rfl,show 3*5=15 from rfl] at hx522_1)
    (try simp only[Nat.reduceMul,Nat.reduceEqDiff,Go.Addr.add,↓reduceIte] at hx522_1)
    (try simp only[show((3:Int)).toNat=3 from rfl,show 3*5=15 from rfl] at hx522_2)
    (try simp only[Nat.reduceMul,Nat.reduceEqDiff,Go.Addr.add,↓reduceIte] at hx522_2)
    (try simp only[show((3:Int)).toNat=3 from rfl,show 3*5=15 from rfl] at hx522_3)
    (try simp only[Nat.reduceMul,Nat.reduceEqDiff,Go.Addr.add,↓reduceIte] at hx522_3)
    (try simp only[show((3:Int)).toNat=3 from rfl,show 3*5=15 from rfl] at hx522_4)
    (try simp only[Nat.reduceMul,Nat.reduceEqDiff,Go.Addr.add,↓reduceIte] at hx522_4)
    clear hi522_4 hl522_4
    replace p522:=eq_true p522
    replace q522:=eq_true q522
    go_wp2_with ((with_reducible refine gs 9 61 rfl ?_);refine zs 9 61 #[.int .i64 0,.int .i64 x47,.bool false,.int .i64 t412,.string ((rd_T57 l1 (1:Int)).f3),.string ((rd_T57 l1 (2:Int)).f3),.string ((rd_T57 l1 (3:Int)).f3),.slice none 0 0] BKg11.out [.string ((rd_T57 l1 (3:Int)).f3)] (h:=?_);intro w523 hbk hg)
    refine zg ?_
    replace HF1:=zfg HF1.out hg fun k_ hk_=>hk_.2
    replace BKg1:=zbg BKg1.out hg NEg1_g11
    replace HB:=zhg HB.out hg (below_size HB.out) GEg11
    replace BKg11:=hbk
    clear hg hbk
    clear hx522_0 hx522_1 hx522_2 hx522_3 hx522_4 p522 q522
    replace cBKg1:=MB.lz8 BKg1.out
    replace cBKg11:=MB.lz8 BKg11.out
    go_wp2
    have hwr_:∀ n_:Int,IntKind.i64.wrap n_=wrap64 n_:=fun n_=>IntWalk.i64_left n_
    refine wp_region_any (by kernel_rfl) ?_
    change wpAny _ _ _ _ 27 #[false,false,false,false,false,false,false,false,false,false,false,false,false,false,false,false,false,false,false,false,false,false,false,false,false,false,false] _ w523.drew
    obtain⟨w540,hw_⟩:∃ w_:World,w_=w523.drew:=⟨_,rfl⟩
    rw[← hw_]
    have hb:Below w523.heap.size w523 w540:=by rw[hw_];exact below_drew1 (Below.refl _ _)
    clear hw_
    replace HF1:=zfb HF1.out hb
    replace BKg1:=zbb BKg1.out hb
    replace BKg11:=zbb BKg11.out hb
    replace HB:=zhb HB.out hb
    clear hb
    replace cBKg1:=MB.lz8 BKg1.out
    obtain⟨j8R,j8S,j8T,j8U,j8V,j8W,j8X,j8Y⟩:=MB.lz8 BKg11.out
    have p557:0≤(3:Int):=by decide
    have q557:(3:Int)<(l1.length:Int):=of_decide_eq_true (by first|(with_reducible assumption)|assumption)
    obtain⟨ad557,A557_4,c557_4,e557,hx557_0,hx557_1,hx557_2,hx557_3,hx557_4,hl557_4,hi557_4⟩:=atF_T57 HF1.out (3:Int) p557 q557
    cases e557
    (try simp only[show((3:Int)).toNat=3 from rfl,show 3*5=15 from rfl] at hx557_0)
    (try simp only[Nat.reduceMul,Nat.reduceEqDiff,Go.Addr.add,↓reduceIte] at hx557_0)
    (try simp only[show((3:Int)).toNat=3 from rfl,show 3*5=15 from rfl] at hx557_1)
    (try simp only[Nat.reduceMul,Nat.reduceEqDiff,Go.Addr.add,↓reduceIte] at hx557_1)
    (try simp only[show((3:Int)).toNat=3 from rfl,show 3*5=15 from rfl] at hx557_2)
    (try simp only[Nat.reduceMul,Nat.reduceEqDiff,Go.Addr.add,↓reduceIte] at hx557_2)
    (try simp only[show((3:Int)).toNat=3 from rfl,show 3*5=15 from rfl] at hx557_3)
    (try simp only[Nat.reduceMul,Nat.reduceEqDiff,Go.Addr.add,↓reduceIte] at hx557_3)
    (try simp only[show((3:Int)).toNat=3 from rfl,show 3*5=15 from rfl] at hx557_4)
    (try simp only[Nat.reduceMul,Nat.reduceEqDiff,Go.Addr.add,↓reduceIte] at hx557_4)
    clear hi557_4 hl557_4
    replace p557:=eq_true p557
    replace q557:=eq_true q557
    refine MW.last_in (ds:=[]) (zk j8R (zk j8S (zk j8T (zk j8U (zk j8V (zk j8W (zk j8X (zk j8Y (zk hx557_0 (zk (by first|exact hx557_1|(rw[hx557_1];simp[*];done)) (zk hx557_2 (zk hx557_3 z0)))))))))))) ?_
    refine zlp 1 (.slice (some ad411) l1.length c1) #[_,_,_,_,_,_,_,_,_,_,_,_,_,_,_,_,_,_,_,_,_,_,_,_,_,_,_] ⟨[_,_,_,_,_,_,_,_,_,_,_,_,_,_,_,_,_,_,_,_,_,_,_,_,_,_,_,_,_,_,_,_,_,_,_,_,_,_,_,_,_,_,_,_,_,_,_,_,_,_,_,_,_,_,_,_,_,_,_,_,_,_,_,_,_,_,_,_,_,_,_,_,_,_,_,_,_,_,_,_,_,_,_,_,_,_,_].toArray,[]⟩ (h:=?_)
    refine zlp 2 (.pointer (some (ad411.add (3*5)))) #[_,_,_,_,_,_,_,_,_,_,_,_,_,_,_,_,_,_,_,_,_,_,_,_,_,_,_] ⟨[_,_,_,_,_,_,_,_,_,_,_,_,_,_,_,_,_,_,_,_,_,_,_,_,_,_,_,_,_,_,_,_,_,_,_,_,_,_,_,_,_,_,_,_,_,_,_,_,_,_,_,_,_,_,_,_,_,_,_,_,_,_,_,_,_,_,_,_,_,_,_,_,_,_,_,_,_,_,_,_,_,_,_,_,_,_,_].toArray,[]⟩ (h:=?_)
    refine zlp 3 (.pointer (some (ad411.add (3*5)))) #[_,_,_,_,_,_,_,_,_,_,_,_,_,_,_,_,_,_,_,_,_,_,_,_,_,_,_] ⟨[_,_,_,_,_,_,_,_,_,_,_,_,_,_,_,_,_,_,_,_,_,_,_,_,_,_,_,_,_,_,_,_,_,_,_,_,_,_,_,_,_,_,_,_,_,_,_,_,_,_,_,_,_,_,_,_,_,_,_,_,_,_,_,_,_,_,_,_,_,_,_,_,_,_,_,_,_,_,_,_,_,_,_,_,_,_,_].toArray,[]⟩ (h:=?_)
    refine MW.last_take (i:=0) (v:=.agg #[.int .i64 0,.int .i64 x47,.bool false,.int .i64 t412,.string ((rd_T57 l1 (1:Int)).f3),.string ((rd_T57 l1 (2:Int)).f3),.string ((rd_T57 l1 (3:Int)).f3),.slice none 0 0]) (listed':= #[_,_,_,_,_,_,_,_,_,_,_,_,_,_,_,_,_,_,_,_,_,_,_,_,_,_,_]) (a':=⟨[_,_,_,_,_,_,_,_,_,_,_,_,_,_,_,_,_,_,_,_,_,_,_,_,_,_,_,_,_,_,_,_,_,_,_,_,_,_,_,_,_,_,_,_,_,_,_,_,_,_,_,_,_,_,_,_,_,_,_,_,_,_,_,_,_,_,_,_,_,_,_,_,_,_,_,_,_,_,_,_,_,_,_,_,_,_,_].toArray,[]⟩) rfl (by kernel_rfl) (by kernel_rfl) (by kernel_rfl) (by kernel_rfl) (by kernel_rfl) (fun _ _ _ h_=>h_) (by kernel_rfl) (fun w_ hS_=>?go) (zk j8R (zk j8S (zk j8T (zk j8U (zk j8V (zk j8W (zk j8X (zk j8Y (zk hx557_0 (zk (by first|exact hx557_1|(rw[hx557_1];simp[*];done)) (zk hx557_2 (zk hx557_3 z0)))))))))))) rfl rfl ?_
    case go=>obtain⟨hs0_,hs1_,hs2_,hs3_,hs4_,hs5_,hs6_,hs7_,_,_,_,_,_⟩:=hS_;first|(go_simp;done)|(go_simp;rfl)
    refine MW.last_take (i:=4) (v:=.int .i64 ((rd_T57 l1 (3:Int)).f0)) (listed':= #[_,_,_,_,_,_,_,_,_,_,_,_,_,_,_,_,_,_,_,_,_,_,_,_,_,_,_]) (a':=⟨[_,_,_,_,_,_,_,_,_,_,_,_,_,_,_,_,_,_,_,_,_,_,_,_,_,_,_,_,_,_,_,_,_,_,_,_,_,_,_,_,_,_,_,_,_,_,_,_,_,_,_,_,_,_,_,_,_,_,_,_,_,_,_,_,_,_,_,_,_,_,_,_,_,_,_,_,_,_,_,_,_,_,_,_,_,_,_].toArray,[]⟩) rfl (by kernel_rfl) (by kernel_rfl) (by kernel_rfl) (by kernel_rfl) (by kernel_rfl) (fun _ _ _ h_=>h_) (by kernel_rfl) (fun w_ hS_=>?go) (zk j8R (zk j8S (zk j8T (zk j8U (zk j8V (zk j8W (zk j8X (zk j8Y (zk hx557_0 (zk (by first|exact hx557_1|(rw[hx557_1];simp[*];done)) (zk hx557_2 (zk hx557_3 z0)))))))))))) rfl rfl ?_
    case go=>obtain⟨_,_,_,_,_,_,_,_,hs8_,_,_,_,_⟩:=hS_;first|(go_simp;done)|(go_simp;rfl)
    refine zlp 5 (.bool (((rd_T57 l1 (3:Int)).f0)==2)) #[_,_,_,_,_,_,_,_,_,_,_,_,_,_,_,_,_,_,_,_,_,_,_,_,_,_,_] ⟨[_,_,_,_,_,_,_,_,_,_,_,_,_,_,_,_,_,_,_,_,_,_,_,_,_,_,_,_,_,_,_,_,_,_,_,_,_,_,_,_,_,_,_,_,_,_,_,_,_,_,_,_,_,_,_,_,_,_,_,_,_,_,_,_,_,_,_,_,_,_,_,_,_,_,_,_,_,_,_,_,_,_,_,_,_,_,_].toArray,[]⟩ (h:=?_)
    refine zlp 6 (.bool (((rd_T57 l1 (3:Int)).f0)==2)) #[_,_,_,_,_,_,_,_,_,_,_,_,_,_,_,_,_,_,_,_,_,_,_,_,_,_,_] ⟨[_,_,_,_,_,_,_,_,_,_,_,_,_,_,_,_,_,_,_,_,_,_,_,_,_,_,_,_,_,_,_,_,_,_,_,_,_,_,_,_,_,_,_,_,_,_,_,_,_,_,_,_,_,_,_,_,_,_,_,_,_,_,_,_,_,_,_,_,_,_,_,_,_,_,_,_,_,_,_,_,_,_,_,_,_,_,_].toArray,[]⟩ (h:=?_)
    replace HH:=zqe HH
    rcases HH with⟨HH,hk559,hk560⟩|⟨HH,hk623,hk624⟩
    ·(try simp only[hk559,Bool.not_true,Bool.not_false])
     (try simp only[hk560,Bool.not_true,Bool.not_false])
     refine zlp 7 (.slice (some ad411) l1.length c1) #[_,_,_,_,_,_,_,_,_,_,_,_,_,_,_,_,_,_,_,_,_,_,_,_,_,_,_] ⟨[_,_,_,_,_,_,_,_,_,_,_,_,_,_,_,_,_,_,_,_,_,_,_,_,_,_,_,_,_,_,_,_,_,_,_,_,_,_,_,_,_,_,_,_,_,_,_,_,_,_,_,_,_,_,_,_,_,_,_,_,_,_,_,_,_,_,_,_,_,_,_,_,_,_,_,_,_,_,_,_,_,_,_,_,_,_,_].toArray,[]⟩ (h:=?_)
     refine zlp 8 (.pointer (some (ad411.add (3*5)))) #[_,_,_,_,_,_,_,_,_,_,_,_,_,_,_,_,_,_,_,_,_,_,_,_,_,_,_] ⟨[_,_,_,_,_,_,_,_,_,_,_,_,_,_,_,_,_,_,_,_,_,_,_,_,_,_,_,_,_,_,_,_,_,_,_,_,_,_,_,_,_,_,_,_,_,_,_,_,_,_,_,_,_,_,_,_,_,_,_,_,_,_,_,_,_,_,_,_,_,_,_,_,_,_,_,_,_,_,_,_,_,_,_,_,_,_,_].toArray,[]⟩ (h:=?_)
     refine zlp 9 (.pointer (some (ad411.add (3*5+2)))) #[_,_,_,_,_,_,_,_,_,_,_,_,_,_,_,_,_,_,_,_,_,_,_,_,_,_,_] ⟨[_,_,_,_,_,_,_,_,_,_,_,_,_,_,_,_,_,_,_,_,_,_,_,_,_,_,_,_,_,_,_,_,_,_,_,_,_,_,_,_,_,_,_,_,_,_,_,_,_,_,_,_,_,_,_,_,_,_,_,_,_,_,_,_,_,_,_,_,_,_,_,_,_,_,_,_,_,_,_,_,_,_,_,_,_,_,_].toArray,[]⟩ (h:=?_)
     refine MW.last_take (i:=10) (v:=.int .i64 ((rd_T57 l1 (3:Int)).f2)) (listed':= #[_,_,_,_,_,_,_,_,_,_,_,_,_,_,_,_,_,_,_,_,_,_,_,_,_,_,_]) (a':=⟨[_,_,_,_,_,_,_,_,_,_,_,_,_,_,_,_,_,_,_,_,_,_,_,_,_,_,_,_,_,_,_,_,_,_,_,_,_,_,_,_,_,_,_,_,_,_,_,_,_,_,_,_,_,_,_,_,_,_,_,_,_,_,_,_,_,_,_,_,_,_,_,_,_,_,_,_,_,_,_,_,_,_,_,_,_,_,_].toArray,[]⟩) rfl (by kernel_rfl) (by kernel_rfl) (by kernel_rfl) (by kernel_rfl) (by kernel_rfl) (fun _ _ _ h_=>h_) (by kernel_rfl) (fun w_ hS_=>?go) (zk j8R (zk j8S (zk j8T (zk j8U (zk j8V (zk j8W (zk j8X (zk j8Y (zk hx557_0 (zk (by first|exact hx557_1|(rw[hx557_1];simp[*];done)) (zk hx557_2 (zk hx557_3 z0)))))))))))) rfl rfl ?_
     case go=>obtain⟨_,_,_,_,_,_,_,_,_,_,hs10_,_,_⟩:=hS_;first|(go_simp;done)|(go_simp;rfl)
     refine zlp 11 (.bool (((rd_T57 l1 (3:Int)).f2)==10)) #[_,_,_,_,_,_,_,_,_,_,_,_,_,_,_,_,_,_,_,_,_,_,_,_,_,_,_] ⟨[_,_,_,_,_,_,_,_,_,_,_,_,_,_,_,_,_,_,_,_,_,_,_,_,_,_,_,_,_,_,_,_,_,_,_,_,_,_,_,_,_,_,_,_,_,_,_,_,_,_,_,_,_,_,_,_,_,_,_,_,_,_,_,_,_,_,_,_,_,_,_,_,_,_,_,_,_,_,_,_,_,_,_,_,_,_,_].toArray,[]⟩ (h:=?_)
     refine zlp 12 (.bool (((rd_T57 l1 (3:Int)).f2)==10)) #[_,_,_,_,_,_,_,_,_,_,_,_,_,_,_,_,_,_,_,_,_,_,_,_,_,_,_] ⟨[_,_,_,_,_,_,_,_,_,_,_,_,_,_,_,_,_,_,_,_,_,_,_,_,_,_,_,_,_,_,_,_,_,_,_,_,_,_,_,_,_,_,_,_,_,_,_,_,_,_,_,_,_,_,_,_,_,_,_,_,_,_,_,_,_,_,_,_,_,_,_,_,_,_,_,_,_,_,_,_,_,_,_,_,_,_,_].toArray,[]⟩ (h:=?_)
     refine zlp 13 (.bool (((rd_T57 l1 (3:Int)).f2)==10)) #[_,_,_,_,_,_,_,_,_,_,_,_,_,_,_,_,_,_,_,_,_,_,_,_,_,_,_] ⟨[_,_,_,_,_,_,_,_,_,_,_,_,_,_,_,_,_,_,_,_,_,_,_,_,_,_,_,_,_,_,_,_,_,_,_,_,_,_,_,_,_,_,_,_,_,_,_,_,_,_,_,_,_,_,_,_,_,_,_,_,_,_,_,_,_,_,_,_,_,_,_,_,_,_,_,_,_,_,_,_,_,_,_,_,_,_,_].toArray,[]⟩ (h:=?_)
     replace HH:=zqe HH
     rcases HH with⟨HH,hk562,hk563⟩|⟨HH,hk603,hk604⟩
     ·(try simp only[hk562,Bool.not_true,Bool.not_false])
      (try simp only[hk563,Bool.not_true,Bool.not_false])
      refine zlp 14 (.slice (some ad411) l1.length c1) #[_,_,_,_,_,_,_,_,_,_,_,_,_,_,_,_,_,_,_,_,_,_,_,_,_,_,_] ⟨[_,_,_,_,_,_,_,_,_,_,_,_,_,_,_,_,_,_,_,_,_,_,_,_,_,_,_,_,_,_,_,_,_,_,_,_,_,_,_,_,_,_,_,_,_,_,_,_,_,_,_,_,_,_,_,_,_,_,_,_,_,_,_,_,_,_,_,_,_,_,_,_,_,_,_,_,_,_,_,_,_,_,_,_,_,_,_].toArray,[]⟩ (h:=?_)
      refine zlp 15 (.pointer (some (ad411.add (3*5)))) #[_,_,_,_,_,_,_,_,_,_,_,_,_,_,_,_,_,_,_,_,_,_,_,_,_,_,_] ⟨[_,_,_,_,_,_,_,_,_,_,_,_,_,_,_,_,_,_,_,_,_,_,_,_,_,_,_,_,_,_,_,_,_,_,_,_,_,_,_,_,_,_,_,_,_,_,_,_,_,_,_,_,_,_,_,_,_,_,_,_,_,_,_,_,_,_,_,_,_,_,_,_,_,_,_,_,_,_,_,_,_,_,_,_,_,_,_].toArray,[]⟩ (h:=?_)
      refine zlp 16 (.pointer (some (ad411.add (3*5+1)))) #[_,_,_,_,_,_,_,_,_,_,_,_,_,_,_,_,_,_,_,_,_,_,_,_,_,_,_] ⟨[_,_,_,_,_,_,_,_,_,_,_,_,_,_,_,_,_,_,_,_,_,_,_,_,_,_,_,_,_,_,_,_,_,_,_,_,_,_,_,_,_,_,_,_,_,_,_,_,_,_,_,_,_,_,_,_,_,_,_,_,_,_,_,_,_,_,_,_,_,_,_,_,_,_,_,_,_,_,_,_,_,_,_,_,_,_,_].toArray,[]⟩ (h:=?_)
      refine MW.last_take (i:=17) (v:=.bool ((rd_T57 l1 (3:Int)).f1)) (listed':= #[_,_,_,_,_,_,_,_,_,_,_,_,_,_,_,_,_,_,_,_,_,_,_,_,_,_,_]) (a':=⟨[_,_,_,_,_,_,_,_,_,_,_,_,_,_,_,_,_,_,_,_,_,_,_,_,_,_,_,_,_,_,_,_,_,_,_,_,_,_,_,_,_,_,_,_,_,_,_,_,_,_,_,_,_,_,_,_,_,_,_,_,_,_,_,_,_,_,_,_,_,_,_,_,_,_,_,_,_,_,_,_,_,_,_,_,_,_,_].toArray,[]⟩) rfl (by kernel_rfl) (by kernel_rfl) (by kernel_rfl) (by kernel_rfl) (by kernel_rfl) (fun _ _ _ h_=>h_) (by kernel_rfl) (fun w_ hS_=>?go) (zk j8R (zk j8S (zk j8T (zk j8U (zk j8V (zk j8W (zk j8X (zk j8Y (zk hx557_0 (zk (by first|exact hx557_1|(rw[hx557_1];simp[*];done)) (zk hx557_2 (zk hx557_3 z0)))))))))))) rfl rfl ?_
      case go=>obtain⟨_,_,_,_,_,_,_,_,_,hs9_,_,_,_⟩:=hS_;first|(go_simp;done)|(go_simp;rfl)
      refine zlp 18 (.bool (!((rd_T57 l1 (3:Int)).f1))) #[_,_,_,_,_,_,_,_,_,_,_,_,_,_,_,_,_,_,_,_,_,_,_,_,_,_,_] ⟨[_,_,_,_,_,_,_,_,_,_,_,_,_,_,_,_,_,_,_,_,_,_,_,_,_,_,_,_,_,_,_,_,_,_,_,_,_,_,_,_,_,_,_,_,_,_,_,_,_,_,_,_,_,_,_,_,_,_,_,_,_,_,_,_,_,_,_,_,_,_,_,_,_,_,_,_,_,_,_,_,_,_,_,_,_,_,_].toArray,[]⟩ (h:=?_)
      refine zlp 19 (.bool (!((rd_T57 l1 (3:Int)).f1))) #[_,_,_,_,_,_,_,_,_,_,_,_,_,_,_,_,_,_,_,_,_,_,_,_,_,_,_] ⟨[_,_,_,_,_,_,_,_,_,_,_,_,_,_,_,_,_,_,_,_,_,_,_,_,_,_,_,_,_,_,_,_,_,_,_,_,_,_,_,_,_,_,_,_,_,_,_,_,_,_,_,_,_,_,_,_,_,_,_,_,_,_,_,_,_,_,_,_,_,_,_,_,_,_,_,_,_,_,_,_,_,_,_,_,_,_,_].toArray,[]⟩ (h:=?_)
      refine zlp 20 (.bool (!((rd_T57 l1 (3:Int)).f1))) #[_,_,_,_,_,_,_,_,_,_,_,_,_,_,_,_,_,_,_,_,_,_,_,_,_,_,_] ⟨[_,_,_,_,_,_,_,_,_,_,_,_,_,_,_,_,_,_,_,_,_,_,_,_,_,_,_,_,_,_,_,_,_,_,_,_,_,_,_,_,_,_,_,_,_,_,_,_,_,_,_,_,_,_,_,_,_,_,_,_,_,_,_,_,_,_,_,_,_,_,_,_,_,_,_,_,_,_,_,_,_,_,_,_,_,_,_].toArray,[]⟩ (h:=?_)
      by_cases c564:(rd_T57 l1 (3:Int)).f1=true
      ·replace HH:=MW.hpos HH c564
       have hk565:(rd_T57 l1 (3:Int)).f1=true:=c564
       (try simp only[hk565,Bool.not_true,Bool.not_false])
       clear c564
       refine zlu 21 #[_,_,_,_,_,_,_,_,_,_,_,_,_,_,_,_,_,_,_,_,_,_,_,_,_,_,_] (h:=?_)
       refine zlu 22 #[_,_,_,_,_,_,_,_,_,_,_,_,_,_,_,_,_,_,_,_,_,_,_,_,_,_,_] (h:=?_)
       refine zlu 23 #[_,_,_,_,_,_,_,_,_,_,_,_,_,_,_,_,_,_,_,_,_,_,_,_,_,_,_] (h:=?_)
       refine zlp 24 (.bool false) #[_,_,_,_,_,_,_,_,_,_,_,_,_,_,_,_,_,_,_,_,_,_,_,_,_,_,_] ⟨[_,_,_,_,_,_,_,_,_,_,_,_,_,_,_,_,_,_,_,_,_,_,_,_,_,_,_,_,_,_,_,_,_,_,_,_,_,_,_,_,_,_,_,_,_,_,_,_,_,_,_,_,_,_,_,_,_,_,_,_,_,_,_,_,_,_,_,_,_,_,_,_,_,_,_,_,_,_,_,_,_,_,_,_,_,_,_].toArray,[]⟩ (h:=?_)
       refine MW.last_act (i:=25) (listed':= #[true,true,true,true,true,true,true,true,true,true,true,true,true,true,true,true,true,true,true,true,true,true,true,true,true,true,false]) rfl (by kernel_rfl) (by kernel_rfl) (by decide) ?_
       go_wp2_with ((with_reducible refine gs 27 4 rfl ?_);refine zs 27 4 #[.int .i64 0,.int .i64 x47,.bool false,.int .i64 t412,.string ((rd_T57 l1 (1:Int)).f3),.string ((rd_T57 l1 (2:Int)).f3),.string ((rd_T57 l1 (3:Int)).f3),.slice none 0 0] BKg1.out [.int .i64 0,.int .i64 x47,.bool false,.int .i64 t412,.string ((rd_T57 l1 (1:Int)).f3),.string ((rd_T57 l1 (2:Int)).f3),.string ((rd_T57 l1 (3:Int)).f3),.slice none 0 0] (h:=?_);intro w566 hbk hg)
       refine zg ?_
       replace HF1:=zfg HF1.out hg fun k_ hk_=>hk_.1.2
       replace BKg11:=zbg BKg11.out hg NEg11_g1
       replace HB:=zhg HB.out hg (below_size HB.out) GEg1
       replace BKg1:=hbk
       clear hg hbk
       clear j8R j8S j8T j8U j8V j8W j8X j8Y hx557_0 hx557_1 hx557_2 hx557_3 hx557_4 p557 q557
       replace cBKg1:=MB.lz8 BKg1.out
       obtain⟨j9h,j9i,j9j,j9k,j9l,j9m,j9n,j9o⟩:=MB.lz8 BKg11.out
       have p583:0≤(3:Int):=by decide
       have q583:(3:Int)<(l1.length:Int):=of_decide_eq_true (by first|(with_reducible assumption)|assumption)
       obtain⟨ad583,A583_4,c583_4,e583,hx583_0,hx583_1,hx583_2,hx583_3,hx583_4,hl583_4,hi583_4⟩:=atF_T57 HF1.out (3:Int) p583 q583
       cases e583
       (try simp only[show((3:Int)).toNat=3 from rfl,show 3*5=15 from rfl] at hx583_0)
       (try simp only[Nat.reduceMul,Nat.reduceEqDiff,Go.Addr.add,↓reduceIte] at hx583_0)
       (try simp only[show((3:Int)).toNat=3 from rfl,show 3*5=15 from rfl] at hx583_1)
       (try simp only[Nat.reduceMul,Nat.reduceEqDiff,Go.Addr.add,↓reduceIte] at hx583_1)
       (try simp only[show((3:Int)).toNat=3 from rfl,show 3*5=15 from rfl] at hx583_2)
       (try simp only[Nat.reduceMul,Nat.reduceEqDiff,Go.Addr.add,↓reduceIte] at hx583_2)
       (try simp only[show((3:Int)).toNat=3 from rfl,show 3*5=15 from rfl] at hx583_3)
       (try simp only[Nat.reduceMul,Nat.reduceEqDiff,Go.Addr.add,↓reduceIte] at hx583_3)
       (try simp only[show((3:Int)).toNat=3 from rfl,show 3*5=15 from rfl] at hx583_4)
       (try simp only[Nat.reduceMul,Nat.reduceEqDiff,Go.Addr.add,↓reduceIte] at hx583_4)
       clear hi583_4 hl583_4
       replace p583:=eq_true p583
       replace q583:=eq_true q583
       refine wpList_nil ?_
       change MW.Cells _ _∧wpAnyLast _ _ _ _ _ _ 1 #[true,true,true,true,true,true,true,true,true,true,true,true,true,true,true,true,true,true,true,true,true,true,true,true,true,true,false] ⟨[_,_,_,_,_,_,_,_,_,_,_,_,_,_,_,_,_,_,_,_,_,_,_,_,_,_,_,_,_,_,_,_,_,_,_,_,_,_,_,_,_,_,_,_,_,_,_,_,_,_,_,_,_,_,_,_,_,_,_,_,_,_,_,_,_,_,_,_,_,_,_,_,_,_,_,_,_,_,_,_,_,_,_,_,_,_,_].toArray,[]⟩ _
       refine⟨(zk j9h (zk j9i (zk j9j (zk j9k (zk j9l (zk j9m (zk j9n (zk j9o (zk hx583_0 (zk (by first|exact hx583_1|(rw[hx583_1];simp[*];done)) (zk hx583_2 (zk hx583_3 z0)))))))))))),?_⟩
       refine zlp 26 (.bool false) #[_,_,_,_,_,_,_,_,_,_,_,_,_,_,_,_,_,_,_,_,_,_,_,_,_,_,_] ⟨[_,_,_,_,_,_,_,_,_,_,_,_,_,_,_,_,_,_,_,_,_,_,_,_,_,_,_,_,_,_,_,_,_,_,_,_,_,_,_,_,_,_,_,_,_,_,_,_,_,_,_,_,_,_,_,_,_,_,_,_,_,_,_,_,_,_,_,_,_,_,_,_,_,_,_,_,_,_,_,_,_,_,_,_,_,_,_].toArray,[]⟩ (h:=?_)
       refine MW.last_done (by kernel_rfl) ?_ _
       clear hwr_
       have H:=HH.out
       simp only[Option.some.injEq,Prod.mk.injEq] at H
       obtain⟨rfl,rfl,rfl,rfl,rfl,rfl,rfl,rfl,rfl⟩:=H
       clear HH
       go_wp2
       refine bodyPost_ret (results_ct rfl _ _ g1 27 #[.int .i64 0,.int .i64 x47,.bool false,.int .i64 t412,.string ((rd_T57 l1 (1:Int)).f3),.string ((rd_T57 l1 (2:Int)).f3),.string ((rd_T57 l1 (3:Int)).f3),.slice none 0 0] (0,0) _ rfl BKg1.out Try.underlying27 rfl (by kernel_rfl)) rfl ?_
       exact⟨_,by first|rfl|(simp;done)|(simp[*];done),(Kd.N_nil _ _ _ _ _),HB.out⟩
      replace HH:=MW.hneg HH c564
      have hk584:(rd_T57 l1 (3:Int)).f1=false:=by simpa using c564
      (try simp only[hk584,Bool.not_true,Bool.not_false])
      clear c564
      refine zlp 21 (.pointer (some ⟨g11,6,none⟩)) #[_,_,_,_,_,_,_,_,_,_,_,_,_,_,_,_,_,_,_,_,_,_,_,_,_,_,_] ⟨[_,_,_,_,_,_,_,_,_,_,_,_,_,_,_,_,_,_,_,_,_,_,_,_,_,_,_,_,_,_,_,_,_,_,_,_,_,_,_,_,_,_,_,_,_,_,_,_,_,_,_,_,_,_,_,_,_,_,_,_,_,_,_,_,_,_,_,_,_,_,_,_,_,_,_,_,_,_,_,_,_,_,_,_,_,_,_].toArray,[]⟩ (h:=?_)
      refine MW.last_take (i:=22) (v:=.string ((rd_T57 l1 (3:Int)).f3)) (listed':= #[_,_,_,_,_,_,_,_,_,_,_,_,_,_,_,_,_,_,_,_,_,_,_,_,_,_,_]) (a':=⟨[_,_,_,_,_,_,_,_,_,_,_,_,_,_,_,_,_,_,_,_,_,_,_,_,_,_,_,_,_,_,_,_,_,_,_,_,_,_,_,_,_,_,_,_,_,_,_,_,_,_,_,_,_,_,_,_,_,_,_,_,_,_,_,_,_,_,_,_,_,_,_,_,_,_,_,_,_,_,_,_,_,_,_,_,_,_,_].toArray,[]⟩) rfl (by kernel_rfl) (by kernel_rfl) (by kernel_rfl) (by kernel_rfl) (by kernel_rfl) (fun _ _ _ h_=>h_) (by kernel_rfl) (fun w_ hS_=>?go) (zk j8R (zk j8S (zk j8T (zk j8U (zk j8V (zk j8W (zk j8X (zk j8Y (zk hx557_0 (zk (by first|exact hx557_1|(rw[hx557_1];simp[*];done)) (zk hx557_2 (zk hx557_3 z0)))))))))))) rfl rfl ?_
      case go=>obtain⟨_,_,_,_,_,_,hs6_,_,_,_,_,_,_⟩:=hS_;first|(go_simp;done)|(go_simp;rfl)
      refine zlp 23 (.bool (((rd_T57 l1 (3:Int)).f3).toList != ([]:List UInt8))) #[_,_,_,_,_,_,_,_,_,_,_,_,_,_,_,_,_,_,_,_,_,_,_,_,_,_,_] ⟨[_,_,_,_,_,_,_,_,_,_,_,_,_,_,_,_,_,_,_,_,_,_,_,_,_,_,_,_,_,_,_,_,_,_,_,_,_,_,_,_,_,_,_,_,_,_,_,_,_,_,_,_,_,_,_,_,_,_,_,_,_,_,_,_,_,_,_,_,_,_,_,_,_,_,_,_,_,_,_,_,_,_,_,_,_,_,_].toArray,[]⟩ (h:=?_)
      refine zlp 24 (.bool (((rd_T57 l1 (3:Int)).f3).toList != ([]:List UInt8))) #[_,_,_,_,_,_,_,_,_,_,_,_,_,_,_,_,_,_,_,_,_,_,_,_,_,_,_] ⟨[_,_,_,_,_,_,_,_,_,_,_,_,_,_,_,_,_,_,_,_,_,_,_,_,_,_,_,_,_,_,_,_,_,_,_,_,_,_,_,_,_,_,_,_,_,_,_,_,_,_,_,_,_,_,_,_,_,_,_,_,_,_,_,_,_,_,_,_,_,_,_,_,_,_,_,_,_,_,_,_,_,_,_,_,_,_,_].toArray,[]⟩ (h:=?_)
      refine MW.last_act (i:=25) (listed':= #[true,true,true,true,true,true,true,true,true,true,true,true,true,true,true,true,true,true,true,true,true,true,true,true,true,true,false]) rfl (by kernel_rfl) (by kernel_rfl) (by decide) ?_
      go_wp2_with ((with_reducible refine gs 27 4 rfl ?_);refine zs 27 4 #[.int .i64 0,.int .i64 x47,.bool false,.int .i64 t412,.string ((rd_T57 l1 (1:Int)).f3),.string ((rd_T57 l1 (2:Int)).f3),.string ((rd_T57 l1 (3:Int)).f3),.slice none 0 0] BKg1.out [.int .i64 0,.int .i64 x47,.bool false,.int .i64 t412,.string ((rd_T57 l1 (1:Int)).f3),.string ((rd_T57 l1 (2:Int)).f3),.string ((rd_T57 l1 (3:Int)).f3),.slice none 0 0] (h:=?_);intro w585 hbk hg)
      refine zg ?_
      replace HF1:=zfg HF1.out hg fun k_ hk_=>hk_.1.2
      replace BKg11:=zbg BKg11.out hg NEg11_g1
      replace HB:=zhg HB.out hg (below_size HB.out) GEg1
      replace BKg1:=hbk
      clear hg hbk
      clear j8R j8S j8T j8U j8V j8W j8X j8Y hx557_0 hx557_1 hx557_2 hx557_3 hx557_4 p557 q557
      replace cBKg1:=MB.lz8 BKg1.out
      obtain⟨j9A,j9B,j9C,j9D,j9E,j9F,j9G,j9H⟩:=MB.lz8 BKg11.out
      have p602:0≤(3:Int):=by decide
      have q602:(3:Int)<(l1.length:Int):=of_decide_eq_true (by first|(with_reducible assumption)|assumption)
      obtain⟨ad602,A602_4,c602_4,e602,hx602_0,hx602_1,hx602_2,hx602_3,hx602_4,hl602_4,hi602_4⟩:=atF_T57 HF1.out (3:Int) p602 q602
      cases e602
      (try simp only[show((3:Int)).toNat=3 from rfl,show 3*5=15 from rfl] at hx602_0)
      (try simp only[Nat.reduceMul,Nat.reduceEqDiff,Go.Addr.add,↓reduceIte] at hx602_0)
      (try simp only[show((3:Int)).toNat=3 from rfl,show 3*5=15 from rfl] at hx602_1)
      (try simp only[Nat.reduceMul,Nat.reduceEqDiff,Go.Addr.add,↓reduceIte] at hx602_1)
      (try simp only[show((3:Int)).toNat=3 from rfl,show 3*5=15 from rfl] at hx602_2)
      (try simp only[Nat.reduceMul,Nat.reduceEqDiff,Go.Addr.add,↓reduceIte] at hx602_2)
      (try simp only[show((3:Int)).toNat=3 from rfl,show 3*5=15 from rfl] at hx602_3)
      (try simp only[Nat.reduceMul,Nat.reduceEqDiff,Go.Addr.add,↓reduceIte] at hx602_3)
      (try simp only[show((3:Int)).toNat=3 from rfl,show 3*5=15 from rfl] at hx602_4)
      (try simp only[Nat.reduceMul,Nat.reduceEqDiff,Go.Addr.add,↓reduceIte] at hx602_4)
      clear hi602_4 hl602_4
      replace p602:=eq_true p602
      replace q602:=eq_true q602
      refine wpList_nil ?_
      change MW.Cells _ _∧wpAnyLast _ _ _ _ _ _ 1 #[true,true,true,true,true,true,true,true,true,true,true,true,true,true,true,true,true,true,true,true,true,true,true,true,true,true,false] ⟨[_,_,_,_,_,_,_,_,_,_,_,_,_,_,_,_,_,_,_,_,_,_,_,_,_,_,_,_,_,_,_,_,_,_,_,_,_,_,_,_,_,_,_,_,_,_,_,_,_,_,_,_,_,_,_,_,_,_,_,_,_,_,_,_,_,_,_,_,_,_,_,_,_,_,_,_,_,_,_,_,_,_,_,_,_,_,_].toArray,[]⟩ _
      refine⟨(zk j9A (zk j9B (zk j9C (zk j9D (zk j9E (zk j9F (zk j9G (zk j9H (zk hx602_0 (zk (by first|exact hx602_1|(rw[hx602_1];simp[*];done)) (zk hx602_2 (zk hx602_3 z0)))))))))))),?_⟩
      refine zlp 26 (.bool (((rd_T57 l1 (3:Int)).f3).toList != ([]:List UInt8))) #[_,_,_,_,_,_,_,_,_,_,_,_,_,_,_,_,_,_,_,_,_,_,_,_,_,_,_] ⟨[_,_,_,_,_,_,_,_,_,_,_,_,_,_,_,_,_,_,_,_,_,_,_,_,_,_,_,_,_,_,_,_,_,_,_,_,_,_,_,_,_,_,_,_,_,_,_,_,_,_,_,_,_,_,_,_,_,_,_,_,_,_,_,_,_,_,_,_,_,_,_,_,_,_,_,_,_,_,_,_,_,_,_,_,_,_,_].toArray,[]⟩ (h:=?_)
      refine MW.last_done (by kernel_rfl) ?_ _
      clear hwr_
      have H:=HH.out
      simp only[Option.some.injEq,Prod.mk.injEq] at H
      obtain⟨rfl,rfl,rfl,rfl,rfl,rfl,rfl,rfl,rfl⟩:=H
      clear HH
      go_wp2
      refine bodyPost_ret (results_ct rfl _ _ g1 27 #[.int .i64 0,.int .i64 x47,.bool false,.int .i64 t412,.string ((rd_T57 l1 (1:Int)).f3),.string ((rd_T57 l1 (2:Int)).f3),.string ((rd_T57 l1 (3:Int)).f3),.slice none 0 0] (0,0) _ rfl BKg1.out Try.underlying27 rfl (by kernel_rfl)) rfl ?_
      exact⟨_,by first|rfl|(simp;done)|(simp[*];done),(Kd.N_nil _ _ _ _ _),HB.out⟩
     (try simp only[hk603,Bool.not_true,Bool.not_false])
     (try simp only[hk604,Bool.not_true,Bool.not_false])
     refine zlu 14 #[_,_,_,_,_,_,_,_,_,_,_,_,_,_,_,_,_,_,_,_,_,_,_,_,_,_,_] (h:=?_)
     refine zlu 15 #[_,_,_,_,_,_,_,_,_,_,_,_,_,_,_,_,_,_,_,_,_,_,_,_,_,_,_] (h:=?_)
     refine zlu 16 #[_,_,_,_,_,_,_,_,_,_,_,_,_,_,_,_,_,_,_,_,_,_,_,_,_,_,_] (h:=?_)
     refine zlu 17 #[_,_,_,_,_,_,_,_,_,_,_,_,_,_,_,_,_,_,_,_,_,_,_,_,_,_,_] (h:=?_)
     refine zlu 18 #[_,_,_,_,_,_,_,_,_,_,_,_,_,_,_,_,_,_,_,_,_,_,_,_,_,_,_] (h:=?_)
     refine zlp 19 (.bool false) #[_,_,_,_,_,_,_,_,_,_,_,_,_,_,_,_,_,_,_,_,_,_,_,_,_,_,_] ⟨[_,_,_,_,_,_,_,_,_,_,_,_,_,_,_,_,_,_,_,_,_,_,_,_,_,_,_,_,_,_,_,_,_,_,_,_,_,_,_,_,_,_,_,_,_,_,_,_,_,_,_,_,_,_,_,_,_,_,_,_,_,_,_,_,_,_,_,_,_,_,_,_,_,_,_,_,_,_,_,_,_,_,_,_,_,_,_].toArray,[]⟩ (h:=?_)
     refine zlp 20 (.bool false) #[_,_,_,_,_,_,_,_,_,_,_,_,_,_,_,_,_,_,_,_,_,_,_,_,_,_,_] ⟨[_,_,_,_,_,_,_,_,_,_,_,_,_,_,_,_,_,_,_,_,_,_,_,_,_,_,_,_,_,_,_,_,_,_,_,_,_,_,_,_,_,_,_,_,_,_,_,_,_,_,_,_,_,_,_,_,_,_,_,_,_,_,_,_,_,_,_,_,_,_,_,_,_,_,_,_,_,_,_,_,_,_,_,_,_,_,_].toArray,[]⟩ (h:=?_)
     refine zlu 21 #[_,_,_,_,_,_,_,_,_,_,_,_,_,_,_,_,_,_,_,_,_,_,_,_,_,_,_] (h:=?_)
     refine zlu 22 #[_,_,_,_,_,_,_,_,_,_,_,_,_,_,_,_,_,_,_,_,_,_,_,_,_,_,_] (h:=?_)
     refine zlu 23 #[_,_,_,_,_,_,_,_,_,_,_,_,_,_,_,_,_,_,_,_,_,_,_,_,_,_,_] (h:=?_)
     refine zlp 24 (.bool false) #[_,_,_,_,_,_,_,_,_,_,_,_,_,_,_,_,_,_,_,_,_,_,_,_,_,_,_] ⟨[_,_,_,_,_,_,_,_,_,_,_,_,_,_,_,_,_,_,_,_,_,_,_,_,_,_,_,_,_,_,_,_,_,_,_,_,_,_,_,_,_,_,_,_,_,_,_,_,_,_,_,_,_,_,_,_,_,_,_,_,_,_,_,_,_,_,_,_,_,_,_,_,_,_,_,_,_,_,_,_,_,_,_,_,_,_,_].toArray,[]⟩ (h:=?_)
     refine MW.last_act (i:=25) (listed':= #[true,true,true,true,true,true,true,true,true,true,true,true,true,true,true,true,true,true,true,true,true,true,true,true,true,true,false]) rfl (by kernel_rfl) (by kernel_rfl) (by decide) ?_
     go_wp2_with ((with_reducible refine gs 27 4 rfl ?_);refine zs 27 4 #[.int .i64 0,.int .i64 x47,.bool false,.int .i64 t412,.string ((rd_T57 l1 (1:Int)).f3),.string ((rd_T57 l1 (2:Int)).f3),.string ((rd_T57 l1 (3:Int)).f3),.slice none 0 0] BKg1.out [.int .i64 0,.int .i64 x47,.bool false,.int .i64 t412,.string ((rd_T57 l1 (1:Int)).f3),.string ((rd_T57 l1 (2:Int)).f3),.string ((rd_T57 l1 (3:Int)).f3),.slice none 0 0] (h:=?_);intro w605 hbk hg)
     refine zg ?_
     replace HF1:=zfg HF1.out hg fun k_ hk_=>hk_.1.2
     replace BKg11:=zbg BKg11.out hg NEg11_g1
     replace HB:=zhg HB.out hg (below_size HB.out) GEg1
     replace BKg1:=hbk
     clear hg hbk
     clear j8R j8S j8T j8U j8V j8W j8X j8Y hx557_0 hx557_1 hx557_2 hx557_3 hx557_4 p557 q557
     replace cBKg1:=MB.lz8 BKg1.out
     obtain⟨j9U,j9V,j9W,j9X,j9Y,j9Z,ja0,ja1⟩:=MB.lz8 BKg11.out
     have p622:0≤(3:Int):=by decide
     have q622:(3:Int)<(l1.length:Int):=of_decide_eq_true (by first|(with_reducible assumption)|assumption)
     obtain⟨ad622,A622_4,c622_4,e622,hx622_0,hx622_1,hx622_2,hx622_3,hx622_4,hl622_4,hi622_4⟩:=atF_T57 HF1.out (3:Int) p622 q622
     cases e622
     (try simp only[show((3:Int)).toNat=3 from rfl,show 3*5=15 from rfl] at hx622_0)
     (try simp only[Nat.reduceMul,Nat.reduceEqDiff,Go.Addr.add,↓reduceIte] at hx622_0)
     (try simp only[show((3:Int)).toNat=3 from rfl,show 3*5=15 from rfl] at hx622_1)
     (try simp only[Nat.reduceMul,Nat.reduceEqDiff,Go.Addr.add,↓reduceIte] at hx622_1)
     (try simp only[show((3:Int)).toNat=3 from rfl,show 3*5=15 from rfl] at hx622_2)
     (try simp only[Nat.reduceMul,Nat.reduceEqDiff,Go.Addr.add,↓reduceIte] at hx622_2)
     (try simp only[show((3:Int)).toNat=3 from rfl,show 3*5=15 from rfl] at hx622_3)
     (try simp only[Nat.reduceMul,Nat.reduceEqDiff,Go.Addr.add,↓reduceIte] at hx622_3)
     (try simp only[show((3:Int)).toNat=3 from rfl,show 3*5=15 from rfl] at hx622_4)
     (try simp only[Nat.reduceMul,Nat.reduceEqDiff,Go.Addr.add,↓reduceIte] at hx622_4)
     clear hi622_4 hl622_4
     replace p622:=eq_true p622
     replace q622:=eq_true q622
     refine wpList_nil ?_
     change MW.Cells _ _∧wpAnyLast _ _ _ _ _ _ 1 #[true,true,true,true,true,true,true,true,true,true,true,true,true,true,true,true,true,true,true,true,true,true,true,true,true,true,false] ⟨[_,_,_,_,_,_,_,_,_,_,_,_,_,_,_,_,_,_,_,_,_,_,_,_,_,_,_,_,_,_,_,_,_,_,_,_,_,_,_,_,_,_,_,_,_,_,_,_,_,_,_,_,_,_,_,_,_,_,_,_,_,_,_,_,_,_,_,_,_,_,_,_,_,_,_,_,_,_,_,_,_,_,_,_,_,_,_].toArray,[]⟩ _
     refine⟨(zk j9U (zk j9V (zk j9W (zk j9X (zk j9Y (zk j9Z (zk ja0 (zk ja1 (zk hx622_0 (zk (by first|exact hx622_1|(rw[hx622_1];simp[*];done)) (zk hx622_2 (zk hx622_3 z0)))))))))))),?_⟩
     refine zlp 26 (.bool false) #[_,_,_,_,_,_,_,_,_,_,_,_,_,_,_,_,_,_,_,_,_,_,_,_,_,_,_] ⟨[_,_,_,_,_,_,_,_,_,_,_,_,_,_,_,_,_,_,_,_,_,_,_,_,_,_,_,_,_,_,_,_,_,_,_,_,_,_,_,_,_,_,_,_,_,_,_,_,_,_,_,_,_,_,_,_,_,_,_,_,_,_,_,_,_,_,_,_,_,_,_,_,_,_,_,_,_,_,_,_,_,_,_,_,_,_,_].toArray,[]⟩ (h:=?_)
     refine MW.last_done (by kernel_rfl) ?_ _
     clear hwr_
     have H:=HH.out
     simp only[Option.some.injEq,Prod.mk.injEq] at H
     obtain⟨rfl,rfl,rfl,rfl,rfl,rfl,rfl,rfl,rfl⟩:=H
     clear HH
     go_wp2
     refine bodyPost_ret (results_ct rfl _ _ g1 27 #[.int .i64 0,.int .i64 x47,.bool false,.int .i64 t412,.string ((rd_T57 l1 (1:Int)).f3),.string ((rd_T57 l1 (2:Int)).f3),.string ((rd_T57 l1 (3:Int)).f3),.slice none 0 0] (0,0) _ rfl BKg1.out Try.underlying27 rfl (by kernel_rfl)) rfl ?_
     exact⟨_,by first|rfl|(simp;done)|(simp[*];done),(Kd.N_nil _ _ _ _ _),HB.out⟩
    (try simp only[hk623,Bool.not_true,Bool.not_false])
    (try simp only[hk624,Bool.not_true,Bool.not_false])
    refine zlu 7 #[_,_,_,_,_,_,_,_,_,_,_,_,_,_,_,_,_,_,_,_,_,_,_,_,_,_,_] (h:=?_)
    refine zlu 8 #[_,_,_,_,_,_,_,_,_,_,_,_,_,_,_,_,_,_,_,_,_,_,_,_,_,_,_] (h:=?_)
    refine zlu 9 #[_,_,_,_,_,_,_,_,_,_,_,_,_,_,_,_,_,_,_,_,_,_,_,_,_,_,_] (h:=?_)
    refine zlu 10 #[_,_,_,_,_,_,_,_,_,_,_,_,_,_,_,_,_,_,_,_,_,_,_,_,_,_,_] (h:=?_)
    refine zlu 11 #[_,_,_,_,_,_,_,_,_,_,_,_,_,_,_,_,_,_,_,_,_,_,_,_,_,_,_] (h:=?_)
    refine zlp 12 (.bool false) #[_,_,_,_,_,_,_,_,_,_,_,_,_,_,_,_,_,_,_,_,_,_,_,_,_,_,_] ⟨[_,_,_,_,_,_,_,_,_,_,_,_,_,_,_,_,_,_,_,_,_,_,_,_,_,_,_,_,_,_,_,_,_,_,_,_,_,_,_,_,_,_,_,_,_,_,_,_,_,_,_,_,_,_,_,_,_,_,_,_,_,_,_,_,_,_,_,_,_,_,_,_,_,_,_,_,_,_,_,_,_,_,_,_,_,_,_].toArray,[]⟩ (h:=?_)
    refine zlp 13 (.bool false) #[_,_,_,_,_,_,_,_,_,_,_,_,_,_,_,_,_,_,_,_,_,_,_,_,_,_,_] ⟨[_,_,_,_,_,_,_,_,_,_,_,_,_,_,_,_,_,_,_,_,_,_,_,_,_,_,_,_,_,_,_,_,_,_,_,_,_,_,_,_,_,_,_,_,_,_,_,_,_,_,_,_,_,_,_,_,_,_,_,_,_,_,_,_,_,_,_,_,_,_,_,_,_,_,_,_,_,_,_,_,_,_,_,_,_,_,_].toArray,[]⟩ (h:=?_)
    refine zlu 14 #[_,_,_,_,_,_,_,_,_,_,_,_,_,_,_,_,_,_,_,_,_,_,_,_,_,_,_] (h:=?_)
    refine zlu 15 #[_,_,_,_,_,_,_,_,_,_,_,_,_,_,_,_,_,_,_,_,_,_,_,_,_,_,_] (h:=?_)
    refine zlu 16 #[_,_,_,_,_,_,_,_,_,_,_,_,_,_,_,_,_,_,_,_,_,_,_,_,_,_,_] (h:=?_)
    refine zlu 17 #[_,_,_,_,_,_,_,_,_,_,_,_,_,_,_,_,_,_,_,_,_,_,_,_,_,_,_] (h:=?_)
    refine zlu 18 #[_,_,_,_,_,_,_,_,_,_,_,_,_,_,_,_,_,_,_,_,_,_,_,_,_,_,_] (h:=?_)
    refine zlp 19 (.bool false) #[_,_,_,_,_,_,_,_,_,_,_,_,_,_,_,_,_,_,_,_,_,_,_,_,_,_,_] ⟨[_,_,_,_,_,_,_,_,_,_,_,_,_,_,_,_,_,_,_,_,_,_,_,_,_,_,_,_,_,_,_,_,_,_,_,_,_,_,_,_,_,_,_,_,_,_,_,_,_,_,_,_,_,_,_,_,_,_,_,_,_,_,_,_,_,_,_,_,_,_,_,_,_,_,_,_,_,_,_,_,_,_,_,_,_,_,_].toArray,[]⟩ (h:=?_)
    refine zlp 20 (.bool false) #[_,_,_,_,_,_,_,_,_,_,_,_,_,_,_,_,_,_,_,_,_,_,_,_,_,_,_] ⟨[_,_,_,_,_,_,_,_,_,_,_,_,_,_,_,_,_,_,_,_,_,_,_,_,_,_,_,_,_,_,_,_,_,_,_,_,_,_,_,_,_,_,_,_,_,_,_,_,_,_,_,_,_,_,_,_,_,_,_,_,_,_,_,_,_,_,_,_,_,_,_,_,_,_,_,_,_,_,_,_,_,_,_,_,_,_,_].toArray,[]⟩ (h:=?_)
    refine zlu 21 #[_,_,_,_,_,_,_,_,_,_,_,_,_,_,_,_,_,_,_,_,_,_,_,_,_,_,_] (h:=?_)
    refine zlu 22 #[_,_,_,_,_,_,_,_,_,_,_,_,_,_,_,_,_,_,_,_,_,_,_,_,_,_,_] (h:=?_)
    refine zlu 23 #[_,_,_,_,_,_,_,_,_,_,_,_,_,_,_,_,_,_,_,_,_,_,_,_,_,_,_] (h:=?_)
    refine zlp 24 (.bool false) #[_,_,_,_,_,_,_,_,_,_,_,_,_,_,_,_,_,_,_,_,_,_,_,_,_,_,_] ⟨[_,_,_,_,_,_,_,_,_,_,_,_,_,_,_,_,_,_,_,_,_,_,_,_,_,_,_,_,_,_,_,_,_,_,_,_,_,_,_,_,_,_,_,_,_,_,_,_,_,_,_,_,_,_,_,_,_,_,_,_,_,_,_,_,_,_,_,_,_,_,_,_,_,_,_,_,_,_,_,_,_,_,_,_,_,_,_].toArray,[]⟩ (h:=?_)
    refine MW.last_act (i:=25) (listed':= #[true,true,true,true,true,true,true,true,true,true,true,true,true,true,true,true,true,true,true,true,true,true,true,true,true,true,false]) rfl (by kernel_rfl) (by kernel_rfl) (by decide) ?_
    go_wp2_with ((with_reducible refine gs 27 4 rfl ?_);refine zs 27 4 #[.int .i64 0,.int .i64 x47,.bool false,.int .i64 t412,.string ((rd_T57 l1 (1:Int)).f3),.string ((rd_T57 l1 (2:Int)).f3),.string ((rd_T57 l1 (3:Int)).f3),.slice none 0 0] BKg1.out [.int .i64 0,.int .i64 x47,.bool false,.int .i64 t412,.string ((rd_T57 l1 (1:Int)).f3),.string ((rd_T57 l1 (2:Int)).f3),.string ((rd_T57 l1 (3:Int)).f3),.slice none 0 0] (h:=?_);intro w625 hbk hg)
    refine zg ?_
    replace HF1:=zfg HF1.out hg fun k_ hk_=>hk_.1.2
    replace BKg11:=zbg BKg11.out hg NEg11_g1
    replace HB:=zhg HB.out hg (below_size HB.out) GEg1
    replace BKg1:=hbk
    clear hg hbk
    clear j8R j8S j8T j8U j8V j8W j8X j8Y hx557_0 hx557_1 hx557_2 hx557_3 hx557_4 p557 q557
    replace cBKg1:=MB.lz8 BKg1.out
    obtain⟨jae,jaf,jag,jah,jai,jaj,jak,jal⟩:=MB.lz8 BKg11.out
    have p642:0≤(3:Int):=by decide
    have q642:(3:Int)<(l1.length:Int):=of_decide_eq_true (by first|(with_reducible assumption)|assumption)
    obtain⟨ad642,A642_4,c642_4,e642,hx642_0,hx642_1,hx642_2,hx642_3,hx642_4,hl642_4,hi642_4⟩:=atF_T57 HF1.out (3:Int) p642 q642
    cases e642
    (try simp only[show((3:Int)).toNat=3 from rfl,show 3*5=15 from rfl] at hx642_0)
    (try simp only[Nat.reduceMul,Nat.reduceEqDiff,Go.Addr.add,↓reduceIte] at hx642_0)
    (try simp only[show((3:Int)).toNat=3 from rfl,show 3*5=15 from rfl] at hx642_1)
    (try simp only[Nat.reduceMul,Nat.reduceEqDiff,Go.Addr.add,↓reduceIte] at hx642_1)
    (try simp only[show((3:Int)).toNat=3 from rfl,show 3*5=15 from rfl] at hx642_2)
    (try simp only[Nat.reduceMul,Nat.reduceEqDiff,Go.Addr.add,↓reduceIte] at hx642_2)
    (try simp only[show((3:Int)).toNat=3 from rfl,show 3*5=15 from rfl] at hx642_3)
    (try simp only[Nat.reduceMul,Nat.reduceEqDiff,Go.Addr.add,↓reduceIte] at hx642_3)
    (try simp only[show((3:Int)).toNat=3 from rfl,show 3*5=15 from rfl] at hx642_4)
    (try simp only[Nat.reduceMul,Nat.reduceEqDiff,Go.Addr.add,↓reduceIte] at hx642_4)
    clear hi642_4 hl642_4
    replace p642:=eq_true p642
    replace q642:=eq_true q642
    refine wpList_nil ?_
    change MW.Cells _ _∧wpAnyLast _ _ _ _ _ _ 1 #[true,true,true,true,true,true,true,true,true,true,true,true,true,true,true,true,true,true,true,true,true,true,true,true,true,true,false] ⟨[_,_,_,_,_,_,_,_,_,_,_,_,_,_,_,_,_,_,_,_,_,_,_,_,_,_,_,_,_,_,_,_,_,_,_,_,_,_,_,_,_,_,_,_,_,_,_,_,_,_,_,_,_,_,_,_,_,_,_,_,_,_,_,_,_,_,_,_,_,_,_,_,_,_,_,_,_,_,_,_,_,_,_,_,_,_,_].toArray,[]⟩ _
    refine⟨(zk jae (zk jaf (zk jag (zk jah (zk jai (zk jaj (zk jak (zk jal (zk hx642_0 (zk (by first|exact hx642_1|(rw[hx642_1];simp[*];done)) (zk hx642_2 (zk hx642_3 z0)))))))))))),?_⟩
    refine zlp 26 (.bool false) #[_,_,_,_,_,_,_,_,_,_,_,_,_,_,_,_,_,_,_,_,_,_,_,_,_,_,_] ⟨[_,_,_,_,_,_,_,_,_,_,_,_,_,_,_,_,_,_,_,_,_,_,_,_,_,_,_,_,_,_,_,_,_,_,_,_,_,_,_,_,_,_,_,_,_,_,_,_,_,_,_,_,_,_,_,_,_,_,_,_,_,_,_,_,_,_,_,_,_,_,_,_,_,_,_,_,_,_,_,_,_,_,_,_,_,_,_].toArray,[]⟩ (h:=?_)
    refine MW.last_done (by kernel_rfl) ?_ _
    clear hwr_
    have H:=HH.out
    simp only[Option.some.injEq,Prod.mk.injEq] at H
    obtain⟨rfl,rfl,rfl,rfl,rfl,rfl,rfl,rfl,rfl⟩:=H
    clear HH
    go_wp2
    refine bodyPost_ret (results_ct rfl _ _ g1 27 #[.int .i64 0,.int .i64 x47,.bool false,.int .i64 t412,.string ((rd_T57 l1 (1:Int)).f3),.string ((rd_T57 l1 (2:Int)).f3),.string ((rd_T57 l1 (3:Int)).f3),.slice none 0 0] (0,0) _ rfl BKg1.out Try.underlying27 rfl (by kernel_rfl)) rfl ?_
    exact⟨_,by first|rfl|(simp;done)|(simp[*];done),(Kd.N_nil _ _ _ _ _),HB.out⟩
   replace HH:=MW.hneg HH c405
   replace c405:=Bool.eq_false_iff.mpr c405
   subst c405
   go_wp2_with ((with_reducible refine gs 27 4 rfl ?_);refine zs 27 4 #[.int .i64 0,.int .i64 x47,.bool false,.int .i64 0,.string (⟨#[]⟩:ByteArray),.string (⟨#[]⟩:ByteArray),.string (⟨#[]⟩:ByteArray),.slice none 0 0] BKg1.out [.int .i64 0,.int .i64 x47,.bool false,.int .i64 0,.string (⟨#[]⟩:ByteArray),.string (⟨#[]⟩:ByteArray),.string (⟨#[]⟩:ByteArray),.slice none 0 0] (h:=?_);intro w659 hbk hg)
   refine zg ?_
   replace BKg11:=zbg BKg11.out hg NEg11_g1
   replace HB:=zhg HB.out hg (below_size HB.out) GEg1
   replace BKg1:=hbk
   clear hg hbk
   replace cBKg1:=MB.lz8 BKg1.out
   replace cBKg11:=MB.lz8 BKg11.out
   have H:=HH.out
   simp only[Option.some.injEq,Prod.mk.injEq] at H
   obtain⟨rfl,rfl,rfl,rfl,rfl,rfl,rfl,rfl,rfl⟩:=H
   clear HH
   go_wp2
   refine bodyPost_ret (results_ct rfl _ _ g1 27 #[.int .i64 0,.int .i64 x47,.bool false,.int .i64 0,.string (⟨#[]⟩:ByteArray),.string (⟨#[]⟩:ByteArray),.string (⟨#[]⟩:ByteArray),.slice none 0 0] (0,0) _ rfl BKg1.out Try.underlying27 rfl (by kernel_rfl)) rfl ?_
   exact⟨_,by first|rfl|(simp;done)|(simp[*];done),(Kd.N_nil _ _ _ _ _),HB.out⟩
end Go.Proofs.Ytdjkemhmhkpmkaa.GA
