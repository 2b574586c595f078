import Derived.Test.YtdjkemhmhkpmkaaGA0
import Derived.Test.YtdjkemhmhkpmkaaGM1
namespace Go.Proofs.Ytdjkemhmhkpmkaa.GA
open Go.RowKit Go.Proofs.Ytdjkemhmhkpmkaa Go.Proofs.Ytdjkemhmhkpmkaa.MW Go.Proofs.YtdjkemhmhkpmkaaW.PrintWords Go.Proofs.YtdjkemhmhkpmkaaW.PrintLast Go.Proofs.YtdjkemhmhkpmkaaW.PrintMore
attribute [local go_sem] max2_int min2_int max_two min_two
set_option maxHeartbeats 8000000
set_option maxRecDepth 100000
set_option linter.unusedVariables false
set_option linter.unusedSimpArgs false
mutual
def ber_take.f:Nat→ByteArray→Int→Int→Option (Int × Bool × Int × ByteArray × (List (S57)) × Int × Int)
 |0,_,_,_=>none
 |k+1,a0,a1,a2=>if a1≥(a0.size:Int) then(some (0,false,0,(⟨#[]⟩:ByteArray),([]:List (S57)),0,150)) else(if 0≤a1 then(if a1<(a0.size:Int) then(if (Go.bits .and .i64 (wrap64 (bt a0 a1)) 31)=31 then(some (0,false,0,(⟨#[]⟩:ByteArray),([]:List (S57)),0,151)) else((ber_sized.f a0 (wrap64 (a1+1))).bind fun bt62=>(if bt62.2.2=0 then(if bt62.1>(wrap64 ((a0.size:Int) - bt62.2.1)) then(some (0,false,0,(⟨#[]⟩:ByteArray),([]:List (S57)),0,150)) else(if (wrap64 ((wrap64 (bt62.2.1+bt62.1)) - a1))>4000 then(some (0,false,0,(⟨#[]⟩:ByteArray),([]:List (S57)),0,3)) else(if 0≤bt62.2.1 then(if bt62.2.1≤(wrap64 (bt62.2.1+bt62.1)) then(if (wrap64 (bt62.2.1+bt62.1))≤(a0.size:Int) then(if (Go.bits .and .i64 (wrap64 (bt a0 a1)) 32)=0 then(some ((wrap64 (bt a0 a1)) / 64,false,Go.bits .and .i64 (wrap64 (bt a0 a1)) 31,a0.extract bt62.2.1.toNat (wrap64 (bt62.2.1+bt62.1)).toNat,([]:List (S57)),wrap64 (bt62.2.1+bt62.1),0)) else(if a2=1 then(if bt62.1>0 then(some (0,false,0,(⟨#[]⟩:ByteArray),([]:List (S57)),0,153)) else((ber_several.f k (a0.extract bt62.2.1.toNat (wrap64 (bt62.2.1+bt62.1)).toNat) (wrap64 (a2 - 1))).bind fun bt159=>(if bt159.2=0 then(some ((wrap64 (bt a0 a1)) / 64,true,Go.bits .and .i64 (wrap64 (bt a0 a1)) 31,(⟨#[]⟩:ByteArray),bt159.1,wrap64 (bt62.2.1+bt62.1),0)) else(some (0,false,0,(⟨#[]⟩:ByteArray),([]:List (S57)),0,bt159.2))))) else((ber_several.f k (a0.extract bt62.2.1.toNat (wrap64 (bt62.2.1+bt62.1)).toNat) (wrap64 (a2 - 1))).bind fun bt216=>(if bt216.2=0 then(some ((wrap64 (bt a0 a1)) / 64,true,Go.bits .and .i64 (wrap64 (bt a0 a1)) 31,(⟨#[]⟩:ByteArray),bt216.1,wrap64 (bt62.2.1+bt62.1),0)) else(some (0,false,0,(⟨#[]⟩:ByteArray),([]:List (S57)),0,bt216.2)))))) else(none)) else(none)) else(none)))) else(some (0,false,0,(⟨#[]⟩:ByteArray),([]:List (S57)),0,bt62.2.2))))) else(none)) else(none))
def ber_several.l0:Nat→(List (S57))→Int→ByteArray→Int→Option ((List (S57)) × Int)
 |0,_,_,_,_=>none
 |k+1,x1,x4,a0,a1=>if x4<(a0.size:Int) then((ber_take.f k a0 x4 a1).bind fun bt10=>(if bt10.2.2.2.2.2.2=0 then(if x1.length<2199023255552 then((some (x1++[(⟨bt10.1,bt10.2.1,bt10.2.2.1,bt10.2.2.2.1,bt10.2.2.2.2.1⟩:S57)]:List (S57))).bind fun y43=>((ber_several.l0 k y43 bt10.2.2.2.2.2.1 a0 a1))) else(none)) else(some (([]:List (S57)),bt10.2.2.2.2.2.2)))) else(some (x1,0))
def ber_several.f:Nat→ByteArray→Int→Option ((List (S57)) × Int)
 |0,_,_=>none
 |k+1,a0,a1=>(ber_several.l0 k ([]:List (S57)) 0 a0 a1)
end
theorem ber_take.mono_l:∀ k,(∀ y0 y1 y2,LeO (ber_take.f k y0 y1 y2) (ber_take.f (k+1) y0 y1 y2))∧(∀ y0 y1,LeO (ber_several.f k y0 y1) (ber_several.f (k+1) y0 y1))∧(∀ y0 y1 y2 y3,LeO (ber_several.l0 k y0 y1 y2 y3) (ber_several.l0 (k+1) y0 y1 y2 y3))
 |0=>⟨fun _ _ _ r h=>by simp[ber_take.f] at h,fun _ _ r h=>by simp[ber_several.f] at h,fun _ _ _ _ r h=>by simp[ber_several.l0] at h⟩
 |k+1=>by
  obtain⟨ih0,ih1,ih2⟩:=ber_take.mono_l k
  refine⟨?_,?_,?_⟩
  ·intro y0 y1 y2
   unfold ber_take.f
   with_reducible repeat' first|exact ih0 _ _ _|exact ih1 _ _|exact ih2 _ _ _ _|exact LeO.refl _|exact LeO.none _|refine LeO.ite ?_ ?_|refine LeO.bind ?_ (fun _=>?_)
  ·intro y0 y1
   unfold ber_several.f
   with_reducible repeat' first|exact ih0 _ _ _|exact ih1 _ _|exact ih2 _ _ _ _|exact LeO.refl _|exact LeO.none _|refine LeO.ite ?_ ?_|refine LeO.bind ?_ (fun _=>?_)
  intro y0 y1 y2 y3
  unfold ber_several.l0
  with_reducible repeat' first|exact ih0 _ _ _|exact ih1 _ _|exact ih2 _ _ _ _|exact LeO.refl _|exact LeO.none _|refine LeO.ite ?_ ?_|refine LeO.bind ?_ (fun _=>?_)
theorem ber_take.mono:∀ a0_ a1_ a2_ k,LeO (ber_take.f k a0_ a1_ a2_) (ber_take.f (k+1) a0_ a1_ a2_):=by
 intro a0_ a1_ a2_ k
 obtain⟨ih0,ih1,ih2⟩:=ber_take.mono_l k
 exact ih0 a0_ a1_ a2_
theorem ber_several.mono:∀ a0_ a1_ k,LeO (ber_several.f k a0_ a1_) (ber_several.f (k+1) a0_ a1_):=by
 intro a0_ a1_ k
 obtain⟨ih0,ih1,ih2⟩:=ber_take.mono_l k
 exact ih1 a0_ a1_
theorem ber_take.group (k:Nat):(∀ (a0:ByteArray) (a1:Int) (a2:Int) (r1:Int) (r2:Bool) (r3:Int) (r4:ByteArray) (r5:List (S57)) (r6:Int) (r7:Int) (w:World) (h:ber_take.f k a0 a1 a2=some (r1,r2,r3,r4,r5,r6,r7)),
  Calls Try.prog 49 #[.string a0,.int .i64 a1,.int .i64 a2] w (fun e w'=>∃ v4_:Value,e=.returned (.tuple #[.agg #[.int .i64 r1,.bool r2,.int .i64 r3,.string r4,v4_],.int .i64 r6,.int .i64 r7])∧Kd.N k57 57 w' w.heap.size (fun k_=>w.heap.size≤k_) v4_ r5∧Below w.heap.size w w'))∧
  (∀ (a0:ByteArray) (a1:Int) (r1:List (S57)) (r2:Int) (w:World) (h:ber_several.f k a0 a1=some (r1,r2)),
  Calls Try.prog 74 #[.string a0,.int .i64 a1] w (fun e w'=>∃ v0_:Value,e=.returned (.tuple #[v0_,.int .i64 r2])∧Kd.N k57 57 w' w.heap.size (fun k_=>w.heap.size≤k_) v0_ r1∧Below w.heap.size w w')):=by
 induction k using Nat.strongRecOn with
 |_ k ih=>
 refine⟨?_,?_⟩
 ·intro a0 a1 a2 r1 r2 r3 r4 r5 r6 r7 w h
  cases k with
  |zero=>exact absurd h (by simp[ber_take.f])
  |succ k1=>
  simp only[ber_take.f] at h
  have HH:=za h
  clear h
  have HB:=za (Below.refl w.heap.size w)
  have hu57:=Try.underlying57
  go_enter Try.func49,Try.ntmps49
  go_wp2_with ((with_reducible refine gd 6 rfl ?_);refine zb 6 57 #[.int .i64 0,.bool false,.int .i64 0,.string (⟨#[]⟩:ByteArray),.slice none 0 0] (h:=?_);intro g1 hg w2 BKg1 hb)
  refine zg ?_
  have GEg1:=zge hg (below_size HB.out)
  replace HB:=zhb HB.out hb
  clear hg hb
  replace cBKg1:=MB.lz5 BKg1.out
  replace HH:=zqG HH
  rcases HH with⟨HH,hk9⟩|⟨HH,hk16⟩
  ·go_wp2_with ((with_reducible refine gs 57 6 rfl ?_);refine zs 57 6 #[.int .i64 0,.bool false,.int .i64 0,.string (⟨#[]⟩:ByteArray),.slice none 0 0] BKg1.out [.int .i64 0,.bool false,.int .i64 0,.string (⟨#[]⟩:ByteArray),.slice none 0 0] (h:=?_);intro w10 hbk hg)
   refine zg ?_
   replace HB:=zhg HB.out hg (below_size HB.out) GEg1
   replace BKg1:=hbk
   clear hg hbk
   replace cBKg1:=MB.lz5 BKg1.out
   have H:=HH.out
   simp only[Option.some.injEq,Prod.mk.injEq] at H
   obtain⟨rfl,rfl,rfl,rfl,rfl,rfl,rfl⟩:=H
   clear HH
   go_wp2
   refine bodyPost_ret (results_ctt rfl _ _ g1 57 #[.int .i64 0,.bool false,.int .i64 0,.string (⟨#[]⟩:ByteArray),.slice none 0 0] (0,0) _ rfl BKg1.out Try.underlying57 rfl (by kernel_rfl)) rfl ?_
   exact⟨_,by first|rfl|(simp;done)|(simp[*];done),(Kd.N_nil _ _ _ _ _),HB.out⟩
  replace HH:=zqdo HH
  obtain⟨HH,hk18⟩:=HH
  replace HH:=zqto HH
  obtain⟨HH,hk20,hk21⟩:=HH
  have p22:0≤(a1:Int):=of_decide_eq_true (by first|(with_reducible assumption)|assumption)
  have q22:a1<(a0.size:Int):=of_decide_eq_true (by first|(with_reducible assumption)|assumption)
  have hx22:=MW.bt_at' a0 a1
  replace p22:=eq_true p22
  replace q22:=eq_true q22
  go_wp2_with ((with_reducible refine gd 10 rfl ?_);refine zb 10 57 #[.int .i64 0,.bool false,.int .i64 0,.string (⟨#[]⟩:ByteArray),.slice none 0 0] (h:=?_);intro g23 hg w24 BKg23 hb)
  refine zg ?_
  have GEg23:=zge hg (below_size HB.out)
  have NEg1_g23:=znq hg BKg1.out
  have NEg23_g1:=zsy NEg1_g23
  replace BKg1:=zbb BKg1.out hb
  replace HB:=zhb HB.out hb
  clear hg hb
  replace cBKg1:=MB.lz5 BKg1.out
  replace cBKg23:=MB.lz5 BKg23.out
  go_wp2_with ((with_reducible refine gs 57 10 rfl ?_);refine zs 57 10 #[.int .i64 ((wrap64 (bt a0 a1)) / 64),.bool ((Go.bits .and .i64 (wrap64 (bt a0 a1)) 32) != 0),.int .i64 (Go.bits .and .i64 (wrap64 (bt a0 a1)) 31),.string (⟨#[]⟩:ByteArray),.slice none 0 0] BKg23.out [.int .i64 ((wrap64 (bt a0 a1)) / 64),.bool ((Go.bits .and .i64 (wrap64 (bt a0 a1)) 32) != 0),.int .i64 (Go.bits .and .i64 (wrap64 (bt a0 a1)) 31),.string (⟨#[]⟩:ByteArray),.slice none 0 0] (h:=?_);intro w35 hbk hg)
  refine zg ?_
  replace BKg1:=zbg BKg1.out hg NEg1_g23
  replace HB:=zhg HB.out hg (below_size HB.out) GEg23
  replace BKg23:=hbk
  clear hg hbk
  replace cBKg1:=MB.lz5 BKg1.out
  replace cBKg23:=MB.lz5 BKg23.out
  replace HH:=zqe HH
  rcases HH with⟨HH,hk47,hk48⟩|⟨HH,hk60,hk61⟩
  ·go_wp2_with ((with_reducible refine gs 57 6 rfl ?_);refine zs 57 6 #[.int .i64 0,.bool false,.int .i64 0,.string (⟨#[]⟩:ByteArray),.slice none 0 0] BKg1.out [.int .i64 0,.bool false,.int .i64 0,.string (⟨#[]⟩:ByteArray),.slice none 0 0] (h:=?_);intro w49 hbk hg)
   refine zg ?_
   replace BKg23:=zbg BKg23.out hg NEg23_g1
   replace HB:=zhg HB.out hg (below_size HB.out) GEg1
   replace BKg1:=hbk
   clear hg hbk
   replace cBKg1:=MB.lz5 BKg1.out
   replace cBKg23:=MB.lz5 BKg23.out
   have H:=HH.out
   simp only[Option.some.injEq,Prod.mk.injEq] at H
   obtain⟨rfl,rfl,rfl,rfl,rfl,rfl,rfl⟩:=H
   clear HH
   go_wp2
   refine bodyPost_ret (results_ctt rfl _ _ g1 57 #[.int .i64 0,.bool false,.int .i64 0,.string (⟨#[]⟩:ByteArray),.slice none 0 0] (0,0) _ rfl BKg1.out Try.underlying57 rfl (by kernel_rfl)) rfl ?_
   exact⟨_,by first|rfl|(simp;done)|(simp[*];done),(Kd.N_nil _ _ _ _ _),HB.out⟩
  replace HH:=zd HH
  obtain⟨⟨t62,t63,t64⟩,At65,HH⟩:=HH
  dsimp only at HH
  go_wp2_with ((with_reducible refine gc 73 rfl ?_);refine zc 73 (some 41) Try.func73 #[.string a0,.int .i64 (wrap64 (a1+1))] (h:=?_);(with_reducible refine(ber_sized.calls  a0 (wrap64 (a1+1)) t62 t63 t64 _  At65.out).mono ?_);rintro e w66 ⟨rfl,hb⟩;refine⟨_,rfl,?_⟩)
  refine zg ?_
  replace BKg1:=zbb BKg1.out hb
  replace BKg23:=zbb BKg23.out hb
  replace HB:=zhb HB.out hb
  clear hb
  replace cBKg1:=MB.lz5 BKg1.out
  replace cBKg23:=MB.lz5 BKg23.out
  replace HH:=zqe HH
  rcases HH with⟨HH,hk78,hk79⟩|⟨HH,hk274,hk275⟩
  ·replace HH:=zqg HH
   rcases HH with⟨HH,hk81⟩|⟨HH,hk93⟩
   ·go_wp2_with ((with_reducible refine gs 57 6 rfl ?_);refine zs 57 6 #[.int .i64 0,.bool false,.int .i64 0,.string (⟨#[]⟩:ByteArray),.slice none 0 0] BKg1.out [.int .i64 0,.bool false,.int .i64 0,.string (⟨#[]⟩:ByteArray),.slice none 0 0] (h:=?_);intro w82 hbk hg)
    refine zg ?_
    replace BKg23:=zbg BKg23.out hg NEg23_g1
    replace HB:=zhg HB.out hg (below_size HB.out) GEg1
    replace BKg1:=hbk
    clear hg hbk
    replace cBKg1:=MB.lz5 BKg1.out
    replace cBKg23:=MB.lz5 BKg23.out
    have H:=HH.out
    simp only[Option.some.injEq,Prod.mk.injEq] at H
    obtain⟨rfl,rfl,rfl,rfl,rfl,rfl,rfl⟩:=H
    clear HH
    go_wp2
    refine bodyPost_ret (results_ctt rfl _ _ g1 57 #[.int .i64 0,.bool false,.int .i64 0,.string (⟨#[]⟩:ByteArray),.slice none 0 0] (0,0) _ rfl BKg1.out Try.underlying57 rfl (by kernel_rfl)) rfl ?_
    exact⟨_,by first|rfl|(simp;done)|(simp[*];done),(Kd.N_nil _ _ _ _ _),HB.out⟩
   replace HH:=zqg HH
   rcases HH with⟨HH,hk95⟩|⟨HH,hk107⟩
   ·go_wp2_with ((with_reducible refine gs 57 6 rfl ?_);refine zs 57 6 #[.int .i64 0,.bool false,.int .i64 0,.string (⟨#[]⟩:ByteArray),.slice none 0 0] BKg1.out [.int .i64 0,.bool false,.int .i64 0,.string (⟨#[]⟩:ByteArray),.slice none 0 0] (h:=?_);intro w96 hbk hg)
    refine zg ?_
    replace BKg23:=zbg BKg23.out hg NEg23_g1
    replace HB:=zhg HB.out hg (below_size HB.out) GEg1
    replace BKg1:=hbk
    clear hg hbk
    replace cBKg1:=MB.lz5 BKg1.out
    replace cBKg23:=MB.lz5 BKg23.out
    have H:=HH.out
    simp only[Option.some.injEq,Prod.mk.injEq] at H
    obtain⟨rfl,rfl,rfl,rfl,rfl,rfl,rfl⟩:=H
    clear HH
    go_wp2
    refine bodyPost_ret (results_ctt rfl _ _ g1 57 #[.int .i64 0,.bool false,.int .i64 0,.string (⟨#[]⟩:ByteArray),.slice none 0 0] (0,0) _ rfl BKg1.out Try.underlying57 rfl (by kernel_rfl)) rfl ?_
    exact⟨_,by first|rfl|(simp;done)|(simp[*];done),(Kd.N_nil _ _ _ _ _),HB.out⟩
   replace HH:=zqdo HH
   obtain⟨HH,hk109⟩:=HH
   replace HH:=zqdo HH
   obtain⟨HH,hk111⟩:=HH
   replace HH:=zqdo HH
   obtain⟨HH,hk113⟩:=HH
   have hmx114:max ((wrap64 (t63+t62)):Int) 0=((wrap64 (t63+t62)):Int):=Int.max_eq_left (Int.le_trans (by first|exact Int.natCast_nonneg _|exact(of_decide_eq_true (by first|(with_reducible assumption)|assumption|(simp;done)):0≤(t63:Int))) (by first|exact Int.le_refl _|exact(of_decide_eq_true (by first|(with_reducible assumption)|assumption|(simp;done)):(t63:Int)≤((wrap64 (t63+t62)):Int))))
   have hh0114:(0≤((wrap64 (t63+t62)):Int))=True:=eq_true (Int.le_trans (by first|exact Int.natCast_nonneg _|exact(of_decide_eq_true (by first|(with_reducible assumption)|assumption|(simp;done)):0≤(t63:Int))) (by first|exact Int.le_refl _|exact(of_decide_eq_true (by first|(with_reducible assumption)|assumption|(simp;done)):(t63:Int)≤((wrap64 (t63+t62)):Int))))
   have hh1114:((t63:Int)≤((wrap64 (t63+t62)):Int))=True:=eq_true (by first|exact Int.le_refl _|exact(of_decide_eq_true (by first|(with_reducible assumption)|assumption|(simp;done)):(t63:Int)≤((wrap64 (t63+t62)):Int)))
   have hh2114:(0≤(t63:Int))=True:=eq_true (by first|exact Int.natCast_nonneg _|exact(of_decide_eq_true (by first|(with_reducible assumption)|assumption|(simp;done)):0≤(t63:Int)))
   have hh3114:(((wrap64 (t63+t62)):Int)≤(a0.size:Int))=True:=eq_true (of_decide_eq_true (by first|(with_reducible assumption)|assumption|(simp;done)):((wrap64 (t63+t62)):Int)≤(a0.size:Int))
   replace HH:=zqe HH
   rcases HH with⟨HH,hk116,hk117⟩|⟨HH,hk140,hk141⟩
   ·go_wp2_with ((with_reducible refine gs 9 76 rfl ?_);refine zs 9 76 #[.int .i64 ((wrap64 (bt a0 a1)) / 64),.bool ((Go.bits .and .i64 (wrap64 (bt a0 a1)) 32) != 0),.int .i64 (Go.bits .and .i64 (wrap64 (bt a0 a1)) 31),.string (a0.extract t63.toNat (wrap64 (t63+t62)).toNat),.slice none 0 0] BKg23.out [.string (a0.extract t63.toNat (wrap64 (t63+t62)).toNat)] (h:=?_);intro w118 hbk hg)
    refine zg ?_
    replace BKg1:=zbg BKg1.out hg NEg1_g23
    replace HB:=zhg HB.out hg (below_size HB.out) GEg23
    replace BKg23:=hbk
    clear hg hbk
    clear hmx114 hh0114 hh1114 hh2114 hh3114
    replace cBKg1:=MB.lz5 BKg1.out
    replace cBKg23:=MB.lz5 BKg23.out
    go_wp2_with ((with_reducible refine gs 57 6 rfl ?_);refine zs 57 6 #[.int .i64 ((wrap64 (bt a0 a1)) / 64),.bool false,.int .i64 (Go.bits .and .i64 (wrap64 (bt a0 a1)) 31),.string (a0.extract t63.toNat (wrap64 (t63+t62)).toNat),.slice none 0 0] BKg1.out [.int .i64 ((wrap64 (bt a0 a1)) / 64),.bool false,.int .i64 (Go.bits .and .i64 (wrap64 (bt a0 a1)) 31),.string (a0.extract t63.toNat (wrap64 (t63+t62)).toNat),.slice none 0 0] (h:=?_);intro w129 hbk hg)
    refine zg ?_
    replace BKg23:=zbg BKg23.out hg NEg23_g1
    replace HB:=zhg HB.out hg (below_size HB.out) GEg1
    replace BKg1:=hbk
    clear hg hbk
    replace cBKg1:=MB.lz5 BKg1.out
    replace cBKg23:=MB.lz5 BKg23.out
    have H:=HH.out
    simp only[Option.some.injEq,Prod.mk.injEq] at H
    obtain⟨rfl,rfl,rfl,rfl,rfl,rfl,rfl⟩:=H
    clear HH
    go_wp2
    refine bodyPost_ret (results_ctt rfl _ _ g1 57 #[.int .i64 ((wrap64 (bt a0 a1)) / 64),.bool false,.int .i64 (Go.bits .and .i64 (wrap64 (bt a0 a1)) 31),.string (a0.extract t63.toNat (wrap64 (t63+t62)).toNat),.slice none 0 0] (0,0) _ rfl BKg1.out Try.underlying57 rfl (by kernel_rfl)) rfl ?_
    exact⟨_,by first|rfl|(simp;done)|(simp[*];done),(Kd.N_nil _ _ _ _ _),HB.out⟩
   replace HH:=zqe HH
   rcases HH with⟨HH,hk143,hk144⟩|⟨HH,hk214,hk215⟩
   ·replace HH:=zqg HH
    rcases HH with⟨HH,hk146⟩|⟨HH,hk158⟩
    ·go_wp2_with ((with_reducible refine gs 57 6 rfl ?_);refine zs 57 6 #[.int .i64 0,.bool false,.int .i64 0,.string (⟨#[]⟩:ByteArray),.slice none 0 0] BKg1.out [.int .i64 0,.bool false,.int .i64 0,.string (⟨#[]⟩:ByteArray),.slice none 0 0] (h:=?_);intro w147 hbk hg)
     refine zg ?_
     replace BKg23:=zbg BKg23.out hg NEg23_g1
     replace HB:=zhg HB.out hg (below_size HB.out) GEg1
     replace BKg1:=hbk
     clear hg hbk
     clear hmx114 hh0114 hh1114 hh2114 hh3114
     replace cBKg1:=MB.lz5 BKg1.out
     replace cBKg23:=MB.lz5 BKg23.out
     have H:=HH.out
     simp only[Option.some.injEq,Prod.mk.injEq] at H
     obtain⟨rfl,rfl,rfl,rfl,rfl,rfl,rfl⟩:=H
     clear HH
     go_wp2
     refine bodyPost_ret (results_ctt rfl _ _ g1 57 #[.int .i64 0,.bool false,.int .i64 0,.string (⟨#[]⟩:ByteArray),.slice none 0 0] (0,0) _ rfl BKg1.out Try.underlying57 rfl (by kernel_rfl)) rfl ?_
     exact⟨_,by first|rfl|(simp;done)|(simp[*];done),(Kd.N_nil _ _ _ _ _),HB.out⟩
    replace HH:=zd HH
    obtain⟨⟨t159,t160⟩,At161,HH⟩:=HH
    dsimp only at HH
    go_wp2_with ((with_reducible refine gc 74 rfl ?_);refine zc 74 (some 92) Try.func74 #[.string (a0.extract t63.toNat (wrap64 (t63+t62)).toNat),.int .i64 (wrap64 (a2 - 1))] (h:=?_);(with_reducible refine((ih k1 (by omega)).2  (a0.extract t63.toNat (wrap64 (t63+t62)).toNat) (wrap64 (a2 - 1)) t159 t160 _  At161.out).mono ?_);rintro e w162 ⟨v163,rfl,hn163,hb⟩;refine⟨_,rfl,?_⟩)
    refine zg ?_
    have hba:=Kd.N_base hn163
    have HN163:=znl (ok2:=(fun k_=>((w.heap.size≤k_)∧k_≠g1)∧k_≠g23)) hn163 (below_size HB.out) (fun k_ h_=>⟨⟨(Nat.le_trans (below_size HB.out) h_),Kd.freshB (g:=g1) BKg1.out k_ h_⟩,Kd.freshB (g:=g23) BKg23.out k_ h_⟩)
    replace BKg1:=zbb BKg1.out hb
    replace BKg23:=zbb BKg23.out hb
    replace HB:=zhb HB.out hb
    clear hn163 hba hb
    clear hmx114 hh0114 hh1114 hh2114 hh3114
    replace cBKg1:=MB.lz5 BKg1.out
    replace cBKg23:=MB.lz5 BKg23.out
    replace HH:=zqe HH
    rcases HH with⟨HH,hk175,hk176⟩|⟨HH,hk201,hk202⟩
    ·obtain⟨A178,cp179,he_⟩:=Kd.N_slice HN163.out
     subst he_
     go_wp2_with ((with_reducible refine gs 55 100 rfl ?_);refine zs 55 100 #[.int .i64 ((wrap64 (bt a0 a1)) / 64),.bool ((Go.bits .and .i64 (wrap64 (bt a0 a1)) 32) != 0),.int .i64 (Go.bits .and .i64 (wrap64 (bt a0 a1)) 31),.string (⟨#[]⟩:ByteArray),(.slice A178 t159.length cp179)] BKg23.out [(.slice A178 t159.length cp179)] (h:=?_);intro w177 hbk hg)
     refine zg ?_
     replace HN163:=zng HN163.out hg fun k_ hk_=>hk_.2
     replace BKg1:=zbg BKg1.out hg NEg1_g23
     replace HB:=zhg HB.out hg (below_size HB.out) GEg23
     replace BKg23:=hbk
     clear hg hbk
     replace cBKg1:=MB.lz5 BKg1.out
     replace cBKg23:=MB.lz5 BKg23.out
     go_wp2_with ((with_reducible refine gs 57 6 rfl ?_);refine zs 57 6 #[.int .i64 ((wrap64 (bt a0 a1)) / 64),.bool true,.int .i64 (Go.bits .and .i64 (wrap64 (bt a0 a1)) 31),.string (⟨#[]⟩:ByteArray),(.slice A178 t159.length cp179)] BKg1.out [.int .i64 ((wrap64 (bt a0 a1)) / 64),.bool true,.int .i64 (Go.bits .and .i64 (wrap64 (bt a0 a1)) 31),.string (⟨#[]⟩:ByteArray),(.slice A178 t159.length cp179)] (h:=?_);intro w190 hbk hg)
     refine zg ?_
     replace HN163:=zng HN163.out hg fun k_ hk_=>hk_.1.2
     replace BKg23:=zbg BKg23.out hg NEg23_g1
     replace HB:=zhg HB.out hg (below_size HB.out) GEg1
     replace BKg1:=hbk
     clear hg hbk
     replace cBKg1:=MB.lz5 BKg1.out
     replace cBKg23:=MB.lz5 BKg23.out
     have H:=HH.out
     simp only[Option.some.injEq,Prod.mk.injEq] at H
     obtain⟨rfl,rfl,rfl,rfl,rfl,rfl,rfl⟩:=H
     clear HH
     go_wp2
     refine bodyPost_ret (results_ctt rfl _ _ g1 57 #[.int .i64 ((wrap64 (bt a0 a1)) / 64),.bool true,.int .i64 (Go.bits .and .i64 (wrap64 (bt a0 a1)) 31),.string (⟨#[]⟩:ByteArray),(.slice A178 t159.length cp179)] (0,0) _ rfl BKg1.out Try.underlying57 rfl (by kernel_rfl)) rfl ?_
     exact⟨_,by first|rfl|(simp;done)|(simp[*];done),(Kd.N_mono (ok:=(fun k_=>((w.heap.size≤k_)∧k_≠g1)∧k_≠g23)) HN163.out (fun k_ hk_=>hk_.1.1)),HB.out⟩
    go_wp2_with ((with_reducible refine gs 57 6 rfl ?_);refine zs 57 6 #[.int .i64 0,.bool false,.int .i64 0,.string (⟨#[]⟩:ByteArray),.slice none 0 0] BKg1.out [.int .i64 0,.bool false,.int .i64 0,.string (⟨#[]⟩:ByteArray),.slice none 0 0] (h:=?_);intro w203 hbk hg)
    refine zg ?_
    replace BKg23:=zbg BKg23.out hg NEg23_g1
    replace HB:=zhg HB.out hg (below_size HB.out) GEg1
    replace BKg1:=hbk
    clear hg hbk
    replace cBKg1:=MB.lz5 BKg1.out
    replace cBKg23:=MB.lz5 BKg23.out
    have H:=HH.out
    simp only[Option.some.injEq,Prod.mk.injEq] at H
    obtain⟨rfl,rfl,rfl,rfl,rfl,rfl,rfl⟩:=H
    clear HH
    go_wp2
    refine bodyPost_ret (results_ctt rfl _ _ g1 57 #[.int .i64 0,.bool false,.int .i64 0,.string (⟨#[]⟩:ByteArray),.slice none 0 0] (0,0) _ rfl BKg1.out Try.underlying57 rfl (by kernel_rfl)) rfl ?_
    exact⟨_,by first|rfl|(simp;done)|(simp[*];done),(Kd.N_nil _ _ _ _ _),HB.out⟩
   replace HH:=zd HH
   obtain⟨⟨t216,t217⟩,At218,HH⟩:=HH
   dsimp only at HH
   go_wp2_with ((with_reducible refine gc 74 rfl ?_);refine zc 74 (some 92) Try.func74 #[.string (a0.extract t63.toNat (wrap64 (t63+t62)).toNat),.int .i64 (wrap64 (a2 - 1))] (h:=?_);(with_reducible refine((ih k1 (by omega)).2  (a0.extract t63.toNat (wrap64 (t63+t62)).toNat) (wrap64 (a2 - 1)) t216 t217 _  At218.out).mono ?_);rintro e w219 ⟨v220,rfl,hn220,hb⟩;refine⟨_,rfl,?_⟩)
   refine zg ?_
   have hba:=Kd.N_base hn220
   have HN220:=znl (ok2:=(fun k_=>((w.heap.size≤k_)∧k_≠g1)∧k_≠g23)) hn220 (below_size HB.out) (fun k_ h_=>⟨⟨(Nat.le_trans (below_size HB.out) h_),Kd.freshB (g:=g1) BKg1.out k_ h_⟩,Kd.freshB (g:=g23) BKg23.out k_ h_⟩)
   replace BKg1:=zbb BKg1.out hb
   replace BKg23:=zbb BKg23.out hb
   replace HB:=zhb HB.out hb
   clear hn220 hba hb
   clear hmx114 hh0114 hh1114 hh2114 hh3114
   replace cBKg1:=MB.lz5 BKg1.out
   replace cBKg23:=MB.lz5 BKg23.out
   replace HH:=zqe HH
   rcases HH with⟨HH,hk232,hk233⟩|⟨HH,hk258,hk259⟩
   ·obtain⟨A235,cp236,he_⟩:=Kd.N_slice HN220.out
    subst he_
    go_wp2_with ((with_reducible refine gs 55 100 rfl ?_);refine zs 55 100 #[.int .i64 ((wrap64 (bt a0 a1)) / 64),.bool ((Go.bits .and .i64 (wrap64 (bt a0 a1)) 32) != 0),.int .i64 (Go.bits .and .i64 (wrap64 (bt a0 a1)) 31),.string (⟨#[]⟩:ByteArray),(.slice A235 t216.length cp236)] BKg23.out [(.slice A235 t216.length cp236)] (h:=?_);intro w234 hbk hg)
    refine zg ?_
    replace HN220:=zng HN220.out hg fun k_ hk_=>hk_.2
    replace BKg1:=zbg BKg1.out hg NEg1_g23
    replace HB:=zhg HB.out hg (below_size HB.out) GEg23
    replace BKg23:=hbk
    clear hg hbk
    replace cBKg1:=MB.lz5 BKg1.out
    replace cBKg23:=MB.lz5 BKg23.out
    go_wp2_with ((with_reducible refine gs 57 6 rfl ?_);refine zs 57 6 #[.int .i64 ((wrap64 (bt a0 a1)) / 64),.bool true,.int .i64 (Go.bits .and .i64 (wrap64 (bt a0 a1)) 31),.string (⟨#[]⟩:ByteArray),(.slice A235 t216.length cp236)] BKg1.out [.int .i64 ((wrap64 (bt a0 a1)) / 64),.bool true,.int .i64 (Go.bits .and .i64 (wrap64 (bt a0 a1)) 31),.string (⟨#[]⟩:ByteArray),(.slice A235 t216.length cp236)] (h:=?_);intro w247 hbk hg)
    refine zg ?_
    replace HN220:=zng HN220.out hg fun k_ hk_=>hk_.1.2
    replace BKg23:=zbg BKg23.out hg NEg23_g1
    replace HB:=zhg HB.out hg (below_size HB.out) GEg1
    replace BKg1:=hbk
    clear hg hbk
    replace cBKg1:=MB.lz5 BKg1.out
    replace cBKg23:=MB.lz5 BKg23.out
    have H:=HH.out
    simp only[Option.some.injEq,Prod.mk.injEq] at H
    obtain⟨rfl,rfl,rfl,rfl,rfl,rfl,rfl⟩:=H
    clear HH
    go_wp2
    refine bodyPost_ret (results_ctt rfl _ _ g1 57 #[.int .i64 ((wrap64 (bt a0 a1)) / 64),.bool true,.int .i64 (Go.bits .and .i64 (wrap64 (bt a0 a1)) 31),.string (⟨#[]⟩:ByteArray),(.slice A235 t216.length cp236)] (0,0) _ rfl BKg1.out Try.underlying57 rfl (by kernel_rfl)) rfl ?_
    exact⟨_,by first|rfl|(simp;done)|(simp[*];done),(Kd.N_mono (ok:=(fun k_=>((w.heap.size≤k_)∧k_≠g1)∧k_≠g23)) HN220.out (fun k_ hk_=>hk_.1.1)),HB.out⟩
   go_wp2_with ((with_reducible refine gs 57 6 rfl ?_);refine zs 57 6 #[.int .i64 0,.bool false,.int .i64 0,.string (⟨#[]⟩:ByteArray),.slice none 0 0] BKg1.out [.int .i64 0,.bool false,.int .i64 0,.string (⟨#[]⟩:ByteArray),.slice none 0 0] (h:=?_);intro w260 hbk hg)
   refine zg ?_
   replace BKg23:=zbg BKg23.out hg NEg23_g1
   replace HB:=zhg HB.out hg (below_size HB.out) GEg1
   replace BKg1:=hbk
   clear hg hbk
   replace cBKg1:=MB.lz5 BKg1.out
   replace cBKg23:=MB.lz5 BKg23.out
   have H:=HH.out
   simp only[Option.some.injEq,Prod.mk.injEq] at H
   obtain⟨rfl,rfl,rfl,rfl,rfl,rfl,rfl⟩:=H
   clear HH
   go_wp2
   refine bodyPost_ret (results_ctt rfl _ _ g1 57 #[.int .i64 0,.bool false,.int .i64 0,.string (⟨#[]⟩:ByteArray),.slice none 0 0] (0,0) _ rfl BKg1.out Try.underlying57 rfl (by kernel_rfl)) rfl ?_
   exact⟨_,by first|rfl|(simp;done)|(simp[*];done),(Kd.N_nil _ _ _ _ _),HB.out⟩
  go_wp2_with ((with_reducible refine gs 57 6 rfl ?_);refine zs 57 6 #[.int .i64 0,.bool false,.int .i64 0,.string (⟨#[]⟩:ByteArray),.slice none 0 0] BKg1.out [.int .i64 0,.bool false,.int .i64 0,.string (⟨#[]⟩:ByteArray),.slice none 0 0] (h:=?_);intro w276 hbk hg)
  refine zg ?_
  replace BKg23:=zbg BKg23.out hg NEg23_g1
  replace HB:=zhg HB.out hg (below_size HB.out) GEg1
  replace BKg1:=hbk
  clear hg hbk
  replace cBKg1:=MB.lz5 BKg1.out
  replace cBKg23:=MB.lz5 BKg23.out
  have H:=HH.out
  simp only[Option.some.injEq,Prod.mk.injEq] at H
  obtain⟨rfl,rfl,rfl,rfl,rfl,rfl,rfl⟩:=H
  clear HH
  go_wp2
  refine bodyPost_ret (results_ctt rfl _ _ g1 57 #[.int .i64 0,.bool false,.int .i64 0,.string (⟨#[]⟩:ByteArray),.slice none 0 0] (0,0) _ rfl BKg1.out Try.underlying57 rfl (by kernel_rfl)) rfl ?_
  exact⟨_,by first|rfl|(simp;done)|(simp[*];done),(Kd.N_nil _ _ _ _ _),HB.out⟩
 intro a0 a1 r1 r2 w h
 cases k with
 |zero=>exact absurd h (by simp[ber_several.f])
 |succ k1=>
 simp only[ber_several.f] at h
 have HH:=za h
 clear h
 have HB:=za (Below.refl w.heap.size w)
 have hu57:=Try.underlying57
 go_enter Try.func74,Try.ntmps74
 go_wp2
 go_loopg [6,7] k1 (fun kq u6 u7 w'=>∃ (x1:List (S57)) (x4:Int),u7=.int .i64 x4∧Aside0 ((ber_several.l0 kq x1 x4 a0 a1)=some (r1,r2))∧Aside0 (kq≤k1)∧Aside0 (Kd.N k57 57 w' w.heap.size (fun k_=>(w.heap.size≤k_)) u6 x1)∧Aside0 (Below w.heap.size w w'))
 case atStart=>exact⟨([]:List (S57)),0,(by first|rfl|(simp;done)|(simp[*];done)),HH,⟨Nat.le_refl _⟩,⟨Kd.N_nil _ _ _ _ _⟩,⟨HB.out⟩⟩
 case round=>
  clear HH
  clear HB
  obtain⟨x1,x4,rfl,HA,HK0,HN3,HB⟩:=hrel
  obtain⟨v2,rfl⟩:∃ z_:Value,z_=u6:=⟨_,rfl⟩
  obtain⟨w6,rfl⟩:∃ wo_:World,wo_=wr:=⟨_,rfl⟩
  cases gk with
  |zero=>exact absurd HA.out (by simp[ber_several.l0])
  |succ k5=>
   have H:=HA.out
   clear HA
   simp only[ber_several.l0] at H
   have HH:=za H
   clear H
   replace HH:=zqt HH
   rcases HH with⟨HH,hk8,hk9⟩|⟨HH,hk54,hk55⟩
   ·replace HH:=zd HH
    obtain⟨⟨t10,t11,t12,t13,t14,t15,t16⟩,At17,HH⟩:=HH
    dsimp only at HH
    go_wp2_with ((with_reducible refine gc 49 rfl ?_);refine zc 49 (some 19) Try.func49 #[.string a0,.int .i64 x4,.int .i64 a1] (h:=?_);(with_reducible refine((ih k5 (by have:=HK0.out;omega)).1  a0 x4 a1 t10 t11 t12 t13 t14 t15 t16 _  At17.out).mono ?_);rintro e w18 ⟨v19,rfl,hn19,hb⟩;refine⟨_,rfl,?_⟩)
    refine zg ?_
    have hba:=Kd.N_base hn19
    have HN19:=znl (ok2:=(fun k_=>(w.heap.size≤k_)∧some k_≠(v2:Value).ownBlock)) hn19 (below_size HB.out) (fun k_ h_=>⟨(Nat.le_trans (below_size HB.out) h_),Kd.fresh' (Kd.N_lt HN3.out) k_ h_⟩)
    replace HN3:=znr (u:=v19) HN3.out hba hb
    replace HB:=zhb HB.out hb
    clear hn19 hba hb
    go_wp2_with ((with_reducible refine gd 8 rfl ?_);refine zb 8 57 #[.int .i64 0,.bool false,.int .i64 0,.string (⟨#[]⟩:ByteArray),.slice none 0 0] (h:=?_);intro g20 hg w21 BKg20 hb)
    refine zg ?_
    have GEg20:=zge hg (below_size HB.out)
    replace HN3:=zne HN3.out hg hb
    replace HN19:=zne HN19.out hg hb
    replace HB:=zhb HB.out hb
    clear hg hb
    replace cBKg20:=MB.lz5 BKg20.out
    obtain⟨A28,cp29,he_⟩:=Kd.N_slice HN19.out
    subst he_
    go_wp2_with ((with_reducible refine gs 57 8 rfl ?_);refine zs 57 8 #[.int .i64 t10,.bool t11,.int .i64 t12,.string t13,(.slice A28 t14.length cp29)] BKg20.out [.int .i64 t10,.bool t11,.int .i64 t12,.string t13,(.slice A28 t14.length cp29)] (h:=?_);intro w27 hbk hg)
    refine zg ?_
    replace HN3:=zng HN3.out hg fun k_ hk_=>hk_.2
    replace HN19:=zng HN19.out hg fun k_ hk_=>hk_.2
    replace HB:=zhg HB.out hg (below_size HB.out) GEg20
    replace BKg20:=hbk
    clear hg hbk
    replace cBKg20:=MB.lz5 BKg20.out
    replace HH:=zqe HH
    rcases HH with⟨HH,hk36,hk37⟩|⟨HH,hk52,hk53⟩
    ·have HL41:=za (Kd.N_reads' HN19.out).2.1
     have HF40:=za (Kd.N_F HN19.out)
     clear HN19
     replace HN3:=za (Kd.N_mono (ok:=(fun k_=>((w.heap.size≤k_)∧some k_≠((.slice A28 t14.length cp29):Value).ownBlock)∧k_≠g20)) HN3.out (fun k_ hk_=>⟨hk_.1.1,hk_.2⟩):Kd.N k57 _ _ _ (fun k_=>(w.heap.size≤k_)∧k_≠g20) _ _)
     obtain⟨HH,LMc42⟩:=zlm HH
     obtain⟨y43,hy43⟩:∃ y_:List (S57),y_=(x1++[(⟨t10,t11,t12,t13,t14⟩:S57)]):=⟨_,rfl⟩
     have H:((ber_several.l0 k5 y43 t15 a0 a1))=some (r1,r2):=by rw[hy43];exact HH.out
     replace HH:=za H
     clear H
     have NYy43:=za hy43
     clear hy43
     go_wp2_with (((with_reducible refine gate_dst (N:=29) rfl ?_);(try(refine gate_guard (by rfl) ?_;dsimp only));refine Kd.N_append k57 w.heap.size rfl _ _ 55 57 (.agg #[(.int .i64 0),(.bool false),(.int .i64 0),(.string ⟨#[]⟩),(.slice none 0 0)]) 64 rfl Try.underlying55 info57 rfl (by decide) (by decide) (v2) x1 (⟨t10,t11,t12,t13,t14⟩:S57) [.int .i64 t10,.bool t11,.int .i64 t12,.string t13,.slice A28 t14.length cp29] (fun k_=>(w.heap.size≤k_)∧k_≠g20) (fun k_=>(fun k_=>(w.heap.size≤k_)∧k_≠g20) k_∧some k_≠(v2:Value).ownBlock) rfl rfl (k57_mkF _ _ (⟨t10,t11,t12,t13,t14⟩:S57) HL41.out (Kd.F_mono (ok:=(fun k_=>((w.heap.size≤k_)∧some k_≠(v2:Value).ownBlock)∧k_≠g20)) (by(with_reducible repeat(first|apply Kd.F_alloc|apply Kd.F_drewN|apply Kd.F_drew));exact HF40.out) (fun k_ hk_=>⟨⟨hk_.1.1,hk_.2⟩,hk_.1.2⟩))) (fun _ hk_=>hk_) (fun k_ h_=>⟨(Nat.le_trans (below_size (by repeat(first|(with_reducible first|exact HB.out|apply below_alloc|apply pw_below_drewN|apply below_drew1)|exact HB.out))) h_),Kd.freshB (g:=g20) (o:=.cells #[.int .i64 t10,.bool t11,.int .i64 t12,.string t13,.slice A28 t14.length cp29] 57 (0,0)) (by(with_reducible repeat(first|refine blk_drewN ?_ _|refine blk_drew ?_|refine blk_alloc ?_ _));exact BKg20.out) k_ h_⟩) (by(with_reducible repeat(first|apply Kd.N_alloc|apply Kd.N_drewN|apply Kd.N_drew));exact HN3.out) (by repeat(first|(with_reducible first|exact HB.out|apply below_alloc|apply pw_below_drewN|apply below_drew1)|exact HB.out)) (below_size (by repeat(first|(with_reducible first|exact HB.out|apply below_alloc|apply pw_below_drewN|apply below_drew1)|exact HB.out))) (by first|(have:=LMc42.out;omega)|(have:=LMc42.out;simp at *;omega)) ?_;intro v44 w45 hn1 hb1 hg1 hat1);replace hat1:=za hat1;refine stop_ ?_)
     refine zg ?_
     replace hat1:=hat1.out
     replace BKg20:=za (blk_grown (g:=g20) (o:=.cells #[.int .i64 t10,.bool t11,.int .i64 t12,.string t13,.slice A28 t14.length cp29] 57 (0,0)) (by(with_reducible repeat(first|refine blk_drewN ?_ _|refine blk_drew ?_|refine blk_alloc ?_ _));exact BKg20.out) hg1 (Kd.N_away (ok:=(fun k_=>(w.heap.size≤k_)∧k_≠g20)) HN3.out (fun k_ hk_=>hk_.2)))
     replace HB:=za hb1
     clear HN3
     have HN46:=za hn1
     clear hn1 hb1 hg1 hat1
     replace HN46:=za (by rw[NYy43.out];exact HN46.out:Kd.N k57 57 w45 w.heap.size (fun k_=>(w.heap.size≤k_)∧k_≠g20) v44 y43)
     replace cBKg20:=MB.lz5 BKg20.out
     go_wp2
     go_roundg k5
     case measure=>have:=HK0.out;omega
     case rel=>exact⟨y43,t15,(by first|rfl|(simp;done)|(simp[*];done)),HH,⟨by have:=HK0.out;omega⟩,⟨(Kd.N_mono (ok:=(fun k_=>(w.heap.size≤k_)∧k_≠g20)) HN46.out (fun k_ hk_=>hk_.1))⟩,⟨HB.out⟩⟩
    have H:=HH.out
    simp only[Option.some.injEq,Prod.mk.injEq] at H
    obtain⟨rfl,rfl⟩:=H
    clear HH
    go_wp2
    go_ret2
    exact⟨_,by first|rfl|(simp;done)|(simp[*];done),(Kd.N_nil _ _ _ _ _),HB.out⟩
   have H:=HH.out
   simp only[Option.some.injEq,Prod.mk.injEq] at H
   obtain⟨rfl,rfl⟩:=H
   clear HH
   go_wp2
   go_ret2
   exact⟨_,by first|rfl|(simp;done)|(simp[*];done),(Kd.N_mono (ok:=(fun k_=>(w.heap.size≤k_))) HN3.out (fun k_ hk_=>hk_)),HB.out⟩
theorem ber_take.calls (k:Nat):∀ (a0:ByteArray) (a1:Int) (a2:Int) (r1:Int) (r2:Bool) (r3:Int) (r4:ByteArray) (r5:List (S57)) (r6:Int) (r7:Int) (w:World) (h:ber_take.f k a0 a1 a2=some (r1,r2,r3,r4,r5,r6,r7)),
  Calls Try.prog 49 #[.string a0,.int .i64 a1,.int .i64 a2] w (fun e w'=>∃ v4_:Value,e=.returned (.tuple #[.agg #[.int .i64 r1,.bool r2,.int .i64 r3,.string r4,v4_],.int .i64 r6,.int .i64 r7])∧Kd.N k57 57 w' w.heap.size (fun k_=>w.heap.size≤k_) v4_ r5∧Below w.heap.size w w'):=(ber_take.group k).1
theorem ber_several.calls (k:Nat):∀ (a0:ByteArray) (a1:Int) (r1:List (S57)) (r2:Int) (w:World) (h:ber_several.f k a0 a1=some (r1,r2)),
  Calls Try.prog 74 #[.string a0,.int .i64 a1] w (fun e w'=>∃ v0_:Value,e=.returned (.tuple #[v0_,.int .i64 r2])∧Kd.N k57 57 w' w.heap.size (fun k_=>w.heap.size≤k_) v0_ r1∧Below w.heap.size w w'):=(ber_take.group k).2
end Go.Proofs.Ytdjkemhmhkpmkaa.GA
