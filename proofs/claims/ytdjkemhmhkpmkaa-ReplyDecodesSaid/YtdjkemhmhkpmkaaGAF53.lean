import Derived.Test.YtdjkemhmhkpmkaaGA0
import Derived.Test.YtdjkemhmhkpmkaaGM2
namespace Go.Proofs.Ytdjkemhmhkpmkaa.GA
open Go.RowKit Go.Proofs.Ytdjkemhmhkpmkaa Go.Proofs.Ytdjkemhmhkpmkaa.MW Go.Proofs.YtdjkemhmhkpmkaaW.PrintWords Go.Proofs.YtdjkemhmhkpmkaaW.PrintLast Go.Proofs.YtdjkemhmhkpmkaaW.PrintMore
attribute [local go_sem] max2_int min2_int max_two min_two
set_option maxHeartbeats 8000000
set_option maxRecDepth 100000
set_option linter.unusedVariables false
set_option linter.unusedSimpArgs false
mutual
def toponymref15_take.f:Nat→ByteArray→Int→Int→Option (Int × Bool × Int × ByteArray × (List (S57)) × Int × Int)
 |0,_,_,_=>none
 |k+1,a0,a1,a2=>(toponymref15_head.f a0 a1).bind fun bt31=>(if bt31.2.2=0 then(if bt31.2.1>(wrap64 ((wrap64 ((a0.size:Int) - a1)) - bt31.1)) then(some (0,false,0,(⟨#[]⟩:ByteArray),([]:List (S57)),0,150)) else(if (wrap64 (bt31.1+bt31.2.1))>4000 then(some (0,false,0,(⟨#[]⟩:ByteArray),([]:List (S57)),0,3)) else(if 0≤a1 then(if a1<(a0.size:Int) then(if 0≤(wrap64 (a1+bt31.1)) then(if (wrap64 (a1+bt31.1))≤(wrap64 ((wrap64 (a1+bt31.1))+bt31.2.1)) then(if (wrap64 ((wrap64 (a1+bt31.1))+bt31.2.1))≤(a0.size:Int) then(if (Int.tmod ((Int.tdiv (bt a0 a1) 32) % 256) 2)=1 then(if a2=12 then(if bt31.2.1>0 then(some (0,false,0,(⟨#[]⟩:ByteArray),([]:List (S57)),0,153)) else((toponymref15_all.f k (a0.extract (wrap64 (a1+bt31.1)).toNat (wrap64 ((wrap64 (a1+bt31.1))+bt31.2.1)).toNat) (wrap64 (a2+1))).bind fun bt160=>(if bt160.2=0 then(some (wrap64 (Int.tdiv (wrap64 (bt a0 a1)) 64),true,Int.tmod (wrap64 (bt a0 a1)) 32,(⟨#[]⟩:ByteArray),bt160.1,wrap64 ((wrap64 (a1+bt31.1))+bt31.2.1),0)) else(some (0,false,0,(⟨#[]⟩:ByteArray),([]:List (S57)),0,bt160.2))))) else((toponymref15_all.f k (a0.extract (wrap64 (a1+bt31.1)).toNat (wrap64 ((wrap64 (a1+bt31.1))+bt31.2.1)).toNat) (wrap64 (a2+1))).bind fun bt237=>(if bt237.2=0 then(some (wrap64 (Int.tdiv (wrap64 (bt a0 a1)) 64),true,Int.tmod (wrap64 (bt a0 a1)) 32,(⟨#[]⟩:ByteArray),bt237.1,wrap64 ((wrap64 (a1+bt31.1))+bt31.2.1),0)) else(some (0,false,0,(⟨#[]⟩:ByteArray),([]:List (S57)),0,bt237.2))))) else(some (wrap64 (Int.tdiv (wrap64 (bt a0 a1)) 64),false,Int.tmod (wrap64 (bt a0 a1)) 32,a0.extract (wrap64 (a1+bt31.1)).toNat (wrap64 ((wrap64 (a1+bt31.1))+bt31.2.1)).toNat,([]:List (S57)),wrap64 ((wrap64 (a1+bt31.1))+bt31.2.1),0))) else(none)) else(none)) else(none)) else(none)) else(none)))) else(some (0,false,0,(⟨#[]⟩:ByteArray),([]:List (S57)),0,bt31.2.2)))
def toponymref15_all.l0:Nat→(List (S57))→Int→ByteArray→Int→Option ((List (S57)) × Int)
 |0,_,_,_,_=>none
 |k+1,x1,x4,a0,a1=>if x4<(a0.size:Int) then((toponymref15_take.f k a0 x4 a1).bind fun bt10=>(if bt10.2.2.2.2.2.2=0 then(if x1.length<2199023255552 then((some (x1++[(⟨bt10.1,bt10.2.1,bt10.2.2.1,bt10.2.2.2.1,bt10.2.2.2.2.1⟩:S57)]:List (S57))).bind fun y43=>((toponymref15_all.l0 k y43 bt10.2.2.2.2.2.1 a0 a1))) else(none)) else(some (([]:List (S57)),bt10.2.2.2.2.2.2)))) else(some (x1,0))
def toponymref15_all.f:Nat→ByteArray→Int→Option ((List (S57)) × Int)
 |0,_,_=>none
 |k+1,a0,a1=>(toponymref15_all.l0 k ([]:List (S57)) 0 a0 a1)
end
theorem toponymref15_take.mono_l:∀ k,(∀ y0 y1 y2,LeO (toponymref15_take.f k y0 y1 y2) (toponymref15_take.f (k+1) y0 y1 y2))∧(∀ y0 y1,LeO (toponymref15_all.f k y0 y1) (toponymref15_all.f (k+1) y0 y1))∧(∀ y0 y1 y2 y3,LeO (toponymref15_all.l0 k y0 y1 y2 y3) (toponymref15_all.l0 (k+1) y0 y1 y2 y3))
 |0=>⟨fun _ _ _ r h=>by simp[toponymref15_take.f] at h,fun _ _ r h=>by simp[toponymref15_all.f] at h,fun _ _ _ _ r h=>by simp[toponymref15_all.l0] at h⟩
 |k+1=>by
  obtain⟨ih0,ih1,ih2⟩:=toponymref15_take.mono_l k
  refine⟨?_,?_,?_⟩
  ·intro y0 y1 y2
   unfold toponymref15_take.f
   with_reducible repeat' first|exact ih0 _ _ _|exact ih1 _ _|exact ih2 _ _ _ _|exact LeO.refl _|exact LeO.none _|refine LeO.ite ?_ ?_|refine LeO.bind ?_ (fun _=>?_)
  ·intro y0 y1
   unfold toponymref15_all.f
   with_reducible repeat' first|exact ih0 _ _ _|exact ih1 _ _|exact ih2 _ _ _ _|exact LeO.refl _|exact LeO.none _|refine LeO.ite ?_ ?_|refine LeO.bind ?_ (fun _=>?_)
  intro y0 y1 y2 y3
  unfold toponymref15_all.l0
  with_reducible repeat' first|exact ih0 _ _ _|exact ih1 _ _|exact ih2 _ _ _ _|exact LeO.refl _|exact LeO.none _|refine LeO.ite ?_ ?_|refine LeO.bind ?_ (fun _=>?_)
theorem toponymref15_take.mono:∀ a0_ a1_ a2_ k,LeO (toponymref15_take.f k a0_ a1_ a2_) (toponymref15_take.f (k+1) a0_ a1_ a2_):=by
 intro a0_ a1_ a2_ k
 obtain⟨ih0,ih1,ih2⟩:=toponymref15_take.mono_l k
 exact ih0 a0_ a1_ a2_
theorem toponymref15_all.mono:∀ a0_ a1_ k,LeO (toponymref15_all.f k a0_ a1_) (toponymref15_all.f (k+1) a0_ a1_):=by
 intro a0_ a1_ k
 obtain⟨ih0,ih1,ih2⟩:=toponymref15_take.mono_l k
 exact ih1 a0_ a1_
theorem toponymref15_take.group (k:Nat):(∀ (a0:ByteArray) (a1:Int) (a2:Int) (r1:Int) (r2:Bool) (r3:Int) (r4:ByteArray) (r5:List (S57)) (r6:Int) (r7:Int) (w:World) (h:toponymref15_take.f k a0 a1 a2=some (r1,r2,r3,r4,r5,r6,r7)),
  Calls Try.prog 53 #[.string a0,.int .i64 a1,.int .i64 a2] w (fun e w'=>∃ v4_:Value,e=.returned (.tuple #[.agg #[.int .i64 r1,.bool r2,.int .i64 r3,.string r4,v4_],.int .i64 r6,.int .i64 r7])∧Kd.N k57 57 w' w.heap.size (fun k_=>w.heap.size≤k_) v4_ r5∧Below w.heap.size w w'))∧
  (∀ (a0:ByteArray) (a1:Int) (r1:List (S57)) (r2:Int) (w:World) (h:toponymref15_all.f k a0 a1=some (r1,r2)),
  Calls Try.prog 81 #[.string a0,.int .i64 a1] w (fun e w'=>∃ v0_:Value,e=.returned (.tuple #[v0_,.int .i64 r2])∧Kd.N k57 57 w' w.heap.size (fun k_=>w.heap.size≤k_) v0_ r1∧Below w.heap.size w w')):=by
 induction k using Nat.strongRecOn with
 |_ k ih=>
 refine⟨?_,?_⟩
 ·intro a0 a1 a2 r1 r2 r3 r4 r5 r6 r7 w h
  cases k with
  |zero=>exact absurd h (by simp[toponymref15_take.f])
  |succ k1=>
  simp only[toponymref15_take.f] at h
  have HH:=za h
  clear h
  have HB:=za (Below.refl w.heap.size w)
  have hu57:=Try.underlying57
  go_enter Try.func53,Try.ntmps53
  go_wp2_with ((with_reducible refine gd 6 rfl ?_);refine zb 6 57 #[.int .i64 0,.bool false,.int .i64 0,.string (⟨#[]⟩:ByteArray),.slice none 0 0] (h:=?_);intro g1 hg w2 BKg1 hb)
  refine zg ?_
  have GEg1:=zge hg (below_size HB.out)
  replace HB:=zhb HB.out hb
  clear hg hb
  replace cBKg1:=MB.lz5 BKg1.out
  go_wp2_with ((with_reducible refine gd 9 rfl ?_);refine zb 9 57 #[.int .i64 0,.bool false,.int .i64 0,.string (⟨#[]⟩:ByteArray),.slice none 0 0] (h:=?_);intro g8 hg w9 BKg8 hb)
  refine zg ?_
  have GEg8:=zge hg (below_size HB.out)
  have NEg1_g8:=znq hg BKg1.out
  have NEg8_g1:=zsy NEg1_g8
  replace BKg1:=zbb BKg1.out hb
  replace HB:=zhb HB.out hb
  clear hg hb
  replace cBKg1:=MB.lz5 BKg1.out
  replace cBKg8:=MB.lz5 BKg8.out
  go_wp2_with ((with_reducible refine gs 57 9 rfl ?_);refine zs 57 9 #[.int .i64 0,.bool false,.int .i64 0,.string (⟨#[]⟩:ByteArray),.slice none 0 0] BKg8.out [.int .i64 0,.bool false,.int .i64 0,.string (⟨#[]⟩:ByteArray),.slice none 0 0] (h:=?_);intro w20 hbk hg)
  refine zg ?_
  replace BKg1:=zbg BKg1.out hg NEg1_g8
  replace HB:=zhg HB.out hg (below_size HB.out) GEg8
  replace BKg8:=hbk
  clear hg hbk
  replace cBKg1:=MB.lz5 BKg1.out
  replace cBKg8:=MB.lz5 BKg8.out
  replace HH:=zd HH
  obtain⟨⟨t31,t32,t33⟩,At34,HH⟩:=HH
  dsimp only at HH
  go_wp2_with ((with_reducible refine gc 80 rfl ?_);refine zc 80 (some 21) Try.func80 #[.string a0,.int .i64 a1] (h:=?_);(with_reducible refine(toponymref15_head.calls  a0 a1 t31 t32 t33 _  At34.out).mono ?_);rintro e w' ⟨rfl,⟨nd,rfl⟩⟩;refine⟨_,rfl,?_⟩)
  refine zg ?_
  replace HH:=zqe HH
  rcases HH with⟨HH,hk37,hk38⟩|⟨HH,hk352,hk353⟩
  ·replace HH:=zqg HH
   rcases HH with⟨HH,hk40⟩|⟨HH,hk52⟩
   ·go_wp2_with ((with_reducible refine gs 57 6 rfl ?_);refine zs 57 6 #[.int .i64 0,.bool false,.int .i64 0,.string (⟨#[]⟩:ByteArray),.slice none 0 0] (cs:= #[.int .i64 0,.bool false,.int .i64 0,.string (⟨#[]⟩:ByteArray),.slice none 0 0]) (ty:=57) (by(with_reducible repeat(first|refine blk_drewN ?_ _|refine blk_drew ?_|refine blk_alloc ?_ _));exact BKg1.out) [.int .i64 0,.bool false,.int .i64 0,.string (⟨#[]⟩:ByteArray),.slice none 0 0] (h:=?_);intro w41 hbk hg)
    refine zg ?_
    replace BKg8:=zbg (o2:=.cells #[.int .i64 0,.bool false,.int .i64 0,.string (⟨#[]⟩:ByteArray),.slice none 0 0] 57 (0,0)) (by(with_reducible repeat(first|refine blk_drewN ?_ _|refine blk_drew ?_|refine blk_alloc ?_ _));exact BKg8.out) hg NEg8_g1
    replace HB:=zhg (by repeat(first|(with_reducible first|exact HB.out|apply below_alloc|apply pw_below_drewN|apply below_drew1)|exact HB.out)) hg (below_size (by repeat(first|(with_reducible first|exact HB.out|apply below_alloc|apply pw_below_drewN|apply below_drew1)|exact HB.out))) GEg1
    replace BKg1:=hbk
    clear hg hbk
    replace cBKg1:=MB.lz5 BKg1.out
    replace cBKg8:=MB.lz5 BKg8.out
    have H:=HH.out
    simp only[Option.some.injEq,Prod.mk.injEq] at H
    obtain⟨rfl,rfl,rfl,rfl,rfl,rfl,rfl⟩:=H
    clear HH
    go_wp2
    refine bodyPost_ret (results_ctt rfl _ _ g1 57 #[.int .i64 0,.bool false,.int .i64 0,.string (⟨#[]⟩:ByteArray),.slice none 0 0] (0,0) _ rfl BKg1.out Try.underlying57 rfl (by kernel_rfl)) rfl ?_
    exact⟨_,by first|rfl|(simp;done)|(simp[*];done),(Kd.N_nil _ _ _ _ _),HB.out⟩
   replace HH:=zqg HH
   rcases HH with⟨HH,hk54⟩|⟨HH,hk66⟩
   ·go_wp2_with ((with_reducible refine gs 57 6 rfl ?_);refine zs 57 6 #[.int .i64 0,.bool false,.int .i64 0,.string (⟨#[]⟩:ByteArray),.slice none 0 0] (cs:= #[.int .i64 0,.bool false,.int .i64 0,.string (⟨#[]⟩:ByteArray),.slice none 0 0]) (ty:=57) (by(with_reducible repeat(first|refine blk_drewN ?_ _|refine blk_drew ?_|refine blk_alloc ?_ _));exact BKg1.out) [.int .i64 0,.bool false,.int .i64 0,.string (⟨#[]⟩:ByteArray),.slice none 0 0] (h:=?_);intro w55 hbk hg)
    refine zg ?_
    replace BKg8:=zbg (o2:=.cells #[.int .i64 0,.bool false,.int .i64 0,.string (⟨#[]⟩:ByteArray),.slice none 0 0] 57 (0,0)) (by(with_reducible repeat(first|refine blk_drewN ?_ _|refine blk_drew ?_|refine blk_alloc ?_ _));exact BKg8.out) hg NEg8_g1
    replace HB:=zhg (by repeat(first|(with_reducible first|exact HB.out|apply below_alloc|apply pw_below_drewN|apply below_drew1)|exact HB.out)) hg (below_size (by repeat(first|(with_reducible first|exact HB.out|apply below_alloc|apply pw_below_drewN|apply below_drew1)|exact HB.out))) GEg1
    replace BKg1:=hbk
    clear hg hbk
    replace cBKg1:=MB.lz5 BKg1.out
    replace cBKg8:=MB.lz5 BKg8.out
    have H:=HH.out
    simp only[Option.some.injEq,Prod.mk.injEq] at H
    obtain⟨rfl,rfl,rfl,rfl,rfl,rfl,rfl⟩:=H
    clear HH
    go_wp2
    refine bodyPost_ret (results_ctt rfl _ _ g1 57 #[.int .i64 0,.bool false,.int .i64 0,.string (⟨#[]⟩:ByteArray),.slice none 0 0] (0,0) _ rfl BKg1.out Try.underlying57 rfl (by kernel_rfl)) rfl ?_
    exact⟨_,by first|rfl|(simp;done)|(simp[*];done),(Kd.N_nil _ _ _ _ _),HB.out⟩
   go_wp2
   refine MW.name_world (W0:=w20) (by repeat(first|exact Drawn0.refl _|apply Drawn0.step)) ?_
   intro w67 hb
   replace BKg1:=zbb BKg1.out hb
   replace BKg8:=zbb BKg8.out hb
   replace HB:=zhb HB.out hb
   clear hb
   replace cBKg1:=MB.lz5 BKg1.out
   replace cBKg8:=MB.lz5 BKg8.out
   go_wp2
   have hwr_:∀ n_:Int,IntKind.i64.wrap n_=wrap64 n_:=fun n_=>IntWalk.i64_left n_
   refine wp_region_any (by kernel_rfl) ?_
   change wpAny _ _ _ _ 19 #[false,false,false,false,false,false,false,false,false,false,false,false,false,false,false,false,false,false,false] _ w67.drew
   obtain⟨w78,hw_⟩:∃ w_:World,w_=w67.drew:=⟨_,rfl⟩
   rw[← hw_]
   have hb:Below w67.heap.size w67 w78:=by rw[hw_];exact below_drew1 (Below.refl _ _)
   clear hw_
   replace BKg1:=zbb BKg1.out hb
   replace BKg8:=zbb BKg8.out hb
   replace HB:=zhb HB.out hb
   clear hb
   replace cBKg1:=MB.lz5 BKg1.out
   replace cBKg8:=MB.lz5 BKg8.out
   refine zt 0 (.string a0) #[_,_,_,_,_,_,_,_,_,_,_,_,_,_,_,_,_,_,_] ⟨[_,_,_,_,_,_,_,_,_,_,_,_,_,_,_,_,_,_,_,_,_,_,_,_,_,_,_,_,_,_,_,_,_,_,_,_,_,_,_,_,_,_,_,_,_,_,_,_,_,_,_,_,_,_,_,_,_,_,_,_,_,_,_,_,_,_,_,_,_,_,_,_,_,_,_,_,_,_,_,_,_,_,_,_,_,_,_,_,_,_,_,_,_,_,_,_,_,_,_,_,_,_,_,_,_,_,_].toArray,[]⟩ (h:=?_)
   refine zt 1 (.int .i64 a1) #[_,_,_,_,_,_,_,_,_,_,_,_,_,_,_,_,_,_,_] ⟨[_,_,_,_,_,_,_,_,_,_,_,_,_,_,_,_,_,_,_,_,_,_,_,_,_,_,_,_,_,_,_,_,_,_,_,_,_,_,_,_,_,_,_,_,_,_,_,_,_,_,_,_,_,_,_,_,_,_,_,_,_,_,_,_,_,_,_,_,_,_,_,_,_,_,_,_,_,_,_,_,_,_,_,_,_,_,_,_,_,_,_,_,_,_,_,_,_,_,_,_,_,_,_,_,_,_,_].toArray,[]⟩ (h:=?_)
   replace HH:=zqdo HH
   obtain⟨HH,hk90⟩:=HH
   (try simp only[hk90,Bool.not_true,Bool.not_false])
   replace HH:=zqto HH
   obtain⟨HH,hk92,hk93⟩:=HH
   (try simp only[hk92,Bool.not_true,Bool.not_false])
   (try simp only[hk93,Bool.not_true,Bool.not_false])
   have p94:0≤(a1:Int):=of_decide_eq_true (by first|(with_reducible assumption)|assumption)
   have q94:a1<(a0.size:Int):=of_decide_eq_true (by first|(with_reducible assumption)|assumption)
   have hx94:=MW.bt_at' a0 a1
   replace p94:=eq_true p94
   replace q94:=eq_true q94
   refine zt 2 (.int .u8 (bt a0 a1)) #[_,_,_,_,_,_,_,_,_,_,_,_,_,_,_,_,_,_,_] ⟨[_,_,_,_,_,_,_,_,_,_,_,_,_,_,_,_,_,_,_,_,_,_,_,_,_,_,_,_,_,_,_,_,_,_,_,_,_,_,_,_,_,_,_,_,_,_,_,_,_,_,_,_,_,_,_,_,_,_,_,_,_,_,_,_,_,_,_,_,_,_,_,_,_,_,_,_,_,_,_,_,_,_,_,_,_,_,_,_,_,_,_,_,_,_,_,_,_,_,_,_,_,_,_,_,_,_,_].toArray,[]⟩ (h:=?_)
   refine zt 3 (.int .i64 (wrap64 (bt a0 a1))) #[_,_,_,_,_,_,_,_,_,_,_,_,_,_,_,_,_,_,_] ⟨[_,_,_,_,_,_,_,_,_,_,_,_,_,_,_,_,_,_,_,_,_,_,_,_,_,_,_,_,_,_,_,_,_,_,_,_,_,_,_,_,_,_,_,_,_,_,_,_,_,_,_,_,_,_,_,_,_,_,_,_,_,_,_,_,_,_,_,_,_,_,_,_,_,_,_,_,_,_,_,_,_,_,_,_,_,_,_,_,_,_,_,_,_,_,_,_,_,_,_,_,_,_,_,_,_,_,_].toArray,[]⟩ (h:=?_)
   refine zt 4 (.int .i64 (wrap64 (Int.tdiv (wrap64 (bt a0 a1)) 64))) #[_,_,_,_,_,_,_,_,_,_,_,_,_,_,_,_,_,_,_] ⟨[_,_,_,_,_,_,_,_,_,_,_,_,_,_,_,_,_,_,_,_,_,_,_,_,_,_,_,_,_,_,_,_,_,_,_,_,_,_,_,_,_,_,_,_,_,_,_,_,_,_,_,_,_,_,_,_,_,_,_,_,_,_,_,_,_,_,_,_,_,_,_,_,_,_,_,_,_,_,_,_,_,_,_,_,_,_,_,_,_,_,_,_,_,_,_,_,_,_,_,_,_,_,_,_,_,_,_].toArray,[]⟩ (h:=?_)
   refine zt 5 (.string a0) #[_,_,_,_,_,_,_,_,_,_,_,_,_,_,_,_,_,_,_] ⟨[_,_,_,_,_,_,_,_,_,_,_,_,_,_,_,_,_,_,_,_,_,_,_,_,_,_,_,_,_,_,_,_,_,_,_,_,_,_,_,_,_,_,_,_,_,_,_,_,_,_,_,_,_,_,_,_,_,_,_,_,_,_,_,_,_,_,_,_,_,_,_,_,_,_,_,_,_,_,_,_,_,_,_,_,_,_,_,_,_,_,_,_,_,_,_,_,_,_,_,_,_,_,_,_,_,_,_].toArray,[]⟩ (h:=?_)
   refine zt 6 (.int .i64 a1) #[_,_,_,_,_,_,_,_,_,_,_,_,_,_,_,_,_,_,_] ⟨[_,_,_,_,_,_,_,_,_,_,_,_,_,_,_,_,_,_,_,_,_,_,_,_,_,_,_,_,_,_,_,_,_,_,_,_,_,_,_,_,_,_,_,_,_,_,_,_,_,_,_,_,_,_,_,_,_,_,_,_,_,_,_,_,_,_,_,_,_,_,_,_,_,_,_,_,_,_,_,_,_,_,_,_,_,_,_,_,_,_,_,_,_,_,_,_,_,_,_,_,_,_,_,_,_,_,_].toArray,[]⟩ (h:=?_)
   refine zt 7 (.int .u8 (bt a0 a1)) #[_,_,_,_,_,_,_,_,_,_,_,_,_,_,_,_,_,_,_] ⟨[_,_,_,_,_,_,_,_,_,_,_,_,_,_,_,_,_,_,_,_,_,_,_,_,_,_,_,_,_,_,_,_,_,_,_,_,_,_,_,_,_,_,_,_,_,_,_,_,_,_,_,_,_,_,_,_,_,_,_,_,_,_,_,_,_,_,_,_,_,_,_,_,_,_,_,_,_,_,_,_,_,_,_,_,_,_,_,_,_,_,_,_,_,_,_,_,_,_,_,_,_,_,_,_,_,_,_].toArray,[]⟩ (h:=?_)
   refine zt 8 (.int .u8 ((Int.tdiv (bt a0 a1) 32) % 256)) #[_,_,_,_,_,_,_,_,_,_,_,_,_,_,_,_,_,_,_] ⟨[_,_,_,_,_,_,_,_,_,_,_,_,_,_,_,_,_,_,_,_,_,_,_,_,_,_,_,_,_,_,_,_,_,_,_,_,_,_,_,_,_,_,_,_,_,_,_,_,_,_,_,_,_,_,_,_,_,_,_,_,_,_,_,_,_,_,_,_,_,_,_,_,_,_,_,_,_,_,_,_,_,_,_,_,_,_,_,_,_,_,_,_,_,_,_,_,_,_,_,_,_,_,_,_,_,_,_].toArray,[]⟩ (h:=?_)
   refine zt 9 (.int .u8 (Int.tmod ((Int.tdiv (bt a0 a1) 32) % 256) 2)) #[_,_,_,_,_,_,_,_,_,_,_,_,_,_,_,_,_,_,_] ⟨[_,_,_,_,_,_,_,_,_,_,_,_,_,_,_,_,_,_,_,_,_,_,_,_,_,_,_,_,_,_,_,_,_,_,_,_,_,_,_,_,_,_,_,_,_,_,_,_,_,_,_,_,_,_,_,_,_,_,_,_,_,_,_,_,_,_,_,_,_,_,_,_,_,_,_,_,_,_,_,_,_,_,_,_,_,_,_,_,_,_,_,_,_,_,_,_,_,_,_,_,_,_,_,_,_,_,_].toArray,[]⟩ (h:=?_)
   refine zt 10 (.bool ((Int.tmod ((Int.tdiv (bt a0 a1) 32) % 256) 2)==1)) #[_,_,_,_,_,_,_,_,_,_,_,_,_,_,_,_,_,_,_] ⟨[_,_,_,_,_,_,_,_,_,_,_,_,_,_,_,_,_,_,_,_,_,_,_,_,_,_,_,_,_,_,_,_,_,_,_,_,_,_,_,_,_,_,_,_,_,_,_,_,_,_,_,_,_,_,_,_,_,_,_,_,_,_,_,_,_,_,_,_,_,_,_,_,_,_,_,_,_,_,_,_,_,_,_,_,_,_,_,_,_,_,_,_,_,_,_,_,_,_,_,_,_,_,_,_,_,_,_].toArray,[]⟩ (h:=?_)
   refine zt 11 (.string a0) #[_,_,_,_,_,_,_,_,_,_,_,_,_,_,_,_,_,_,_] ⟨[_,_,_,_,_,_,_,_,_,_,_,_,_,_,_,_,_,_,_,_,_,_,_,_,_,_,_,_,_,_,_,_,_,_,_,_,_,_,_,_,_,_,_,_,_,_,_,_,_,_,_,_,_,_,_,_,_,_,_,_,_,_,_,_,_,_,_,_,_,_,_,_,_,_,_,_,_,_,_,_,_,_,_,_,_,_,_,_,_,_,_,_,_,_,_,_,_,_,_,_,_,_,_,_,_,_,_].toArray,[]⟩ (h:=?_)
   refine zt 12 (.int .i64 a1) #[_,_,_,_,_,_,_,_,_,_,_,_,_,_,_,_,_,_,_] ⟨[_,_,_,_,_,_,_,_,_,_,_,_,_,_,_,_,_,_,_,_,_,_,_,_,_,_,_,_,_,_,_,_,_,_,_,_,_,_,_,_,_,_,_,_,_,_,_,_,_,_,_,_,_,_,_,_,_,_,_,_,_,_,_,_,_,_,_,_,_,_,_,_,_,_,_,_,_,_,_,_,_,_,_,_,_,_,_,_,_,_,_,_,_,_,_,_,_,_,_,_,_,_,_,_,_,_,_].toArray,[]⟩ (h:=?_)
   refine zt 13 (.int .u8 (bt a0 a1)) #[_,_,_,_,_,_,_,_,_,_,_,_,_,_,_,_,_,_,_] ⟨[_,_,_,_,_,_,_,_,_,_,_,_,_,_,_,_,_,_,_,_,_,_,_,_,_,_,_,_,_,_,_,_,_,_,_,_,_,_,_,_,_,_,_,_,_,_,_,_,_,_,_,_,_,_,_,_,_,_,_,_,_,_,_,_,_,_,_,_,_,_,_,_,_,_,_,_,_,_,_,_,_,_,_,_,_,_,_,_,_,_,_,_,_,_,_,_,_,_,_,_,_,_,_,_,_,_,_].toArray,[]⟩ (h:=?_)
   refine zt 14 (.int .i64 (wrap64 (bt a0 a1))) #[_,_,_,_,_,_,_,_,_,_,_,_,_,_,_,_,_,_,_] ⟨[_,_,_,_,_,_,_,_,_,_,_,_,_,_,_,_,_,_,_,_,_,_,_,_,_,_,_,_,_,_,_,_,_,_,_,_,_,_,_,_,_,_,_,_,_,_,_,_,_,_,_,_,_,_,_,_,_,_,_,_,_,_,_,_,_,_,_,_,_,_,_,_,_,_,_,_,_,_,_,_,_,_,_,_,_,_,_,_,_,_,_,_,_,_,_,_,_,_,_,_,_,_,_,_,_,_,_].toArray,[]⟩ (h:=?_)
   refine zt 15 (.int .i64 (Int.tmod (wrap64 (bt a0 a1)) 32)) #[_,_,_,_,_,_,_,_,_,_,_,_,_,_,_,_,_,_,_] ⟨[_,_,_,_,_,_,_,_,_,_,_,_,_,_,_,_,_,_,_,_,_,_,_,_,_,_,_,_,_,_,_,_,_,_,_,_,_,_,_,_,_,_,_,_,_,_,_,_,_,_,_,_,_,_,_,_,_,_,_,_,_,_,_,_,_,_,_,_,_,_,_,_,_,_,_,_,_,_,_,_,_,_,_,_,_,_,_,_,_,_,_,_,_,_,_,_,_,_,_,_,_,_,_,_,_,_,_].toArray,[]⟩ (h:=?_)
   refine zt 16 (.agg #[.int .i64 (wrap64 (Int.tdiv (wrap64 (bt a0 a1)) 64)),.bool ((Int.tmod ((Int.tdiv (bt a0 a1) 32) % 256) 2)==1),.int .i64 (Int.tmod (wrap64 (bt a0 a1)) 32),.string (⟨#[]⟩:ByteArray),.slice none 0 0]) #[_,_,_,_,_,_,_,_,_,_,_,_,_,_,_,_,_,_,_] ⟨[_,_,_,_,_,_,_,_,_,_,_,_,_,_,_,_,_,_,_,_,_,_,_,_,_,_,_,_,_,_,_,_,_,_,_,_,_,_,_,_,_,_,_,_,_,_,_,_,_,_,_,_,_,_,_,_,_,_,_,_,_,_,_,_,_,_,_,_,_,_,_,_,_,_,_,_,_,_,_,_,_,_,_,_,_,_,_,_,_,_,_,_,_,_,_,_,_,_,_,_,_,_,_,_,_,_,_].toArray,[]⟩ (h:=?_)
   refine MW.any_seq 17 2 rfl (by kernel_rfl) ?_
   simp only[List.drop_succ_cons,List.drop_zero]
   clear hwr_
   go_wp2_with ((with_reducible refine gd 13 rfl ?_);refine zb 13 57 #[.int .i64 0,.bool false,.int .i64 0,.string (⟨#[]⟩:ByteArray),.slice none 0 0] (h:=?_);intro g95 hg w96 BKg95 hb)
   refine zg ?_
   have GEg95:=zge hg (below_size HB.out)
   have NEg1_g95:=znq hg BKg1.out
   have NEg95_g1:=zsy NEg1_g95
   have NEg8_g95:=znq hg BKg8.out
   replace BKg1:=zbb BKg1.out hb
   replace BKg8:=zbb BKg8.out hb
   replace HB:=zhb HB.out hb
   clear hg hb
   replace cBKg1:=MB.lz5 BKg1.out
   replace cBKg8:=MB.lz5 BKg8.out
   replace cBKg95:=MB.lz5 BKg95.out
   go_wp2_with ((with_reducible refine gs 57 13 rfl ?_);refine zs 57 13 #[.int .i64 (wrap64 (Int.tdiv (wrap64 (bt a0 a1)) 64)),.bool ((Int.tmod ((Int.tdiv (bt a0 a1) 32) % 256) 2)==1),.int .i64 (Int.tmod (wrap64 (bt a0 a1)) 32),.string (⟨#[]⟩:ByteArray),.slice none 0 0] BKg95.out [.int .i64 (wrap64 (Int.tdiv (wrap64 (bt a0 a1)) 64)),.bool ((Int.tmod ((Int.tdiv (bt a0 a1) 32) % 256) 2)==1),.int .i64 (Int.tmod (wrap64 (bt a0 a1)) 32),.string (⟨#[]⟩:ByteArray),.slice none 0 0] (h:=?_);intro w112 hbk hg)
   refine zg ?_
   replace BKg1:=zbg BKg1.out hg NEg1_g95
   replace BKg8:=zbg BKg8.out hg NEg8_g95
   replace HB:=zhg HB.out hg (below_size HB.out) GEg95
   replace BKg95:=hbk
   clear hg hbk
   replace cBKg1:=MB.lz5 BKg1.out
   replace cBKg8:=MB.lz5 BKg8.out
   replace cBKg95:=MB.lz5 BKg95.out
   replace HH:=zqdo HH
   obtain⟨HH,hk129⟩:=HH
   replace HH:=zqdo HH
   obtain⟨HH,hk131⟩:=HH
   replace HH:=zqdo HH
   obtain⟨HH,hk133⟩:=HH
   have hmx134:max ((wrap64 ((wrap64 (a1+t31))+t32)):Int) 0=((wrap64 ((wrap64 (a1+t31))+t32)):Int):=Int.max_eq_left (Int.le_trans (by first|exact Int.natCast_nonneg _|exact(of_decide_eq_true (by first|(with_reducible assumption)|assumption|(simp;done)):0≤((wrap64 (a1+t31)):Int))) (by first|exact Int.le_refl _|exact(of_decide_eq_true (by first|(with_reducible assumption)|assumption|(simp;done)):((wrap64 (a1+t31)):Int)≤((wrap64 ((wrap64 (a1+t31))+t32)):Int))))
   have hh0134:(0≤((wrap64 ((wrap64 (a1+t31))+t32)):Int))=True:=eq_true (Int.le_trans (by first|exact Int.natCast_nonneg _|exact(of_decide_eq_true (by first|(with_reducible assumption)|assumption|(simp;done)):0≤((wrap64 (a1+t31)):Int))) (by first|exact Int.le_refl _|exact(of_decide_eq_true (by first|(with_reducible assumption)|assumption|(simp;done)):((wrap64 (a1+t31)):Int)≤((wrap64 ((wrap64 (a1+t31))+t32)):Int))))
   have hh1134:(((wrap64 (a1+t31)):Int)≤((wrap64 ((wrap64 (a1+t31))+t32)):Int))=True:=eq_true (by first|exact Int.le_refl _|exact(of_decide_eq_true (by first|(with_reducible assumption)|assumption|(simp;done)):((wrap64 (a1+t31)):Int)≤((wrap64 ((wrap64 (a1+t31))+t32)):Int)))
   have hh2134:(0≤((wrap64 (a1+t31)):Int))=True:=eq_true (by first|exact Int.natCast_nonneg _|exact(of_decide_eq_true (by first|(with_reducible assumption)|assumption|(simp;done)):0≤((wrap64 (a1+t31)):Int)))
   have hh3134:(((wrap64 ((wrap64 (a1+t31))+t32)):Int)≤(a0.size:Int))=True:=eq_true (of_decide_eq_true (by first|(with_reducible assumption)|assumption|(simp;done)):((wrap64 ((wrap64 (a1+t31))+t32)):Int)≤(a0.size:Int))
   replace HH:=zqe HH
   rcases HH with⟨HH,hk136,hk137⟩|⟨HH,hk312,hk313⟩
   ·replace HH:=zqe HH
    rcases HH with⟨HH,hk139,hk140⟩|⟨HH,hk235,hk236⟩
    ·replace HH:=zqg HH
     rcases HH with⟨HH,hk142⟩|⟨HH,hk159⟩
     ·go_wp2_with ((with_reducible refine gs 57 6 rfl ?_);refine zs 57 6 #[.int .i64 0,.bool false,.int .i64 0,.string (⟨#[]⟩:ByteArray),.slice none 0 0] BKg1.out [.int .i64 0,.bool false,.int .i64 0,.string (⟨#[]⟩:ByteArray),.slice none 0 0] (h:=?_);intro w143 hbk hg)
      refine zg ?_
      replace BKg8:=zbg BKg8.out hg NEg8_g1
      replace BKg95:=zbg BKg95.out hg NEg95_g1
      replace HB:=zhg HB.out hg (below_size HB.out) GEg1
      replace BKg1:=hbk
      clear hg hbk
      clear hmx134 hh0134 hh1134 hh2134 hh3134
      replace cBKg1:=MB.lz5 BKg1.out
      replace cBKg8:=MB.lz5 BKg8.out
      replace cBKg95:=MB.lz5 BKg95.out
      have H:=HH.out
      simp only[Option.some.injEq,Prod.mk.injEq] at H
      obtain⟨rfl,rfl,rfl,rfl,rfl,rfl,rfl⟩:=H
      clear HH
      go_wp2
      refine bodyPost_ret (results_ctt rfl _ _ g1 57 #[.int .i64 0,.bool false,.int .i64 0,.string (⟨#[]⟩:ByteArray),.slice none 0 0] (0,0) _ rfl BKg1.out Try.underlying57 rfl (by kernel_rfl)) rfl ?_
      exact⟨_,by first|rfl|(simp;done)|(simp[*];done),(Kd.N_nil _ _ _ _ _),HB.out⟩
     replace HH:=zd HH
     obtain⟨⟨t160,t161⟩,At162,HH⟩:=HH
     dsimp only at HH
     go_wp2_with ((with_reducible refine gc 81 rfl ?_);refine zc 81 (some 92) Try.func81 #[.string (a0.extract (wrap64 (a1+t31)).toNat (wrap64 ((wrap64 (a1+t31))+t32)).toNat),.int .i64 (wrap64 (a2+1))] (h:=?_);(with_reducible refine((ih k1 (by omega)).2  (a0.extract (wrap64 (a1+t31)).toNat (wrap64 ((wrap64 (a1+t31))+t32)).toNat) (wrap64 (a2+1)) t160 t161 _  At162.out).mono ?_);rintro e w163 ⟨v164,rfl,hn164,hb⟩;refine⟨_,rfl,?_⟩)
     refine zg ?_
     have hba:=Kd.N_base hn164
     have HN164:=znl (ok2:=(fun k_=>(((w.heap.size≤k_)∧k_≠g1)∧k_≠g8)∧k_≠g95)) hn164 (below_size HB.out) (fun k_ h_=>⟨⟨⟨(Nat.le_trans (below_size HB.out) h_),Kd.freshB (g:=g1) BKg1.out k_ h_⟩,Kd.freshB (g:=g8) BKg8.out k_ h_⟩,Kd.freshB (g:=g95) BKg95.out k_ h_⟩)
     replace BKg1:=zbb BKg1.out hb
     replace BKg8:=zbb BKg8.out hb
     replace BKg95:=zbb BKg95.out hb
     replace HB:=zhb HB.out hb
     clear hn164 hba hb
     clear hmx134 hh0134 hh1134 hh2134 hh3134
     replace cBKg1:=MB.lz5 BKg1.out
     replace cBKg8:=MB.lz5 BKg8.out
     replace cBKg95:=MB.lz5 BKg95.out
     replace HH:=zqe HH
     rcases HH with⟨HH,hk181,hk182⟩|⟨HH,hk217,hk218⟩
     ·obtain⟨A184,cp185,he_⟩:=Kd.N_slice HN164.out
      subst he_
      go_wp2_with ((with_reducible refine gs 55 100 rfl ?_);refine zs 55 100 #[.int .i64 (wrap64 (Int.tdiv (wrap64 (bt a0 a1)) 64)),.bool ((Int.tmod ((Int.tdiv (bt a0 a1) 32) % 256) 2)==1),.int .i64 (Int.tmod (wrap64 (bt a0 a1)) 32),.string (⟨#[]⟩:ByteArray),(.slice A184 t160.length cp185)] BKg95.out [(.slice A184 t160.length cp185)] (h:=?_);intro w183 hbk hg)
      refine zg ?_
      replace HN164:=zng HN164.out hg fun k_ hk_=>hk_.2
      replace BKg1:=zbg BKg1.out hg NEg1_g95
      replace BKg8:=zbg BKg8.out hg NEg8_g95
      replace HB:=zhg HB.out hg (below_size HB.out) GEg95
      replace BKg95:=hbk
      clear hg hbk
      replace cBKg1:=MB.lz5 BKg1.out
      replace cBKg8:=MB.lz5 BKg8.out
      replace cBKg95:=MB.lz5 BKg95.out
      go_wp2_with ((with_reducible refine gs 57 6 rfl ?_);refine zs 57 6 #[.int .i64 (wrap64 (Int.tdiv (wrap64 (bt a0 a1)) 64)),.bool true,.int .i64 (Int.tmod (wrap64 (bt a0 a1)) 32),.string (⟨#[]⟩:ByteArray),(.slice A184 t160.length cp185)] BKg1.out [.int .i64 (wrap64 (Int.tdiv (wrap64 (bt a0 a1)) 64)),.bool true,.int .i64 (Int.tmod (wrap64 (bt a0 a1)) 32),.string (⟨#[]⟩:ByteArray),(.slice A184 t160.length cp185)] (h:=?_);intro w201 hbk hg)
      refine zg ?_
      replace HN164:=zng HN164.out hg fun k_ hk_=>hk_.1.1.2
      replace BKg8:=zbg BKg8.out hg NEg8_g1
      replace BKg95:=zbg BKg95.out hg NEg95_g1
      replace HB:=zhg HB.out hg (below_size HB.out) GEg1
      replace BKg1:=hbk
      clear hg hbk
      replace cBKg1:=MB.lz5 BKg1.out
      replace cBKg8:=MB.lz5 BKg8.out
      replace cBKg95:=MB.lz5 BKg95.out
      have H:=HH.out
      simp only[Option.some.injEq,Prod.mk.injEq] at H
      obtain⟨rfl,rfl,rfl,rfl,rfl,rfl,rfl⟩:=H
      clear HH
      go_wp2
      refine bodyPost_ret (results_ctt rfl _ _ g1 57 #[.int .i64 (wrap64 (Int.tdiv (wrap64 (bt a0 a1)) 64)),.bool true,.int .i64 (Int.tmod (wrap64 (bt a0 a1)) 32),.string (⟨#[]⟩:ByteArray),(.slice A184 t160.length cp185)] (0,0) _ rfl BKg1.out Try.underlying57 rfl (by kernel_rfl)) rfl ?_
      exact⟨_,by first|rfl|(simp;done)|(simp[*];done),(Kd.N_mono (ok:=(fun k_=>(((w.heap.size≤k_)∧k_≠g1)∧k_≠g8)∧k_≠g95)) HN164.out (fun k_ hk_=>hk_.1.1.1)),HB.out⟩
     go_wp2_with ((with_reducible refine gs 57 6 rfl ?_);refine zs 57 6 #[.int .i64 0,.bool false,.int .i64 0,.string (⟨#[]⟩:ByteArray),.slice none 0 0] BKg1.out [.int .i64 0,.bool false,.int .i64 0,.string (⟨#[]⟩:ByteArray),.slice none 0 0] (h:=?_);intro w219 hbk hg)
     refine zg ?_
     replace BKg8:=zbg BKg8.out hg NEg8_g1
     replace BKg95:=zbg BKg95.out hg NEg95_g1
     replace HB:=zhg HB.out hg (below_size HB.out) GEg1
     replace BKg1:=hbk
     clear hg hbk
     replace cBKg1:=MB.lz5 BKg1.out
     replace cBKg8:=MB.lz5 BKg8.out
     replace cBKg95:=MB.lz5 BKg95.out
     have H:=HH.out
     simp only[Option.some.injEq,Prod.mk.injEq] at H
     obtain⟨rfl,rfl,rfl,rfl,rfl,rfl,rfl⟩:=H
     clear HH
     go_wp2
     refine bodyPost_ret (results_ctt rfl _ _ g1 57 #[.int .i64 0,.bool false,.int .i64 0,.string (⟨#[]⟩:ByteArray),.slice none 0 0] (0,0) _ rfl BKg1.out Try.underlying57 rfl (by kernel_rfl)) rfl ?_
     exact⟨_,by first|rfl|(simp;done)|(simp[*];done),(Kd.N_nil _ _ _ _ _),HB.out⟩
    replace HH:=zd HH
    obtain⟨⟨t237,t238⟩,At239,HH⟩:=HH
    dsimp only at HH
    go_wp2_with ((with_reducible refine gc 81 rfl ?_);refine zc 81 (some 92) Try.func81 #[.string (a0.extract (wrap64 (a1+t31)).toNat (wrap64 ((wrap64 (a1+t31))+t32)).toNat),.int .i64 (wrap64 (a2+1))] (h:=?_);(with_reducible refine((ih k1 (by omega)).2  (a0.extract (wrap64 (a1+t31)).toNat (wrap64 ((wrap64 (a1+t31))+t32)).toNat) (wrap64 (a2+1)) t237 t238 _  At239.out).mono ?_);rintro e w240 ⟨v241,rfl,hn241,hb⟩;refine⟨_,rfl,?_⟩)
    refine zg ?_
    have hba:=Kd.N_base hn241
    have HN241:=znl (ok2:=(fun k_=>(((w.heap.size≤k_)∧k_≠g1)∧k_≠g8)∧k_≠g95)) hn241 (below_size HB.out) (fun k_ h_=>⟨⟨⟨(Nat.le_trans (below_size HB.out) h_),Kd.freshB (g:=g1) BKg1.out k_ h_⟩,Kd.freshB (g:=g8) BKg8.out k_ h_⟩,Kd.freshB (g:=g95) BKg95.out k_ h_⟩)
    replace BKg1:=zbb BKg1.out hb
    replace BKg8:=zbb BKg8.out hb
    replace BKg95:=zbb BKg95.out hb
    replace HB:=zhb HB.out hb
    clear hn241 hba hb
    clear hmx134 hh0134 hh1134 hh2134 hh3134
    replace cBKg1:=MB.lz5 BKg1.out
    replace cBKg8:=MB.lz5 BKg8.out
    replace cBKg95:=MB.lz5 BKg95.out
    replace HH:=zqe HH
    rcases HH with⟨HH,hk258,hk259⟩|⟨HH,hk294,hk295⟩
    ·obtain⟨A261,cp262,he_⟩:=Kd.N_slice HN241.out
     subst he_
     go_wp2_with ((with_reducible refine gs 55 100 rfl ?_);refine zs 55 100 #[.int .i64 (wrap64 (Int.tdiv (wrap64 (bt a0 a1)) 64)),.bool ((Int.tmod ((Int.tdiv (bt a0 a1) 32) % 256) 2)==1),.int .i64 (Int.tmod (wrap64 (bt a0 a1)) 32),.string (⟨#[]⟩:ByteArray),(.slice A261 t237.length cp262)] BKg95.out [(.slice A261 t237.length cp262)] (h:=?_);intro w260 hbk hg)
     refine zg ?_
     replace HN241:=zng HN241.out hg fun k_ hk_=>hk_.2
     replace BKg1:=zbg BKg1.out hg NEg1_g95
     replace BKg8:=zbg BKg8.out hg NEg8_g95
     replace HB:=zhg HB.out hg (below_size HB.out) GEg95
     replace BKg95:=hbk
     clear hg hbk
     replace cBKg1:=MB.lz5 BKg1.out
     replace cBKg8:=MB.lz5 BKg8.out
     replace cBKg95:=MB.lz5 BKg95.out
     go_wp2_with ((with_reducible refine gs 57 6 rfl ?_);refine zs 57 6 #[.int .i64 (wrap64 (Int.tdiv (wrap64 (bt a0 a1)) 64)),.bool true,.int .i64 (Int.tmod (wrap64 (bt a0 a1)) 32),.string (⟨#[]⟩:ByteArray),(.slice A261 t237.length cp262)] BKg1.out [.int .i64 (wrap64 (Int.tdiv (wrap64 (bt a0 a1)) 64)),.bool true,.int .i64 (Int.tmod (wrap64 (bt a0 a1)) 32),.string (⟨#[]⟩:ByteArray),(.slice A261 t237.length cp262)] (h:=?_);intro w278 hbk hg)
     refine zg ?_
     replace HN241:=zng HN241.out hg fun k_ hk_=>hk_.1.1.2
     replace BKg8:=zbg BKg8.out hg NEg8_g1
     replace BKg95:=zbg BKg95.out hg NEg95_g1
     replace HB:=zhg HB.out hg (below_size HB.out) GEg1
     replace BKg1:=hbk
     clear hg hbk
     replace cBKg1:=MB.lz5 BKg1.out
     replace cBKg8:=MB.lz5 BKg8.out
     replace cBKg95:=MB.lz5 BKg95.out
     have H:=HH.out
     simp only[Option.some.injEq,Prod.mk.injEq] at H
     obtain⟨rfl,rfl,rfl,rfl,rfl,rfl,rfl⟩:=H
     clear HH
     go_wp2
     refine bodyPost_ret (results_ctt rfl _ _ g1 57 #[.int .i64 (wrap64 (Int.tdiv (wrap64 (bt a0 a1)) 64)),.bool true,.int .i64 (Int.tmod (wrap64 (bt a0 a1)) 32),.string (⟨#[]⟩:ByteArray),(.slice A261 t237.length cp262)] (0,0) _ rfl BKg1.out Try.underlying57 rfl (by kernel_rfl)) rfl ?_
     exact⟨_,by first|rfl|(simp;done)|(simp[*];done),(Kd.N_mono (ok:=(fun k_=>(((w.heap.size≤k_)∧k_≠g1)∧k_≠g8)∧k_≠g95)) HN241.out (fun k_ hk_=>hk_.1.1.1)),HB.out⟩
    go_wp2_with ((with_reducible refine gs 57 6 rfl ?_);refine zs 57 6 #[.int .i64 0,.bool false,.int .i64 0,.string (⟨#[]⟩:ByteArray),.slice none 0 0] BKg1.out [.int .i64 0,.bool false,.int .i64 0,.string (⟨#[]⟩:ByteArray),.slice none 0 0] (h:=?_);intro w296 hbk hg)
    refine zg ?_
    replace BKg8:=zbg BKg8.out hg NEg8_g1
    replace BKg95:=zbg BKg95.out hg NEg95_g1
    replace HB:=zhg HB.out hg (below_size HB.out) GEg1
    replace BKg1:=hbk
    clear hg hbk
    replace cBKg1:=MB.lz5 BKg1.out
    replace cBKg8:=MB.lz5 BKg8.out
    replace cBKg95:=MB.lz5 BKg95.out
    have H:=HH.out
    simp only[Option.some.injEq,Prod.mk.injEq] at H
    obtain⟨rfl,rfl,rfl,rfl,rfl,rfl,rfl⟩:=H
    clear HH
    go_wp2
    refine bodyPost_ret (results_ctt rfl _ _ g1 57 #[.int .i64 0,.bool false,.int .i64 0,.string (⟨#[]⟩:ByteArray),.slice none 0 0] (0,0) _ rfl BKg1.out Try.underlying57 rfl (by kernel_rfl)) rfl ?_
    exact⟨_,by first|rfl|(simp;done)|(simp[*];done),(Kd.N_nil _ _ _ _ _),HB.out⟩
   go_wp2_with ((with_reducible refine gs 9 74 rfl ?_);refine zs 9 74 #[.int .i64 (wrap64 (Int.tdiv (wrap64 (bt a0 a1)) 64)),.bool ((Int.tmod ((Int.tdiv (bt a0 a1) 32) % 256) 2)==1),.int .i64 (Int.tmod (wrap64 (bt a0 a1)) 32),.string (a0.extract (wrap64 (a1+t31)).toNat (wrap64 ((wrap64 (a1+t31))+t32)).toNat),.slice none 0 0] BKg95.out [.string (a0.extract (wrap64 (a1+t31)).toNat (wrap64 ((wrap64 (a1+t31))+t32)).toNat)] (h:=?_);intro w314 hbk hg)
   refine zg ?_
   replace BKg1:=zbg BKg1.out hg NEg1_g95
   replace BKg8:=zbg BKg8.out hg NEg8_g95
   replace HB:=zhg HB.out hg (below_size HB.out) GEg95
   replace BKg95:=hbk
   clear hg hbk
   clear hmx134 hh0134 hh1134 hh2134 hh3134
   replace cBKg1:=MB.lz5 BKg1.out
   replace cBKg8:=MB.lz5 BKg8.out
   replace cBKg95:=MB.lz5 BKg95.out
   go_wp2_with ((with_reducible refine gs 57 6 rfl ?_);refine zs 57 6 #[.int .i64 (wrap64 (Int.tdiv (wrap64 (bt a0 a1)) 64)),.bool false,.int .i64 (Int.tmod (wrap64 (bt a0 a1)) 32),.string (a0.extract (wrap64 (a1+t31)).toNat (wrap64 ((wrap64 (a1+t31))+t32)).toNat),.slice none 0 0] BKg1.out [.int .i64 (wrap64 (Int.tdiv (wrap64 (bt a0 a1)) 64)),.bool false,.int .i64 (Int.tmod (wrap64 (bt a0 a1)) 32),.string (a0.extract (wrap64 (a1+t31)).toNat (wrap64 ((wrap64 (a1+t31))+t32)).toNat),.slice none 0 0] (h:=?_);intro w330 hbk hg)
   refine zg ?_
   replace BKg8:=zbg BKg8.out hg NEg8_g1
   replace BKg95:=zbg BKg95.out hg NEg95_g1
   replace HB:=zhg HB.out hg (below_size HB.out) GEg1
   replace BKg1:=hbk
   clear hg hbk
   replace cBKg1:=MB.lz5 BKg1.out
   replace cBKg8:=MB.lz5 BKg8.out
   replace cBKg95:=MB.lz5 BKg95.out
   have H:=HH.out
   simp only[Option.some.injEq,Prod.mk.injEq] at H
   obtain⟨rfl,rfl,rfl,rfl,rfl,rfl,rfl⟩:=H
   clear HH
   go_wp2
   refine bodyPost_ret (results_ctt rfl _ _ g1 57 #[.int .i64 (wrap64 (Int.tdiv (wrap64 (bt a0 a1)) 64)),.bool false,.int .i64 (Int.tmod (wrap64 (bt a0 a1)) 32),.string (a0.extract (wrap64 (a1+t31)).toNat (wrap64 ((wrap64 (a1+t31))+t32)).toNat),.slice none 0 0] (0,0) _ rfl BKg1.out Try.underlying57 rfl (by kernel_rfl)) rfl ?_
   exact⟨_,by first|rfl|(simp;done)|(simp[*];done),(Kd.N_nil _ _ _ _ _),HB.out⟩
  go_wp2_with ((with_reducible refine gs 57 6 rfl ?_);refine zs 57 6 #[.int .i64 0,.bool false,.int .i64 0,.string (⟨#[]⟩:ByteArray),.slice none 0 0] (cs:= #[.int .i64 0,.bool false,.int .i64 0,.string (⟨#[]⟩:ByteArray),.slice none 0 0]) (ty:=57) (by(with_reducible repeat(first|refine blk_drewN ?_ _|refine blk_drew ?_|refine blk_alloc ?_ _));exact BKg1.out) [.int .i64 0,.bool false,.int .i64 0,.string (⟨#[]⟩:ByteArray),.slice none 0 0] (h:=?_);intro w354 hbk hg)
  refine zg ?_
  replace BKg8:=zbg (o2:=.cells #[.int .i64 0,.bool false,.int .i64 0,.string (⟨#[]⟩:ByteArray),.slice none 0 0] 57 (0,0)) (by(with_reducible repeat(first|refine blk_drewN ?_ _|refine blk_drew ?_|refine blk_alloc ?_ _));exact BKg8.out) hg NEg8_g1
  replace HB:=zhg (by repeat(first|(with_reducible first|exact HB.out|apply below_alloc|apply pw_below_drewN|apply below_drew1)|exact HB.out)) hg (below_size (by repeat(first|(with_reducible first|exact HB.out|apply below_alloc|apply pw_below_drewN|apply below_drew1)|exact HB.out))) GEg1
  replace BKg1:=hbk
  clear hg hbk
  replace cBKg1:=MB.lz5 BKg1.out
  replace cBKg8:=MB.lz5 BKg8.out
  have H:=HH.out
  simp only[Option.some.injEq,Prod.mk.injEq] at H
  obtain⟨rfl,rfl,rfl,rfl,rfl,rfl,rfl⟩:=H
  clear HH
  go_wp2
  refine bodyPost_ret (results_ctt rfl _ _ g1 57 #[.int .i64 0,.bool false,.int .i64 0,.string (⟨#[]⟩:ByteArray),.slice none 0 0] (0,0) _ rfl BKg1.out Try.underlying57 rfl (by kernel_rfl)) rfl ?_
  exact⟨_,by first|rfl|(simp;done)|(simp[*];done),(Kd.N_nil _ _ _ _ _),HB.out⟩
 intro a0 a1 r1 r2 w h
 cases k with
 |zero=>exact absurd h (by simp[toponymref15_all.f])
 |succ k1=>
 simp only[toponymref15_all.f] at h
 have HH:=za h
 clear h
 have HB:=za (Below.refl w.heap.size w)
 have hu57:=Try.underlying57
 go_enter Try.func81,Try.ntmps81
 go_wp2
 go_loopg [6,7] k1 (fun kq u6 u7 w'=>∃ (x1:List (S57)) (x4:Int),u7=.int .i64 x4∧Aside0 ((toponymref15_all.l0 kq x1 x4 a0 a1)=some (r1,r2))∧Aside0 (kq≤k1)∧Aside0 (Kd.N k57 57 w' w.heap.size (fun k_=>(w.heap.size≤k_)) u6 x1)∧Aside0 (Below w.heap.size w w'))
 case atStart=>exact⟨([]:List (S57)),0,(by first|rfl|(simp;done)|(simp[*];done)),HH,⟨Nat.le_refl _⟩,⟨Kd.N_nil _ _ _ _ _⟩,⟨HB.out⟩⟩
 case round=>
  clear HH
  clear HB
  obtain⟨x1,x4,rfl,HA,HK0,HN3,HB⟩:=hrel
  obtain⟨v2,rfl⟩:∃ z_:Value,z_=u6:=⟨_,rfl⟩
  obtain⟨w6,rfl⟩:∃ wo_:World,wo_=wr:=⟨_,rfl⟩
  cases gk with
  |zero=>exact absurd HA.out (by simp[toponymref15_all.l0])
  |succ k5=>
   have H:=HA.out
   clear HA
   simp only[toponymref15_all.l0] at H
   have HH:=za H
   clear H
   replace HH:=zqt HH
   rcases HH with⟨HH,hk8,hk9⟩|⟨HH,hk54,hk55⟩
   ·replace HH:=zd HH
    obtain⟨⟨t10,t11,t12,t13,t14,t15,t16⟩,At17,HH⟩:=HH
    dsimp only at HH
    go_wp2_with ((with_reducible refine gc 53 rfl ?_);refine zc 53 (some 19) Try.func53 #[.string a0,.int .i64 x4,.int .i64 a1] (h:=?_);(with_reducible refine((ih k5 (by have:=HK0.out;omega)).1  a0 x4 a1 t10 t11 t12 t13 t14 t15 t16 _  At17.out).mono ?_);rintro e w18 ⟨v19,rfl,hn19,hb⟩;refine⟨_,rfl,?_⟩)
    refine zg ?_
    have hba:=Kd.N_base hn19
    have HN19:=znl (ok2:=(fun k_=>(w.heap.size≤k_)∧some k_≠(v2:Value).ownBlock)) hn19 (below_size HB.out) (fun k_ h_=>⟨(Nat.le_trans (below_size HB.out) h_),Kd.fresh' (Kd.N_lt HN3.out) k_ h_⟩)
    replace HN3:=znr (u:=v19) HN3.out hba hb
    replace HB:=zhb HB.out hb
    clear hn19 hba hb
    go_wp2_with ((with_reducible refine gd 8 rfl ?_);refine zb 8 57 #[.int .i64 0,.bool false,.int .i64 0,.string (⟨#[]⟩:ByteArray),.slice none 0 0] (h:=?_);intro g20 hg w21 BKg20 hb)
    refine zg ?_
    have GEg20:=zge hg (below_size HB.out)
    replace HN3:=zne HN3.out hg hb
    replace HN19:=zne HN19.out hg hb
    replace HB:=zhb HB.out hb
    clear hg hb
    replace cBKg20:=MB.lz5 BKg20.out
    obtain⟨A28,cp29,he_⟩:=Kd.N_slice HN19.out
    subst he_
    go_wp2_with ((with_reducible refine gs 57 8 rfl ?_);refine zs 57 8 #[.int .i64 t10,.bool t11,.int .i64 t12,.string t13,(.slice A28 t14.length cp29)] BKg20.out [.int .i64 t10,.bool t11,.int .i64 t12,.string t13,(.slice A28 t14.length cp29)] (h:=?_);intro w27 hbk hg)
    refine zg ?_
    replace HN3:=zng HN3.out hg fun k_ hk_=>hk_.2
    replace HN19:=zng HN19.out hg fun k_ hk_=>hk_.2
    replace HB:=zhg HB.out hg (below_size HB.out) GEg20
    replace BKg20:=hbk
    clear hg hbk
    replace cBKg20:=MB.lz5 BKg20.out
    replace HH:=zqe HH
    rcases HH with⟨HH,hk36,hk37⟩|⟨HH,hk52,hk53⟩
    ·have HL41:=za (Kd.N_reads' HN19.out).2.1
     have HF40:=za (Kd.N_F HN19.out)
     clear HN19
     replace HN3:=za (Kd.N_mono (ok:=(fun k_=>((w.heap.size≤k_)∧some k_≠((.slice A28 t14.length cp29):Value).ownBlock)∧k_≠g20)) HN3.out (fun k_ hk_=>⟨hk_.1.1,hk_.2⟩):Kd.N k57 _ _ _ (fun k_=>(w.heap.size≤k_)∧k_≠g20) _ _)
     obtain⟨HH,LMc42⟩:=zlm HH
     obtain⟨y43,hy43⟩:∃ y_:List (S57),y_=(x1++[(⟨t10,t11,t12,t13,t14⟩:S57)]):=⟨_,rfl⟩
     have H:((toponymref15_all.l0 k5 y43 t15 a0 a1))=some (r1,r2):=by rw[hy43];exact HH.out
     replace HH:=za H
     clear H
     have NYy43:=za hy43
     clear hy43
     go_wp2_with (((with_reducible refine gate_dst (N:=29) rfl ?_);(try(refine gate_guard (by rfl) ?_;dsimp only));refine Kd.N_append k57 w.heap.size rfl _ _ 55 57 (.agg #[(.int .i64 0),(.bool false),(.int .i64 0),(.string ⟨#[]⟩),(.slice none 0 0)]) 64 rfl Try.underlying55 info57 rfl (by decide) (by decide) (v2) x1 (⟨t10,t11,t12,t13,t14⟩:S57) [.int .i64 t10,.bool t11,.int .i64 t12,.string t13,.slice A28 t14.length cp29] (fun k_=>(w.heap.size≤k_)∧k_≠g20) (fun k_=>(fun k_=>(w.heap.size≤k_)∧k_≠g20) k_∧some k_≠(v2:Value).ownBlock) rfl rfl (k57_mkF _ _ (⟨t10,t11,t12,t13,t14⟩:S57) HL41.out (Kd.F_mono (ok:=(fun k_=>((w.heap.size≤k_)∧some k_≠(v2:Value).ownBlock)∧k_≠g20)) (by(with_reducible repeat(first|apply Kd.F_alloc|apply Kd.F_drewN|apply Kd.F_drew));exact HF40.out) (fun k_ hk_=>⟨⟨hk_.1.1,hk_.2⟩,hk_.1.2⟩))) (fun _ hk_=>hk_) (fun k_ h_=>⟨(Nat.le_trans (below_size (by repeat(first|(with_reducible first|exact HB.out|apply below_alloc|apply pw_below_drewN|apply below_drew1)|exact HB.out))) h_),Kd.freshB (g:=g20) (o:=.cells #[.int .i64 t10,.bool t11,.int .i64 t12,.string t13,.slice A28 t14.length cp29] 57 (0,0)) (by(with_reducible repeat(first|refine blk_drewN ?_ _|refine blk_drew ?_|refine blk_alloc ?_ _));exact BKg20.out) k_ h_⟩) (by(with_reducible repeat(first|apply Kd.N_alloc|apply Kd.N_drewN|apply Kd.N_drew));exact HN3.out) (by repeat(first|(with_reducible first|exact HB.out|apply below_alloc|apply pw_below_drewN|apply below_drew1)|exact HB.out)) (below_size (by repeat(first|(with_reducible first|exact HB.out|apply below_alloc|apply pw_below_drewN|apply below_drew1)|exact HB.out))) (by first|(have:=LMc42.out;omega)|(have:=LMc42.out;simp at *;omega)) ?_;intro v44 w45 hn1 hb1 hg1 hat1);replace hat1:=za hat1;refine stop_ ?_)
     refine zg ?_
     replace hat1:=hat1.out
     replace BKg20:=za (blk_grown (g:=g20) (o:=.cells #[.int .i64 t10,.bool t11,.int .i64 t12,.string t13,.slice A28 t14.length cp29] 57 (0,0)) (by(with_reducible repeat(first|refine blk_drewN ?_ _|refine blk_drew ?_|refine blk_alloc ?_ _));exact BKg20.out) hg1 (Kd.N_away (ok:=(fun k_=>(w.heap.size≤k_)∧k_≠g20)) HN3.out (fun k_ hk_=>hk_.2)))
     replace HB:=za hb1
     clear HN3
     have HN46:=za hn1
     clear hn1 hb1 hg1 hat1
     replace HN46:=za (by rw[NYy43.out];exact HN46.out:Kd.N k57 57 w45 w.heap.size (fun k_=>(w.heap.size≤k_)∧k_≠g20) v44 y43)
     replace cBKg20:=MB.lz5 BKg20.out
     go_wp2
     go_roundg k5
     case measure=>have:=HK0.out;omega
     case rel=>exact⟨y43,t15,(by first|rfl|(simp;done)|(simp[*];done)),HH,⟨by have:=HK0.out;omega⟩,⟨(Kd.N_mono (ok:=(fun k_=>(w.heap.size≤k_)∧k_≠g20)) HN46.out (fun k_ hk_=>hk_.1))⟩,⟨HB.out⟩⟩
    have H:=HH.out
    simp only[Option.some.injEq,Prod.mk.injEq] at H
    obtain⟨rfl,rfl⟩:=H
    clear HH
    go_wp2
    go_ret2
    exact⟨_,by first|rfl|(simp;done)|(simp[*];done),(Kd.N_nil _ _ _ _ _),HB.out⟩
   have H:=HH.out
   simp only[Option.some.injEq,Prod.mk.injEq] at H
   obtain⟨rfl,rfl⟩:=H
   clear HH
   go_wp2
   go_ret2
   exact⟨_,by first|rfl|(simp;done)|(simp[*];done),(Kd.N_mono (ok:=(fun k_=>(w.heap.size≤k_))) HN3.out (fun k_ hk_=>hk_)),HB.out⟩
theorem toponymref15_take.calls (k:Nat):∀ (a0:ByteArray) (a1:Int) (a2:Int) (r1:Int) (r2:Bool) (r3:Int) (r4:ByteArray) (r5:List (S57)) (r6:Int) (r7:Int) (w:World) (h:toponymref15_take.f k a0 a1 a2=some (r1,r2,r3,r4,r5,r6,r7)),
  Calls Try.prog 53 #[.string a0,.int .i64 a1,.int .i64 a2] w (fun e w'=>∃ v4_:Value,e=.returned (.tuple #[.agg #[.int .i64 r1,.bool r2,.int .i64 r3,.string r4,v4_],.int .i64 r6,.int .i64 r7])∧Kd.N k57 57 w' w.heap.size (fun k_=>w.heap.size≤k_) v4_ r5∧Below w.heap.size w w'):=(toponymref15_take.group k).1
theorem toponymref15_all.calls (k:Nat):∀ (a0:ByteArray) (a1:Int) (r1:List (S57)) (r2:Int) (w:World) (h:toponymref15_all.f k a0 a1=some (r1,r2)),
  Calls Try.prog 81 #[.string a0,.int .i64 a1] w (fun e w'=>∃ v0_:Value,e=.returned (.tuple #[v0_,.int .i64 r2])∧Kd.N k57 57 w' w.heap.size (fun k_=>w.heap.size≤k_) v0_ r1∧Below w.heap.size w w'):=(toponymref15_take.group k).2
end Go.Proofs.Ytdjkemhmhkpmkaa.GA
