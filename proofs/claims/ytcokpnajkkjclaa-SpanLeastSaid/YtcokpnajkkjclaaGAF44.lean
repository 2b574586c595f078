import Derived.Test.YtcokpnajkkjclaaGA0
import Derived.Test.YtcokpnajkkjclaaGM1
import Derived.Test.YtcokpnajkkjclaaMS
namespace Go.Proofs.Ytcokpnajkkjclaa.GA
open Go.RowKit Go.Proofs.Ytcokpnajkkjclaa Go.Proofs.Ytcokpnajkkjclaa.MW Go.Proofs.YtcokpnajkkjclaaW.PrintWords Go.Proofs.YtcokpnajkkjclaaW.PrintLast Go.Proofs.YtcokpnajkkjclaaW.PrintMore
attribute [local go_sem] max2_int min2_int max_two min_two
set_option maxHeartbeats 8000000
set_option maxRecDepth 100000
set_option linter.unusedVariables false
set_option linter.unusedSimpArgs false
mutual
def slices_partitionOrdered_rune.l0:Nat→Int→Int→Int→(List Int)→(List Int)→Option (Int × Bool × List Int)
 |0,_,_,_,_,_=>none
 |k+1,x21,a1,a2,l0,y18=>(if x21≤(wrap64 (a2 - 1)) then(if 0≤x21 then(if x21<(l0.length:Int) then(if 0≤a1 then(if a1<(l0.length:Int) then((cmp_Less_rune.f (rd y18 x21) (rd y18 a1)).bind fun t41=>(some (t41))) else(none)) else(none)) else(none)) else(none)) else(some (false))).bind fun b24=>(if b24=true then((slices_partitionOrdered_rune.l0 k (wrap64 (x21+1)) a1 a2 l0 y18)) else((slices_partitionOrdered_rune.l1 k (wrap64 (a2 - 1)) a1 l0 x21 y18)))
def slices_partitionOrdered_rune.l1:Nat→Int→Int→(List Int)→Int→(List Int)→Option (Int × Bool × List Int)
 |0,_,_,_,_,_=>none
 |k+1,x51,a1,l0,x21,y18=>(if x21≤x51 then(if 0≤x51 then(if x51<(l0.length:Int) then(if 0≤a1 then(if a1<(l0.length:Int) then((cmp_Less_rune.f (rd y18 x51) (rd y18 a1)).bind fun t71=>(some (!t71))) else(none)) else(none)) else(none)) else(none)) else(some (false))).bind fun b54=>(if b54=true then((slices_partitionOrdered_rune.l1 k (wrap64 (x51 - 1)) a1 l0 x21 y18)) else(if x21>x51 then(if 0≤a1 then(if a1<(l0.length:Int) then(if 0≤x51 then(if x51<(l0.length:Int) then((some (List.set y18 x51.toNat (rd y18 a1):List Int)).bind fun y96=>((some (List.set y96 a1.toNat (rd y18 x51):List Int)).bind fun y100=>(some (x51,true,y100)))) else(none)) else(none)) else(none)) else(none)) else(if 0≤x51 then(if x51<(l0.length:Int) then(if 0≤x21 then(if x21<(l0.length:Int) then((some (List.set y18 x21.toNat (rd y18 x51):List Int)).bind fun y123=>((some (List.set y123 x51.toNat (rd y18 x21):List Int)).bind fun y127=>((slices_partitionOrdered_rune.l2 k (wrap64 (x21+1)) (wrap64 (x51 - 1)) y127 a1 l0)))) else(none)) else(none)) else(none)) else(none))))
def slices_partitionOrdered_rune.l2:Nat→Int→Int→(List Int)→Int→(List Int)→Option (Int × Bool × List Int)
 |0,_,_,_,_,_=>none
 |k+1,x130,x131,x132,a1,l0=>(slices_partitionOrdered_rune.l3 k x130 a1 l0 x131 x132)
def slices_partitionOrdered_rune.l3:Nat→Int→Int→(List Int)→Int→(List Int)→Option (Int × Bool × List Int)
 |0,_,_,_,_,_=>none
 |k+1,x135,a1,l0,x131,x132=>(if x135≤x131 then(if 0≤x135 then(if x135<(l0.length:Int) then(if 0≤a1 then(if a1<(l0.length:Int) then((cmp_Less_rune.f (rd x132 x135) (rd x132 a1)).bind fun t155=>(some (t155))) else(none)) else(none)) else(none)) else(none)) else(some (false))).bind fun b138=>(if b138=true then((slices_partitionOrdered_rune.l3 k (wrap64 (x135+1)) a1 l0 x131 x132)) else((slices_partitionOrdered_rune.l4 k x131 a1 l0 x132 x135)))
def slices_partitionOrdered_rune.l4:Nat→Int→Int→(List Int)→(List Int)→Int→Option (Int × Bool × List Int)
 |0,_,_,_,_,_=>none
 |k+1,x165,a1,l0,x132,x135=>(if x135≤x165 then(if 0≤x165 then(if x165<(l0.length:Int) then(if 0≤a1 then(if a1<(l0.length:Int) then((cmp_Less_rune.f (rd x132 x165) (rd x132 a1)).bind fun t185=>(some (!t185))) else(none)) else(none)) else(none)) else(none)) else(some (false))).bind fun b168=>(if b168=true then((slices_partitionOrdered_rune.l4 k (wrap64 (x165 - 1)) a1 l0 x132 x135)) else(if x135>x165 then(if 0≤a1 then(if a1<(l0.length:Int) then(if 0≤x165 then(if x165<(l0.length:Int) then((some (List.set x132 x165.toNat (rd x132 a1):List Int)).bind fun y210=>((some (List.set y210 a1.toNat (rd x132 x165):List Int)).bind fun y214=>(some (x165,false,y214)))) else(none)) else(none)) else(none)) else(none)) else(if 0≤x165 then(if x165<(l0.length:Int) then(if 0≤x135 then(if x135<(l0.length:Int) then((some (List.set x132 x135.toNat (rd x132 x165):List Int)).bind fun y237=>((some (List.set y237 x165.toNat (rd x132 x135):List Int)).bind fun y241=>((slices_partitionOrdered_rune.l2 k (wrap64 (x135+1)) (wrap64 (x165 - 1)) y241 a1 l0)))) else(none)) else(none)) else(none)) else(none))))
end
def slices_partitionOrdered_rune.f (k:Nat) (l0:List Int) (a1:Int) (a2:Int) (a3:Int):Option (Int × Bool × List Int):=if 0≤a3 then(if a3<(l0.length:Int) then(if 0≤a1 then(if a1<(l0.length:Int) then((some (List.set l0 a1.toNat (rd l0 a3):List Int)).bind fun y14=>((some (List.set y14 a3.toNat (rd l0 a1):List Int)).bind fun y18=>((slices_partitionOrdered_rune.l0 k (wrap64 (a1+1)) a1 a2 l0 y18)))) else(none)) else(none)) else(none)) else(none)
theorem slices_partitionOrdered_rune.mono_l:∀ k,(∀ y0 y1 y2 y3 y4,LeO (slices_partitionOrdered_rune.l0 k y0 y1 y2 y3 y4) (slices_partitionOrdered_rune.l0 (k+1) y0 y1 y2 y3 y4))∧(∀ y0 y1 y2 y3 y4,LeO (slices_partitionOrdered_rune.l1 k y0 y1 y2 y3 y4) (slices_partitionOrdered_rune.l1 (k+1) y0 y1 y2 y3 y4))∧(∀ y0 y1 y2 y3 y4,LeO (slices_partitionOrdered_rune.l2 k y0 y1 y2 y3 y4) (slices_partitionOrdered_rune.l2 (k+1) y0 y1 y2 y3 y4))∧(∀ y0 y1 y2 y3 y4,LeO (slices_partitionOrdered_rune.l3 k y0 y1 y2 y3 y4) (slices_partitionOrdered_rune.l3 (k+1) y0 y1 y2 y3 y4))∧(∀ y0 y1 y2 y3 y4,LeO (slices_partitionOrdered_rune.l4 k y0 y1 y2 y3 y4) (slices_partitionOrdered_rune.l4 (k+1) y0 y1 y2 y3 y4))
 |0=>⟨fun _ _ _ _ _ r h=>by simp[slices_partitionOrdered_rune.l0] at h,fun _ _ _ _ _ r h=>by simp[slices_partitionOrdered_rune.l1] at h,fun _ _ _ _ _ r h=>by simp[slices_partitionOrdered_rune.l2] at h,fun _ _ _ _ _ r h=>by simp[slices_partitionOrdered_rune.l3] at h,fun _ _ _ _ _ r h=>by simp[slices_partitionOrdered_rune.l4] at h⟩
 |k+1=>by
  obtain⟨ih0,ih1,ih2,ih3,ih4⟩:=slices_partitionOrdered_rune.mono_l k
  refine⟨?_,?_,?_,?_,?_⟩
  ·intro y0 y1 y2 y3 y4
   unfold slices_partitionOrdered_rune.l0
   with_reducible repeat' first|exact ih0 _ _ _ _ _|exact ih1 _ _ _ _ _|exact ih2 _ _ _ _ _|exact ih3 _ _ _ _ _|exact ih4 _ _ _ _ _|exact LeO.refl _|exact LeO.none _|refine LeO.ite ?_ ?_|refine LeO.bind ?_ (fun _=>?_)
  ·intro y0 y1 y2 y3 y4
   unfold slices_partitionOrdered_rune.l1
   with_reducible repeat' first|exact ih0 _ _ _ _ _|exact ih1 _ _ _ _ _|exact ih2 _ _ _ _ _|exact ih3 _ _ _ _ _|exact ih4 _ _ _ _ _|exact LeO.refl _|exact LeO.none _|refine LeO.ite ?_ ?_|refine LeO.bind ?_ (fun _=>?_)
  ·intro y0 y1 y2 y3 y4
   unfold slices_partitionOrdered_rune.l2
   with_reducible repeat' first|exact ih0 _ _ _ _ _|exact ih1 _ _ _ _ _|exact ih2 _ _ _ _ _|exact ih3 _ _ _ _ _|exact ih4 _ _ _ _ _|exact LeO.refl _|exact LeO.none _|refine LeO.ite ?_ ?_|refine LeO.bind ?_ (fun _=>?_)
  ·intro y0 y1 y2 y3 y4
   unfold slices_partitionOrdered_rune.l3
   with_reducible repeat' first|exact ih0 _ _ _ _ _|exact ih1 _ _ _ _ _|exact ih2 _ _ _ _ _|exact ih3 _ _ _ _ _|exact ih4 _ _ _ _ _|exact LeO.refl _|exact LeO.none _|refine LeO.ite ?_ ?_|refine LeO.bind ?_ (fun _=>?_)
  intro y0 y1 y2 y3 y4
  unfold slices_partitionOrdered_rune.l4
  with_reducible repeat' first|exact ih0 _ _ _ _ _|exact ih1 _ _ _ _ _|exact ih2 _ _ _ _ _|exact ih3 _ _ _ _ _|exact ih4 _ _ _ _ _|exact LeO.refl _|exact LeO.none _|refine LeO.ite ?_ ?_|refine LeO.bind ?_ (fun _=>?_)
theorem slices_partitionOrdered_rune.mono:∀ a0_ a1_ a2_ a3_ k,LeO (slices_partitionOrdered_rune.f k a0_ a1_ a2_ a3_) (slices_partitionOrdered_rune.f (k+1) a0_ a1_ a2_ a3_):=by
 intro a0_ a1_ a2_ a3_ k
 obtain⟨ih0,ih1,ih2,ih3,ih4⟩:=slices_partitionOrdered_rune.mono_l k
 unfold slices_partitionOrdered_rune.f
 with_reducible repeat' first|exact ih0 _ _ _ _ _|exact ih1 _ _ _ _ _|exact ih2 _ _ _ _ _|exact ih3 _ _ _ _ _|exact ih4 _ _ _ _ _|exact LeO.refl _|exact LeO.none _|refine LeO.ite ?_ ?_|refine LeO.bind ?_ (fun _=>?_)
theorem slices_partitionOrdered_rune.calls (k:Nat) (B_:Nat) (A0:Option Addr) (c0:Nat) (l0:List Int) (a1:Int) (a2:Int) (a3:Int) (r1:Int) (r2:Bool) (r3:List Int) (w:World) (hB0:B_≤w.heap.size) (hn0:Kd.N (Kd.int .i32) 21 w B_ (fun k_=>some k_=((.slice A0 l0.length c0):Value).ownBlock) (.slice A0 l0.length c0) l0) (h:slices_partitionOrdered_rune.f k l0 a1 a2 a3=some (r1,r2,r3)):
  Calls Try.prog 44 #[(.slice A0 l0.length c0),.int .i64 a1,.int .i64 a2,.int .i64 a3] w (fun e w'=>e=.returned (.tuple #[.int .i64 r1,.bool r2])∧Kd.N (Kd.int .i32) 21 w' B_ (fun k_=>some k_=((.slice A0 l0.length c0):Value).ownBlock∨w.heap.size≤k_) (.slice A0 l0.length c0) r3∧(∀ k_:Nat,some k_≠((.slice A0 l0.length c0):Value).ownBlock→k_<w.heap.size→w'.heap[k_]? =w.heap[k_]?)∧Below B_ w w'):=by
 unfold slices_partitionOrdered_rune.f at h
 have HH:=za h
 clear h
 obtain⟨P0_,HPO⟩:∃ P0_:Nat→Prop,P0_=(fun k_=>some k_≠((.slice A0 l0.length c0):Value).ownBlock):=⟨_,rfl⟩
 have HFfr:=za (MB.frK_new w (fun k_ hk_=>by rw[HPO] at hk_;exact⟨trivial,hk_⟩):Kd.F (MB.frK w P0_) w (fun k_=>True∧some k_≠((.slice A0 l0.length c0):Value).ownBlock) (some ⟨0,0,none⟩) [()].length [()])
 replace HPO:=za HPO
 have hB_:=za hB0
 have HN0:=za (Kd.N_mono hn0 (fun k_ hk_=>⟨trivial,.inl hk_⟩):Kd.N (Kd.int .i32) 21 w B_ (fun k_=>True∧(some k_=((.slice A0 l0.length c0):Value).ownBlock∨w.heap.size≤k_)) (.slice A0 l0.length c0) l0)
 clear hn0
 have HB:=za (Below.refl B_ w)
 go_enter Try.func44,Try.ntmps44
 go_wp2
 have hwr_:∀ n_:Int,IntKind.i64.wrap n_=wrap64 n_:=fun n_=>IntWalk.i64_left n_
 refine wp_region_any (by kernel_rfl) ?_
 change wpAny _ _ _ _ 16 #[false,false,false,false,false,false,false,false,false,false,false,false,false,false,false,false] _ w.drew
 obtain⟨w1,hw_⟩:∃ w_:World,w_=w.drew:=⟨_,rfl⟩
 rw[← hw_]
 have hb:Below w.heap.size w w1:=by rw[hw_];exact below_drew1 (Below.refl _ _)
 clear hw_
 replace HFfr:=zfb HFfr.out hb
 replace HN0:=znb HN0.out hb
 replace HB:=za (MB.below_stepB hB_.out HB.out hb)
 clear hb
 refine zt 0 ((.slice A0 l0.length c0)) #[_,_,_,_,_,_,_,_,_,_,_,_,_,_,_,_] ⟨[_,_,_,_,_,_,_,_,_,_,_,_,_,_,_,_,_,_,_,_,_,_,_,_,_,_,_,_,_,_,_,_,_,_,_,_,_,_,_,_,_,_,_,_,_,_,_,_,_,_,_,_,_,_,_,_,_,_,_,_,_,_,_,_,_,_,_,_,_,_,_,_,_,_,_,_,_,_,_,_,_,_,_,_,_,_,_,_,_,_,_,_,_,_,_,_,_,_,_,_,_,_,_,_,_,_,_,_,_,_,_,_,_,_,_,_,_,_,_,_,_,_,_,_,_,_,_,_,_,_,_,_,_,_,_,_,_,_,_,_,_,_,_,_,_,_,_,_,_,_,_,_,_,_,_,_,_,_,_,_,_,_,_,_,_,_,_,_].toArray,[]⟩ (h:=?_)
 refine zt 1 (.int .i64 a1) #[_,_,_,_,_,_,_,_,_,_,_,_,_,_,_,_] ⟨[_,_,_,_,_,_,_,_,_,_,_,_,_,_,_,_,_,_,_,_,_,_,_,_,_,_,_,_,_,_,_,_,_,_,_,_,_,_,_,_,_,_,_,_,_,_,_,_,_,_,_,_,_,_,_,_,_,_,_,_,_,_,_,_,_,_,_,_,_,_,_,_,_,_,_,_,_,_,_,_,_,_,_,_,_,_,_,_,_,_,_,_,_,_,_,_,_,_,_,_,_,_,_,_,_,_,_,_,_,_,_,_,_,_,_,_,_,_,_,_,_,_,_,_,_,_,_,_,_,_,_,_,_,_,_,_,_,_,_,_,_,_,_,_,_,_,_,_,_,_,_,_,_,_,_,_,_,_,_,_,_,_,_,_,_,_,_,_].toArray,[]⟩ (h:=?_)
 refine zt 2 ((.slice A0 l0.length c0)) #[_,_,_,_,_,_,_,_,_,_,_,_,_,_,_,_] ⟨[_,_,_,_,_,_,_,_,_,_,_,_,_,_,_,_,_,_,_,_,_,_,_,_,_,_,_,_,_,_,_,_,_,_,_,_,_,_,_,_,_,_,_,_,_,_,_,_,_,_,_,_,_,_,_,_,_,_,_,_,_,_,_,_,_,_,_,_,_,_,_,_,_,_,_,_,_,_,_,_,_,_,_,_,_,_,_,_,_,_,_,_,_,_,_,_,_,_,_,_,_,_,_,_,_,_,_,_,_,_,_,_,_,_,_,_,_,_,_,_,_,_,_,_,_,_,_,_,_,_,_,_,_,_,_,_,_,_,_,_,_,_,_,_,_,_,_,_,_,_,_,_,_,_,_,_,_,_,_,_,_,_,_,_,_,_,_,_].toArray,[]⟩ (h:=?_)
 refine zt 3 (.int .i64 a3) #[_,_,_,_,_,_,_,_,_,_,_,_,_,_,_,_] ⟨[_,_,_,_,_,_,_,_,_,_,_,_,_,_,_,_,_,_,_,_,_,_,_,_,_,_,_,_,_,_,_,_,_,_,_,_,_,_,_,_,_,_,_,_,_,_,_,_,_,_,_,_,_,_,_,_,_,_,_,_,_,_,_,_,_,_,_,_,_,_,_,_,_,_,_,_,_,_,_,_,_,_,_,_,_,_,_,_,_,_,_,_,_,_,_,_,_,_,_,_,_,_,_,_,_,_,_,_,_,_,_,_,_,_,_,_,_,_,_,_,_,_,_,_,_,_,_,_,_,_,_,_,_,_,_,_,_,_,_,_,_,_,_,_,_,_,_,_,_,_,_,_,_,_,_,_,_,_,_,_,_,_,_,_,_,_,_,_].toArray,[]⟩ (h:=?_)
 refine zt 4 ((.slice A0 l0.length c0)) #[_,_,_,_,_,_,_,_,_,_,_,_,_,_,_,_] ⟨[_,_,_,_,_,_,_,_,_,_,_,_,_,_,_,_,_,_,_,_,_,_,_,_,_,_,_,_,_,_,_,_,_,_,_,_,_,_,_,_,_,_,_,_,_,_,_,_,_,_,_,_,_,_,_,_,_,_,_,_,_,_,_,_,_,_,_,_,_,_,_,_,_,_,_,_,_,_,_,_,_,_,_,_,_,_,_,_,_,_,_,_,_,_,_,_,_,_,_,_,_,_,_,_,_,_,_,_,_,_,_,_,_,_,_,_,_,_,_,_,_,_,_,_,_,_,_,_,_,_,_,_,_,_,_,_,_,_,_,_,_,_,_,_,_,_,_,_,_,_,_,_,_,_,_,_,_,_,_,_,_,_,_,_,_,_,_,_].toArray,[]⟩ (h:=?_)
 refine zt 5 (.int .i64 a3) #[_,_,_,_,_,_,_,_,_,_,_,_,_,_,_,_] ⟨[_,_,_,_,_,_,_,_,_,_,_,_,_,_,_,_,_,_,_,_,_,_,_,_,_,_,_,_,_,_,_,_,_,_,_,_,_,_,_,_,_,_,_,_,_,_,_,_,_,_,_,_,_,_,_,_,_,_,_,_,_,_,_,_,_,_,_,_,_,_,_,_,_,_,_,_,_,_,_,_,_,_,_,_,_,_,_,_,_,_,_,_,_,_,_,_,_,_,_,_,_,_,_,_,_,_,_,_,_,_,_,_,_,_,_,_,_,_,_,_,_,_,_,_,_,_,_,_,_,_,_,_,_,_,_,_,_,_,_,_,_,_,_,_,_,_,_,_,_,_,_,_,_,_,_,_,_,_,_,_,_,_,_,_,_,_,_,_].toArray,[]⟩ (h:=?_)
 replace HH:=zqdo HH
 obtain⟨HH,hk3⟩:=HH
 (try simp only[hk3,Bool.not_true,Bool.not_false])
 replace HH:=zqto HH
 obtain⟨HH,hk5,hk6⟩:=HH
 (try simp only[hk5,Bool.not_true,Bool.not_false])
 (try simp only[hk6,Bool.not_true,Bool.not_false])
 have p7:0≤(a3:Int):=of_decide_eq_true (by first|(with_reducible assumption)|assumption)
 have q7:a3<(l0.length:Int):=of_decide_eq_true (by first|(with_reducible assumption)|assumption)
 obtain⟨ad7,e7,hx7_0⟩:=Kd.at_int (Kd.F_now (Kd.N_F HN0.out)) a3 p7 q7
 cases e7
 replace p7:=eq_true p7
 replace q7:=eq_true q7
 refine zt 6 (.pointer (some (ad7.add (a3.toNat)))) #[_,_,_,_,_,_,_,_,_,_,_,_,_,_,_,_] ⟨[_,_,_,_,_,_,_,_,_,_,_,_,_,_,_,_,_,_,_,_,_,_,_,_,_,_,_,_,_,_,_,_,_,_,_,_,_,_,_,_,_,_,_,_,_,_,_,_,_,_,_,_,_,_,_,_,_,_,_,_,_,_,_,_,_,_,_,_,_,_,_,_,_,_,_,_,_,_,_,_,_,_,_,_,_,_,_,_,_,_,_,_,_,_,_,_,_,_,_,_,_,_,_,_,_,_,_,_,_,_,_,_,_,_,_,_,_,_,_,_,_,_,_,_,_,_,_,_,_,_,_,_,_,_,_,_,_,_,_,_,_,_,_,_,_,_,_,_,_,_,_,_,_,_,_,_,_,_,_,_,_,_,_,_,_,_,_,_].toArray,[]⟩ (h:=?_)
 refine zt 8 ((.slice (some ad7) l0.length c0)) #[_,_,_,_,_,_,_,_,_,_,_,_,_,_,_,_] ⟨[_,_,_,_,_,_,_,_,_,_,_,_,_,_,_,_,_,_,_,_,_,_,_,_,_,_,_,_,_,_,_,_,_,_,_,_,_,_,_,_,_,_,_,_,_,_,_,_,_,_,_,_,_,_,_,_,_,_,_,_,_,_,_,_,_,_,_,_,_,_,_,_,_,_,_,_,_,_,_,_,_,_,_,_,_,_,_,_,_,_,_,_,_,_,_,_,_,_,_,_,_,_,_,_,_,_,_,_,_,_,_,_,_,_,_,_,_,_,_,_,_,_,_,_,_,_,_,_,_,_,_,_,_,_,_,_,_,_,_,_,_,_,_,_,_,_,_,_,_,_,_,_,_,_,_,_,_,_,_,_,_,_,_,_,_,_,_,_].toArray,[]⟩ (h:=?_)
 refine zt 9 (.int .i64 a1) #[_,_,_,_,_,_,_,_,_,_,_,_,_,_,_,_] ⟨[_,_,_,_,_,_,_,_,_,_,_,_,_,_,_,_,_,_,_,_,_,_,_,_,_,_,_,_,_,_,_,_,_,_,_,_,_,_,_,_,_,_,_,_,_,_,_,_,_,_,_,_,_,_,_,_,_,_,_,_,_,_,_,_,_,_,_,_,_,_,_,_,_,_,_,_,_,_,_,_,_,_,_,_,_,_,_,_,_,_,_,_,_,_,_,_,_,_,_,_,_,_,_,_,_,_,_,_,_,_,_,_,_,_,_,_,_,_,_,_,_,_,_,_,_,_,_,_,_,_,_,_,_,_,_,_,_,_,_,_,_,_,_,_,_,_,_,_,_,_,_,_,_,_,_,_,_,_,_,_,_,_,_,_,_,_,_,_].toArray,[]⟩ (h:=?_)
 replace HH:=zqdo HH
 obtain⟨HH,hk9⟩:=HH
 (try simp only[hk9,Bool.not_true,Bool.not_false])
 replace HH:=zqto HH
 obtain⟨HH,hk11,hk12⟩:=HH
 (try simp only[hk11,Bool.not_true,Bool.not_false])
 (try simp only[hk12,Bool.not_true,Bool.not_false])
 have p13:0≤(a1:Int):=of_decide_eq_true (by first|(with_reducible assumption)|assumption)
 have q13:a1<(l0.length:Int):=of_decide_eq_true (by first|(with_reducible assumption)|assumption)
 obtain⟨ad13,e13,hx13_0⟩:=Kd.at_int (Kd.F_now (Kd.N_F HN0.out)) a1 p13 q13
 cases e13
 replace p13:=eq_true p13
 replace q13:=eq_true q13
 refine zt 10 (.pointer (some (ad7.add (a1.toNat)))) #[_,_,_,_,_,_,_,_,_,_,_,_,_,_,_,_] ⟨[_,_,_,_,_,_,_,_,_,_,_,_,_,_,_,_,_,_,_,_,_,_,_,_,_,_,_,_,_,_,_,_,_,_,_,_,_,_,_,_,_,_,_,_,_,_,_,_,_,_,_,_,_,_,_,_,_,_,_,_,_,_,_,_,_,_,_,_,_,_,_,_,_,_,_,_,_,_,_,_,_,_,_,_,_,_,_,_,_,_,_,_,_,_,_,_,_,_,_,_,_,_,_,_,_,_,_,_,_,_,_,_,_,_,_,_,_,_,_,_,_,_,_,_,_,_,_,_,_,_,_,_,_,_,_,_,_,_,_,_,_,_,_,_,_,_,_,_,_,_,_,_,_,_,_,_,_,_,_,_,_,_,_,_,_,_,_,_].toArray,[]⟩ (h:=?_)
 refine MW.any_two (i:=7) (j:=11) (vi:=.int .i32 (rd l0 a3)) (vj:=.int .i32 (rd l0 a1)) #[true,true,true,true,true,true,true,true,true,true,true,true,false,false,false,false] ⟨[(.slice (some ad7) l0.length c0),(.int .i64 a1),(.int .i64 a2),(.int .i64 a3),undef,undef,undef,undef,(.int .i64 0),(.bool false),undef,undef,(.slice (some ad7) l0.length c0),(.int .i64 a1),(.slice (some ad7) l0.length c0),(.int .i64 a3),(.slice (some ad7) l0.length c0),(.int .i64 a3),(.pointer (some (ad7.add (a3.toNat)))),(.int .i32 (rd l0 a3)),(.slice (some ad7) l0.length c0),(.int .i64 a1),(.pointer (some (ad7.add (a1.toNat)))),(.int .i32 (rd l0 a1)),undef,undef,undef,undef,undef,undef,undef,undef,undef,undef,undef,undef,undef,undef,undef,undef,undef,undef,undef,undef,undef,undef,undef,undef,undef,undef,undef,undef,undef,undef,undef,undef,undef,undef,undef,undef,undef,undef,undef,undef,undef,undef,undef,undef,undef,undef,undef,undef,undef,undef,undef,undef,undef,undef,undef,undef,undef,undef,undef,undef,undef,undef,undef,undef,undef,undef,undef,undef,undef,undef,undef,undef,undef,undef,undef,undef,undef,undef,undef,undef,undef,undef,undef,undef,undef,undef,undef,undef,undef,undef,undef,undef,undef,undef,undef,undef,undef,undef,undef,undef,undef,undef,undef,undef,undef,undef,undef,undef,undef,undef,undef,undef,undef,undef,undef,undef,undef,undef,undef,undef,undef,undef,undef,undef,undef,undef,undef,undef,undef,undef,undef,undef,undef,undef,undef,undef,undef,undef,undef,undef,undef,undef,undef,undef].toArray,[]⟩ (by decide) rfl rfl (by kernel_rfl) (by kernel_rfl) (by kernel_rfl) (by kernel_rfl) (by kernel_rfl) (by first|rfl|(go_simp;done)|(go_simp;rfl)) (by first|rfl|(go_simp;done)|(go_simp;rfl)) (by first|rfl|(go_simp;done)|(go_simp;rfl)) (by first|rfl|(go_simp;done)|(go_simp;rfl)) (by kernel_rfl) (by kernel_rfl) (by kernel_rfl) (by kernel_rfl) (by kernel_rfl) (by kernel_rfl) ?_
 refine zt 12 (.pointer (some (ad7.add (a1.toNat)))) #[_,_,_,_,_,_,_,_,_,_,_,_,_,_,_,_] ⟨[_,_,_,_,_,_,_,_,_,_,_,_,_,_,_,_,_,_,_,_,_,_,_,_,_,_,_,_,_,_,_,_,_,_,_,_,_,_,_,_,_,_,_,_,_,_,_,_,_,_,_,_,_,_,_,_,_,_,_,_,_,_,_,_,_,_,_,_,_,_,_,_,_,_,_,_,_,_,_,_,_,_,_,_,_,_,_,_,_,_,_,_,_,_,_,_,_,_,_,_,_,_,_,_,_,_,_,_,_,_,_,_,_,_,_,_,_,_,_,_,_,_,_,_,_,_,_,_,_,_,_,_,_,_,_,_,_,_,_,_,_,_,_,_,_,_,_,_,_,_,_,_,_,_,_,_,_,_,_,_,_,_,_,_,_,_,_,_].toArray,[]⟩ (h:=?_)
 refine MW.any_seq 13 3 rfl (by kernel_rfl) ?_
 simp only[List.drop_succ_cons,List.drop_zero]
 clear hwr_
 obtain⟨y14,hy14⟩:∃ y_:List Int,y_=(List.set l0 a1.toNat (rd l0 a3)):=⟨_,rfl⟩
 have H:((some (List.set y14 a3.toNat (rd l0 a1):List Int)).bind fun y18=>((slices_partitionOrdered_rune.l0 k (wrap64 (a1+1)) a1 a2 l0 y18)))=some (r1,r2,r3):=by rw[hy14];exact HH.out
 replace HH:=za H
 clear H
 have NYy14:=za hy14
 clear hy14
 go_wp2_with (((with_reducible refine gate_store (t:=21) (p:=24) rfl ?_);(try(refine gate_guard (by rfl) ?_;dsimp only));refine MW.ev_set1 (n:=l0.length) B_ rfl rfl _ _ _ rfl 21 a1 l0 (rd l0 a3) (fun k_=>True∧(some k_=((.slice (some ad7) l0.length c0):Value).ownBlock∨w.heap.size≤k_)) (by rfl) (by rfl) (by kernel_rfl) HN0.out (of_decide_eq_true (by first|(with_reducible assumption)|assumption)) (of_decide_eq_true (by first|(with_reducible assumption)|assumption)) HB.out ?_;intro w15 hn1 hb1 hg1);refine stop_ ?_)
 refine zg ?_
 replace HFfr:=za (Kd.F_grown (ok:=(fun k_=>True∧some k_≠((.slice (some ad7) l0.length c0):Value).ownBlock)) HFfr.out hg1 (fun k_ hk_=>hk_.2))
 replace HB:=za hb1
 clear HN0
 have HN16:=za (by rw[NYy14.out];exact hn1:Kd.N (Kd.int .i32) 21 w15 B_ (fun k_=>True∧(some k_=((.slice (some ad7) l0.length c0):Value).ownBlock∨w.heap.size≤k_)) (.slice (some ad7) l0.length c0) y14)
 clear hn1 hb1 hg1
 clear hx7_0 p7 q7 hx13_0 p13 q13
 have p17:0≤(a3:Int):=of_decide_eq_true (by first|(with_reducible assumption)|assumption)
 have q17:a3<(l0.length:Int):=of_decide_eq_true (by first|(with_reducible assumption)|assumption)
 obtain⟨ad17,e17,hx17_0⟩:=Kd.at_int (Kd.F_now (Kd.N_F HN16.out)) a3 p17 q17
 cases e17
 replace p17:=eq_true p17
 replace q17:=eq_true q17
 obtain⟨y18,hy18⟩:∃ y_:List Int,y_=(List.set y14 a3.toNat (rd l0 a1)):=⟨_,rfl⟩
 have H:((slices_partitionOrdered_rune.l0 k (wrap64 (a1+1)) a1 a2 l0 y18))=some (r1,r2,r3):=by rw[hy18];exact HH.out
 replace HH:=za H
 clear H
 have NYy18:=za hy18
 clear hy18
 go_wp2_with (((with_reducible refine gate_store (t:=21) (p:=25) rfl ?_);(try(refine gate_guard (by rfl) ?_;dsimp only));refine MW.ev_set1 (n:=l0.length) B_ rfl rfl _ _ _ rfl 21 a3 y14 (rd l0 a1) (fun k_=>True∧(some k_=((.slice (some ad7) l0.length c0):Value).ownBlock∨w.heap.size≤k_)) (by rfl) (by rfl) (by kernel_rfl) HN16.out (of_decide_eq_true (by first|(with_reducible assumption)|assumption)) (of_decide_eq_true (by first|(with_reducible assumption)|assumption)) HB.out ?_;intro w19 hn1 hb1 hg1);refine stop_ ?_)
 refine zg ?_
 replace HFfr:=za (Kd.F_grown (ok:=(fun k_=>True∧some k_≠((.slice (some ad7) l0.length c0):Value).ownBlock)) HFfr.out hg1 (fun k_ hk_=>hk_.2))
 replace HB:=za hb1
 clear HN16
 have HN20:=za (by rw[NYy18.out];exact hn1:Kd.N (Kd.int .i32) 21 w19 B_ (fun k_=>True∧(some k_=((.slice (some ad7) l0.length c0):Value).ownBlock∨w.heap.size≤k_)) (.slice (some ad7) l0.length c0) y18)
 clear hn1 hb1 hg1
 clear hx17_0 p17 q17
 go_wp2
 go_loopg [10] k (fun kq u10 w'=>∃ (x21:Int),u10=.int .i64 x21∧Aside0 ((slices_partitionOrdered_rune.l0 kq x21 a1 a2 l0 y18)=some (r1,r2,r3))∧Aside0 (kq≤k)∧Aside0 (Kd.F (MB.frK w P0_) w' (fun k_=>True∧some k_≠((.slice (some ad7) l0.length c0):Value).ownBlock) (some ⟨0,0,none⟩) [()].length [()])∧Aside0 (Kd.N (Kd.int .i32) 21 w' B_ (fun k_=>True∧(some k_=((.slice (some ad7) l0.length c0):Value).ownBlock∨w.heap.size≤k_)) (.slice (some ad7) l0.length c0) y18)∧Aside0 (Below B_ w w'))
 case atStart=>exact⟨wrap64 (a1+1),(by first|rfl|(simp;done)|(simp[*];done)),HH,⟨Nat.le_refl _⟩,⟨HFfr.out⟩,⟨(Kd.N_mono (ok:=(fun k_=>True∧(some k_=((.slice (some ad7) l0.length c0):Value).ownBlock∨w.heap.size≤k_))) HN20.out (fun k_ hk_=>hk_))⟩,⟨HB.out⟩⟩
 case round=>
  clear hk3
  clear hk5
  clear hk6
  clear hk9
  clear hk11
  clear hk12
  clear HH
  clear HFfr HN20 HB
  obtain⟨x21,rfl,HA,HK0,HFfr,HN20,HB⟩:=hrel
  obtain⟨w23,rfl⟩:∃ wo_:World,wo_=wr:=⟨_,rfl⟩
  cases gk with
  |zero=>exact absurd HA.out (by simp[slices_partitionOrdered_rune.l0])
  |succ k22=>
   have H:=HA.out
   clear HA
   simp only[slices_partitionOrdered_rune.l0] at H
   have HH:=za H
   clear H
   replace HH:=zd HH
   obtain⟨b24,At25,HH⟩:=HH
   go_wp2
   obtain⟨R_,hR_⟩:∃ R_:Act→World→Prop,R_=(fun a_ w_=>∃ u30 u31 u32 u33 u34 u35 u36 u37 u38 u39 u40 u41 u42:Value,a_=(⟨[(.slice (some ad7) l0.length c0),(.int .i64 a1),(.int .i64 a2),(.int .i64 a3),undef,undef,undef,undef,(.int .i64 0),(.bool false),(.int .i64 x21),(.int .i64 (wrap64 (a2 - 1))),(.slice (some ad7) l0.length c0),(.int .i64 a1),(.slice (some ad7) l0.length c0),(.int .i64 a3),(.slice (some ad7) l0.length c0),(.int .i64 a3),(.pointer (some (ad7.add (a3.toNat)))),(.int .i32 (rd l0 a3)),(.slice (some ad7) l0.length c0),(.int .i64 a1),(.pointer (some (ad7.add (a1.toNat)))),(.int .i32 (rd l0 a1)),(.pointer (some (ad7.add (a1.toNat)))),(.pointer (some (ad7.add (a3.toNat)))),(.int .i64 a1),(.int .i64 (wrap64 (a1+1))),(.int .i64 a2),(.int .i64 (wrap64 (a2 - 1))),u30,u31,u32,u33,u34,u35,u36,u37,u38,u39,u40,u41,u42,.bool b24,u44,u45,undef,undef,undef,undef,undef,undef,undef,undef,undef,undef,undef,undef,undef,undef,undef,undef,undef,undef,undef,undef,undef,undef,undef,undef,undef,undef,undef,undef,undef,undef,undef,undef,undef,undef,undef,undef,undef,undef,undef,undef,undef,undef,undef,undef,undef,undef,undef,undef,undef,undef,undef,undef,undef,undef,undef,undef,undef,undef,undef,undef,undef,undef,undef,undef,undef,undef,undef,undef,undef,undef,undef,undef,undef,undef,undef,undef,undef,undef,undef,undef,undef,undef,undef,undef,undef,undef,undef,undef,undef,undef,undef,undef,undef,undef,undef,undef,undef,undef,undef,undef,undef,undef,undef,undef,undef,undef,undef,undef,undef,undef,undef,undef,undef,undef,undef,undef,undef,undef,undef,undef,undef,undef].toArray,[]⟩:Act)∧Drawn0 w23 w_):=⟨_,rfl⟩
   replace hR_:=za hR_
   refine MS.join R_ ?_ ?_
   ·clear HH
    have HH:=At25
    clear At25
    replace HH:=zqd HH
    rcases HH with⟨HH,hk28⟩|⟨HH,hk49⟩
    ·replace HH:=zqdo HH
     obtain⟨HH,hk30⟩:=HH
     replace HH:=zqto HH
     obtain⟨HH,hk32,hk33⟩:=HH
     have p34:0≤(x21:Int):=of_decide_eq_true (by first|(with_reducible assumption)|assumption)
     have q34:x21<(l0.length:Int):=of_decide_eq_true (by first|(with_reducible assumption)|assumption)
     obtain⟨ad34,e34,hx34_0⟩:=Kd.at_int (Kd.F_now (Kd.N_F HN20.out)) x21 p34 q34
     cases e34
     replace p34:=eq_true p34
     replace q34:=eq_true q34
     replace HH:=zqdo HH
     obtain⟨HH,hk36⟩:=HH
     replace HH:=zqto HH
     obtain⟨HH,hk38,hk39⟩:=HH
     have p40:0≤(a1:Int):=of_decide_eq_true (by first|(with_reducible assumption)|assumption)
     have q40:a1<(l0.length:Int):=of_decide_eq_true (by first|(with_reducible assumption)|assumption)
     obtain⟨ad40,e40,hx40_0⟩:=Kd.at_int (Kd.F_now (Kd.N_F HN20.out)) a1 p40 q40
     cases e40
     replace p40:=eq_true p40
     replace q40:=eq_true q40
     replace HH:=zd HH
     obtain⟨t41,At42,HH⟩:=HH
     go_wp2
     go_quiet ((first|(go_at_call 42;first|exact Calls.quiet_of (MW.drawn (cmp_Less_rune.calls  (rd y18 x21) (rd y18 a1) t41 _  At42.out))|exact MW.quiet_far (MW.drawn (cmp_Less_rune.calls  (rd y18 x21) (rd y18 a1) t41 _  At42.out)))))
     obtain rfl:=Option.some.inj HH.out
     go_wp2
     refine MS.Joined.mk ?_
     rw[hR_.out]
     exact⟨_,_,_,_,_,_,_,_,_,_,_,_,_,rfl,by repeat(first|exact Drawn0.refl _|apply Drawn0.step)⟩
    go_wp2
    go_quiet ((first|(go_at_call 42;first|exact Calls.quiet_of (MW.drawn (cmp_Less_rune.calls  (rd y18 x21) (rd y18 a1) t41 _  At42.out))|exact MW.quiet_far (MW.drawn (cmp_Less_rune.calls  (rd y18 x21) (rd y18 a1) t41 _  At42.out)))))
    obtain rfl:=Option.some.inj HH.out
    go_wp2
    refine MS.Joined.mk ?_
    rw[hR_.out]
    exact⟨_,_,_,_,_,_,_,_,_,_,_,_,_,rfl,by repeat(first|exact Drawn0.refl _|apply Drawn0.step)⟩
   intro a_ w26 hd_
   rw[hR_.out] at hd_
   obtain⟨u30,u31,u32,u33,u34,u35,u36,u37,u38,u39,u40,u41,u42,rfl,hd_⟩:=hd_
   have hb:=MS.drawn_below hd_
   clear At25 hd_ hR_ R_
   replace HFfr:=zfb HFfr.out hb
   replace HN20:=znb HN20.out hb
   replace HB:=za (MB.below_stepB hB_.out HB.out hb)
   clear hb
   by_cases c50:b24=true
   ·replace HH:=MW.hpos HH c50
    subst c50
    go_wp2
    go_roundg k22
    case measure=>have:=HK0.out;omega
    case rel=>exact⟨wrap64 (x21+1),(by first|rfl|(simp;done)|(simp[*];done)),HH,⟨by have:=HK0.out;omega⟩,⟨HFfr.out⟩,⟨(Kd.N_mono (ok:=(fun k_=>True∧(some k_=((.slice (some ad7) l0.length c0):Value).ownBlock∨w.heap.size≤k_))) HN20.out (fun k_ hk_=>hk_))⟩,⟨HB.out⟩⟩
   replace HH:=MW.hneg HH c50
   replace c50:=Bool.eq_false_iff.mpr c50
   subst c50
   go_wp2
   go_loopg [11] k22 (fun kq u11 w'=>∃ (x51:Int),u11=.int .i64 x51∧Aside0 ((slices_partitionOrdered_rune.l1 kq x51 a1 l0 x21 y18)=some (r1,r2,r3))∧Aside0 (kq≤k22)∧Aside0 (Kd.F (MB.frK w P0_) w' (fun k_=>True∧some k_≠((.slice (some ad7) l0.length c0):Value).ownBlock) (some ⟨0,0,none⟩) [()].length [()])∧Aside0 (Kd.N (Kd.int .i32) 21 w' B_ (fun k_=>True∧(some k_=((.slice (some ad7) l0.length c0):Value).ownBlock∨w.heap.size≤k_)) (.slice (some ad7) l0.length c0) y18)∧Aside0 (Below B_ w w'))
   case atStart=>exact⟨wrap64 (a2 - 1),(by first|rfl|(simp;done)|(simp[*];done)),HH,⟨Nat.le_refl _⟩,⟨HFfr.out⟩,⟨(Kd.N_mono (ok:=(fun k_=>True∧(some k_=((.slice (some ad7) l0.length c0):Value).ownBlock∨w.heap.size≤k_))) HN20.out (fun k_ hk_=>hk_))⟩,⟨HB.out⟩⟩
   case round=>
    clear HH
    clear HFfr HN20 HB
    obtain⟨x51,rfl,HA,HK1,HFfr,HN20,HB⟩:=hrel
    obtain⟨w53,rfl⟩:∃ wo_:World,wo_=wr:=⟨_,rfl⟩
    cases gk with
    |zero=>exact absurd HA.out (by simp[slices_partitionOrdered_rune.l1])
    |succ k52=>
     have H:=HA.out
     clear HA
     simp only[slices_partitionOrdered_rune.l1] at H
     have HH:=za H
     clear H
     replace HH:=zd HH
     obtain⟨b54,At55,HH⟩:=HH
     go_wp2
     obtain⟨R_,hR_⟩:∃ R_:Act→World→Prop,R_=(fun a_ w_=>∃ u46 u47 u48 u49 u50 u51 u52 u53 u54 u55 u56 u57 u58 u59:Value,a_=(⟨[(.slice (some ad7) l0.length c0),(.int .i64 a1),(.int .i64 a2),(.int .i64 a3),undef,undef,undef,undef,(.int .i64 0),(.bool false),(.int .i64 x21),(.int .i64 x51),(.slice (some ad7) l0.length c0),(.int .i64 a1),(.slice (some ad7) l0.length c0),(.int .i64 a3),(.slice (some ad7) l0.length c0),(.int .i64 a3),(.pointer (some (ad7.add (a3.toNat)))),(.int .i32 (rd l0 a3)),(.slice (some ad7) l0.length c0),(.int .i64 a1),(.pointer (some (ad7.add (a1.toNat)))),(.int .i32 (rd l0 a1)),(.pointer (some (ad7.add (a1.toNat)))),(.pointer (some (ad7.add (a3.toNat)))),(.int .i64 a1),(.int .i64 (wrap64 (a1+1))),(.int .i64 a2),(.int .i64 (wrap64 (a2 - 1))),u30,u31,u32,u33,u34,u35,u36,u37,u38,u39,u40,u41,u42,(.bool false),u44,u45,u46,u47,u48,u49,u50,u51,u52,u53,u54,u55,u56,u57,u58,u59,.bool b54,u61,u62,undef,undef,undef,undef,undef,undef,undef,undef,undef,undef,undef,undef,undef,undef,undef,undef,undef,undef,undef,undef,undef,undef,undef,undef,undef,undef,undef,undef,undef,undef,undef,undef,undef,undef,undef,undef,undef,undef,undef,undef,undef,undef,undef,undef,undef,undef,undef,undef,undef,undef,undef,undef,undef,undef,undef,undef,undef,undef,undef,undef,undef,undef,undef,undef,undef,undef,undef,undef,undef,undef,undef,undef,undef,undef,undef,undef,undef,undef,undef,undef,undef,undef,undef,undef,undef,undef,undef,undef,undef,undef,undef,undef,undef,undef,undef,undef,undef,undef,undef,undef,undef,undef,undef,undef,undef].toArray,[]⟩:Act)∧Drawn0 w53 w_):=⟨_,rfl⟩
     replace hR_:=za hR_
     refine MS.join R_ ?_ ?_
     ·clear HH
      have HH:=At55
      clear At55
      replace HH:=zqd HH
      rcases HH with⟨HH,hk58⟩|⟨HH,hk79⟩
      ·replace HH:=zqdo HH
       obtain⟨HH,hk60⟩:=HH
       replace HH:=zqto HH
       obtain⟨HH,hk62,hk63⟩:=HH
       have p64:0≤(x51:Int):=of_decide_eq_true (by first|(with_reducible assumption)|assumption)
       have q64:x51<(l0.length:Int):=of_decide_eq_true (by first|(with_reducible assumption)|assumption)
       obtain⟨ad64,e64,hx64_0⟩:=Kd.at_int (Kd.F_now (Kd.N_F HN20.out)) x51 p64 q64
       cases e64
       replace p64:=eq_true p64
       replace q64:=eq_true q64
       replace HH:=zqdo HH
       obtain⟨HH,hk66⟩:=HH
       replace HH:=zqto HH
       obtain⟨HH,hk68,hk69⟩:=HH
       have p70:0≤(a1:Int):=of_decide_eq_true (by first|(with_reducible assumption)|assumption)
       have q70:a1<(l0.length:Int):=of_decide_eq_true (by first|(with_reducible assumption)|assumption)
       obtain⟨ad70,e70,hx70_0⟩:=Kd.at_int (Kd.F_now (Kd.N_F HN20.out)) a1 p70 q70
       cases e70
       replace p70:=eq_true p70
       replace q70:=eq_true q70
       replace HH:=zd HH
       obtain⟨t71,At72,HH⟩:=HH
       go_wp2
       go_quiet ((first|(go_at_call 42;first|exact Calls.quiet_of (MW.drawn (cmp_Less_rune.calls  (rd y18 x51) (rd y18 a1) t71 _  At72.out))|exact MW.quiet_far (MW.drawn (cmp_Less_rune.calls  (rd y18 x51) (rd y18 a1) t71 _  At72.out)))))
       obtain rfl:=Option.some.inj HH.out
       go_wp2
       refine MS.Joined.mk ?_
       rw[hR_.out]
       exact⟨_,_,_,_,_,_,_,_,_,_,_,_,_,_,rfl,by repeat(first|exact Drawn0.refl _|apply Drawn0.step)⟩
      go_wp2
      go_quiet ((first|(go_at_call 42;first|exact Calls.quiet_of (MW.drawn (cmp_Less_rune.calls  (rd y18 x51) (rd y18 a1) t71 _  At72.out))|exact MW.quiet_far (MW.drawn (cmp_Less_rune.calls  (rd y18 x51) (rd y18 a1) t71 _  At72.out)))))
      obtain rfl:=Option.some.inj HH.out
      go_wp2
      refine MS.Joined.mk ?_
      rw[hR_.out]
      exact⟨_,_,_,_,_,_,_,_,_,_,_,_,_,_,rfl,by repeat(first|exact Drawn0.refl _|apply Drawn0.step)⟩
     intro a_ w56 hd_
     rw[hR_.out] at hd_
     obtain⟨u46,u47,u48,u49,u50,u51,u52,u53,u54,u55,u56,u57,u58,u59,rfl,hd_⟩:=hd_
     have hb:=MS.drawn_below hd_
     clear At55 hd_ hR_ R_
     replace HFfr:=zfb HFfr.out hb
     replace HN20:=znb HN20.out hb
     replace HB:=za (MB.below_stepB hB_.out HB.out hb)
     clear hb
     by_cases c80:b54=true
     ·replace HH:=MW.hpos HH c80
      subst c80
      go_wp2
      go_roundg k52
      case measure=>have:=HK0.out;have:=HK1.out;omega
      case rel=>exact⟨wrap64 (x51 - 1),(by first|rfl|(simp;done)|(simp[*];done)),HH,⟨by have:=HK0.out;have:=HK1.out;omega⟩,⟨HFfr.out⟩,⟨(Kd.N_mono (ok:=(fun k_=>True∧(some k_=((.slice (some ad7) l0.length c0):Value).ownBlock∨w.heap.size≤k_))) HN20.out (fun k_ hk_=>hk_))⟩,⟨HB.out⟩⟩
     replace HH:=MW.hneg HH c80
     replace c80:=Bool.eq_false_iff.mpr c80
     subst c80
     replace HH:=zqg HH
     rcases HH with⟨HH,hk82⟩|⟨HH,hk109⟩
     ·go_wp2
      have hwr_:∀ n_:Int,IntKind.i64.wrap n_=wrap64 n_:=fun n_=>IntWalk.i64_left n_
      refine wp_region_any (by kernel_rfl) ?_
      change wpAny _ _ _ _ 16 #[false,false,false,false,false,false,false,false,false,false,false,false,false,false,false,false] _ w56.drew
      obtain⟨w83,hw_⟩:∃ w_:World,w_=w56.drew:=⟨_,rfl⟩
      rw[← hw_]
      have hb:Below w56.heap.size w56 w83:=by rw[hw_];exact below_drew1 (Below.refl _ _)
      clear hw_
      replace HFfr:=zfb HFfr.out hb
      replace HN20:=znb HN20.out hb
      replace HB:=za (MB.below_stepB hB_.out HB.out hb)
      clear hb
      refine zt 0 ((.slice (some ad7) l0.length c0)) #[_,_,_,_,_,_,_,_,_,_,_,_,_,_,_,_] ⟨[_,_,_,_,_,_,_,_,_,_,_,_,_,_,_,_,_,_,_,_,_,_,_,_,_,_,_,_,_,_,_,_,_,_,_,_,_,_,_,_,_,_,_,_,_,_,_,_,_,_,_,_,_,_,_,_,_,_,_,_,_,_,_,_,_,_,_,_,_,_,_,_,_,_,_,_,_,_,_,_,_,_,_,_,_,_,_,_,_,_,_,_,_,_,_,_,_,_,_,_,_,_,_,_,_,_,_,_,_,_,_,_,_,_,_,_,_,_,_,_,_,_,_,_,_,_,_,_,_,_,_,_,_,_,_,_,_,_,_,_,_,_,_,_,_,_,_,_,_,_,_,_,_,_,_,_,_,_,_,_,_,_,_,_,_,_,_,_].toArray,[]⟩ (h:=?_)
      refine zt 1 (.int .i64 x51) #[_,_,_,_,_,_,_,_,_,_,_,_,_,_,_,_] ⟨[_,_,_,_,_,_,_,_,_,_,_,_,_,_,_,_,_,_,_,_,_,_,_,_,_,_,_,_,_,_,_,_,_,_,_,_,_,_,_,_,_,_,_,_,_,_,_,_,_,_,_,_,_,_,_,_,_,_,_,_,_,_,_,_,_,_,_,_,_,_,_,_,_,_,_,_,_,_,_,_,_,_,_,_,_,_,_,_,_,_,_,_,_,_,_,_,_,_,_,_,_,_,_,_,_,_,_,_,_,_,_,_,_,_,_,_,_,_,_,_,_,_,_,_,_,_,_,_,_,_,_,_,_,_,_,_,_,_,_,_,_,_,_,_,_,_,_,_,_,_,_,_,_,_,_,_,_,_,_,_,_,_,_,_,_,_,_,_].toArray,[]⟩ (h:=?_)
      refine zt 2 ((.slice (some ad7) l0.length c0)) #[_,_,_,_,_,_,_,_,_,_,_,_,_,_,_,_] ⟨[_,_,_,_,_,_,_,_,_,_,_,_,_,_,_,_,_,_,_,_,_,_,_,_,_,_,_,_,_,_,_,_,_,_,_,_,_,_,_,_,_,_,_,_,_,_,_,_,_,_,_,_,_,_,_,_,_,_,_,_,_,_,_,_,_,_,_,_,_,_,_,_,_,_,_,_,_,_,_,_,_,_,_,_,_,_,_,_,_,_,_,_,_,_,_,_,_,_,_,_,_,_,_,_,_,_,_,_,_,_,_,_,_,_,_,_,_,_,_,_,_,_,_,_,_,_,_,_,_,_,_,_,_,_,_,_,_,_,_,_,_,_,_,_,_,_,_,_,_,_,_,_,_,_,_,_,_,_,_,_,_,_,_,_,_,_,_,_].toArray,[]⟩ (h:=?_)
      refine zt 3 (.int .i64 a1) #[_,_,_,_,_,_,_,_,_,_,_,_,_,_,_,_] ⟨[_,_,_,_,_,_,_,_,_,_,_,_,_,_,_,_,_,_,_,_,_,_,_,_,_,_,_,_,_,_,_,_,_,_,_,_,_,_,_,_,_,_,_,_,_,_,_,_,_,_,_,_,_,_,_,_,_,_,_,_,_,_,_,_,_,_,_,_,_,_,_,_,_,_,_,_,_,_,_,_,_,_,_,_,_,_,_,_,_,_,_,_,_,_,_,_,_,_,_,_,_,_,_,_,_,_,_,_,_,_,_,_,_,_,_,_,_,_,_,_,_,_,_,_,_,_,_,_,_,_,_,_,_,_,_,_,_,_,_,_,_,_,_,_,_,_,_,_,_,_,_,_,_,_,_,_,_,_,_,_,_,_,_,_,_,_,_,_].toArray,[]⟩ (h:=?_)
      refine zt 4 ((.slice (some ad7) l0.length c0)) #[_,_,_,_,_,_,_,_,_,_,_,_,_,_,_,_] ⟨[_,_,_,_,_,_,_,_,_,_,_,_,_,_,_,_,_,_,_,_,_,_,_,_,_,_,_,_,_,_,_,_,_,_,_,_,_,_,_,_,_,_,_,_,_,_,_,_,_,_,_,_,_,_,_,_,_,_,_,_,_,_,_,_,_,_,_,_,_,_,_,_,_,_,_,_,_,_,_,_,_,_,_,_,_,_,_,_,_,_,_,_,_,_,_,_,_,_,_,_,_,_,_,_,_,_,_,_,_,_,_,_,_,_,_,_,_,_,_,_,_,_,_,_,_,_,_,_,_,_,_,_,_,_,_,_,_,_,_,_,_,_,_,_,_,_,_,_,_,_,_,_,_,_,_,_,_,_,_,_,_,_,_,_,_,_,_,_].toArray,[]⟩ (h:=?_)
      refine zt 5 (.int .i64 a1) #[_,_,_,_,_,_,_,_,_,_,_,_,_,_,_,_] ⟨[_,_,_,_,_,_,_,_,_,_,_,_,_,_,_,_,_,_,_,_,_,_,_,_,_,_,_,_,_,_,_,_,_,_,_,_,_,_,_,_,_,_,_,_,_,_,_,_,_,_,_,_,_,_,_,_,_,_,_,_,_,_,_,_,_,_,_,_,_,_,_,_,_,_,_,_,_,_,_,_,_,_,_,_,_,_,_,_,_,_,_,_,_,_,_,_,_,_,_,_,_,_,_,_,_,_,_,_,_,_,_,_,_,_,_,_,_,_,_,_,_,_,_,_,_,_,_,_,_,_,_,_,_,_,_,_,_,_,_,_,_,_,_,_,_,_,_,_,_,_,_,_,_,_,_,_,_,_,_,_,_,_,_,_,_,_,_,_].toArray,[]⟩ (h:=?_)
      replace HH:=zqdo HH
      obtain⟨HH,hk85⟩:=HH
      (try simp only[hk85,Bool.not_true,Bool.not_false])
      replace HH:=zqto HH
      obtain⟨HH,hk87,hk88⟩:=HH
      (try simp only[hk87,Bool.not_true,Bool.not_false])
      (try simp only[hk88,Bool.not_true,Bool.not_false])
      have p89:0≤(a1:Int):=of_decide_eq_true (by first|(with_reducible assumption)|assumption)
      have q89:a1<(l0.length:Int):=of_decide_eq_true (by first|(with_reducible assumption)|assumption)
      obtain⟨ad89,e89,hx89_0⟩:=Kd.at_int (Kd.F_now (Kd.N_F HN20.out)) a1 p89 q89
      cases e89
      replace p89:=eq_true p89
      replace q89:=eq_true q89
      refine zt 6 (.pointer (some (ad7.add (a1.toNat)))) #[_,_,_,_,_,_,_,_,_,_,_,_,_,_,_,_] ⟨[_,_,_,_,_,_,_,_,_,_,_,_,_,_,_,_,_,_,_,_,_,_,_,_,_,_,_,_,_,_,_,_,_,_,_,_,_,_,_,_,_,_,_,_,_,_,_,_,_,_,_,_,_,_,_,_,_,_,_,_,_,_,_,_,_,_,_,_,_,_,_,_,_,_,_,_,_,_,_,_,_,_,_,_,_,_,_,_,_,_,_,_,_,_,_,_,_,_,_,_,_,_,_,_,_,_,_,_,_,_,_,_,_,_,_,_,_,_,_,_,_,_,_,_,_,_,_,_,_,_,_,_,_,_,_,_,_,_,_,_,_,_,_,_,_,_,_,_,_,_,_,_,_,_,_,_,_,_,_,_,_,_,_,_,_,_,_,_].toArray,[]⟩ (h:=?_)
      refine zt 8 ((.slice (some ad7) l0.length c0)) #[_,_,_,_,_,_,_,_,_,_,_,_,_,_,_,_] ⟨[_,_,_,_,_,_,_,_,_,_,_,_,_,_,_,_,_,_,_,_,_,_,_,_,_,_,_,_,_,_,_,_,_,_,_,_,_,_,_,_,_,_,_,_,_,_,_,_,_,_,_,_,_,_,_,_,_,_,_,_,_,_,_,_,_,_,_,_,_,_,_,_,_,_,_,_,_,_,_,_,_,_,_,_,_,_,_,_,_,_,_,_,_,_,_,_,_,_,_,_,_,_,_,_,_,_,_,_,_,_,_,_,_,_,_,_,_,_,_,_,_,_,_,_,_,_,_,_,_,_,_,_,_,_,_,_,_,_,_,_,_,_,_,_,_,_,_,_,_,_,_,_,_,_,_,_,_,_,_,_,_,_,_,_,_,_,_,_].toArray,[]⟩ (h:=?_)
      refine zt 9 (.int .i64 x51) #[_,_,_,_,_,_,_,_,_,_,_,_,_,_,_,_] ⟨[_,_,_,_,_,_,_,_,_,_,_,_,_,_,_,_,_,_,_,_,_,_,_,_,_,_,_,_,_,_,_,_,_,_,_,_,_,_,_,_,_,_,_,_,_,_,_,_,_,_,_,_,_,_,_,_,_,_,_,_,_,_,_,_,_,_,_,_,_,_,_,_,_,_,_,_,_,_,_,_,_,_,_,_,_,_,_,_,_,_,_,_,_,_,_,_,_,_,_,_,_,_,_,_,_,_,_,_,_,_,_,_,_,_,_,_,_,_,_,_,_,_,_,_,_,_,_,_,_,_,_,_,_,_,_,_,_,_,_,_,_,_,_,_,_,_,_,_,_,_,_,_,_,_,_,_,_,_,_,_,_,_,_,_,_,_,_,_].toArray,[]⟩ (h:=?_)
      replace HH:=zqdo HH
      obtain⟨HH,hk91⟩:=HH
      (try simp only[hk91,Bool.not_true,Bool.not_false])
      replace HH:=zqto HH
      obtain⟨HH,hk93,hk94⟩:=HH
      (try simp only[hk93,Bool.not_true,Bool.not_false])
      (try simp only[hk94,Bool.not_true,Bool.not_false])
      have p95:0≤(x51:Int):=of_decide_eq_true (by first|(with_reducible assumption)|assumption)
      have q95:x51<(l0.length:Int):=of_decide_eq_true (by first|(with_reducible assumption)|assumption)
      obtain⟨ad95,e95,hx95_0⟩:=Kd.at_int (Kd.F_now (Kd.N_F HN20.out)) x51 p95 q95
      cases e95
      replace p95:=eq_true p95
      replace q95:=eq_true q95
      refine zt 10 (.pointer (some (ad7.add (x51.toNat)))) #[_,_,_,_,_,_,_,_,_,_,_,_,_,_,_,_] ⟨[_,_,_,_,_,_,_,_,_,_,_,_,_,_,_,_,_,_,_,_,_,_,_,_,_,_,_,_,_,_,_,_,_,_,_,_,_,_,_,_,_,_,_,_,_,_,_,_,_,_,_,_,_,_,_,_,_,_,_,_,_,_,_,_,_,_,_,_,_,_,_,_,_,_,_,_,_,_,_,_,_,_,_,_,_,_,_,_,_,_,_,_,_,_,_,_,_,_,_,_,_,_,_,_,_,_,_,_,_,_,_,_,_,_,_,_,_,_,_,_,_,_,_,_,_,_,_,_,_,_,_,_,_,_,_,_,_,_,_,_,_,_,_,_,_,_,_,_,_,_,_,_,_,_,_,_,_,_,_,_,_,_,_,_,_,_,_,_].toArray,[]⟩ (h:=?_)
      refine MW.any_two (i:=7) (j:=11) (vi:=.int .i32 (rd y18 a1)) (vj:=.int .i32 (rd y18 x51)) #[true,true,true,true,true,true,true,true,true,true,true,true,false,false,false,false] ⟨[(.slice (some ad7) l0.length c0),(.int .i64 a1),(.int .i64 a2),(.int .i64 a3),undef,undef,undef,undef,(.int .i64 0),(.bool false),(.int .i64 x21),(.int .i64 x51),(.slice (some ad7) l0.length c0),(.int .i64 a1),(.slice (some ad7) l0.length c0),(.int .i64 a3),(.slice (some ad7) l0.length c0),(.int .i64 a3),(.pointer (some (ad7.add (a3.toNat)))),(.int .i32 (rd l0 a3)),(.slice (some ad7) l0.length c0),(.int .i64 a1),(.pointer (some (ad7.add (a1.toNat)))),(.int .i32 (rd l0 a1)),(.pointer (some (ad7.add (a1.toNat)))),(.pointer (some (ad7.add (a3.toNat)))),(.int .i64 a1),(.int .i64 (wrap64 (a1+1))),(.int .i64 a2),(.int .i64 (wrap64 (a2 - 1))),u30,u31,u32,u33,u34,u35,u36,u37,u38,u39,u40,u41,u42,(.bool false),u44,u45,u46,u47,u48,u49,u50,u51,u52,u53,u54,u55,u56,u57,u58,u59,(.bool false),u61,u62,(.int .i64 x21),(.int .i64 x51),(.bool true),(.slice (some ad7) l0.length c0),(.int .i64 x51),(.slice (some ad7) l0.length c0),(.int .i64 a1),(.slice (some ad7) l0.length c0),(.int .i64 a1),(.pointer (some (ad7.add (a1.toNat)))),(.int .i32 (rd y18 a1)),(.slice (some ad7) l0.length c0),(.int .i64 x51),(.pointer (some (ad7.add (x51.toNat)))),(.int .i32 (rd y18 x51)),undef,undef,undef,undef,undef,undef,undef,undef,undef,undef,undef,undef,undef,undef,undef,undef,undef,undef,undef,undef,undef,undef,undef,undef,undef,undef,undef,undef,undef,undef,undef,undef,undef,undef,undef,undef,undef,undef,undef,undef,undef,undef,undef,undef,undef,undef,undef,undef,undef,undef,undef,undef,undef,undef,undef,undef,undef,undef,undef,undef,undef,undef,undef,undef,undef,undef,undef,undef,undef,undef,undef,undef,undef,undef,undef,undef,undef,undef,undef,undef,undef,undef,undef,undef,undef,undef,undef,undef,undef,undef].toArray,[]⟩ (by decide) rfl rfl (by kernel_rfl) (by kernel_rfl) (by kernel_rfl) (by kernel_rfl) (by kernel_rfl) (by first|rfl|(go_simp;done)|(go_simp;rfl)) (by first|rfl|(go_simp;done)|(go_simp;rfl)) (by first|rfl|(go_simp;done)|(go_simp;rfl)) (by first|rfl|(go_simp;done)|(go_simp;rfl)) (by kernel_rfl) (by kernel_rfl) (by kernel_rfl) (by kernel_rfl) (by kernel_rfl) (by kernel_rfl) ?_
      refine zt 12 (.pointer (some (ad7.add (x51.toNat)))) #[_,_,_,_,_,_,_,_,_,_,_,_,_,_,_,_] ⟨[_,_,_,_,_,_,_,_,_,_,_,_,_,_,_,_,_,_,_,_,_,_,_,_,_,_,_,_,_,_,_,_,_,_,_,_,_,_,_,_,_,_,_,_,_,_,_,_,_,_,_,_,_,_,_,_,_,_,_,_,_,_,_,_,_,_,_,_,_,_,_,_,_,_,_,_,_,_,_,_,_,_,_,_,_,_,_,_,_,_,_,_,_,_,_,_,_,_,_,_,_,_,_,_,_,_,_,_,_,_,_,_,_,_,_,_,_,_,_,_,_,_,_,_,_,_,_,_,_,_,_,_,_,_,_,_,_,_,_,_,_,_,_,_,_,_,_,_,_,_,_,_,_,_,_,_,_,_,_,_,_,_,_,_,_,_,_,_].toArray,[]⟩ (h:=?_)
      refine MW.any_seq 13 3 rfl (by kernel_rfl) ?_
      simp only[List.drop_succ_cons,List.drop_zero]
      clear hwr_
      obtain⟨y96,hy96⟩:∃ y_:List Int,y_=(List.set y18 x51.toNat (rd y18 a1)):=⟨_,rfl⟩
      have H:((some (List.set y96 a1.toNat (rd y18 x51):List Int)).bind fun y100=>(some (x51,true,y100)))=some (r1,r2,r3):=by rw[hy96];exact HH.out
      replace HH:=za H
      clear H
      have NYy96:=za hy96
      clear hy96
      go_wp2_with (((with_reducible refine gate_store (t:=21) (p:=78) rfl ?_);(try(refine gate_guard (by rfl) ?_;dsimp only));refine MW.ev_set1 (n:=l0.length) B_ rfl rfl _ _ _ rfl 21 x51 y18 (rd y18 a1) (fun k_=>True∧(some k_=((.slice (some ad7) l0.length c0):Value).ownBlock∨w.heap.size≤k_)) (by rfl) (by rfl) (by kernel_rfl) HN20.out (of_decide_eq_true (by first|(with_reducible assumption)|assumption)) (of_decide_eq_true (by first|(with_reducible assumption)|assumption)) HB.out ?_;intro w97 hn1 hb1 hg1);refine stop_ ?_)
      refine zg ?_
      replace HFfr:=za (Kd.F_grown (ok:=(fun k_=>True∧some k_≠((.slice (some ad7) l0.length c0):Value).ownBlock)) HFfr.out hg1 (fun k_ hk_=>hk_.2))
      replace HB:=za hb1
      clear HN20
      have HN98:=za (by rw[NYy96.out];exact hn1:Kd.N (Kd.int .i32) 21 w97 B_ (fun k_=>True∧(some k_=((.slice (some ad7) l0.length c0):Value).ownBlock∨w.heap.size≤k_)) (.slice (some ad7) l0.length c0) y96)
      clear hn1 hb1 hg1
      clear hx89_0 p89 q89 hx95_0 p95 q95
      have p99:0≤(a1:Int):=of_decide_eq_true (by first|(with_reducible assumption)|assumption)
      have q99:a1<(l0.length:Int):=of_decide_eq_true (by first|(with_reducible assumption)|assumption)
      obtain⟨ad99,e99,hx99_0⟩:=Kd.at_int (Kd.F_now (Kd.N_F HN98.out)) a1 p99 q99
      cases e99
      replace p99:=eq_true p99
      replace q99:=eq_true q99
      obtain⟨y100,hy100⟩:∃ y_:List Int,y_=(List.set y96 a1.toNat (rd y18 x51)):=⟨_,rfl⟩
      have H:(some (x51,true,y100))=some (r1,r2,r3):=by rw[hy100];exact HH.out
      replace HH:=za H
      clear H
      have NYy100:=za hy100
      clear hy100
      go_wp2_with (((with_reducible refine gate_store (t:=21) (p:=79) rfl ?_);(try(refine gate_guard (by rfl) ?_;dsimp only));refine MW.ev_set1 (n:=l0.length) B_ rfl rfl _ _ _ rfl 21 a1 y96 (rd y18 x51) (fun k_=>True∧(some k_=((.slice (some ad7) l0.length c0):Value).ownBlock∨w.heap.size≤k_)) (by rfl) (by rfl) (by kernel_rfl) HN98.out (of_decide_eq_true (by first|(with_reducible assumption)|assumption)) (of_decide_eq_true (by first|(with_reducible assumption)|assumption)) HB.out ?_;intro w101 hn1 hb1 hg1);refine stop_ ?_)
      refine zg ?_
      replace HFfr:=za (Kd.F_grown (ok:=(fun k_=>True∧some k_≠((.slice (some ad7) l0.length c0):Value).ownBlock)) HFfr.out hg1 (fun k_ hk_=>hk_.2))
      replace HB:=za hb1
      clear HN98
      have HN102:=za (by rw[NYy100.out];exact hn1:Kd.N (Kd.int .i32) 21 w101 B_ (fun k_=>True∧(some k_=((.slice (some ad7) l0.length c0):Value).ownBlock∨w.heap.size≤k_)) (.slice (some ad7) l0.length c0) y100)
      clear hn1 hb1 hg1
      clear hx99_0 p99 q99
      have H:=HH.out
      simp only[Option.some.injEq,Prod.mk.injEq] at H
      obtain⟨rfl,rfl,rfl⟩:=H
      clear HH
      go_wp2
      go_ret2
      exact⟨by first|rfl|(simp;done)|(simp[*];done),(Kd.N_mono (ok:=(fun k_=>True∧(some k_=((.slice (some ad7) l0.length c0):Value).ownBlock∨w.heap.size≤k_))) HN102.out (fun k_ hk_=>hk_.2)),(fun k_ hv_ hlt_=>MB.frK_out HFfr.out k_ (by rw[HPO.out];exact hv_) hlt_),HB.out⟩
     go_wp2
     have hwr_:∀ n_:Int,IntKind.i64.wrap n_=wrap64 n_:=fun n_=>IntWalk.i64_left n_
     refine wp_region_any (by kernel_rfl) ?_
     change wpAny _ _ _ _ 16 #[false,false,false,false,false,false,false,false,false,false,false,false,false,false,false,false] _ w56.drew
     obtain⟨w110,hw_⟩:∃ w_:World,w_=w56.drew:=⟨_,rfl⟩
     rw[← hw_]
     have hb:Below w56.heap.size w56 w110:=by rw[hw_];exact below_drew1 (Below.refl _ _)
     clear hw_
     replace HFfr:=zfb HFfr.out hb
     replace HN20:=znb HN20.out hb
     replace HB:=za (MB.below_stepB hB_.out HB.out hb)
     clear hb
     refine zt 0 ((.slice (some ad7) l0.length c0)) #[_,_,_,_,_,_,_,_,_,_,_,_,_,_,_,_] ⟨[_,_,_,_,_,_,_,_,_,_,_,_,_,_,_,_,_,_,_,_,_,_,_,_,_,_,_,_,_,_,_,_,_,_,_,_,_,_,_,_,_,_,_,_,_,_,_,_,_,_,_,_,_,_,_,_,_,_,_,_,_,_,_,_,_,_,_,_,_,_,_,_,_,_,_,_,_,_,_,_,_,_,_,_,_,_,_,_,_,_,_,_,_,_,_,_,_,_,_,_,_,_,_,_,_,_,_,_,_,_,_,_,_,_,_,_,_,_,_,_,_,_,_,_,_,_,_,_,_,_,_,_,_,_,_,_,_,_,_,_,_,_,_,_,_,_,_,_,_,_,_,_,_,_,_,_,_,_,_,_,_,_,_,_,_,_,_,_].toArray,[]⟩ (h:=?_)
     refine zt 1 (.int .i64 x21) #[_,_,_,_,_,_,_,_,_,_,_,_,_,_,_,_] ⟨[_,_,_,_,_,_,_,_,_,_,_,_,_,_,_,_,_,_,_,_,_,_,_,_,_,_,_,_,_,_,_,_,_,_,_,_,_,_,_,_,_,_,_,_,_,_,_,_,_,_,_,_,_,_,_,_,_,_,_,_,_,_,_,_,_,_,_,_,_,_,_,_,_,_,_,_,_,_,_,_,_,_,_,_,_,_,_,_,_,_,_,_,_,_,_,_,_,_,_,_,_,_,_,_,_,_,_,_,_,_,_,_,_,_,_,_,_,_,_,_,_,_,_,_,_,_,_,_,_,_,_,_,_,_,_,_,_,_,_,_,_,_,_,_,_,_,_,_,_,_,_,_,_,_,_,_,_,_,_,_,_,_,_,_,_,_,_,_].toArray,[]⟩ (h:=?_)
     refine zt 2 ((.slice (some ad7) l0.length c0)) #[_,_,_,_,_,_,_,_,_,_,_,_,_,_,_,_] ⟨[_,_,_,_,_,_,_,_,_,_,_,_,_,_,_,_,_,_,_,_,_,_,_,_,_,_,_,_,_,_,_,_,_,_,_,_,_,_,_,_,_,_,_,_,_,_,_,_,_,_,_,_,_,_,_,_,_,_,_,_,_,_,_,_,_,_,_,_,_,_,_,_,_,_,_,_,_,_,_,_,_,_,_,_,_,_,_,_,_,_,_,_,_,_,_,_,_,_,_,_,_,_,_,_,_,_,_,_,_,_,_,_,_,_,_,_,_,_,_,_,_,_,_,_,_,_,_,_,_,_,_,_,_,_,_,_,_,_,_,_,_,_,_,_,_,_,_,_,_,_,_,_,_,_,_,_,_,_,_,_,_,_,_,_,_,_,_,_].toArray,[]⟩ (h:=?_)
     refine zt 3 (.int .i64 x51) #[_,_,_,_,_,_,_,_,_,_,_,_,_,_,_,_] ⟨[_,_,_,_,_,_,_,_,_,_,_,_,_,_,_,_,_,_,_,_,_,_,_,_,_,_,_,_,_,_,_,_,_,_,_,_,_,_,_,_,_,_,_,_,_,_,_,_,_,_,_,_,_,_,_,_,_,_,_,_,_,_,_,_,_,_,_,_,_,_,_,_,_,_,_,_,_,_,_,_,_,_,_,_,_,_,_,_,_,_,_,_,_,_,_,_,_,_,_,_,_,_,_,_,_,_,_,_,_,_,_,_,_,_,_,_,_,_,_,_,_,_,_,_,_,_,_,_,_,_,_,_,_,_,_,_,_,_,_,_,_,_,_,_,_,_,_,_,_,_,_,_,_,_,_,_,_,_,_,_,_,_,_,_,_,_,_,_].toArray,[]⟩ (h:=?_)
     refine zt 4 ((.slice (some ad7) l0.length c0)) #[_,_,_,_,_,_,_,_,_,_,_,_,_,_,_,_] ⟨[_,_,_,_,_,_,_,_,_,_,_,_,_,_,_,_,_,_,_,_,_,_,_,_,_,_,_,_,_,_,_,_,_,_,_,_,_,_,_,_,_,_,_,_,_,_,_,_,_,_,_,_,_,_,_,_,_,_,_,_,_,_,_,_,_,_,_,_,_,_,_,_,_,_,_,_,_,_,_,_,_,_,_,_,_,_,_,_,_,_,_,_,_,_,_,_,_,_,_,_,_,_,_,_,_,_,_,_,_,_,_,_,_,_,_,_,_,_,_,_,_,_,_,_,_,_,_,_,_,_,_,_,_,_,_,_,_,_,_,_,_,_,_,_,_,_,_,_,_,_,_,_,_,_,_,_,_,_,_,_,_,_,_,_,_,_,_,_].toArray,[]⟩ (h:=?_)
     refine zt 5 (.int .i64 x51) #[_,_,_,_,_,_,_,_,_,_,_,_,_,_,_,_] ⟨[_,_,_,_,_,_,_,_,_,_,_,_,_,_,_,_,_,_,_,_,_,_,_,_,_,_,_,_,_,_,_,_,_,_,_,_,_,_,_,_,_,_,_,_,_,_,_,_,_,_,_,_,_,_,_,_,_,_,_,_,_,_,_,_,_,_,_,_,_,_,_,_,_,_,_,_,_,_,_,_,_,_,_,_,_,_,_,_,_,_,_,_,_,_,_,_,_,_,_,_,_,_,_,_,_,_,_,_,_,_,_,_,_,_,_,_,_,_,_,_,_,_,_,_,_,_,_,_,_,_,_,_,_,_,_,_,_,_,_,_,_,_,_,_,_,_,_,_,_,_,_,_,_,_,_,_,_,_,_,_,_,_,_,_,_,_,_,_].toArray,[]⟩ (h:=?_)
     replace HH:=zqdo HH
     obtain⟨HH,hk112⟩:=HH
     (try simp only[hk112,Bool.not_true,Bool.not_false])
     replace HH:=zqto HH
     obtain⟨HH,hk114,hk115⟩:=HH
     (try simp only[hk114,Bool.not_true,Bool.not_false])
     (try simp only[hk115,Bool.not_true,Bool.not_false])
     have p116:0≤(x51:Int):=of_decide_eq_true (by first|(with_reducible assumption)|assumption)
     have q116:x51<(l0.length:Int):=of_decide_eq_true (by first|(with_reducible assumption)|assumption)
     obtain⟨ad116,e116,hx116_0⟩:=Kd.at_int (Kd.F_now (Kd.N_F HN20.out)) x51 p116 q116
     cases e116
     replace p116:=eq_true p116
     replace q116:=eq_true q116
     refine zt 6 (.pointer (some (ad7.add (x51.toNat)))) #[_,_,_,_,_,_,_,_,_,_,_,_,_,_,_,_] ⟨[_,_,_,_,_,_,_,_,_,_,_,_,_,_,_,_,_,_,_,_,_,_,_,_,_,_,_,_,_,_,_,_,_,_,_,_,_,_,_,_,_,_,_,_,_,_,_,_,_,_,_,_,_,_,_,_,_,_,_,_,_,_,_,_,_,_,_,_,_,_,_,_,_,_,_,_,_,_,_,_,_,_,_,_,_,_,_,_,_,_,_,_,_,_,_,_,_,_,_,_,_,_,_,_,_,_,_,_,_,_,_,_,_,_,_,_,_,_,_,_,_,_,_,_,_,_,_,_,_,_,_,_,_,_,_,_,_,_,_,_,_,_,_,_,_,_,_,_,_,_,_,_,_,_,_,_,_,_,_,_,_,_,_,_,_,_,_,_].toArray,[]⟩ (h:=?_)
     refine zt 8 ((.slice (some ad7) l0.length c0)) #[_,_,_,_,_,_,_,_,_,_,_,_,_,_,_,_] ⟨[_,_,_,_,_,_,_,_,_,_,_,_,_,_,_,_,_,_,_,_,_,_,_,_,_,_,_,_,_,_,_,_,_,_,_,_,_,_,_,_,_,_,_,_,_,_,_,_,_,_,_,_,_,_,_,_,_,_,_,_,_,_,_,_,_,_,_,_,_,_,_,_,_,_,_,_,_,_,_,_,_,_,_,_,_,_,_,_,_,_,_,_,_,_,_,_,_,_,_,_,_,_,_,_,_,_,_,_,_,_,_,_,_,_,_,_,_,_,_,_,_,_,_,_,_,_,_,_,_,_,_,_,_,_,_,_,_,_,_,_,_,_,_,_,_,_,_,_,_,_,_,_,_,_,_,_,_,_,_,_,_,_,_,_,_,_,_,_].toArray,[]⟩ (h:=?_)
     refine zt 9 (.int .i64 x21) #[_,_,_,_,_,_,_,_,_,_,_,_,_,_,_,_] ⟨[_,_,_,_,_,_,_,_,_,_,_,_,_,_,_,_,_,_,_,_,_,_,_,_,_,_,_,_,_,_,_,_,_,_,_,_,_,_,_,_,_,_,_,_,_,_,_,_,_,_,_,_,_,_,_,_,_,_,_,_,_,_,_,_,_,_,_,_,_,_,_,_,_,_,_,_,_,_,_,_,_,_,_,_,_,_,_,_,_,_,_,_,_,_,_,_,_,_,_,_,_,_,_,_,_,_,_,_,_,_,_,_,_,_,_,_,_,_,_,_,_,_,_,_,_,_,_,_,_,_,_,_,_,_,_,_,_,_,_,_,_,_,_,_,_,_,_,_,_,_,_,_,_,_,_,_,_,_,_,_,_,_,_,_,_,_,_,_].toArray,[]⟩ (h:=?_)
     replace HH:=zqdo HH
     obtain⟨HH,hk118⟩:=HH
     (try simp only[hk118,Bool.not_true,Bool.not_false])
     replace HH:=zqto HH
     obtain⟨HH,hk120,hk121⟩:=HH
     (try simp only[hk120,Bool.not_true,Bool.not_false])
     (try simp only[hk121,Bool.not_true,Bool.not_false])
     have p122:0≤(x21:Int):=of_decide_eq_true (by first|(with_reducible assumption)|assumption)
     have q122:x21<(l0.length:Int):=of_decide_eq_true (by first|(with_reducible assumption)|assumption)
     obtain⟨ad122,e122,hx122_0⟩:=Kd.at_int (Kd.F_now (Kd.N_F HN20.out)) x21 p122 q122
     cases e122
     replace p122:=eq_true p122
     replace q122:=eq_true q122
     refine zt 10 (.pointer (some (ad7.add (x21.toNat)))) #[_,_,_,_,_,_,_,_,_,_,_,_,_,_,_,_] ⟨[_,_,_,_,_,_,_,_,_,_,_,_,_,_,_,_,_,_,_,_,_,_,_,_,_,_,_,_,_,_,_,_,_,_,_,_,_,_,_,_,_,_,_,_,_,_,_,_,_,_,_,_,_,_,_,_,_,_,_,_,_,_,_,_,_,_,_,_,_,_,_,_,_,_,_,_,_,_,_,_,_,_,_,_,_,_,_,_,_,_,_,_,_,_,_,_,_,_,_,_,_,_,_,_,_,_,_,_,_,_,_,_,_,_,_,_,_,_,_,_,_,_,_,_,_,_,_,_,_,_,_,_,_,_,_,_,_,_,_,_,_,_,_,_,_,_,_,_,_,_,_,_,_,_,_,_,_,_,_,_,_,_,_,_,_,_,_,_].toArray,[]⟩ (h:=?_)
     refine MW.any_two (i:=7) (j:=11) (vi:=.int .i32 (rd y18 x51)) (vj:=.int .i32 (rd y18 x21)) #[true,true,true,true,true,true,true,true,true,true,true,true,false,false,false,false] ⟨[(.slice (some ad7) l0.length c0),(.int .i64 a1),(.int .i64 a2),(.int .i64 a3),undef,undef,undef,undef,(.int .i64 0),(.bool false),(.int .i64 x21),(.int .i64 x51),(.slice (some ad7) l0.length c0),(.int .i64 a1),(.slice (some ad7) l0.length c0),(.int .i64 a3),(.slice (some ad7) l0.length c0),(.int .i64 a3),(.pointer (some (ad7.add (a3.toNat)))),(.int .i32 (rd l0 a3)),(.slice (some ad7) l0.length c0),(.int .i64 a1),(.pointer (some (ad7.add (a1.toNat)))),(.int .i32 (rd l0 a1)),(.pointer (some (ad7.add (a1.toNat)))),(.pointer (some (ad7.add (a3.toNat)))),(.int .i64 a1),(.int .i64 (wrap64 (a1+1))),(.int .i64 a2),(.int .i64 (wrap64 (a2 - 1))),u30,u31,u32,u33,u34,u35,u36,u37,u38,u39,u40,u41,u42,(.bool false),u44,u45,u46,u47,u48,u49,u50,u51,u52,u53,u54,u55,u56,u57,u58,u59,(.bool false),u61,u62,(.int .i64 x21),(.int .i64 x51),(.bool false),undef,undef,undef,undef,undef,undef,undef,undef,undef,undef,undef,undef,undef,undef,undef,(.slice (some ad7) l0.length c0),(.int .i64 x21),(.slice (some ad7) l0.length c0),(.int .i64 x51),(.slice (some ad7) l0.length c0),(.int .i64 x51),(.pointer (some (ad7.add (x51.toNat)))),(.int .i32 (rd y18 x51)),(.slice (some ad7) l0.length c0),(.int .i64 x21),(.pointer (some (ad7.add (x21.toNat)))),(.int .i32 (rd y18 x21)),undef,undef,undef,undef,undef,undef,undef,undef,undef,undef,undef,undef,undef,undef,undef,undef,undef,undef,undef,undef,undef,undef,undef,undef,undef,undef,undef,undef,undef,undef,undef,undef,undef,undef,undef,undef,undef,undef,undef,undef,undef,undef,undef,undef,undef,undef,undef,undef,undef,undef,undef,undef,undef,undef,undef,undef,undef,undef,undef,undef,undef,undef,undef,undef,undef,undef,undef,undef,undef,undef,undef,undef,undef,undef,undef].toArray,[]⟩ (by decide) rfl rfl (by kernel_rfl) (by kernel_rfl) (by kernel_rfl) (by kernel_rfl) (by kernel_rfl) (by first|rfl|(go_simp;done)|(go_simp;rfl)) (by first|rfl|(go_simp;done)|(go_simp;rfl)) (by first|rfl|(go_simp;done)|(go_simp;rfl)) (by first|rfl|(go_simp;done)|(go_simp;rfl)) (by kernel_rfl) (by kernel_rfl) (by kernel_rfl) (by kernel_rfl) (by kernel_rfl) (by kernel_rfl) ?_
     refine zt 12 (.pointer (some (ad7.add (x21.toNat)))) #[_,_,_,_,_,_,_,_,_,_,_,_,_,_,_,_] ⟨[_,_,_,_,_,_,_,_,_,_,_,_,_,_,_,_,_,_,_,_,_,_,_,_,_,_,_,_,_,_,_,_,_,_,_,_,_,_,_,_,_,_,_,_,_,_,_,_,_,_,_,_,_,_,_,_,_,_,_,_,_,_,_,_,_,_,_,_,_,_,_,_,_,_,_,_,_,_,_,_,_,_,_,_,_,_,_,_,_,_,_,_,_,_,_,_,_,_,_,_,_,_,_,_,_,_,_,_,_,_,_,_,_,_,_,_,_,_,_,_,_,_,_,_,_,_,_,_,_,_,_,_,_,_,_,_,_,_,_,_,_,_,_,_,_,_,_,_,_,_,_,_,_,_,_,_,_,_,_,_,_,_,_,_,_,_,_,_].toArray,[]⟩ (h:=?_)
     refine MW.any_seq 13 3 rfl (by kernel_rfl) ?_
     simp only[List.drop_succ_cons,List.drop_zero]
     clear hwr_
     obtain⟨y123,hy123⟩:∃ y_:List Int,y_=(List.set y18 x21.toNat (rd y18 x51)):=⟨_,rfl⟩
     have H:((some (List.set y123 x51.toNat (rd y18 x21):List Int)).bind fun y127=>((slices_partitionOrdered_rune.l2 k52 (wrap64 (x21+1)) (wrap64 (x51 - 1)) y127 a1 l0)))=some (r1,r2,r3):=by rw[hy123];exact HH.out
     replace HH:=za H
     clear H
     have NYy123:=za hy123
     clear hy123
     go_wp2_with (((with_reducible refine gate_store (t:=21) (p:=93) rfl ?_);(try(refine gate_guard (by rfl) ?_;dsimp only));refine MW.ev_set1 (n:=l0.length) B_ rfl rfl _ _ _ rfl 21 x21 y18 (rd y18 x51) (fun k_=>True∧(some k_=((.slice (some ad7) l0.length c0):Value).ownBlock∨w.heap.size≤k_)) (by rfl) (by rfl) (by kernel_rfl) HN20.out (of_decide_eq_true (by first|(with_reducible assumption)|assumption)) (of_decide_eq_true (by first|(with_reducible assumption)|assumption)) HB.out ?_;intro w124 hn1 hb1 hg1);refine stop_ ?_)
     refine zg ?_
     replace HFfr:=za (Kd.F_grown (ok:=(fun k_=>True∧some k_≠((.slice (some ad7) l0.length c0):Value).ownBlock)) HFfr.out hg1 (fun k_ hk_=>hk_.2))
     replace HB:=za hb1
     clear HN20
     have HN125:=za (by rw[NYy123.out];exact hn1:Kd.N (Kd.int .i32) 21 w124 B_ (fun k_=>True∧(some k_=((.slice (some ad7) l0.length c0):Value).ownBlock∨w.heap.size≤k_)) (.slice (some ad7) l0.length c0) y123)
     clear hn1 hb1 hg1
     clear hx116_0 p116 q116 hx122_0 p122 q122
     have p126:0≤(x51:Int):=of_decide_eq_true (by first|(with_reducible assumption)|assumption)
     have q126:x51<(l0.length:Int):=of_decide_eq_true (by first|(with_reducible assumption)|assumption)
     obtain⟨ad126,e126,hx126_0⟩:=Kd.at_int (Kd.F_now (Kd.N_F HN125.out)) x51 p126 q126
     cases e126
     replace p126:=eq_true p126
     replace q126:=eq_true q126
     obtain⟨y127,hy127⟩:∃ y_:List Int,y_=(List.set y123 x51.toNat (rd y18 x21)):=⟨_,rfl⟩
     have H:((slices_partitionOrdered_rune.l2 k52 (wrap64 (x21+1)) (wrap64 (x51 - 1)) y127 a1 l0))=some (r1,r2,r3):=by rw[hy127];exact HH.out
     replace HH:=za H
     clear H
     have NYy127:=za hy127
     clear hy127
     go_wp2_with (((with_reducible refine gate_store (t:=21) (p:=94) rfl ?_);(try(refine gate_guard (by rfl) ?_;dsimp only));refine MW.ev_set1 (n:=l0.length) B_ rfl rfl _ _ _ rfl 21 x51 y123 (rd y18 x21) (fun k_=>True∧(some k_=((.slice (some ad7) l0.length c0):Value).ownBlock∨w.heap.size≤k_)) (by rfl) (by rfl) (by kernel_rfl) HN125.out (of_decide_eq_true (by first|(with_reducible assumption)|assumption)) (of_decide_eq_true (by first|(with_reducible assumption)|assumption)) HB.out ?_;intro w128 hn1 hb1 hg1);refine stop_ ?_)
     refine zg ?_
     replace HFfr:=za (Kd.F_grown (ok:=(fun k_=>True∧some k_≠((.slice (some ad7) l0.length c0):Value).ownBlock)) HFfr.out hg1 (fun k_ hk_=>hk_.2))
     replace HB:=za hb1
     clear HN125
     have HN129:=za (by rw[NYy127.out];exact hn1:Kd.N (Kd.int .i32) 21 w128 B_ (fun k_=>True∧(some k_=((.slice (some ad7) l0.length c0):Value).ownBlock∨w.heap.size≤k_)) (.slice (some ad7) l0.length c0) y127)
     clear hn1 hb1 hg1
     clear hx126_0 p126 q126
     go_wp2
     go_loopg [10,11] k52 (fun kq u10 u11 w'=>∃ (x130:Int) (x131:Int) (x132:List Int),u10=.int .i64 x130∧u11=.int .i64 x131∧Aside0 ((slices_partitionOrdered_rune.l2 kq x130 x131 x132 a1 l0)=some (r1,r2,r3))∧Aside0 (kq≤k52)∧Aside0 (Kd.F (MB.frK w P0_) w' (fun k_=>True∧some k_≠((.slice (some ad7) l0.length c0):Value).ownBlock) (some ⟨0,0,none⟩) [()].length [()])∧Aside0 (Kd.N (Kd.int .i32) 21 w' B_ (fun k_=>True∧(some k_=((.slice (some ad7) l0.length c0):Value).ownBlock∨w.heap.size≤k_)) (.slice (some ad7) l0.length c0) x132)∧Aside0 (Below B_ w w'))
     case atStart=>exact⟨wrap64 (x21+1),wrap64 (x51 - 1),y127,(by first|rfl|(simp;done)|(simp[*];done)),(by first|rfl|(simp;done)|(simp[*];done)),HH,⟨Nat.le_refl _⟩,⟨HFfr.out⟩,⟨(Kd.N_mono (ok:=(fun k_=>True∧(some k_=((.slice (some ad7) l0.length c0):Value).ownBlock∨w.heap.size≤k_))) HN129.out (fun k_ hk_=>hk_))⟩,⟨HB.out⟩⟩
     case round=>
      clear hk109
      clear hk112
      clear hk114
      clear hk115
      clear hk118
      clear hk120
      clear hk121
      clear HH
      clear HFfr HN129 HB
      obtain⟨x130,x131,x132,rfl,rfl,HA,HK2,HFfr,HN129,HB⟩:=hrel
      obtain⟨w134,rfl⟩:∃ wo_:World,wo_=wr:=⟨_,rfl⟩
      cases gk with
      |zero=>exact absurd HA.out (by simp[slices_partitionOrdered_rune.l2])
      |succ k133=>
       have H:=HA.out
       clear HA
       simp only[slices_partitionOrdered_rune.l2] at H
       have HH:=za H
       clear H
       go_wp2
       go_loopg [10] k133 (fun kq u10 w'=>∃ (x135:Int),u10=.int .i64 x135∧Aside0 ((slices_partitionOrdered_rune.l3 kq x135 a1 l0 x131 x132)=some (r1,r2,r3))∧Aside0 (kq≤k133)∧Aside0 (Kd.F (MB.frK w P0_) w' (fun k_=>True∧some k_≠((.slice (some ad7) l0.length c0):Value).ownBlock) (some ⟨0,0,none⟩) [()].length [()])∧Aside0 (Kd.N (Kd.int .i32) 21 w' B_ (fun k_=>True∧(some k_=((.slice (some ad7) l0.length c0):Value).ownBlock∨w.heap.size≤k_)) (.slice (some ad7) l0.length c0) x132)∧Aside0 (Below B_ w w'))
       case atStart=>exact⟨x130,(by first|rfl|(simp;done)|(simp[*];done)),HH,⟨Nat.le_refl _⟩,⟨HFfr.out⟩,⟨(Kd.N_mono (ok:=(fun k_=>True∧(some k_=((.slice (some ad7) l0.length c0):Value).ownBlock∨w.heap.size≤k_))) HN129.out (fun k_ hk_=>hk_))⟩,⟨HB.out⟩⟩
       case round=>
        clear HH
        clear HFfr HN129 HB
        obtain⟨x135,rfl,HA,HK3,HFfr,HN129,HB⟩:=hrel
        obtain⟨w137,rfl⟩:∃ wo_:World,wo_=wr:=⟨_,rfl⟩
        cases gk with
        |zero=>exact absurd HA.out (by simp[slices_partitionOrdered_rune.l3])
        |succ k136=>
         have H:=HA.out
         clear HA
         simp only[slices_partitionOrdered_rune.l3] at H
         have HH:=za H
         clear H
         replace HH:=zd HH
         obtain⟨b138,At139,HH⟩:=HH
         go_wp2
         obtain⟨R_,hR_⟩:∃ R_:Act→World→Prop,R_=(fun a_ w_=>∃ u99 u100 u101 u102 u103 u104 u105 u106 u107 u108 u109 u110 u111:Value,a_=(⟨[(.slice (some ad7) l0.length c0),(.int .i64 a1),(.int .i64 a2),(.int .i64 a3),undef,undef,undef,undef,(.int .i64 0),(.bool false),(.int .i64 x135),(.int .i64 x131),(.slice (some ad7) l0.length c0),(.int .i64 a1),(.slice (some ad7) l0.length c0),(.int .i64 a3),(.slice (some ad7) l0.length c0),(.int .i64 a3),(.pointer (some (ad7.add (a3.toNat)))),(.int .i32 (rd l0 a3)),(.slice (some ad7) l0.length c0),(.int .i64 a1),(.pointer (some (ad7.add (a1.toNat)))),(.int .i32 (rd l0 a1)),(.pointer (some (ad7.add (a1.toNat)))),(.pointer (some (ad7.add (a3.toNat)))),(.int .i64 a1),(.int .i64 (wrap64 (a1+1))),(.int .i64 a2),(.int .i64 (wrap64 (a2 - 1))),u30,u31,u32,u33,u34,u35,u36,u37,u38,u39,u40,u41,u42,(.bool false),u44,u45,u46,u47,u48,u49,u50,u51,u52,u53,u54,u55,u56,u57,u58,u59,(.bool false),u61,u62,(.int .i64 x21),(.int .i64 x51),(.bool false),undef,undef,undef,undef,undef,undef,undef,undef,undef,undef,undef,undef,undef,undef,undef,(.slice (some ad7) l0.length c0),(.int .i64 x21),(.slice (some ad7) l0.length c0),(.int .i64 x51),(.slice (some ad7) l0.length c0),(.int .i64 x51),(.pointer (some (ad7.add (x51.toNat)))),(.int .i32 (rd y18 x51)),(.slice (some ad7) l0.length c0),(.int .i64 x21),(.pointer (some (ad7.add (x21.toNat)))),(.int .i32 (rd y18 x21)),(.pointer (some (ad7.add (x21.toNat)))),(.pointer (some (ad7.add (x51.toNat)))),(.int .i64 x21),(.int .i64 (wrap64 (x21+1))),(.int .i64 x51),(.int .i64 (wrap64 (x51 - 1))),u99,u100,u101,u102,u103,u104,u105,u106,u107,u108,u109,u110,u111,.bool b138,u113,u114,u115,u116,u117,u118,u119,u120,u121,u122,u123,u124,u125,u126,u127,u128,u129,u130,u131,u132,u133,u134,u135,u136,u137,u138,u139,u140,u141,u142,u143,u144,u145,u146,u147,u148,u149,u150,u151,u152,undef,undef,undef,undef,undef,undef,undef,undef,undef,undef,undef,undef,undef,undef,undef].toArray,[]⟩:Act)∧Drawn0 w137 w_):=⟨_,rfl⟩
         replace hR_:=za hR_
         refine MS.join R_ ?_ ?_
         ·clear HH
          have HH:=At139
          clear At139
          replace HH:=zqd HH
          rcases HH with⟨HH,hk142⟩|⟨HH,hk163⟩
          ·replace HH:=zqdo HH
           obtain⟨HH,hk144⟩:=HH
           replace HH:=zqto HH
           obtain⟨HH,hk146,hk147⟩:=HH
           have p148:0≤(x135:Int):=of_decide_eq_true (by first|(with_reducible assumption)|assumption)
           have q148:x135<(l0.length:Int):=of_decide_eq_true (by first|(with_reducible assumption)|assumption)
           obtain⟨ad148,e148,hx148_0⟩:=Kd.at_int (Kd.F_now (Kd.N_F HN129.out)) x135 p148 q148
           cases e148
           replace p148:=eq_true p148
           replace q148:=eq_true q148
           replace HH:=zqdo HH
           obtain⟨HH,hk150⟩:=HH
           replace HH:=zqto HH
           obtain⟨HH,hk152,hk153⟩:=HH
           have p154:0≤(a1:Int):=of_decide_eq_true (by first|(with_reducible assumption)|assumption)
           have q154:a1<(l0.length:Int):=of_decide_eq_true (by first|(with_reducible assumption)|assumption)
           obtain⟨ad154,e154,hx154_0⟩:=Kd.at_int (Kd.F_now (Kd.N_F HN129.out)) a1 p154 q154
           cases e154
           replace p154:=eq_true p154
           replace q154:=eq_true q154
           replace HH:=zd HH
           obtain⟨t155,At156,HH⟩:=HH
           go_wp2
           go_quiet ((first|(go_at_call 42;first|exact Calls.quiet_of (MW.drawn (cmp_Less_rune.calls  (rd x132 x135) (rd x132 a1) t155 _  At156.out))|exact MW.quiet_far (MW.drawn (cmp_Less_rune.calls  (rd x132 x135) (rd x132 a1) t155 _  At156.out)))))
           obtain rfl:=Option.some.inj HH.out
           go_wp2
           refine MS.Joined.mk ?_
           rw[hR_.out]
           exact⟨_,_,_,_,_,_,_,_,_,_,_,_,_,rfl,by repeat(first|exact Drawn0.refl _|apply Drawn0.step)⟩
          go_wp2
          go_quiet ((first|(go_at_call 42;first|exact Calls.quiet_of (MW.drawn (cmp_Less_rune.calls  (rd x132 x135) (rd x132 a1) t155 _  At156.out))|exact MW.quiet_far (MW.drawn (cmp_Less_rune.calls  (rd x132 x135) (rd x132 a1) t155 _  At156.out)))))
          obtain rfl:=Option.some.inj HH.out
          go_wp2
          refine MS.Joined.mk ?_
          rw[hR_.out]
          exact⟨_,_,_,_,_,_,_,_,_,_,_,_,_,rfl,by repeat(first|exact Drawn0.refl _|apply Drawn0.step)⟩
         intro a_ w140 hd_
         rw[hR_.out] at hd_
         obtain⟨u99,u100,u101,u102,u103,u104,u105,u106,u107,u108,u109,u110,u111,rfl,hd_⟩:=hd_
         have hb:=MS.drawn_below hd_
         clear At139 hd_ hR_ R_
         replace HFfr:=zfb HFfr.out hb
         replace HN129:=znb HN129.out hb
         replace HB:=za (MB.below_stepB hB_.out HB.out hb)
         clear hb
         by_cases c164:b138=true
         ·replace HH:=MW.hpos HH c164
          subst c164
          go_wp2
          go_roundg k136
          case measure=>have:=HK0.out;have:=HK1.out;have:=HK2.out;have:=HK3.out;omega
          case rel=>exact⟨wrap64 (x135+1),(by first|rfl|(simp;done)|(simp[*];done)),HH,⟨by have:=HK0.out;have:=HK1.out;have:=HK2.out;have:=HK3.out;omega⟩,⟨HFfr.out⟩,⟨(Kd.N_mono (ok:=(fun k_=>True∧(some k_=((.slice (some ad7) l0.length c0):Value).ownBlock∨w.heap.size≤k_))) HN129.out (fun k_ hk_=>hk_))⟩,⟨HB.out⟩⟩
         replace HH:=MW.hneg HH c164
         replace c164:=Bool.eq_false_iff.mpr c164
         subst c164
         go_wp2
         go_loopg [11] k136 (fun kq u11 w'=>∃ (x165:Int),u11=.int .i64 x165∧Aside0 ((slices_partitionOrdered_rune.l4 kq x165 a1 l0 x132 x135)=some (r1,r2,r3))∧Aside0 (kq≤k136)∧Aside0 (Kd.F (MB.frK w P0_) w' (fun k_=>True∧some k_≠((.slice (some ad7) l0.length c0):Value).ownBlock) (some ⟨0,0,none⟩) [()].length [()])∧Aside0 (Kd.N (Kd.int .i32) 21 w' B_ (fun k_=>True∧(some k_=((.slice (some ad7) l0.length c0):Value).ownBlock∨w.heap.size≤k_)) (.slice (some ad7) l0.length c0) x132)∧Aside0 (Below B_ w w'))
         case atStart=>exact⟨x131,(by first|rfl|(simp;done)|(simp[*];done)),HH,⟨Nat.le_refl _⟩,⟨HFfr.out⟩,⟨(Kd.N_mono (ok:=(fun k_=>True∧(some k_=((.slice (some ad7) l0.length c0):Value).ownBlock∨w.heap.size≤k_))) HN129.out (fun k_ hk_=>hk_))⟩,⟨HB.out⟩⟩
         case round=>
          clear HH
          clear HFfr HN129 HB
          obtain⟨x165,rfl,HA,HK4,HFfr,HN129,HB⟩:=hrel
          obtain⟨w167,rfl⟩:∃ wo_:World,wo_=wr:=⟨_,rfl⟩
          cases gk with
          |zero=>exact absurd HA.out (by simp[slices_partitionOrdered_rune.l4])
          |succ k166=>
           have H:=HA.out
           clear HA
           simp only[slices_partitionOrdered_rune.l4] at H
           have HH:=za H
           clear H
           replace HH:=zd HH
           obtain⟨b168,At169,HH⟩:=HH
           go_wp2
           obtain⟨R_,hR_⟩:∃ R_:Act→World→Prop,R_=(fun a_ w_=>∃ u115 u116 u117 u118 u119 u120 u121 u122 u123 u124 u125 u126 u127 u128:Value,a_=(⟨[(.slice (some ad7) l0.length c0),(.int .i64 a1),(.int .i64 a2),(.int .i64 a3),undef,undef,undef,undef,(.int .i64 0),(.bool false),(.int .i64 x135),(.int .i64 x165),(.slice (some ad7) l0.length c0),(.int .i64 a1),(.slice (some ad7) l0.length c0),(.int .i64 a3),(.slice (some ad7) l0.length c0),(.int .i64 a3),(.pointer (some (ad7.add (a3.toNat)))),(.int .i32 (rd l0 a3)),(.slice (some ad7) l0.length c0),(.int .i64 a1),(.pointer (some (ad7.add (a1.toNat)))),(.int .i32 (rd l0 a1)),(.pointer (some (ad7.add (a1.toNat)))),(.pointer (some (ad7.add (a3.toNat)))),(.int .i64 a1),(.int .i64 (wrap64 (a1+1))),(.int .i64 a2),(.int .i64 (wrap64 (a2 - 1))),u30,u31,u32,u33,u34,u35,u36,u37,u38,u39,u40,u41,u42,(.bool false),u44,u45,u46,u47,u48,u49,u50,u51,u52,u53,u54,u55,u56,u57,u58,u59,(.bool false),u61,u62,(.int .i64 x21),(.int .i64 x51),(.bool false),undef,undef,undef,undef,undef,undef,undef,undef,undef,undef,undef,undef,undef,undef,undef,(.slice (some ad7) l0.length c0),(.int .i64 x21),(.slice (some ad7) l0.length c0),(.int .i64 x51),(.slice (some ad7) l0.length c0),(.int .i64 x51),(.pointer (some (ad7.add (x51.toNat)))),(.int .i32 (rd y18 x51)),(.slice (some ad7) l0.length c0),(.int .i64 x21),(.pointer (some (ad7.add (x21.toNat)))),(.int .i32 (rd y18 x21)),(.pointer (some (ad7.add (x21.toNat)))),(.pointer (some (ad7.add (x51.toNat)))),(.int .i64 x21),(.int .i64 (wrap64 (x21+1))),(.int .i64 x51),(.int .i64 (wrap64 (x51 - 1))),u99,u100,u101,u102,u103,u104,u105,u106,u107,u108,u109,u110,u111,(.bool false),u113,u114,u115,u116,u117,u118,u119,u120,u121,u122,u123,u124,u125,u126,u127,u128,.bool b168,u130,u131,u132,u133,u134,u135,u136,u137,u138,u139,u140,u141,u142,u143,u144,u145,u146,u147,u148,u149,u150,u151,u152,undef,undef,undef,undef,undef,undef,undef,undef,undef,undef,undef,undef,undef,undef,undef].toArray,[]⟩:Act)∧Drawn0 w167 w_):=⟨_,rfl⟩
           replace hR_:=za hR_
           refine MS.join R_ ?_ ?_
           ·clear HH
            have HH:=At169
            clear At169
            replace HH:=zqd HH
            rcases HH with⟨HH,hk172⟩|⟨HH,hk193⟩
            ·replace HH:=zqdo HH
             obtain⟨HH,hk174⟩:=HH
             replace HH:=zqto HH
             obtain⟨HH,hk176,hk177⟩:=HH
             have p178:0≤(x165:Int):=of_decide_eq_true (by first|(with_reducible assumption)|assumption)
             have q178:x165<(l0.length:Int):=of_decide_eq_true (by first|(with_reducible assumption)|assumption)
             obtain⟨ad178,e178,hx178_0⟩:=Kd.at_int (Kd.F_now (Kd.N_F HN129.out)) x165 p178 q178
             cases e178
             replace p178:=eq_true p178
             replace q178:=eq_true q178
             replace HH:=zqdo HH
             obtain⟨HH,hk180⟩:=HH
             replace HH:=zqto HH
             obtain⟨HH,hk182,hk183⟩:=HH
             have p184:0≤(a1:Int):=of_decide_eq_true (by first|(with_reducible assumption)|assumption)
             have q184:a1<(l0.length:Int):=of_decide_eq_true (by first|(with_reducible assumption)|assumption)
             obtain⟨ad184,e184,hx184_0⟩:=Kd.at_int (Kd.F_now (Kd.N_F HN129.out)) a1 p184 q184
             cases e184
             replace p184:=eq_true p184
             replace q184:=eq_true q184
             replace HH:=zd HH
             obtain⟨t185,At186,HH⟩:=HH
             go_wp2
             go_quiet ((first|(go_at_call 42;first|exact Calls.quiet_of (MW.drawn (cmp_Less_rune.calls  (rd x132 x165) (rd x132 a1) t185 _  At186.out))|exact MW.quiet_far (MW.drawn (cmp_Less_rune.calls  (rd x132 x165) (rd x132 a1) t185 _  At186.out)))))
             obtain rfl:=Option.some.inj HH.out
             go_wp2
             refine MS.Joined.mk ?_
             rw[hR_.out]
             exact⟨_,_,_,_,_,_,_,_,_,_,_,_,_,_,rfl,by repeat(first|exact Drawn0.refl _|apply Drawn0.step)⟩
            go_wp2
            go_quiet ((first|(go_at_call 42;first|exact Calls.quiet_of (MW.drawn (cmp_Less_rune.calls  (rd x132 x165) (rd x132 a1) t185 _  At186.out))|exact MW.quiet_far (MW.drawn (cmp_Less_rune.calls  (rd x132 x165) (rd x132 a1) t185 _  At186.out)))))
            obtain rfl:=Option.some.inj HH.out
            go_wp2
            refine MS.Joined.mk ?_
            rw[hR_.out]
            exact⟨_,_,_,_,_,_,_,_,_,_,_,_,_,_,rfl,by repeat(first|exact Drawn0.refl _|apply Drawn0.step)⟩
           intro a_ w170 hd_
           rw[hR_.out] at hd_
           obtain⟨u115,u116,u117,u118,u119,u120,u121,u122,u123,u124,u125,u126,u127,u128,rfl,hd_⟩:=hd_
           have hb:=MS.drawn_below hd_
           clear At169 hd_ hR_ R_
           replace HFfr:=zfb HFfr.out hb
           replace HN129:=znb HN129.out hb
           replace HB:=za (MB.below_stepB hB_.out HB.out hb)
           clear hb
           by_cases c194:b168=true
           ·replace HH:=MW.hpos HH c194
            subst c194
            go_wp2
            go_roundg k166
            case measure=>have:=HK0.out;have:=HK1.out;have:=HK2.out;have:=HK3.out;have:=HK4.out;omega
            case rel=>exact⟨wrap64 (x165 - 1),(by first|rfl|(simp;done)|(simp[*];done)),HH,⟨by have:=HK0.out;have:=HK1.out;have:=HK2.out;have:=HK3.out;have:=HK4.out;omega⟩,⟨HFfr.out⟩,⟨(Kd.N_mono (ok:=(fun k_=>True∧(some k_=((.slice (some ad7) l0.length c0):Value).ownBlock∨w.heap.size≤k_))) HN129.out (fun k_ hk_=>hk_))⟩,⟨HB.out⟩⟩
           replace HH:=MW.hneg HH c194
           replace c194:=Bool.eq_false_iff.mpr c194
           subst c194
           replace HH:=zqg HH
           rcases HH with⟨HH,hk196⟩|⟨HH,hk223⟩
           ·go_wp2
            have hwr_:∀ n_:Int,IntKind.i64.wrap n_=wrap64 n_:=fun n_=>IntWalk.i64_left n_
            refine wp_region_any (by kernel_rfl) ?_
            change wpAny _ _ _ _ 16 #[false,false,false,false,false,false,false,false,false,false,false,false,false,false,false,false] _ w170.drew
            obtain⟨w197,hw_⟩:∃ w_:World,w_=w170.drew:=⟨_,rfl⟩
            rw[← hw_]
            have hb:Below w170.heap.size w170 w197:=by rw[hw_];exact below_drew1 (Below.refl _ _)
            clear hw_
            replace HFfr:=zfb HFfr.out hb
            replace HN129:=znb HN129.out hb
            replace HB:=za (MB.below_stepB hB_.out HB.out hb)
            clear hb
            refine zt 0 ((.slice (some ad7) l0.length c0)) #[_,_,_,_,_,_,_,_,_,_,_,_,_,_,_,_] ⟨[_,_,_,_,_,_,_,_,_,_,_,_,_,_,_,_,_,_,_,_,_,_,_,_,_,_,_,_,_,_,_,_,_,_,_,_,_,_,_,_,_,_,_,_,_,_,_,_,_,_,_,_,_,_,_,_,_,_,_,_,_,_,_,_,_,_,_,_,_,_,_,_,_,_,_,_,_,_,_,_,_,_,_,_,_,_,_,_,_,_,_,_,_,_,_,_,_,_,_,_,_,_,_,_,_,_,_,_,_,_,_,_,_,_,_,_,_,_,_,_,_,_,_,_,_,_,_,_,_,_,_,_,_,_,_,_,_,_,_,_,_,_,_,_,_,_,_,_,_,_,_,_,_,_,_,_,_,_,_,_,_,_,_,_,_,_,_,_].toArray,[]⟩ (h:=?_)
            refine zt 1 (.int .i64 x165) #[_,_,_,_,_,_,_,_,_,_,_,_,_,_,_,_] ⟨[_,_,_,_,_,_,_,_,_,_,_,_,_,_,_,_,_,_,_,_,_,_,_,_,_,_,_,_,_,_,_,_,_,_,_,_,_,_,_,_,_,_,_,_,_,_,_,_,_,_,_,_,_,_,_,_,_,_,_,_,_,_,_,_,_,_,_,_,_,_,_,_,_,_,_,_,_,_,_,_,_,_,_,_,_,_,_,_,_,_,_,_,_,_,_,_,_,_,_,_,_,_,_,_,_,_,_,_,_,_,_,_,_,_,_,_,_,_,_,_,_,_,_,_,_,_,_,_,_,_,_,_,_,_,_,_,_,_,_,_,_,_,_,_,_,_,_,_,_,_,_,_,_,_,_,_,_,_,_,_,_,_,_,_,_,_,_,_].toArray,[]⟩ (h:=?_)
            refine zt 2 ((.slice (some ad7) l0.length c0)) #[_,_,_,_,_,_,_,_,_,_,_,_,_,_,_,_] ⟨[_,_,_,_,_,_,_,_,_,_,_,_,_,_,_,_,_,_,_,_,_,_,_,_,_,_,_,_,_,_,_,_,_,_,_,_,_,_,_,_,_,_,_,_,_,_,_,_,_,_,_,_,_,_,_,_,_,_,_,_,_,_,_,_,_,_,_,_,_,_,_,_,_,_,_,_,_,_,_,_,_,_,_,_,_,_,_,_,_,_,_,_,_,_,_,_,_,_,_,_,_,_,_,_,_,_,_,_,_,_,_,_,_,_,_,_,_,_,_,_,_,_,_,_,_,_,_,_,_,_,_,_,_,_,_,_,_,_,_,_,_,_,_,_,_,_,_,_,_,_,_,_,_,_,_,_,_,_,_,_,_,_,_,_,_,_,_,_].toArray,[]⟩ (h:=?_)
            refine zt 3 (.int .i64 a1) #[_,_,_,_,_,_,_,_,_,_,_,_,_,_,_,_] ⟨[_,_,_,_,_,_,_,_,_,_,_,_,_,_,_,_,_,_,_,_,_,_,_,_,_,_,_,_,_,_,_,_,_,_,_,_,_,_,_,_,_,_,_,_,_,_,_,_,_,_,_,_,_,_,_,_,_,_,_,_,_,_,_,_,_,_,_,_,_,_,_,_,_,_,_,_,_,_,_,_,_,_,_,_,_,_,_,_,_,_,_,_,_,_,_,_,_,_,_,_,_,_,_,_,_,_,_,_,_,_,_,_,_,_,_,_,_,_,_,_,_,_,_,_,_,_,_,_,_,_,_,_,_,_,_,_,_,_,_,_,_,_,_,_,_,_,_,_,_,_,_,_,_,_,_,_,_,_,_,_,_,_,_,_,_,_,_,_].toArray,[]⟩ (h:=?_)
            refine zt 4 ((.slice (some ad7) l0.length c0)) #[_,_,_,_,_,_,_,_,_,_,_,_,_,_,_,_] ⟨[_,_,_,_,_,_,_,_,_,_,_,_,_,_,_,_,_,_,_,_,_,_,_,_,_,_,_,_,_,_,_,_,_,_,_,_,_,_,_,_,_,_,_,_,_,_,_,_,_,_,_,_,_,_,_,_,_,_,_,_,_,_,_,_,_,_,_,_,_,_,_,_,_,_,_,_,_,_,_,_,_,_,_,_,_,_,_,_,_,_,_,_,_,_,_,_,_,_,_,_,_,_,_,_,_,_,_,_,_,_,_,_,_,_,_,_,_,_,_,_,_,_,_,_,_,_,_,_,_,_,_,_,_,_,_,_,_,_,_,_,_,_,_,_,_,_,_,_,_,_,_,_,_,_,_,_,_,_,_,_,_,_,_,_,_,_,_,_].toArray,[]⟩ (h:=?_)
            refine zt 5 (.int .i64 a1) #[_,_,_,_,_,_,_,_,_,_,_,_,_,_,_,_] ⟨[_,_,_,_,_,_,_,_,_,_,_,_,_,_,_,_,_,_,_,_,_,_,_,_,_,_,_,_,_,_,_,_,_,_,_,_,_,_,_,_,_,_,_,_,_,_,_,_,_,_,_,_,_,_,_,_,_,_,_,_,_,_,_,_,_,_,_,_,_,_,_,_,_,_,_,_,_,_,_,_,_,_,_,_,_,_,_,_,_,_,_,_,_,_,_,_,_,_,_,_,_,_,_,_,_,_,_,_,_,_,_,_,_,_,_,_,_,_,_,_,_,_,_,_,_,_,_,_,_,_,_,_,_,_,_,_,_,_,_,_,_,_,_,_,_,_,_,_,_,_,_,_,_,_,_,_,_,_,_,_,_,_,_,_,_,_,_,_].toArray,[]⟩ (h:=?_)
            replace HH:=zqdo HH
            obtain⟨HH,hk199⟩:=HH
            (try simp only[hk199,Bool.not_true,Bool.not_false])
            replace HH:=zqto HH
            obtain⟨HH,hk201,hk202⟩:=HH
            (try simp only[hk201,Bool.not_true,Bool.not_false])
            (try simp only[hk202,Bool.not_true,Bool.not_false])
            have p203:0≤(a1:Int):=of_decide_eq_true (by first|(with_reducible assumption)|assumption)
            have q203:a1<(l0.length:Int):=of_decide_eq_true (by first|(with_reducible assumption)|assumption)
            obtain⟨ad203,e203,hx203_0⟩:=Kd.at_int (Kd.F_now (Kd.N_F HN129.out)) a1 p203 q203
            cases e203
            replace p203:=eq_true p203
            replace q203:=eq_true q203
            refine zt 6 (.pointer (some (ad7.add (a1.toNat)))) #[_,_,_,_,_,_,_,_,_,_,_,_,_,_,_,_] ⟨[_,_,_,_,_,_,_,_,_,_,_,_,_,_,_,_,_,_,_,_,_,_,_,_,_,_,_,_,_,_,_,_,_,_,_,_,_,_,_,_,_,_,_,_,_,_,_,_,_,_,_,_,_,_,_,_,_,_,_,_,_,_,_,_,_,_,_,_,_,_,_,_,_,_,_,_,_,_,_,_,_,_,_,_,_,_,_,_,_,_,_,_,_,_,_,_,_,_,_,_,_,_,_,_,_,_,_,_,_,_,_,_,_,_,_,_,_,_,_,_,_,_,_,_,_,_,_,_,_,_,_,_,_,_,_,_,_,_,_,_,_,_,_,_,_,_,_,_,_,_,_,_,_,_,_,_,_,_,_,_,_,_,_,_,_,_,_,_].toArray,[]⟩ (h:=?_)
            refine zt 8 ((.slice (some ad7) l0.length c0)) #[_,_,_,_,_,_,_,_,_,_,_,_,_,_,_,_] ⟨[_,_,_,_,_,_,_,_,_,_,_,_,_,_,_,_,_,_,_,_,_,_,_,_,_,_,_,_,_,_,_,_,_,_,_,_,_,_,_,_,_,_,_,_,_,_,_,_,_,_,_,_,_,_,_,_,_,_,_,_,_,_,_,_,_,_,_,_,_,_,_,_,_,_,_,_,_,_,_,_,_,_,_,_,_,_,_,_,_,_,_,_,_,_,_,_,_,_,_,_,_,_,_,_,_,_,_,_,_,_,_,_,_,_,_,_,_,_,_,_,_,_,_,_,_,_,_,_,_,_,_,_,_,_,_,_,_,_,_,_,_,_,_,_,_,_,_,_,_,_,_,_,_,_,_,_,_,_,_,_,_,_,_,_,_,_,_,_].toArray,[]⟩ (h:=?_)
            refine zt 9 (.int .i64 x165) #[_,_,_,_,_,_,_,_,_,_,_,_,_,_,_,_] ⟨[_,_,_,_,_,_,_,_,_,_,_,_,_,_,_,_,_,_,_,_,_,_,_,_,_,_,_,_,_,_,_,_,_,_,_,_,_,_,_,_,_,_,_,_,_,_,_,_,_,_,_,_,_,_,_,_,_,_,_,_,_,_,_,_,_,_,_,_,_,_,_,_,_,_,_,_,_,_,_,_,_,_,_,_,_,_,_,_,_,_,_,_,_,_,_,_,_,_,_,_,_,_,_,_,_,_,_,_,_,_,_,_,_,_,_,_,_,_,_,_,_,_,_,_,_,_,_,_,_,_,_,_,_,_,_,_,_,_,_,_,_,_,_,_,_,_,_,_,_,_,_,_,_,_,_,_,_,_,_,_,_,_,_,_,_,_,_,_].toArray,[]⟩ (h:=?_)
            replace HH:=zqdo HH
            obtain⟨HH,hk205⟩:=HH
            (try simp only[hk205,Bool.not_true,Bool.not_false])
            replace HH:=zqto HH
            obtain⟨HH,hk207,hk208⟩:=HH
            (try simp only[hk207,Bool.not_true,Bool.not_false])
            (try simp only[hk208,Bool.not_true,Bool.not_false])
            have p209:0≤(x165:Int):=of_decide_eq_true (by first|(with_reducible assumption)|assumption)
            have q209:x165<(l0.length:Int):=of_decide_eq_true (by first|(with_reducible assumption)|assumption)
            obtain⟨ad209,e209,hx209_0⟩:=Kd.at_int (Kd.F_now (Kd.N_F HN129.out)) x165 p209 q209
            cases e209
            replace p209:=eq_true p209
            replace q209:=eq_true q209
            refine zt 10 (.pointer (some (ad7.add (x165.toNat)))) #[_,_,_,_,_,_,_,_,_,_,_,_,_,_,_,_] ⟨[_,_,_,_,_,_,_,_,_,_,_,_,_,_,_,_,_,_,_,_,_,_,_,_,_,_,_,_,_,_,_,_,_,_,_,_,_,_,_,_,_,_,_,_,_,_,_,_,_,_,_,_,_,_,_,_,_,_,_,_,_,_,_,_,_,_,_,_,_,_,_,_,_,_,_,_,_,_,_,_,_,_,_,_,_,_,_,_,_,_,_,_,_,_,_,_,_,_,_,_,_,_,_,_,_,_,_,_,_,_,_,_,_,_,_,_,_,_,_,_,_,_,_,_,_,_,_,_,_,_,_,_,_,_,_,_,_,_,_,_,_,_,_,_,_,_,_,_,_,_,_,_,_,_,_,_,_,_,_,_,_,_,_,_,_,_,_,_].toArray,[]⟩ (h:=?_)
            refine MW.any_two (i:=7) (j:=11) (vi:=.int .i32 (rd x132 a1)) (vj:=.int .i32 (rd x132 x165)) #[true,true,true,true,true,true,true,true,true,true,true,true,false,false,false,false] ⟨[(.slice (some ad7) l0.length c0),(.int .i64 a1),(.int .i64 a2),(.int .i64 a3),undef,undef,undef,undef,(.int .i64 0),(.bool false),(.int .i64 x135),(.int .i64 x165),(.slice (some ad7) l0.length c0),(.int .i64 a1),(.slice (some ad7) l0.length c0),(.int .i64 a3),(.slice (some ad7) l0.length c0),(.int .i64 a3),(.pointer (some (ad7.add (a3.toNat)))),(.int .i32 (rd l0 a3)),(.slice (some ad7) l0.length c0),(.int .i64 a1),(.pointer (some (ad7.add (a1.toNat)))),(.int .i32 (rd l0 a1)),(.pointer (some (ad7.add (a1.toNat)))),(.pointer (some (ad7.add (a3.toNat)))),(.int .i64 a1),(.int .i64 (wrap64 (a1+1))),(.int .i64 a2),(.int .i64 (wrap64 (a2 - 1))),u30,u31,u32,u33,u34,u35,u36,u37,u38,u39,u40,u41,u42,(.bool false),u44,u45,u46,u47,u48,u49,u50,u51,u52,u53,u54,u55,u56,u57,u58,u59,(.bool false),u61,u62,(.int .i64 x21),(.int .i64 x51),(.bool false),undef,undef,undef,undef,undef,undef,undef,undef,undef,undef,undef,undef,undef,undef,undef,(.slice (some ad7) l0.length c0),(.int .i64 x21),(.slice (some ad7) l0.length c0),(.int .i64 x51),(.slice (some ad7) l0.length c0),(.int .i64 x51),(.pointer (some (ad7.add (x51.toNat)))),(.int .i32 (rd y18 x51)),(.slice (some ad7) l0.length c0),(.int .i64 x21),(.pointer (some (ad7.add (x21.toNat)))),(.int .i32 (rd y18 x21)),(.pointer (some (ad7.add (x21.toNat)))),(.pointer (some (ad7.add (x51.toNat)))),(.int .i64 x21),(.int .i64 (wrap64 (x21+1))),(.int .i64 x51),(.int .i64 (wrap64 (x51 - 1))),u99,u100,u101,u102,u103,u104,u105,u106,u107,u108,u109,u110,u111,(.bool false),u113,u114,u115,u116,u117,u118,u119,u120,u121,u122,u123,u124,u125,u126,u127,u128,(.bool false),u130,u131,(.int .i64 x135),(.int .i64 x165),(.bool true),u135,u136,u137,u138,u139,u140,u141,u142,u143,u144,u145,u146,u147,u148,u149,u150,u151,u152,(.slice (some ad7) l0.length c0),(.int .i64 x165),(.slice (some ad7) l0.length c0),(.int .i64 a1),(.slice (some ad7) l0.length c0),(.int .i64 a1),(.pointer (some (ad7.add (a1.toNat)))),(.int .i32 (rd x132 a1)),(.slice (some ad7) l0.length c0),(.int .i64 x165),(.pointer (some (ad7.add (x165.toNat)))),(.int .i32 (rd x132 x165)),undef,undef,undef].toArray,[]⟩ (by decide) rfl rfl (by kernel_rfl) (by kernel_rfl) (by kernel_rfl) (by kernel_rfl) (by kernel_rfl) (by first|rfl|(go_simp;done)|(go_simp;rfl)) (by first|rfl|(go_simp;done)|(go_simp;rfl)) (by first|rfl|(go_simp;done)|(go_simp;rfl)) (by first|rfl|(go_simp;done)|(go_simp;rfl)) (by kernel_rfl) (by kernel_rfl) (by kernel_rfl) (by kernel_rfl) (by kernel_rfl) (by kernel_rfl) ?_
            refine zt 12 (.pointer (some (ad7.add (x165.toNat)))) #[_,_,_,_,_,_,_,_,_,_,_,_,_,_,_,_] ⟨[_,_,_,_,_,_,_,_,_,_,_,_,_,_,_,_,_,_,_,_,_,_,_,_,_,_,_,_,_,_,_,_,_,_,_,_,_,_,_,_,_,_,_,_,_,_,_,_,_,_,_,_,_,_,_,_,_,_,_,_,_,_,_,_,_,_,_,_,_,_,_,_,_,_,_,_,_,_,_,_,_,_,_,_,_,_,_,_,_,_,_,_,_,_,_,_,_,_,_,_,_,_,_,_,_,_,_,_,_,_,_,_,_,_,_,_,_,_,_,_,_,_,_,_,_,_,_,_,_,_,_,_,_,_,_,_,_,_,_,_,_,_,_,_,_,_,_,_,_,_,_,_,_,_,_,_,_,_,_,_,_,_,_,_,_,_,_,_].toArray,[]⟩ (h:=?_)
            refine MW.any_seq 13 3 rfl (by kernel_rfl) ?_
            simp only[List.drop_succ_cons,List.drop_zero]
            clear hwr_
            obtain⟨y210,hy210⟩:∃ y_:List Int,y_=(List.set x132 x165.toNat (rd x132 a1)):=⟨_,rfl⟩
            have H:((some (List.set y210 a1.toNat (rd x132 x165):List Int)).bind fun y214=>(some (x165,false,y214)))=some (r1,r2,r3):=by rw[hy210];exact HH.out
            replace HH:=za H
            clear H
            have NYy210:=za hy210
            clear hy210
            go_wp2_with (((with_reducible refine gate_store (t:=21) (p:=165) rfl ?_);(try(refine gate_guard (by rfl) ?_;dsimp only));refine MW.ev_set1 (n:=l0.length) B_ rfl rfl _ _ _ rfl 21 x165 x132 (rd x132 a1) (fun k_=>True∧(some k_=((.slice (some ad7) l0.length c0):Value).ownBlock∨w.heap.size≤k_)) (by rfl) (by rfl) (by kernel_rfl) HN129.out (of_decide_eq_true (by first|(with_reducible assumption)|assumption)) (of_decide_eq_true (by first|(with_reducible assumption)|assumption)) HB.out ?_;intro w211 hn1 hb1 hg1);refine stop_ ?_)
            refine zg ?_
            replace HFfr:=za (Kd.F_grown (ok:=(fun k_=>True∧some k_≠((.slice (some ad7) l0.length c0):Value).ownBlock)) HFfr.out hg1 (fun k_ hk_=>hk_.2))
            replace HB:=za hb1
            clear HN129
            have HN212:=za (by rw[NYy210.out];exact hn1:Kd.N (Kd.int .i32) 21 w211 B_ (fun k_=>True∧(some k_=((.slice (some ad7) l0.length c0):Value).ownBlock∨w.heap.size≤k_)) (.slice (some ad7) l0.length c0) y210)
            clear hn1 hb1 hg1
            clear hx203_0 p203 q203 hx209_0 p209 q209
            have p213:0≤(a1:Int):=of_decide_eq_true (by first|(with_reducible assumption)|assumption)
            have q213:a1<(l0.length:Int):=of_decide_eq_true (by first|(with_reducible assumption)|assumption)
            obtain⟨ad213,e213,hx213_0⟩:=Kd.at_int (Kd.F_now (Kd.N_F HN212.out)) a1 p213 q213
            cases e213
            replace p213:=eq_true p213
            replace q213:=eq_true q213
            obtain⟨y214,hy214⟩:∃ y_:List Int,y_=(List.set y210 a1.toNat (rd x132 x165)):=⟨_,rfl⟩
            have H:(some (x165,false,y214))=some (r1,r2,r3):=by rw[hy214];exact HH.out
            replace HH:=za H
            clear H
            have NYy214:=za hy214
            clear hy214
            go_wp2_with (((with_reducible refine gate_store (t:=21) (p:=166) rfl ?_);(try(refine gate_guard (by rfl) ?_;dsimp only));refine MW.ev_set1 (n:=l0.length) B_ rfl rfl _ _ _ rfl 21 a1 y210 (rd x132 x165) (fun k_=>True∧(some k_=((.slice (some ad7) l0.length c0):Value).ownBlock∨w.heap.size≤k_)) (by rfl) (by rfl) (by kernel_rfl) HN212.out (of_decide_eq_true (by first|(with_reducible assumption)|assumption)) (of_decide_eq_true (by first|(with_reducible assumption)|assumption)) HB.out ?_;intro w215 hn1 hb1 hg1);refine stop_ ?_)
            refine zg ?_
            replace HFfr:=za (Kd.F_grown (ok:=(fun k_=>True∧some k_≠((.slice (some ad7) l0.length c0):Value).ownBlock)) HFfr.out hg1 (fun k_ hk_=>hk_.2))
            replace HB:=za hb1
            clear HN212
            have HN216:=za (by rw[NYy214.out];exact hn1:Kd.N (Kd.int .i32) 21 w215 B_ (fun k_=>True∧(some k_=((.slice (some ad7) l0.length c0):Value).ownBlock∨w.heap.size≤k_)) (.slice (some ad7) l0.length c0) y214)
            clear hn1 hb1 hg1
            clear hx213_0 p213 q213
            have H:=HH.out
            simp only[Option.some.injEq,Prod.mk.injEq] at H
            obtain⟨rfl,rfl,rfl⟩:=H
            clear HH
            go_wp2
            go_ret2
            exact⟨by first|rfl|(simp;done)|(simp[*];done),(Kd.N_mono (ok:=(fun k_=>True∧(some k_=((.slice (some ad7) l0.length c0):Value).ownBlock∨w.heap.size≤k_))) HN216.out (fun k_ hk_=>hk_.2)),(fun k_ hv_ hlt_=>MB.frK_out HFfr.out k_ (by rw[HPO.out];exact hv_) hlt_),HB.out⟩
           go_wp2
           have hwr_:∀ n_:Int,IntKind.i64.wrap n_=wrap64 n_:=fun n_=>IntWalk.i64_left n_
           refine wp_region_any (by kernel_rfl) ?_
           change wpAny _ _ _ _ 16 #[false,false,false,false,false,false,false,false,false,false,false,false,false,false,false,false] _ w170.drew
           obtain⟨w224,hw_⟩:∃ w_:World,w_=w170.drew:=⟨_,rfl⟩
           rw[← hw_]
           have hb:Below w170.heap.size w170 w224:=by rw[hw_];exact below_drew1 (Below.refl _ _)
           clear hw_
           replace HFfr:=zfb HFfr.out hb
           replace HN129:=znb HN129.out hb
           replace HB:=za (MB.below_stepB hB_.out HB.out hb)
           clear hb
           refine zt 0 ((.slice (some ad7) l0.length c0)) #[_,_,_,_,_,_,_,_,_,_,_,_,_,_,_,_] ⟨[_,_,_,_,_,_,_,_,_,_,_,_,_,_,_,_,_,_,_,_,_,_,_,_,_,_,_,_,_,_,_,_,_,_,_,_,_,_,_,_,_,_,_,_,_,_,_,_,_,_,_,_,_,_,_,_,_,_,_,_,_,_,_,_,_,_,_,_,_,_,_,_,_,_,_,_,_,_,_,_,_,_,_,_,_,_,_,_,_,_,_,_,_,_,_,_,_,_,_,_,_,_,_,_,_,_,_,_,_,_,_,_,_,_,_,_,_,_,_,_,_,_,_,_,_,_,_,_,_,_,_,_,_,_,_,_,_,_,_,_,_,_,_,_,_,_,_,_,_,_,_,_,_,_,_,_,_,_,_,_,_,_,_,_,_,_,_,_].toArray,[]⟩ (h:=?_)
           refine zt 1 (.int .i64 x135) #[_,_,_,_,_,_,_,_,_,_,_,_,_,_,_,_] ⟨[_,_,_,_,_,_,_,_,_,_,_,_,_,_,_,_,_,_,_,_,_,_,_,_,_,_,_,_,_,_,_,_,_,_,_,_,_,_,_,_,_,_,_,_,_,_,_,_,_,_,_,_,_,_,_,_,_,_,_,_,_,_,_,_,_,_,_,_,_,_,_,_,_,_,_,_,_,_,_,_,_,_,_,_,_,_,_,_,_,_,_,_,_,_,_,_,_,_,_,_,_,_,_,_,_,_,_,_,_,_,_,_,_,_,_,_,_,_,_,_,_,_,_,_,_,_,_,_,_,_,_,_,_,_,_,_,_,_,_,_,_,_,_,_,_,_,_,_,_,_,_,_,_,_,_,_,_,_,_,_,_,_,_,_,_,_,_,_].toArray,[]⟩ (h:=?_)
           refine zt 2 ((.slice (some ad7) l0.length c0)) #[_,_,_,_,_,_,_,_,_,_,_,_,_,_,_,_] ⟨[_,_,_,_,_,_,_,_,_,_,_,_,_,_,_,_,_,_,_,_,_,_,_,_,_,_,_,_,_,_,_,_,_,_,_,_,_,_,_,_,_,_,_,_,_,_,_,_,_,_,_,_,_,_,_,_,_,_,_,_,_,_,_,_,_,_,_,_,_,_,_,_,_,_,_,_,_,_,_,_,_,_,_,_,_,_,_,_,_,_,_,_,_,_,_,_,_,_,_,_,_,_,_,_,_,_,_,_,_,_,_,_,_,_,_,_,_,_,_,_,_,_,_,_,_,_,_,_,_,_,_,_,_,_,_,_,_,_,_,_,_,_,_,_,_,_,_,_,_,_,_,_,_,_,_,_,_,_,_,_,_,_,_,_,_,_,_,_].toArray,[]⟩ (h:=?_)
           refine zt 3 (.int .i64 x165) #[_,_,_,_,_,_,_,_,_,_,_,_,_,_,_,_] ⟨[_,_,_,_,_,_,_,_,_,_,_,_,_,_,_,_,_,_,_,_,_,_,_,_,_,_,_,_,_,_,_,_,_,_,_,_,_,_,_,_,_,_,_,_,_,_,_,_,_,_,_,_,_,_,_,_,_,_,_,_,_,_,_,_,_,_,_,_,_,_,_,_,_,_,_,_,_,_,_,_,_,_,_,_,_,_,_,_,_,_,_,_,_,_,_,_,_,_,_,_,_,_,_,_,_,_,_,_,_,_,_,_,_,_,_,_,_,_,_,_,_,_,_,_,_,_,_,_,_,_,_,_,_,_,_,_,_,_,_,_,_,_,_,_,_,_,_,_,_,_,_,_,_,_,_,_,_,_,_,_,_,_,_,_,_,_,_,_].toArray,[]⟩ (h:=?_)
           refine zt 4 ((.slice (some ad7) l0.length c0)) #[_,_,_,_,_,_,_,_,_,_,_,_,_,_,_,_] ⟨[_,_,_,_,_,_,_,_,_,_,_,_,_,_,_,_,_,_,_,_,_,_,_,_,_,_,_,_,_,_,_,_,_,_,_,_,_,_,_,_,_,_,_,_,_,_,_,_,_,_,_,_,_,_,_,_,_,_,_,_,_,_,_,_,_,_,_,_,_,_,_,_,_,_,_,_,_,_,_,_,_,_,_,_,_,_,_,_,_,_,_,_,_,_,_,_,_,_,_,_,_,_,_,_,_,_,_,_,_,_,_,_,_,_,_,_,_,_,_,_,_,_,_,_,_,_,_,_,_,_,_,_,_,_,_,_,_,_,_,_,_,_,_,_,_,_,_,_,_,_,_,_,_,_,_,_,_,_,_,_,_,_,_,_,_,_,_,_].toArray,[]⟩ (h:=?_)
           refine zt 5 (.int .i64 x165) #[_,_,_,_,_,_,_,_,_,_,_,_,_,_,_,_] ⟨[_,_,_,_,_,_,_,_,_,_,_,_,_,_,_,_,_,_,_,_,_,_,_,_,_,_,_,_,_,_,_,_,_,_,_,_,_,_,_,_,_,_,_,_,_,_,_,_,_,_,_,_,_,_,_,_,_,_,_,_,_,_,_,_,_,_,_,_,_,_,_,_,_,_,_,_,_,_,_,_,_,_,_,_,_,_,_,_,_,_,_,_,_,_,_,_,_,_,_,_,_,_,_,_,_,_,_,_,_,_,_,_,_,_,_,_,_,_,_,_,_,_,_,_,_,_,_,_,_,_,_,_,_,_,_,_,_,_,_,_,_,_,_,_,_,_,_,_,_,_,_,_,_,_,_,_,_,_,_,_,_,_,_,_,_,_,_,_].toArray,[]⟩ (h:=?_)
           replace HH:=zqdo HH
           obtain⟨HH,hk226⟩:=HH
           (try simp only[hk226,Bool.not_true,Bool.not_false])
           replace HH:=zqto HH
           obtain⟨HH,hk228,hk229⟩:=HH
           (try simp only[hk228,Bool.not_true,Bool.not_false])
           (try simp only[hk229,Bool.not_true,Bool.not_false])
           have p230:0≤(x165:Int):=of_decide_eq_true (by first|(with_reducible assumption)|assumption)
           have q230:x165<(l0.length:Int):=of_decide_eq_true (by first|(with_reducible assumption)|assumption)
           obtain⟨ad230,e230,hx230_0⟩:=Kd.at_int (Kd.F_now (Kd.N_F HN129.out)) x165 p230 q230
           cases e230
           replace p230:=eq_true p230
           replace q230:=eq_true q230
           refine zt 6 (.pointer (some (ad7.add (x165.toNat)))) #[_,_,_,_,_,_,_,_,_,_,_,_,_,_,_,_] ⟨[_,_,_,_,_,_,_,_,_,_,_,_,_,_,_,_,_,_,_,_,_,_,_,_,_,_,_,_,_,_,_,_,_,_,_,_,_,_,_,_,_,_,_,_,_,_,_,_,_,_,_,_,_,_,_,_,_,_,_,_,_,_,_,_,_,_,_,_,_,_,_,_,_,_,_,_,_,_,_,_,_,_,_,_,_,_,_,_,_,_,_,_,_,_,_,_,_,_,_,_,_,_,_,_,_,_,_,_,_,_,_,_,_,_,_,_,_,_,_,_,_,_,_,_,_,_,_,_,_,_,_,_,_,_,_,_,_,_,_,_,_,_,_,_,_,_,_,_,_,_,_,_,_,_,_,_,_,_,_,_,_,_,_,_,_,_,_,_].toArray,[]⟩ (h:=?_)
           refine zt 8 ((.slice (some ad7) l0.length c0)) #[_,_,_,_,_,_,_,_,_,_,_,_,_,_,_,_] ⟨[_,_,_,_,_,_,_,_,_,_,_,_,_,_,_,_,_,_,_,_,_,_,_,_,_,_,_,_,_,_,_,_,_,_,_,_,_,_,_,_,_,_,_,_,_,_,_,_,_,_,_,_,_,_,_,_,_,_,_,_,_,_,_,_,_,_,_,_,_,_,_,_,_,_,_,_,_,_,_,_,_,_,_,_,_,_,_,_,_,_,_,_,_,_,_,_,_,_,_,_,_,_,_,_,_,_,_,_,_,_,_,_,_,_,_,_,_,_,_,_,_,_,_,_,_,_,_,_,_,_,_,_,_,_,_,_,_,_,_,_,_,_,_,_,_,_,_,_,_,_,_,_,_,_,_,_,_,_,_,_,_,_,_,_,_,_,_,_].toArray,[]⟩ (h:=?_)
           refine zt 9 (.int .i64 x135) #[_,_,_,_,_,_,_,_,_,_,_,_,_,_,_,_] ⟨[_,_,_,_,_,_,_,_,_,_,_,_,_,_,_,_,_,_,_,_,_,_,_,_,_,_,_,_,_,_,_,_,_,_,_,_,_,_,_,_,_,_,_,_,_,_,_,_,_,_,_,_,_,_,_,_,_,_,_,_,_,_,_,_,_,_,_,_,_,_,_,_,_,_,_,_,_,_,_,_,_,_,_,_,_,_,_,_,_,_,_,_,_,_,_,_,_,_,_,_,_,_,_,_,_,_,_,_,_,_,_,_,_,_,_,_,_,_,_,_,_,_,_,_,_,_,_,_,_,_,_,_,_,_,_,_,_,_,_,_,_,_,_,_,_,_,_,_,_,_,_,_,_,_,_,_,_,_,_,_,_,_,_,_,_,_,_,_].toArray,[]⟩ (h:=?_)
           replace HH:=zqdo HH
           obtain⟨HH,hk232⟩:=HH
           (try simp only[hk232,Bool.not_true,Bool.not_false])
           replace HH:=zqto HH
           obtain⟨HH,hk234,hk235⟩:=HH
           (try simp only[hk234,Bool.not_true,Bool.not_false])
           (try simp only[hk235,Bool.not_true,Bool.not_false])
           have p236:0≤(x135:Int):=of_decide_eq_true (by first|(with_reducible assumption)|assumption)
           have q236:x135<(l0.length:Int):=of_decide_eq_true (by first|(with_reducible assumption)|assumption)
           obtain⟨ad236,e236,hx236_0⟩:=Kd.at_int (Kd.F_now (Kd.N_F HN129.out)) x135 p236 q236
           cases e236
           replace p236:=eq_true p236
           replace q236:=eq_true q236
           refine zt 10 (.pointer (some (ad7.add (x135.toNat)))) #[_,_,_,_,_,_,_,_,_,_,_,_,_,_,_,_] ⟨[_,_,_,_,_,_,_,_,_,_,_,_,_,_,_,_,_,_,_,_,_,_,_,_,_,_,_,_,_,_,_,_,_,_,_,_,_,_,_,_,_,_,_,_,_,_,_,_,_,_,_,_,_,_,_,_,_,_,_,_,_,_,_,_,_,_,_,_,_,_,_,_,_,_,_,_,_,_,_,_,_,_,_,_,_,_,_,_,_,_,_,_,_,_,_,_,_,_,_,_,_,_,_,_,_,_,_,_,_,_,_,_,_,_,_,_,_,_,_,_,_,_,_,_,_,_,_,_,_,_,_,_,_,_,_,_,_,_,_,_,_,_,_,_,_,_,_,_,_,_,_,_,_,_,_,_,_,_,_,_,_,_,_,_,_,_,_,_].toArray,[]⟩ (h:=?_)
           refine MW.any_two (i:=7) (j:=11) (vi:=.int .i32 (rd x132 x165)) (vj:=.int .i32 (rd x132 x135)) #[true,true,true,true,true,true,true,true,true,true,true,true,false,false,false,false] ⟨[(.slice (some ad7) l0.length c0),(.int .i64 a1),(.int .i64 a2),(.int .i64 a3),undef,undef,undef,undef,(.int .i64 0),(.bool false),(.int .i64 x135),(.int .i64 x165),(.slice (some ad7) l0.length c0),(.int .i64 a1),(.slice (some ad7) l0.length c0),(.int .i64 a3),(.slice (some ad7) l0.length c0),(.int .i64 a3),(.pointer (some (ad7.add (a3.toNat)))),(.int .i32 (rd l0 a3)),(.slice (some ad7) l0.length c0),(.int .i64 a1),(.pointer (some (ad7.add (a1.toNat)))),(.int .i32 (rd l0 a1)),(.pointer (some (ad7.add (a1.toNat)))),(.pointer (some (ad7.add (a3.toNat)))),(.int .i64 a1),(.int .i64 (wrap64 (a1+1))),(.int .i64 a2),(.int .i64 (wrap64 (a2 - 1))),u30,u31,u32,u33,u34,u35,u36,u37,u38,u39,u40,u41,u42,(.bool false),u44,u45,u46,u47,u48,u49,u50,u51,u52,u53,u54,u55,u56,u57,u58,u59,(.bool false),u61,u62,(.int .i64 x21),(.int .i64 x51),(.bool false),undef,undef,undef,undef,undef,undef,undef,undef,undef,undef,undef,undef,undef,undef,undef,(.slice (some ad7) l0.length c0),(.int .i64 x21),(.slice (some ad7) l0.length c0),(.int .i64 x51),(.slice (some ad7) l0.length c0),(.int .i64 x51),(.pointer (some (ad7.add (x51.toNat)))),(.int .i32 (rd y18 x51)),(.slice (some ad7) l0.length c0),(.int .i64 x21),(.pointer (some (ad7.add (x21.toNat)))),(.int .i32 (rd y18 x21)),(.pointer (some (ad7.add (x21.toNat)))),(.pointer (some (ad7.add (x51.toNat)))),(.int .i64 x21),(.int .i64 (wrap64 (x21+1))),(.int .i64 x51),(.int .i64 (wrap64 (x51 - 1))),u99,u100,u101,u102,u103,u104,u105,u106,u107,u108,u109,u110,u111,(.bool false),u113,u114,u115,u116,u117,u118,u119,u120,u121,u122,u123,u124,u125,u126,u127,u128,(.bool false),u130,u131,(.int .i64 x135),(.int .i64 x165),(.bool false),(.slice (some ad7) l0.length c0),(.int .i64 x135),(.slice (some ad7) l0.length c0),(.int .i64 x165),(.slice (some ad7) l0.length c0),(.int .i64 x165),(.pointer (some (ad7.add (x165.toNat)))),(.int .i32 (rd x132 x165)),(.slice (some ad7) l0.length c0),(.int .i64 x135),(.pointer (some (ad7.add (x135.toNat)))),(.int .i32 (rd x132 x135)),u147,u148,u149,u150,u151,u152,undef,undef,undef,undef,undef,undef,undef,undef,undef,undef,undef,undef,undef,undef,undef].toArray,[]⟩ (by decide) rfl rfl (by kernel_rfl) (by kernel_rfl) (by kernel_rfl) (by kernel_rfl) (by kernel_rfl) (by first|rfl|(go_simp;done)|(go_simp;rfl)) (by first|rfl|(go_simp;done)|(go_simp;rfl)) (by first|rfl|(go_simp;done)|(go_simp;rfl)) (by first|rfl|(go_simp;done)|(go_simp;rfl)) (by kernel_rfl) (by kernel_rfl) (by kernel_rfl) (by kernel_rfl) (by kernel_rfl) (by kernel_rfl) ?_
           refine zt 12 (.pointer (some (ad7.add (x135.toNat)))) #[_,_,_,_,_,_,_,_,_,_,_,_,_,_,_,_] ⟨[_,_,_,_,_,_,_,_,_,_,_,_,_,_,_,_,_,_,_,_,_,_,_,_,_,_,_,_,_,_,_,_,_,_,_,_,_,_,_,_,_,_,_,_,_,_,_,_,_,_,_,_,_,_,_,_,_,_,_,_,_,_,_,_,_,_,_,_,_,_,_,_,_,_,_,_,_,_,_,_,_,_,_,_,_,_,_,_,_,_,_,_,_,_,_,_,_,_,_,_,_,_,_,_,_,_,_,_,_,_,_,_,_,_,_,_,_,_,_,_,_,_,_,_,_,_,_,_,_,_,_,_,_,_,_,_,_,_,_,_,_,_,_,_,_,_,_,_,_,_,_,_,_,_,_,_,_,_,_,_,_,_,_,_,_,_,_,_].toArray,[]⟩ (h:=?_)
           refine MW.any_seq 13 3 rfl (by kernel_rfl) ?_
           simp only[List.drop_succ_cons,List.drop_zero]
           clear hwr_
           obtain⟨y237,hy237⟩:∃ y_:List Int,y_=(List.set x132 x135.toNat (rd x132 x165)):=⟨_,rfl⟩
           have H:((some (List.set y237 x165.toNat (rd x132 x135):List Int)).bind fun y241=>((slices_partitionOrdered_rune.l2 k166 (wrap64 (x135+1)) (wrap64 (x165 - 1)) y241 a1 l0)))=some (r1,r2,r3):=by rw[hy237];exact HH.out
           replace HH:=za H
           clear H
           have NYy237:=za hy237
           clear hy237
           go_wp2_with (((with_reducible refine gate_store (t:=21) (p:=147) rfl ?_);(try(refine gate_guard (by rfl) ?_;dsimp only));refine MW.ev_set1 (n:=l0.length) B_ rfl rfl _ _ _ rfl 21 x135 x132 (rd x132 x165) (fun k_=>True∧(some k_=((.slice (some ad7) l0.length c0):Value).ownBlock∨w.heap.size≤k_)) (by rfl) (by rfl) (by kernel_rfl) HN129.out (of_decide_eq_true (by first|(with_reducible assumption)|assumption)) (of_decide_eq_true (by first|(with_reducible assumption)|assumption)) HB.out ?_;intro w238 hn1 hb1 hg1);refine stop_ ?_)
           refine zg ?_
           replace HFfr:=za (Kd.F_grown (ok:=(fun k_=>True∧some k_≠((.slice (some ad7) l0.length c0):Value).ownBlock)) HFfr.out hg1 (fun k_ hk_=>hk_.2))
           replace HB:=za hb1
           clear HN129
           have HN239:=za (by rw[NYy237.out];exact hn1:Kd.N (Kd.int .i32) 21 w238 B_ (fun k_=>True∧(some k_=((.slice (some ad7) l0.length c0):Value).ownBlock∨w.heap.size≤k_)) (.slice (some ad7) l0.length c0) y237)
           clear hn1 hb1 hg1
           clear hx230_0 p230 q230 hx236_0 p236 q236
           have p240:0≤(x165:Int):=of_decide_eq_true (by first|(with_reducible assumption)|assumption)
           have q240:x165<(l0.length:Int):=of_decide_eq_true (by first|(with_reducible assumption)|assumption)
           obtain⟨ad240,e240,hx240_0⟩:=Kd.at_int (Kd.F_now (Kd.N_F HN239.out)) x165 p240 q240
           cases e240
           replace p240:=eq_true p240
           replace q240:=eq_true q240
           obtain⟨y241,hy241⟩:∃ y_:List Int,y_=(List.set y237 x165.toNat (rd x132 x135)):=⟨_,rfl⟩
           have H:((slices_partitionOrdered_rune.l2 k166 (wrap64 (x135+1)) (wrap64 (x165 - 1)) y241 a1 l0))=some (r1,r2,r3):=by rw[hy241];exact HH.out
           replace HH:=za H
           clear H
           have NYy241:=za hy241
           clear hy241
           go_wp2_with (((with_reducible refine gate_store (t:=21) (p:=148) rfl ?_);(try(refine gate_guard (by rfl) ?_;dsimp only));refine MW.ev_set1 (n:=l0.length) B_ rfl rfl _ _ _ rfl 21 x165 y237 (rd x132 x135) (fun k_=>True∧(some k_=((.slice (some ad7) l0.length c0):Value).ownBlock∨w.heap.size≤k_)) (by rfl) (by rfl) (by kernel_rfl) HN239.out (of_decide_eq_true (by first|(with_reducible assumption)|assumption)) (of_decide_eq_true (by first|(with_reducible assumption)|assumption)) HB.out ?_;intro w242 hn1 hb1 hg1);refine stop_ ?_)
           refine zg ?_
           replace HFfr:=za (Kd.F_grown (ok:=(fun k_=>True∧some k_≠((.slice (some ad7) l0.length c0):Value).ownBlock)) HFfr.out hg1 (fun k_ hk_=>hk_.2))
           replace HB:=za hb1
           clear HN239
           have HN243:=za (by rw[NYy241.out];exact hn1:Kd.N (Kd.int .i32) 21 w242 B_ (fun k_=>True∧(some k_=((.slice (some ad7) l0.length c0):Value).ownBlock∨w.heap.size≤k_)) (.slice (some ad7) l0.length c0) y241)
           clear hn1 hb1 hg1
           clear hx240_0 p240 q240
           go_wp2
           go_roundg k166
           case measure=>have:=HK0.out;have:=HK1.out;have:=HK2.out;have:=HK3.out;have:=HK4.out;omega
           case rel=>exact⟨wrap64 (x135+1),wrap64 (x165 - 1),y241,(by first|rfl|(simp;done)|(simp[*];done)),(by first|rfl|(simp;done)|(simp[*];done)),HH,⟨by have:=HK0.out;have:=HK1.out;have:=HK2.out;have:=HK3.out;have:=HK4.out;omega⟩,⟨HFfr.out⟩,⟨(Kd.N_mono (ok:=(fun k_=>True∧(some k_=((.slice (some ad7) l0.length c0):Value).ownBlock∨w.heap.size≤k_))) HN243.out (fun k_ hk_=>hk_))⟩,⟨HB.out⟩⟩
end Go.Proofs.Ytcokpnajkkjclaa.GA
