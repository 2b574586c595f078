import Derived.Test.YtcokpnajkkjclaaGA0
import Derived.Test.YtcokpnajkkjclaaGM1
import Derived.Test.YtcokpnajkkjclaaMS
namespace Go.Proofs.Ytcokpnajkkjclaa.GA
open Go.RowKit Go.Proofs.Ytcokpnajkkjclaa Go.Proofs.Ytcokpnajkkjclaa.MW Go.Proofs.YtcokpnajkkjclaaW.PrintWords Go.Proofs.YtcokpnajkkjclaaW.PrintLast Go.Proofs.YtcokpnajkkjclaaW.PrintMore
attribute [local go_sem] max2_int min2_int max_two min_two
set_option maxHeartbeats 8000000
set_option maxRecDepth 100000
set_option linter.unusedVariables false
set_option linter.unusedSimpArgs false
mutual
def slices_partitionEqualOrdered_rune.l0:Nat→Int→Int→(List Int)→Int→(List Int)→Option (Int × List Int)
 |0,_,_,_,_,_=>none
 |k+1,x21,x22,x23,a1,l0=>(slices_partitionEqualOrdered_rune.l1 k x21 a1 l0 x22 x23)
def slices_partitionEqualOrdered_rune.l1:Nat→Int→Int→(List Int)→Int→(List Int)→Option (Int × List Int)
 |0,_,_,_,_,_=>none
 |k+1,x26,a1,l0,x22,x23=>(if x26≤x22 then(if 0≤a1 then(if a1<(l0.length:Int) then(if 0≤x26 then(if x26<(l0.length:Int) then((cmp_Less_rune.f (rd x23 a1) (rd x23 x26)).bind fun t46=>(some (!t46))) else(none)) else(none)) else(none)) else(none)) else(some (false))).bind fun b29=>(if b29=true then((slices_partitionEqualOrdered_rune.l1 k (wrap64 (x26+1)) a1 l0 x22 x23)) else((slices_partitionEqualOrdered_rune.l2 k x22 a1 l0 x23 x26)))
def slices_partitionEqualOrdered_rune.l2:Nat→Int→Int→(List Int)→(List Int)→Int→Option (Int × List Int)
 |0,_,_,_,_,_=>none
 |k+1,x56,a1,l0,x23,x26=>(if x26≤x56 then(if 0≤a1 then(if a1<(l0.length:Int) then(if 0≤x56 then(if x56<(l0.length:Int) then((cmp_Less_rune.f (rd x23 a1) (rd x23 x56)).bind fun t76=>(some (t76))) else(none)) else(none)) else(none)) else(none)) else(some (false))).bind fun b59=>(if b59=true then((slices_partitionEqualOrdered_rune.l2 k (wrap64 (x56 - 1)) a1 l0 x23 x26)) else(if x26>x56 then(some (x26,x23)) else(if 0≤x56 then(if x56<(l0.length:Int) then(if 0≤x26 then(if x26<(l0.length:Int) then((some (List.set x23 x26.toNat (rd x23 x56):List Int)).bind fun y102=>((some (List.set y102 x56.toNat (rd x23 x26):List Int)).bind fun y106=>((slices_partitionEqualOrdered_rune.l0 k (wrap64 (x26+1)) (wrap64 (x56 - 1)) y106 a1 l0)))) else(none)) else(none)) else(none)) else(none))))
end
def slices_partitionEqualOrdered_rune.f (k:Nat) (l0:List Int) (a1:Int) (a2:Int) (a3:Int):Option (Int × List Int):=if 0≤a3 then(if a3<(l0.length:Int) then(if 0≤a1 then(if a1<(l0.length:Int) then((some (List.set l0 a1.toNat (rd l0 a3):List Int)).bind fun y14=>((some (List.set y14 a3.toNat (rd l0 a1):List Int)).bind fun y18=>((slices_partitionEqualOrdered_rune.l0 k (wrap64 (a1+1)) (wrap64 (a2 - 1)) y18 a1 l0)))) else(none)) else(none)) else(none)) else(none)
theorem slices_partitionEqualOrdered_rune.mono_l:∀ k,(∀ y0 y1 y2 y3 y4,LeO (slices_partitionEqualOrdered_rune.l0 k y0 y1 y2 y3 y4) (slices_partitionEqualOrdered_rune.l0 (k+1) y0 y1 y2 y3 y4))∧(∀ y0 y1 y2 y3 y4,LeO (slices_partitionEqualOrdered_rune.l1 k y0 y1 y2 y3 y4) (slices_partitionEqualOrdered_rune.l1 (k+1) y0 y1 y2 y3 y4))∧(∀ y0 y1 y2 y3 y4,LeO (slices_partitionEqualOrdered_rune.l2 k y0 y1 y2 y3 y4) (slices_partitionEqualOrdered_rune.l2 (k+1) y0 y1 y2 y3 y4))
 |0=>⟨fun _ _ _ _ _ r h=>by simp[slices_partitionEqualOrdered_rune.l0] at h,fun _ _ _ _ _ r h=>by simp[slices_partitionEqualOrdered_rune.l1] at h,fun _ _ _ _ _ r h=>by simp[slices_partitionEqualOrdered_rune.l2] at h⟩
 |k+1=>by
  obtain⟨ih0,ih1,ih2⟩:=slices_partitionEqualOrdered_rune.mono_l k
  refine⟨?_,?_,?_⟩
  ·intro y0 y1 y2 y3 y4
   unfold slices_partitionEqualOrdered_rune.l0
   with_reducible repeat' first|exact ih0 _ _ _ _ _|exact ih1 _ _ _ _ _|exact ih2 _ _ _ _ _|exact LeO.refl _|exact LeO.none _|refine LeO.ite ?_ ?_|refine LeO.bind ?_ (fun _=>?_)
  ·intro y0 y1 y2 y3 y4
   unfold slices_partitionEqualOrdered_rune.l1
   with_reducible repeat' first|exact ih0 _ _ _ _ _|exact ih1 _ _ _ _ _|exact ih2 _ _ _ _ _|exact LeO.refl _|exact LeO.none _|refine LeO.ite ?_ ?_|refine LeO.bind ?_ (fun _=>?_)
  intro y0 y1 y2 y3 y4
  unfold slices_partitionEqualOrdered_rune.l2
  with_reducible repeat' first|exact ih0 _ _ _ _ _|exact ih1 _ _ _ _ _|exact ih2 _ _ _ _ _|exact LeO.refl _|exact LeO.none _|refine LeO.ite ?_ ?_|refine LeO.bind ?_ (fun _=>?_)
theorem slices_partitionEqualOrdered_rune.mono:∀ a0_ a1_ a2_ a3_ k,LeO (slices_partitionEqualOrdered_rune.f k a0_ a1_ a2_ a3_) (slices_partitionEqualOrdered_rune.f (k+1) a0_ a1_ a2_ a3_):=by
 intro a0_ a1_ a2_ a3_ k
 obtain⟨ih0,ih1,ih2⟩:=slices_partitionEqualOrdered_rune.mono_l k
 unfold slices_partitionEqualOrdered_rune.f
 with_reducible repeat' first|exact ih0 _ _ _ _ _|exact ih1 _ _ _ _ _|exact ih2 _ _ _ _ _|exact LeO.refl _|exact LeO.none _|refine LeO.ite ?_ ?_|refine LeO.bind ?_ (fun _=>?_)
theorem slices_partitionEqualOrdered_rune.calls (k:Nat) (B_:Nat) (A0:Option Addr) (c0:Nat) (l0:List Int) (a1:Int) (a2:Int) (a3:Int) (r1:Int) (r2:List Int) (w:World) (hB0:B_≤w.heap.size) (hn0:Kd.N (Kd.int .i32) 21 w B_ (fun k_=>some k_=((.slice A0 l0.length c0):Value).ownBlock) (.slice A0 l0.length c0) l0) (h:slices_partitionEqualOrdered_rune.f k l0 a1 a2 a3=some (r1,r2)):
  Calls Try.prog 43 #[(.slice A0 l0.length c0),.int .i64 a1,.int .i64 a2,.int .i64 a3] w (fun e w'=>e=.returned (.int .i64 r1)∧Kd.N (Kd.int .i32) 21 w' B_ (fun k_=>some k_=((.slice A0 l0.length c0):Value).ownBlock∨w.heap.size≤k_) (.slice A0 l0.length c0) r2∧(∀ k_:Nat,some k_≠((.slice A0 l0.length c0):Value).ownBlock→k_<w.heap.size→w'.heap[k_]? =w.heap[k_]?)∧Below B_ w w'):=by
 unfold slices_partitionEqualOrdered_rune.f at h
 have HH:=za h
 clear h
 obtain⟨P0_,HPO⟩:∃ P0_:Nat→Prop,P0_=(fun k_=>some k_≠((.slice A0 l0.length c0):Value).ownBlock):=⟨_,rfl⟩
 have HFfr:=za (MB.frK_new w (fun k_ hk_=>by rw[HPO] at hk_;exact⟨trivial,hk_⟩):Kd.F (MB.frK w P0_) w (fun k_=>True∧some k_≠((.slice A0 l0.length c0):Value).ownBlock) (some ⟨0,0,none⟩) [()].length [()])
 replace HPO:=za HPO
 have hB_:=za hB0
 have HN0:=za (Kd.N_mono hn0 (fun k_ hk_=>⟨trivial,.inl hk_⟩):Kd.N (Kd.int .i32) 21 w B_ (fun k_=>True∧(some k_=((.slice A0 l0.length c0):Value).ownBlock∨w.heap.size≤k_)) (.slice A0 l0.length c0) l0)
 clear hn0
 have HB:=za (Below.refl B_ w)
 go_enter Try.func43,Try.ntmps43
 go_wp2
 have hwr_:∀ n_:Int,IntKind.i64.wrap n_=wrap64 n_:=fun n_=>IntWalk.i64_left n_
 refine wp_region_any (by kernel_rfl) ?_
 change wpAny _ _ _ _ 16 #[false,false,false,false,false,false,false,false,false,false,false,false,false,false,false,false] _ w.drew
 obtain⟨w1,hw_⟩:∃ w_:World,w_=w.drew:=⟨_,rfl⟩
 rw[← hw_]
 have hb:Below w.heap.size w w1:=by rw[hw_];exact below_drew1 (Below.refl _ _)
 clear hw_
 replace HFfr:=zfb HFfr.out hb
 replace HN0:=znb HN0.out hb
 replace HB:=za (MB.below_stepB hB_.out HB.out hb)
 clear hb
 refine zt 0 ((.slice A0 l0.length c0)) #[_,_,_,_,_,_,_,_,_,_,_,_,_,_,_,_] ⟨[_,_,_,_,_,_,_,_,_,_,_,_,_,_,_,_,_,_,_,_,_,_,_,_,_,_,_,_,_,_,_,_,_,_,_,_,_,_,_,_,_,_,_,_,_,_,_,_,_,_,_,_,_,_,_,_,_,_,_,_,_,_,_,_,_,_,_,_,_,_,_,_,_,_,_,_,_,_,_,_,_,_,_,_].toArray,[]⟩ (h:=?_)
 refine zt 1 (.int .i64 a1) #[_,_,_,_,_,_,_,_,_,_,_,_,_,_,_,_] ⟨[_,_,_,_,_,_,_,_,_,_,_,_,_,_,_,_,_,_,_,_,_,_,_,_,_,_,_,_,_,_,_,_,_,_,_,_,_,_,_,_,_,_,_,_,_,_,_,_,_,_,_,_,_,_,_,_,_,_,_,_,_,_,_,_,_,_,_,_,_,_,_,_,_,_,_,_,_,_,_,_,_,_,_,_].toArray,[]⟩ (h:=?_)
 refine zt 2 ((.slice A0 l0.length c0)) #[_,_,_,_,_,_,_,_,_,_,_,_,_,_,_,_] ⟨[_,_,_,_,_,_,_,_,_,_,_,_,_,_,_,_,_,_,_,_,_,_,_,_,_,_,_,_,_,_,_,_,_,_,_,_,_,_,_,_,_,_,_,_,_,_,_,_,_,_,_,_,_,_,_,_,_,_,_,_,_,_,_,_,_,_,_,_,_,_,_,_,_,_,_,_,_,_,_,_,_,_,_,_].toArray,[]⟩ (h:=?_)
 refine zt 3 (.int .i64 a3) #[_,_,_,_,_,_,_,_,_,_,_,_,_,_,_,_] ⟨[_,_,_,_,_,_,_,_,_,_,_,_,_,_,_,_,_,_,_,_,_,_,_,_,_,_,_,_,_,_,_,_,_,_,_,_,_,_,_,_,_,_,_,_,_,_,_,_,_,_,_,_,_,_,_,_,_,_,_,_,_,_,_,_,_,_,_,_,_,_,_,_,_,_,_,_,_,_,_,_,_,_,_,_].toArray,[]⟩ (h:=?_)
 refine zt 4 ((.slice A0 l0.length c0)) #[_,_,_,_,_,_,_,_,_,_,_,_,_,_,_,_] ⟨[_,_,_,_,_,_,_,_,_,_,_,_,_,_,_,_,_,_,_,_,_,_,_,_,_,_,_,_,_,_,_,_,_,_,_,_,_,_,_,_,_,_,_,_,_,_,_,_,_,_,_,_,_,_,_,_,_,_,_,_,_,_,_,_,_,_,_,_,_,_,_,_,_,_,_,_,_,_,_,_,_,_,_,_].toArray,[]⟩ (h:=?_)
 refine zt 5 (.int .i64 a3) #[_,_,_,_,_,_,_,_,_,_,_,_,_,_,_,_] ⟨[_,_,_,_,_,_,_,_,_,_,_,_,_,_,_,_,_,_,_,_,_,_,_,_,_,_,_,_,_,_,_,_,_,_,_,_,_,_,_,_,_,_,_,_,_,_,_,_,_,_,_,_,_,_,_,_,_,_,_,_,_,_,_,_,_,_,_,_,_,_,_,_,_,_,_,_,_,_,_,_,_,_,_,_].toArray,[]⟩ (h:=?_)
 replace HH:=zqdo HH
 obtain⟨HH,hk3⟩:=HH
 (try simp only[hk3,Bool.not_true,Bool.not_false])
 replace HH:=zqto HH
 obtain⟨HH,hk5,hk6⟩:=HH
 (try simp only[hk5,Bool.not_true,Bool.not_false])
 (try simp only[hk6,Bool.not_true,Bool.not_false])
 have p7:0≤(a3:Int):=of_decide_eq_true (by first|(with_reducible assumption)|assumption)
 have q7:a3<(l0.length:Int):=of_decide_eq_true (by first|(with_reducible assumption)|assumption)
 obtain⟨ad7,e7,hx7_0⟩:=Kd.at_int (Kd.F_now (Kd.N_F HN0.out)) a3 p7 q7
 cases e7
 replace p7:=eq_true p7
 replace q7:=eq_true q7
 refine zt 6 (.pointer (some (ad7.add (a3.toNat)))) #[_,_,_,_,_,_,_,_,_,_,_,_,_,_,_,_] ⟨[_,_,_,_,_,_,_,_,_,_,_,_,_,_,_,_,_,_,_,_,_,_,_,_,_,_,_,_,_,_,_,_,_,_,_,_,_,_,_,_,_,_,_,_,_,_,_,_,_,_,_,_,_,_,_,_,_,_,_,_,_,_,_,_,_,_,_,_,_,_,_,_,_,_,_,_,_,_,_,_,_,_,_,_].toArray,[]⟩ (h:=?_)
 refine zt 8 ((.slice (some ad7) l0.length c0)) #[_,_,_,_,_,_,_,_,_,_,_,_,_,_,_,_] ⟨[_,_,_,_,_,_,_,_,_,_,_,_,_,_,_,_,_,_,_,_,_,_,_,_,_,_,_,_,_,_,_,_,_,_,_,_,_,_,_,_,_,_,_,_,_,_,_,_,_,_,_,_,_,_,_,_,_,_,_,_,_,_,_,_,_,_,_,_,_,_,_,_,_,_,_,_,_,_,_,_,_,_,_,_].toArray,[]⟩ (h:=?_)
 refine zt 9 (.int .i64 a1) #[_,_,_,_,_,_,_,_,_,_,_,_,_,_,_,_] ⟨[_,_,_,_,_,_,_,_,_,_,_,_,_,_,_,_,_,_,_,_,_,_,_,_,_,_,_,_,_,_,_,_,_,_,_,_,_,_,_,_,_,_,_,_,_,_,_,_,_,_,_,_,_,_,_,_,_,_,_,_,_,_,_,_,_,_,_,_,_,_,_,_,_,_,_,_,_,_,_,_,_,_,_,_].toArray,[]⟩ (h:=?_)
 replace HH:=zqdo HH
 obtain⟨HH,hk9⟩:=HH
 (try simp only[hk9,Bool.not_true,Bool.not_false])
 replace HH:=zqto HH
 obtain⟨HH,hk11,hk12⟩:=HH
 (try simp only[hk11,Bool.not_true,Bool.not_false])
 (try simp only[hk12,Bool.not_true,Bool.not_false])
 have p13:0≤(a1:Int):=of_decide_eq_true (by first|(with_reducible assumption)|assumption)
 have q13:a1<(l0.length:Int):=of_decide_eq_true (by first|(with_reducible assumption)|assumption)
 obtain⟨ad13,e13,hx13_0⟩:=Kd.at_int (Kd.F_now (Kd.N_F HN0.out)) a1 p13 q13
 cases e13
 replace p13:=eq_true p13
 replace q13:=eq_true q13
 refine zt 10 (.pointer (some (ad7.add (a1.toNat)))) #[_,_,_,_,_,_,_,_,_,_,_,_,_,_,_,_] ⟨[_,_,_,_,_,_,_,_,_,_,_,_,_,_,_,_,_,_,_,_,_,_,_,_,_,_,_,_,_,_,_,_,_,_,_,_,_,_,_,_,_,_,_,_,_,_,_,_,_,_,_,_,_,_,_,_,_,_,_,_,_,_,_,_,_,_,_,_,_,_,_,_,_,_,_,_,_,_,_,_,_,_,_,_].toArray,[]⟩ (h:=?_)
 refine MW.any_two (i:=7) (j:=11) (vi:=.int .i32 (rd l0 a3)) (vj:=.int .i32 (rd l0 a1)) #[true,true,true,true,true,true,true,true,true,true,true,true,false,false,false,false] ⟨[(.slice (some ad7) l0.length c0),(.int .i64 a1),(.int .i64 a2),(.int .i64 a3),undef,undef,undef,undef,(.int .i64 0),undef,undef,(.slice (some ad7) l0.length c0),(.int .i64 a1),(.slice (some ad7) l0.length c0),(.int .i64 a3),(.slice (some ad7) l0.length c0),(.int .i64 a3),(.pointer (some (ad7.add (a3.toNat)))),(.int .i32 (rd l0 a3)),(.slice (some ad7) l0.length c0),(.int .i64 a1),(.pointer (some (ad7.add (a1.toNat)))),(.int .i32 (rd l0 a1)),undef,undef,undef,undef,undef,undef,undef,undef,undef,undef,undef,undef,undef,undef,undef,undef,undef,undef,undef,undef,undef,undef,undef,undef,undef,undef,undef,undef,undef,undef,undef,undef,undef,undef,undef,undef,undef,undef,undef,undef,undef,undef,undef,undef,undef,undef,undef,undef,undef,undef,undef,undef,undef,undef,undef,undef,undef,undef,undef,undef,undef].toArray,[]⟩ (by decide) rfl rfl (by kernel_rfl) (by kernel_rfl) (by kernel_rfl) (by kernel_rfl) (by kernel_rfl) (by first|rfl|(go_simp;done)|(go_simp;rfl)) (by first|rfl|(go_simp;done)|(go_simp;rfl)) (by first|rfl|(go_simp;done)|(go_simp;rfl)) (by first|rfl|(go_simp;done)|(go_simp;rfl)) (by kernel_rfl) (by kernel_rfl) (by kernel_rfl) (by kernel_rfl) (by kernel_rfl) (by kernel_rfl) ?_
 refine zt 12 (.pointer (some (ad7.add (a1.toNat)))) #[_,_,_,_,_,_,_,_,_,_,_,_,_,_,_,_] ⟨[_,_,_,_,_,_,_,_,_,_,_,_,_,_,_,_,_,_,_,_,_,_,_,_,_,_,_,_,_,_,_,_,_,_,_,_,_,_,_,_,_,_,_,_,_,_,_,_,_,_,_,_,_,_,_,_,_,_,_,_,_,_,_,_,_,_,_,_,_,_,_,_,_,_,_,_,_,_,_,_,_,_,_,_].toArray,[]⟩ (h:=?_)
 refine MW.any_seq 13 3 rfl (by kernel_rfl) ?_
 simp only[List.drop_succ_cons,List.drop_zero]
 clear hwr_
 obtain⟨y14,hy14⟩:∃ y_:List Int,y_=(List.set l0 a1.toNat (rd l0 a3)):=⟨_,rfl⟩
 have H:((some (List.set y14 a3.toNat (rd l0 a1):List Int)).bind fun y18=>((slices_partitionEqualOrdered_rune.l0 k (wrap64 (a1+1)) (wrap64 (a2 - 1)) y18 a1 l0)))=some (r1,r2):=by rw[hy14];exact HH.out
 replace HH:=za H
 clear H
 have NYy14:=za hy14
 clear hy14
 go_wp2_with (((with_reducible refine gate_store (t:=21) (p:=23) rfl ?_);(try(refine gate_guard (by rfl) ?_;dsimp only));refine MW.ev_set1 (n:=l0.length) B_ rfl rfl _ _ _ rfl 21 a1 l0 (rd l0 a3) (fun k_=>True∧(some k_=((.slice (some ad7) l0.length c0):Value).ownBlock∨w.heap.size≤k_)) (by rfl) (by rfl) (by kernel_rfl) HN0.out (of_decide_eq_true (by first|(with_reducible assumption)|assumption)) (of_decide_eq_true (by first|(with_reducible assumption)|assumption)) HB.out ?_;intro w15 hn1 hb1 hg1);refine stop_ ?_)
 refine zg ?_
 replace HFfr:=za (Kd.F_grown (ok:=(fun k_=>True∧some k_≠((.slice (some ad7) l0.length c0):Value).ownBlock)) HFfr.out hg1 (fun k_ hk_=>hk_.2))
 replace HB:=za hb1
 clear HN0
 have HN16:=za (by rw[NYy14.out];exact hn1:Kd.N (Kd.int .i32) 21 w15 B_ (fun k_=>True∧(some k_=((.slice (some ad7) l0.length c0):Value).ownBlock∨w.heap.size≤k_)) (.slice (some ad7) l0.length c0) y14)
 clear hn1 hb1 hg1
 clear hx7_0 p7 q7 hx13_0 p13 q13
 have p17:0≤(a3:Int):=of_decide_eq_true (by first|(with_reducible assumption)|assumption)
 have q17:a3<(l0.length:Int):=of_decide_eq_true (by first|(with_reducible assumption)|assumption)
 obtain⟨ad17,e17,hx17_0⟩:=Kd.at_int (Kd.F_now (Kd.N_F HN16.out)) a3 p17 q17
 cases e17
 replace p17:=eq_true p17
 replace q17:=eq_true q17
 obtain⟨y18,hy18⟩:∃ y_:List Int,y_=(List.set y14 a3.toNat (rd l0 a1)):=⟨_,rfl⟩
 have H:((slices_partitionEqualOrdered_rune.l0 k (wrap64 (a1+1)) (wrap64 (a2 - 1)) y18 a1 l0))=some (r1,r2):=by rw[hy18];exact HH.out
 replace HH:=za H
 clear H
 have NYy18:=za hy18
 clear hy18
 go_wp2_with (((with_reducible refine gate_store (t:=21) (p:=24) rfl ?_);(try(refine gate_guard (by rfl) ?_;dsimp only));refine MW.ev_set1 (n:=l0.length) B_ rfl rfl _ _ _ rfl 21 a3 y14 (rd l0 a1) (fun k_=>True∧(some k_=((.slice (some ad7) l0.length c0):Value).ownBlock∨w.heap.size≤k_)) (by rfl) (by rfl) (by kernel_rfl) HN16.out (of_decide_eq_true (by first|(with_reducible assumption)|assumption)) (of_decide_eq_true (by first|(with_reducible assumption)|assumption)) HB.out ?_;intro w19 hn1 hb1 hg1);refine stop_ ?_)
 refine zg ?_
 replace HFfr:=za (Kd.F_grown (ok:=(fun k_=>True∧some k_≠((.slice (some ad7) l0.length c0):Value).ownBlock)) HFfr.out hg1 (fun k_ hk_=>hk_.2))
 replace HB:=za hb1
 clear HN16
 have HN20:=za (by rw[NYy18.out];exact hn1:Kd.N (Kd.int .i32) 21 w19 B_ (fun k_=>True∧(some k_=((.slice (some ad7) l0.length c0):Value).ownBlock∨w.heap.size≤k_)) (.slice (some ad7) l0.length c0) y18)
 clear hn1 hb1 hg1
 clear hx17_0 p17 q17
 go_wp2
 go_loopg [9,10] k (fun kq u9 u10 w'=>∃ (x21:Int) (x22:Int) (x23:List Int),u9=.int .i64 x21∧u10=.int .i64 x22∧Aside0 ((slices_partitionEqualOrdered_rune.l0 kq x21 x22 x23 a1 l0)=some (r1,r2))∧Aside0 (kq≤k)∧Aside0 (Kd.F (MB.frK w P0_) w' (fun k_=>True∧some k_≠((.slice (some ad7) l0.length c0):Value).ownBlock) (some ⟨0,0,none⟩) [()].length [()])∧Aside0 (Kd.N (Kd.int .i32) 21 w' B_ (fun k_=>True∧(some k_=((.slice (some ad7) l0.length c0):Value).ownBlock∨w.heap.size≤k_)) (.slice (some ad7) l0.length c0) x23)∧Aside0 (Below B_ w w'))
 case atStart=>exact⟨wrap64 (a1+1),wrap64 (a2 - 1),y18,(by first|rfl|(simp;done)|(simp[*];done)),(by first|rfl|(simp;done)|(simp[*];done)),HH,⟨Nat.le_refl _⟩,⟨HFfr.out⟩,⟨(Kd.N_mono (ok:=(fun k_=>True∧(some k_=((.slice (some ad7) l0.length c0):Value).ownBlock∨w.heap.size≤k_))) HN20.out (fun k_ hk_=>hk_))⟩,⟨HB.out⟩⟩
 case round=>
  clear hk3
  clear hk5
  clear hk6
  clear hk9
  clear hk11
  clear hk12
  clear HH
  clear HFfr HN20 HB
  obtain⟨x21,x22,x23,rfl,rfl,HA,HK0,HFfr,HN20,HB⟩:=hrel
  obtain⟨w25,rfl⟩:∃ wo_:World,wo_=wr:=⟨_,rfl⟩
  cases gk with
  |zero=>exact absurd HA.out (by simp[slices_partitionEqualOrdered_rune.l0])
  |succ k24=>
   have H:=HA.out
   clear HA
   simp only[slices_partitionEqualOrdered_rune.l0] at H
   have HH:=za H
   clear H
   go_wp2
   go_loopg [9] k24 (fun kq u9 w'=>∃ (x26:Int),u9=.int .i64 x26∧Aside0 ((slices_partitionEqualOrdered_rune.l1 kq x26 a1 l0 x22 x23)=some (r1,r2))∧Aside0 (kq≤k24)∧Aside0 (Kd.F (MB.frK w P0_) w' (fun k_=>True∧some k_≠((.slice (some ad7) l0.length c0):Value).ownBlock) (some ⟨0,0,none⟩) [()].length [()])∧Aside0 (Kd.N (Kd.int .i32) 21 w' B_ (fun k_=>True∧(some k_=((.slice (some ad7) l0.length c0):Value).ownBlock∨w.heap.size≤k_)) (.slice (some ad7) l0.length c0) x23)∧Aside0 (Below B_ w w'))
   case atStart=>exact⟨x21,(by first|rfl|(simp;done)|(simp[*];done)),HH,⟨Nat.le_refl _⟩,⟨HFfr.out⟩,⟨(Kd.N_mono (ok:=(fun k_=>True∧(some k_=((.slice (some ad7) l0.length c0):Value).ownBlock∨w.heap.size≤k_))) HN20.out (fun k_ hk_=>hk_))⟩,⟨HB.out⟩⟩
   case round=>
    clear HH
    clear HFfr HN20 HB
    obtain⟨x26,rfl,HA,HK1,HFfr,HN20,HB⟩:=hrel
    obtain⟨w28,rfl⟩:∃ wo_:World,wo_=wr:=⟨_,rfl⟩
    cases gk with
    |zero=>exact absurd HA.out (by simp[slices_partitionEqualOrdered_rune.l1])
    |succ k27=>
     have H:=HA.out
     clear HA
     simp only[slices_partitionEqualOrdered_rune.l1] at H
     have HH:=za H
     clear H
     replace HH:=zd HH
     obtain⟨b29,At30,HH⟩:=HH
     go_wp2
     obtain⟨R_,hR_⟩:∃ R_:Act→World→Prop,R_=(fun a_ w_=>∃ u29 u30 u31 u32 u33 u34 u35 u36 u37 u38 u39 u40 u41 u42:Value,a_=(⟨[(.slice (some ad7) l0.length c0),(.int .i64 a1),(.int .i64 a2),(.int .i64 a3),undef,undef,undef,undef,(.int .i64 0),(.int .i64 x26),(.int .i64 x22),(.slice (some ad7) l0.length c0),(.int .i64 a1),(.slice (some ad7) l0.length c0),(.int .i64 a3),(.slice (some ad7) l0.length c0),(.int .i64 a3),(.pointer (some (ad7.add (a3.toNat)))),(.int .i32 (rd l0 a3)),(.slice (some ad7) l0.length c0),(.int .i64 a1),(.pointer (some (ad7.add (a1.toNat)))),(.int .i32 (rd l0 a1)),(.pointer (some (ad7.add (a1.toNat)))),(.pointer (some (ad7.add (a3.toNat)))),(.int .i64 a1),(.int .i64 (wrap64 (a1+1))),(.int .i64 a2),(.int .i64 (wrap64 (a2 - 1))),u29,u30,u31,u32,u33,u34,u35,u36,u37,u38,u39,u40,u41,u42,.bool b29,u44,u45,u46,u47,u48,u49,u50,u51,u52,u53,u54,u55,u56,u57,u58,u59,u60,u61,u62,u63,u64,u65,u66,u67,u68,u69,u70,u71,u72,u73,u74,u75,u76,u77,u78,u79,u80,u81,u82,undef].toArray,[]⟩:Act)∧Drawn0 w28 w_):=⟨_,rfl⟩
     replace hR_:=za hR_
     refine MS.join R_ ?_ ?_
     ·clear HH
      have HH:=At30
      clear At30
      replace HH:=zqd HH
      rcases HH with⟨HH,hk33⟩|⟨HH,hk54⟩
      ·replace HH:=zqdo HH
       obtain⟨HH,hk35⟩:=HH
       replace HH:=zqto HH
       obtain⟨HH,hk37,hk38⟩:=HH
       have p39:0≤(a1:Int):=of_decide_eq_true (by first|(with_reducible assumption)|assumption)
       have q39:a1<(l0.length:Int):=of_decide_eq_true (by first|(with_reducible assumption)|assumption)
       obtain⟨ad39,e39,hx39_0⟩:=Kd.at_int (Kd.F_now (Kd.N_F HN20.out)) a1 p39 q39
       cases e39
       replace p39:=eq_true p39
       replace q39:=eq_true q39
       replace HH:=zqdo HH
       obtain⟨HH,hk41⟩:=HH
       replace HH:=zqto HH
       obtain⟨HH,hk43,hk44⟩:=HH
       have p45:0≤(x26:Int):=of_decide_eq_true (by first|(with_reducible assumption)|assumption)
       have q45:x26<(l0.length:Int):=of_decide_eq_true (by first|(with_reducible assumption)|assumption)
       obtain⟨ad45,e45,hx45_0⟩:=Kd.at_int (Kd.F_now (Kd.N_F HN20.out)) x26 p45 q45
       cases e45
       replace p45:=eq_true p45
       replace q45:=eq_true q45
       replace HH:=zd HH
       obtain⟨t46,At47,HH⟩:=HH
       go_wp2
       go_quiet ((first|(go_at_call 42;first|exact Calls.quiet_of (MW.drawn (cmp_Less_rune.calls  (rd x23 a1) (rd x23 x26) t46 _  At47.out))|exact MW.quiet_far (MW.drawn (cmp_Less_rune.calls  (rd x23 a1) (rd x23 x26) t46 _  At47.out)))))
       obtain rfl:=Option.some.inj HH.out
       go_wp2
       refine MS.Joined.mk ?_
       rw[hR_.out]
       exact⟨_,_,_,_,_,_,_,_,_,_,_,_,_,_,rfl,by repeat(first|exact Drawn0.refl _|apply Drawn0.step)⟩
      go_wp2
      go_quiet ((first|(go_at_call 42;first|exact Calls.quiet_of (MW.drawn (cmp_Less_rune.calls  (rd x23 a1) (rd x23 x26) t46 _  At47.out))|exact MW.quiet_far (MW.drawn (cmp_Less_rune.calls  (rd x23 a1) (rd x23 x26) t46 _  At47.out)))))
      obtain rfl:=Option.some.inj HH.out
      go_wp2
      refine MS.Joined.mk ?_
      rw[hR_.out]
      exact⟨_,_,_,_,_,_,_,_,_,_,_,_,_,_,rfl,by repeat(first|exact Drawn0.refl _|apply Drawn0.step)⟩
     intro a_ w31 hd_
     rw[hR_.out] at hd_
     obtain⟨u29,u30,u31,u32,u33,u34,u35,u36,u37,u38,u39,u40,u41,u42,rfl,hd_⟩:=hd_
     have hb:=MS.drawn_below hd_
     clear At30 hd_ hR_ R_
     replace HFfr:=zfb HFfr.out hb
     replace HN20:=znb HN20.out hb
     replace HB:=za (MB.below_stepB hB_.out HB.out hb)
     clear hb
     by_cases c55:b29=true
     ·replace HH:=MW.hpos HH c55
      subst c55
      go_wp2
      go_roundg k27
      case measure=>have:=HK0.out;have:=HK1.out;omega
      case rel=>exact⟨wrap64 (x26+1),(by first|rfl|(simp;done)|(simp[*];done)),HH,⟨by have:=HK0.out;have:=HK1.out;omega⟩,⟨HFfr.out⟩,⟨(Kd.N_mono (ok:=(fun k_=>True∧(some k_=((.slice (some ad7) l0.length c0):Value).ownBlock∨w.heap.size≤k_))) HN20.out (fun k_ hk_=>hk_))⟩,⟨HB.out⟩⟩
     replace HH:=MW.hneg HH c55
     replace c55:=Bool.eq_false_iff.mpr c55
     subst c55
     go_wp2
     go_loopg [10] k27 (fun kq u10 w'=>∃ (x56:Int),u10=.int .i64 x56∧Aside0 ((slices_partitionEqualOrdered_rune.l2 kq x56 a1 l0 x23 x26)=some (r1,r2))∧Aside0 (kq≤k27)∧Aside0 (Kd.F (MB.frK w P0_) w' (fun k_=>True∧some k_≠((.slice (some ad7) l0.length c0):Value).ownBlock) (some ⟨0,0,none⟩) [()].length [()])∧Aside0 (Kd.N (Kd.int .i32) 21 w' B_ (fun k_=>True∧(some k_=((.slice (some ad7) l0.length c0):Value).ownBlock∨w.heap.size≤k_)) (.slice (some ad7) l0.length c0) x23)∧Aside0 (Below B_ w w'))
     case atStart=>exact⟨x22,(by first|rfl|(simp;done)|(simp[*];done)),HH,⟨Nat.le_refl _⟩,⟨HFfr.out⟩,⟨(Kd.N_mono (ok:=(fun k_=>True∧(some k_=((.slice (some ad7) l0.length c0):Value).ownBlock∨w.heap.size≤k_))) HN20.out (fun k_ hk_=>hk_))⟩,⟨HB.out⟩⟩
     case round=>
      clear HH
      clear HFfr HN20 HB
      obtain⟨x56,rfl,HA,HK2,HFfr,HN20,HB⟩:=hrel
      obtain⟨w58,rfl⟩:∃ wo_:World,wo_=wr:=⟨_,rfl⟩
      cases gk with
      |zero=>exact absurd HA.out (by simp[slices_partitionEqualOrdered_rune.l2])
      |succ k57=>
       have H:=HA.out
       clear HA
       simp only[slices_partitionEqualOrdered_rune.l2] at H
       have HH:=za H
       clear H
       replace HH:=zd HH
       obtain⟨b59,At60,HH⟩:=HH
       go_wp2
       obtain⟨R_,hR_⟩:∃ R_:Act→World→Prop,R_=(fun a_ w_=>∃ u46 u47 u48 u49 u50 u51 u52 u53 u54 u55 u56 u57 u58:Value,a_=(⟨[(.slice (some ad7) l0.length c0),(.int .i64 a1),(.int .i64 a2),(.int .i64 a3),undef,undef,undef,undef,(.int .i64 0),(.int .i64 x26),(.int .i64 x56),(.slice (some ad7) l0.length c0),(.int .i64 a1),(.slice (some ad7) l0.length c0),(.int .i64 a3),(.slice (some ad7) l0.length c0),(.int .i64 a3),(.pointer (some (ad7.add (a3.toNat)))),(.int .i32 (rd l0 a3)),(.slice (some ad7) l0.length c0),(.int .i64 a1),(.pointer (some (ad7.add (a1.toNat)))),(.int .i32 (rd l0 a1)),(.pointer (some (ad7.add (a1.toNat)))),(.pointer (some (ad7.add (a3.toNat)))),(.int .i64 a1),(.int .i64 (wrap64 (a1+1))),(.int .i64 a2),(.int .i64 (wrap64 (a2 - 1))),u29,u30,u31,u32,u33,u34,u35,u36,u37,u38,u39,u40,u41,u42,(.bool false),u44,u45,u46,u47,u48,u49,u50,u51,u52,u53,u54,u55,u56,u57,u58,.bool b59,u60,u61,u62,u63,u64,u65,u66,u67,u68,u69,u70,u71,u72,u73,u74,u75,u76,u77,u78,u79,u80,u81,u82,undef].toArray,[]⟩:Act)∧Drawn0 w58 w_):=⟨_,rfl⟩
       replace hR_:=za hR_
       refine MS.join R_ ?_ ?_
       ·clear HH
        have HH:=At60
        clear At60
        replace HH:=zqd HH
        rcases HH with⟨HH,hk63⟩|⟨HH,hk84⟩
        ·replace HH:=zqdo HH
         obtain⟨HH,hk65⟩:=HH
         replace HH:=zqto HH
         obtain⟨HH,hk67,hk68⟩:=HH
         have p69:0≤(a1:Int):=of_decide_eq_true (by first|(with_reducible assumption)|assumption)
         have q69:a1<(l0.length:Int):=of_decide_eq_true (by first|(with_reducible assumption)|assumption)
         obtain⟨ad69,e69,hx69_0⟩:=Kd.at_int (Kd.F_now (Kd.N_F HN20.out)) a1 p69 q69
         cases e69
         replace p69:=eq_true p69
         replace q69:=eq_true q69
         replace HH:=zqdo HH
         obtain⟨HH,hk71⟩:=HH
         replace HH:=zqto HH
         obtain⟨HH,hk73,hk74⟩:=HH
         have p75:0≤(x56:Int):=of_decide_eq_true (by first|(with_reducible assumption)|assumption)
         have q75:x56<(l0.length:Int):=of_decide_eq_true (by first|(with_reducible assumption)|assumption)
         obtain⟨ad75,e75,hx75_0⟩:=Kd.at_int (Kd.F_now (Kd.N_F HN20.out)) x56 p75 q75
         cases e75
         replace p75:=eq_true p75
         replace q75:=eq_true q75
         replace HH:=zd HH
         obtain⟨t76,At77,HH⟩:=HH
         go_wp2
         go_quiet ((first|(go_at_call 42;first|exact Calls.quiet_of (MW.drawn (cmp_Less_rune.calls  (rd x23 a1) (rd x23 x56) t76 _  At77.out))|exact MW.quiet_far (MW.drawn (cmp_Less_rune.calls  (rd x23 a1) (rd x23 x56) t76 _  At77.out)))))
         obtain rfl:=Option.some.inj HH.out
         go_wp2
         refine MS.Joined.mk ?_
         rw[hR_.out]
         exact⟨_,_,_,_,_,_,_,_,_,_,_,_,_,rfl,by repeat(first|exact Drawn0.refl _|apply Drawn0.step)⟩
        go_wp2
        go_quiet ((first|(go_at_call 42;first|exact Calls.quiet_of (MW.drawn (cmp_Less_rune.calls  (rd x23 a1) (rd x23 x56) t76 _  At77.out))|exact MW.quiet_far (MW.drawn (cmp_Less_rune.calls  (rd x23 a1) (rd x23 x56) t76 _  At77.out)))))
        obtain rfl:=Option.some.inj HH.out
        go_wp2
        refine MS.Joined.mk ?_
        rw[hR_.out]
        exact⟨_,_,_,_,_,_,_,_,_,_,_,_,_,rfl,by repeat(first|exact Drawn0.refl _|apply Drawn0.step)⟩
       intro a_ w61 hd_
       rw[hR_.out] at hd_
       obtain⟨u46,u47,u48,u49,u50,u51,u52,u53,u54,u55,u56,u57,u58,rfl,hd_⟩:=hd_
       have hb:=MS.drawn_below hd_
       clear At60 hd_ hR_ R_
       replace HFfr:=zfb HFfr.out hb
       replace HN20:=znb HN20.out hb
       replace HB:=za (MB.below_stepB hB_.out HB.out hb)
       clear hb
       by_cases c85:b59=true
       ·replace HH:=MW.hpos HH c85
        subst c85
        go_wp2
        go_roundg k57
        case measure=>have:=HK0.out;have:=HK1.out;have:=HK2.out;omega
        case rel=>exact⟨wrap64 (x56 - 1),(by first|rfl|(simp;done)|(simp[*];done)),HH,⟨by have:=HK0.out;have:=HK1.out;have:=HK2.out;omega⟩,⟨HFfr.out⟩,⟨(Kd.N_mono (ok:=(fun k_=>True∧(some k_=((.slice (some ad7) l0.length c0):Value).ownBlock∨w.heap.size≤k_))) HN20.out (fun k_ hk_=>hk_))⟩,⟨HB.out⟩⟩
       replace HH:=MW.hneg HH c85
       replace c85:=Bool.eq_false_iff.mpr c85
       subst c85
       replace HH:=zqg HH
       rcases HH with⟨HH,hk87⟩|⟨HH,hk88⟩
       ·have H:=HH.out
        simp only[Option.some.injEq,Prod.mk.injEq] at H
        obtain⟨rfl,rfl⟩:=H
        clear HH
        go_wp2
        go_ret
        exact⟨by first|rfl|(simp;done)|(simp[*];done),(Kd.N_mono (ok:=(fun k_=>True∧(some k_=((.slice (some ad7) l0.length c0):Value).ownBlock∨w.heap.size≤k_))) HN20.out (fun k_ hk_=>hk_.2)),(fun k_ hv_ hlt_=>MB.frK_out HFfr.out k_ (by rw[HPO.out];exact hv_) hlt_),HB.out⟩
       go_wp2
       have hwr_:∀ n_:Int,IntKind.i64.wrap n_=wrap64 n_:=fun n_=>IntWalk.i64_left n_
       refine wp_region_any (by kernel_rfl) ?_
       change wpAny _ _ _ _ 16 #[false,false,false,false,false,false,false,false,false,false,false,false,false,false,false,false] _ w61.drew
       obtain⟨w89,hw_⟩:∃ w_:World,w_=w61.drew:=⟨_,rfl⟩
       rw[← hw_]
       have hb:Below w61.heap.size w61 w89:=by rw[hw_];exact below_drew1 (Below.refl _ _)
       clear hw_
       replace HFfr:=zfb HFfr.out hb
       replace HN20:=znb HN20.out hb
       replace HB:=za (MB.below_stepB hB_.out HB.out hb)
       clear hb
       refine zt 0 ((.slice (some ad7) l0.length c0)) #[_,_,_,_,_,_,_,_,_,_,_,_,_,_,_,_] ⟨[_,_,_,_,_,_,_,_,_,_,_,_,_,_,_,_,_,_,_,_,_,_,_,_,_,_,_,_,_,_,_,_,_,_,_,_,_,_,_,_,_,_,_,_,_,_,_,_,_,_,_,_,_,_,_,_,_,_,_,_,_,_,_,_,_,_,_,_,_,_,_,_,_,_,_,_,_,_,_,_,_,_,_,_].toArray,[]⟩ (h:=?_)
       refine zt 1 (.int .i64 x26) #[_,_,_,_,_,_,_,_,_,_,_,_,_,_,_,_] ⟨[_,_,_,_,_,_,_,_,_,_,_,_,_,_,_,_,_,_,_,_,_,_,_,_,_,_,_,_,_,_,_,_,_,_,_,_,_,_,_,_,_,_,_,_,_,_,_,_,_,_,_,_,_,_,_,_,_,_,_,_,_,_,_,_,_,_,_,_,_,_,_,_,_,_,_,_,_,_,_,_,_,_,_,_].toArray,[]⟩ (h:=?_)
       refine zt 2 ((.slice (some ad7) l0.length c0)) #[_,_,_,_,_,_,_,_,_,_,_,_,_,_,_,_] ⟨[_,_,_,_,_,_,_,_,_,_,_,_,_,_,_,_,_,_,_,_,_,_,_,_,_,_,_,_,_,_,_,_,_,_,_,_,_,_,_,_,_,_,_,_,_,_,_,_,_,_,_,_,_,_,_,_,_,_,_,_,_,_,_,_,_,_,_,_,_,_,_,_,_,_,_,_,_,_,_,_,_,_,_,_].toArray,[]⟩ (h:=?_)
       refine zt 3 (.int .i64 x56) #[_,_,_,_,_,_,_,_,_,_,_,_,_,_,_,_] ⟨[_,_,_,_,_,_,_,_,_,_,_,_,_,_,_,_,_,_,_,_,_,_,_,_,_,_,_,_,_,_,_,_,_,_,_,_,_,_,_,_,_,_,_,_,_,_,_,_,_,_,_,_,_,_,_,_,_,_,_,_,_,_,_,_,_,_,_,_,_,_,_,_,_,_,_,_,_,_,_,_,_,_,_,_].toArray,[]⟩ (h:=?_)
       refine zt 4 ((.slice (some ad7) l0.length c0)) #[_,_,_,_,_,_,_,_,_,_,_,_,_,_,_,_] ⟨[_,_,_,_,_,_,_,_,_,_,_,_,_,_,_,_,_,_,_,_,_,_,_,_,_,_,_,_,_,_,_,_,_,_,_,_,_,_,_,_,_,_,_,_,_,_,_,_,_,_,_,_,_,_,_,_,_,_,_,_,_,_,_,_,_,_,_,_,_,_,_,_,_,_,_,_,_,_,_,_,_,_,_,_].toArray,[]⟩ (h:=?_)
       refine zt 5 (.int .i64 x56) #[_,_,_,_,_,_,_,_,_,_,_,_,_,_,_,_] ⟨[_,_,_,_,_,_,_,_,_,_,_,_,_,_,_,_,_,_,_,_,_,_,_,_,_,_,_,_,_,_,_,_,_,_,_,_,_,_,_,_,_,_,_,_,_,_,_,_,_,_,_,_,_,_,_,_,_,_,_,_,_,_,_,_,_,_,_,_,_,_,_,_,_,_,_,_,_,_,_,_,_,_,_,_].toArray,[]⟩ (h:=?_)
       replace HH:=zqdo HH
       obtain⟨HH,hk91⟩:=HH
       (try simp only[hk91,Bool.not_true,Bool.not_false])
       replace HH:=zqto HH
       obtain⟨HH,hk93,hk94⟩:=HH
       (try simp only[hk93,Bool.not_true,Bool.not_false])
       (try simp only[hk94,Bool.not_true,Bool.not_false])
       have p95:0≤(x56:Int):=of_decide_eq_true (by first|(with_reducible assumption)|assumption)
       have q95:x56<(l0.length:Int):=of_decide_eq_true (by first|(with_reducible assumption)|assumption)
       obtain⟨ad95,e95,hx95_0⟩:=Kd.at_int (Kd.F_now (Kd.N_F HN20.out)) x56 p95 q95
       cases e95
       replace p95:=eq_true p95
       replace q95:=eq_true q95
       refine zt 6 (.pointer (some (ad7.add (x56.toNat)))) #[_,_,_,_,_,_,_,_,_,_,_,_,_,_,_,_] ⟨[_,_,_,_,_,_,_,_,_,_,_,_,_,_,_,_,_,_,_,_,_,_,_,_,_,_,_,_,_,_,_,_,_,_,_,_,_,_,_,_,_,_,_,_,_,_,_,_,_,_,_,_,_,_,_,_,_,_,_,_,_,_,_,_,_,_,_,_,_,_,_,_,_,_,_,_,_,_,_,_,_,_,_,_].toArray,[]⟩ (h:=?_)
       refine zt 8 ((.slice (some ad7) l0.length c0)) #[_,_,_,_,_,_,_,_,_,_,_,_,_,_,_,_] ⟨[_,_,_,_,_,_,_,_,_,_,_,_,_,_,_,_,_,_,_,_,_,_,_,_,_,_,_,_,_,_,_,_,_,_,_,_,_,_,_,_,_,_,_,_,_,_,_,_,_,_,_,_,_,_,_,_,_,_,_,_,_,_,_,_,_,_,_,_,_,_,_,_,_,_,_,_,_,_,_,_,_,_,_,_].toArray,[]⟩ (h:=?_)
       refine zt 9 (.int .i64 x26) #[_,_,_,_,_,_,_,_,_,_,_,_,_,_,_,_] ⟨[_,_,_,_,_,_,_,_,_,_,_,_,_,_,_,_,_,_,_,_,_,_,_,_,_,_,_,_,_,_,_,_,_,_,_,_,_,_,_,_,_,_,_,_,_,_,_,_,_,_,_,_,_,_,_,_,_,_,_,_,_,_,_,_,_,_,_,_,_,_,_,_,_,_,_,_,_,_,_,_,_,_,_,_].toArray,[]⟩ (h:=?_)
       replace HH:=zqdo HH
       obtain⟨HH,hk97⟩:=HH
       (try simp only[hk97,Bool.not_true,Bool.not_false])
       replace HH:=zqto HH
       obtain⟨HH,hk99,hk100⟩:=HH
       (try simp only[hk99,Bool.not_true,Bool.not_false])
       (try simp only[hk100,Bool.not_true,Bool.not_false])
       have p101:0≤(x26:Int):=of_decide_eq_true (by first|(with_reducible assumption)|assumption)
       have q101:x26<(l0.length:Int):=of_decide_eq_true (by first|(with_reducible assumption)|assumption)
       obtain⟨ad101,e101,hx101_0⟩:=Kd.at_int (Kd.F_now (Kd.N_F HN20.out)) x26 p101 q101
       cases e101
       replace p101:=eq_true p101
       replace q101:=eq_true q101
       refine zt 10 (.pointer (some (ad7.add (x26.toNat)))) #[_,_,_,_,_,_,_,_,_,_,_,_,_,_,_,_] ⟨[_,_,_,_,_,_,_,_,_,_,_,_,_,_,_,_,_,_,_,_,_,_,_,_,_,_,_,_,_,_,_,_,_,_,_,_,_,_,_,_,_,_,_,_,_,_,_,_,_,_,_,_,_,_,_,_,_,_,_,_,_,_,_,_,_,_,_,_,_,_,_,_,_,_,_,_,_,_,_,_,_,_,_,_].toArray,[]⟩ (h:=?_)
       refine MW.any_two (i:=7) (j:=11) (vi:=.int .i32 (rd x23 x56)) (vj:=.int .i32 (rd x23 x26)) #[true,true,true,true,true,true,true,true,true,true,true,true,false,false,false,false] ⟨[(.slice (some ad7) l0.length c0),(.int .i64 a1),(.int .i64 a2),(.int .i64 a3),undef,undef,undef,undef,(.int .i64 0),(.int .i64 x26),(.int .i64 x56),(.slice (some ad7) l0.length c0),(.int .i64 a1),(.slice (some ad7) l0.length c0),(.int .i64 a3),(.slice (some ad7) l0.length c0),(.int .i64 a3),(.pointer (some (ad7.add (a3.toNat)))),(.int .i32 (rd l0 a3)),(.slice (some ad7) l0.length c0),(.int .i64 a1),(.pointer (some (ad7.add (a1.toNat)))),(.int .i32 (rd l0 a1)),(.pointer (some (ad7.add (a1.toNat)))),(.pointer (some (ad7.add (a3.toNat)))),(.int .i64 a1),(.int .i64 (wrap64 (a1+1))),(.int .i64 a2),(.int .i64 (wrap64 (a2 - 1))),u29,u30,u31,u32,u33,u34,u35,u36,u37,u38,u39,u40,u41,u42,(.bool false),u44,u45,u46,u47,u48,u49,u50,u51,u52,u53,u54,u55,u56,u57,u58,(.bool false),u60,u61,(.int .i64 x26),(.int .i64 x56),(.bool false),(.slice (some ad7) l0.length c0),(.int .i64 x26),(.slice (some ad7) l0.length c0),(.int .i64 x56),(.slice (some ad7) l0.length c0),(.int .i64 x56),(.pointer (some (ad7.add (x56.toNat)))),(.int .i32 (rd x23 x56)),(.slice (some ad7) l0.length c0),(.int .i64 x26),(.pointer (some (ad7.add (x26.toNat)))),(.int .i32 (rd x23 x26)),u77,u78,u79,u80,u81,u82,undef].toArray,[]⟩ (by decide) rfl rfl (by kernel_rfl) (by kernel_rfl) (by kernel_rfl) (by kernel_rfl) (by kernel_rfl) (by first|rfl|(go_simp;done)|(go_simp;rfl)) (by first|rfl|(go_simp;done)|(go_simp;rfl)) (by first|rfl|(go_simp;done)|(go_simp;rfl)) (by first|rfl|(go_simp;done)|(go_simp;rfl)) (by kernel_rfl) (by kernel_rfl) (by kernel_rfl) (by kernel_rfl) (by kernel_rfl) (by kernel_rfl) ?_
       refine zt 12 (.pointer (some (ad7.add (x26.toNat)))) #[_,_,_,_,_,_,_,_,_,_,_,_,_,_,_,_] ⟨[_,_,_,_,_,_,_,_,_,_,_,_,_,_,_,_,_,_,_,_,_,_,_,_,_,_,_,_,_,_,_,_,_,_,_,_,_,_,_,_,_,_,_,_,_,_,_,_,_,_,_,_,_,_,_,_,_,_,_,_,_,_,_,_,_,_,_,_,_,_,_,_,_,_,_,_,_,_,_,_,_,_,_,_].toArray,[]⟩ (h:=?_)
       refine MW.any_seq 13 3 rfl (by kernel_rfl) ?_
       simp only[List.drop_succ_cons,List.drop_zero]
       clear hwr_
       obtain⟨y102,hy102⟩:∃ y_:List Int,y_=(List.set x23 x26.toNat (rd x23 x56)):=⟨_,rfl⟩
       have H:((some (List.set y102 x56.toNat (rd x23 x26):List Int)).bind fun y106=>((slices_partitionEqualOrdered_rune.l0 k57 (wrap64 (x26+1)) (wrap64 (x56 - 1)) y106 a1 l0)))=some (r1,r2):=by rw[hy102];exact HH.out
       replace HH:=za H
       clear H
       have NYy102:=za hy102
       clear hy102
       go_wp2_with (((with_reducible refine gate_store (t:=21) (p:=77) rfl ?_);(try(refine gate_guard (by rfl) ?_;dsimp only));refine MW.ev_set1 (n:=l0.length) B_ rfl rfl _ _ _ rfl 21 x26 x23 (rd x23 x56) (fun k_=>True∧(some k_=((.slice (some ad7) l0.length c0):Value).ownBlock∨w.heap.size≤k_)) (by rfl) (by rfl) (by kernel_rfl) HN20.out (of_decide_eq_true (by first|(with_reducible assumption)|assumption)) (of_decide_eq_true (by first|(with_reducible assumption)|assumption)) HB.out ?_;intro w103 hn1 hb1 hg1);refine stop_ ?_)
       refine zg ?_
       replace HFfr:=za (Kd.F_grown (ok:=(fun k_=>True∧some k_≠((.slice (some ad7) l0.length c0):Value).ownBlock)) HFfr.out hg1 (fun k_ hk_=>hk_.2))
       replace HB:=za hb1
       clear HN20
       have HN104:=za (by rw[NYy102.out];exact hn1:Kd.N (Kd.int .i32) 21 w103 B_ (fun k_=>True∧(some k_=((.slice (some ad7) l0.length c0):Value).ownBlock∨w.heap.size≤k_)) (.slice (some ad7) l0.length c0) y102)
       clear hn1 hb1 hg1
       clear hx95_0 p95 q95 hx101_0 p101 q101
       have p105:0≤(x56:Int):=of_decide_eq_true (by first|(with_reducible assumption)|assumption)
       have q105:x56<(l0.length:Int):=of_decide_eq_true (by first|(with_reducible assumption)|assumption)
       obtain⟨ad105,e105,hx105_0⟩:=Kd.at_int (Kd.F_now (Kd.N_F HN104.out)) x56 p105 q105
       cases e105
       replace p105:=eq_true p105
       replace q105:=eq_true q105
       obtain⟨y106,hy106⟩:∃ y_:List Int,y_=(List.set y102 x56.toNat (rd x23 x26)):=⟨_,rfl⟩
       have H:((slices_partitionEqualOrdered_rune.l0 k57 (wrap64 (x26+1)) (wrap64 (x56 - 1)) y106 a1 l0))=some (r1,r2):=by rw[hy106];exact HH.out
       replace HH:=za H
       clear H
       have NYy106:=za hy106
       clear hy106
       go_wp2_with (((with_reducible refine gate_store (t:=21) (p:=78) rfl ?_);(try(refine gate_guard (by rfl) ?_;dsimp only));refine MW.ev_set1 (n:=l0.length) B_ rfl rfl _ _ _ rfl 21 x56 y102 (rd x23 x26) (fun k_=>True∧(some k_=((.slice (some ad7) l0.length c0):Value).ownBlock∨w.heap.size≤k_)) (by rfl) (by rfl) (by kernel_rfl) HN104.out (of_decide_eq_true (by first|(with_reducible assumption)|assumption)) (of_decide_eq_true (by first|(with_reducible assumption)|assumption)) HB.out ?_;intro w107 hn1 hb1 hg1);refine stop_ ?_)
       refine zg ?_
       replace HFfr:=za (Kd.F_grown (ok:=(fun k_=>True∧some k_≠((.slice (some ad7) l0.length c0):Value).ownBlock)) HFfr.out hg1 (fun k_ hk_=>hk_.2))
       replace HB:=za hb1
       clear HN104
       have HN108:=za (by rw[NYy106.out];exact hn1:Kd.N (Kd.int .i32) 21 w107 B_ (fun k_=>True∧(some k_=((.slice (some ad7) l0.length c0):Value).ownBlock∨w.heap.size≤k_)) (.slice (some ad7) l0.length c0) y106)
       clear hn1 hb1 hg1
       clear hx105_0 p105 q105
       go_wp2
       go_roundg k57
       case measure=>have:=HK0.out;have:=HK1.out;have:=HK2.out;omega
       case rel=>exact⟨wrap64 (x26+1),wrap64 (x56 - 1),y106,(by first|rfl|(simp;done)|(simp[*];done)),(by first|rfl|(simp;done)|(simp[*];done)),HH,⟨by have:=HK0.out;have:=HK1.out;have:=HK2.out;omega⟩,⟨HFfr.out⟩,⟨(Kd.N_mono (ok:=(fun k_=>True∧(some k_=((.slice (some ad7) l0.length c0):Value).ownBlock∨w.heap.size≤k_))) HN108.out (fun k_ hk_=>hk_))⟩,⟨HB.out⟩⟩
end Go.Proofs.Ytcokpnajkkjclaa.GA
