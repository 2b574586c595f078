import Derived.Test.YtcokpnajkkjclaaGA0
import Derived.Test.YtcokpnajkkjclaaGAF47
import Derived.Test.YtcokpnajkkjclaaMQ
namespace Go.Proofs.Ytcokpnajkkjclaa.GA
open Go.RowKit Go.Proofs.Ytcokpnajkkjclaa Go.Proofs.Ytcokpnajkkjclaa.MW Go.Proofs.YtcokpnajkkjclaaW.PrintWords Go.Proofs.YtcokpnajkkjclaaW.PrintLast Go.Proofs.YtcokpnajkkjclaaW.PrintMore
attribute [local go_sem] max2_int min2_int max_two min_two
set_option maxHeartbeats 8000000
set_option maxRecDepth 100000
set_option linter.unusedVariables false
set_option linter.unusedSimpArgs false
mutual
def slices_heapSortOrdered_rune.l0:Nat→Int→(List Int)→Int→Int→(List Int)→Option (List Int)
 |0,_,_,_,_,_=>none
 |k+1,x1,x2,a1,a2,l0=>if x1≥0 then((slices_siftDownOrdered_rune.f k x2 x1 (wrap64 (a2 - a1)) a1).bind fun y7=>((slices_heapSortOrdered_rune.l0 k (wrap64 (x1 - 1)) y7 a1 a2 l0))) else((slices_heapSortOrdered_rune.l1 k (wrap64 ((wrap64 (a2 - a1)) - 1)) x2 a1 l0))
def slices_heapSortOrdered_rune.l1:Nat→Int→(List Int)→Int→(List Int)→Option (List Int)
 |0,_,_,_,_=>none
 |k+1,x13,x14,a1,l0=>if x13≥0 then(if 0≤(wrap64 (a1+x13)) then(if (wrap64 (a1+x13))<(l0.length:Int) then(if 0≤a1 then(if a1<(l0.length:Int) then((some (List.set x14 a1.toNat (rd x14 (wrap64 (a1+x13))):List Int)).bind fun y32=>((some (List.set y32 (wrap64 (a1+x13)).toNat (rd x14 a1):List Int)).bind fun y36=>((slices_siftDownOrdered_rune.f k y36 0 x13 a1).bind fun y39=>((slices_heapSortOrdered_rune.l1 k (wrap64 (x13 - 1)) y39 a1 l0))))) else(none)) else(none)) else(none)) else(none)) else(some x14)
end
def slices_heapSortOrdered_rune.f (k:Nat) (l0:List Int) (a1:Int) (a2:Int):Option (List Int):=(slices_heapSortOrdered_rune.l0 k (wrap64 (Int.tdiv (wrap64 ((wrap64 (a2 - a1)) - 1)) 2)) l0 a1 a2 l0)
theorem slices_heapSortOrdered_rune.mono_l:∀ k,(∀ y0 y1 y2 y3 y4,LeO (slices_heapSortOrdered_rune.l0 k y0 y1 y2 y3 y4) (slices_heapSortOrdered_rune.l0 (k+1) y0 y1 y2 y3 y4))∧(∀ y0 y1 y2 y3,LeO (slices_heapSortOrdered_rune.l1 k y0 y1 y2 y3) (slices_heapSortOrdered_rune.l1 (k+1) y0 y1 y2 y3))
 |0=>⟨fun _ _ _ _ _ r h=>by simp[slices_heapSortOrdered_rune.l0] at h,fun _ _ _ _ r h=>by simp[slices_heapSortOrdered_rune.l1] at h⟩
 |k+1=>by
  obtain⟨ih0,ih1⟩:=slices_heapSortOrdered_rune.mono_l k
  refine⟨?_,?_⟩
  ·intro y0 y1 y2 y3 y4
   unfold slices_heapSortOrdered_rune.l0
   with_reducible repeat' first|exact ih0 _ _ _ _ _|exact ih1 _ _ _ _|exact slices_siftDownOrdered_rune.mono _ _ _ _ _|exact LeO.refl _|exact LeO.none _|refine LeO.ite ?_ ?_|refine LeO.bind ?_ (fun _=>?_)
  intro y0 y1 y2 y3
  unfold slices_heapSortOrdered_rune.l1
  with_reducible repeat' first|exact ih0 _ _ _ _ _|exact ih1 _ _ _ _|exact slices_siftDownOrdered_rune.mono _ _ _ _ _|exact LeO.refl _|exact LeO.none _|refine LeO.ite ?_ ?_|refine LeO.bind ?_ (fun _=>?_)
theorem slices_heapSortOrdered_rune.mono:∀ a0_ a1_ a2_ k,LeO (slices_heapSortOrdered_rune.f k a0_ a1_ a2_) (slices_heapSortOrdered_rune.f (k+1) a0_ a1_ a2_):=by
 intro a0_ a1_ a2_ k
 obtain⟨ih0,ih1⟩:=slices_heapSortOrdered_rune.mono_l k
 unfold slices_heapSortOrdered_rune.f
 with_reducible repeat' first|exact ih0 _ _ _ _ _|exact ih1 _ _ _ _|exact slices_siftDownOrdered_rune.mono _ _ _ _ _|exact LeO.refl _|exact LeO.none _|refine LeO.ite ?_ ?_|refine LeO.bind ?_ (fun _=>?_)
theorem slices_heapSortOrdered_rune.calls (k:Nat) (B_:Nat) (A0:Option Addr) (c0:Nat) (l0:List Int) (a1:Int) (a2:Int) (r:List Int) (w:World) (hB0:B_≤w.heap.size) (hn0:Kd.N (Kd.int .i32) 21 w B_ (fun k_=>some k_=((.slice A0 l0.length c0):Value).ownBlock) (.slice A0 l0.length c0) l0) (h:slices_heapSortOrdered_rune.f k l0 a1 a2=some r):
  Calls Try.prog 37 #[(.slice A0 l0.length c0),.int .i64 a1,.int .i64 a2] w (fun e w'=>e=.returned (.tuple #[])∧Kd.N (Kd.int .i32) 21 w' B_ (fun k_=>some k_=((.slice A0 l0.length c0):Value).ownBlock∨w.heap.size≤k_) (.slice A0 l0.length c0) r∧(∀ k_:Nat,some k_≠((.slice A0 l0.length c0):Value).ownBlock→k_<w.heap.size→w'.heap[k_]? =w.heap[k_]?)∧Below B_ w w'):=by
 unfold slices_heapSortOrdered_rune.f at h
 have HH:=za h
 clear h
 obtain⟨P0_,HPO⟩:∃ P0_:Nat→Prop,P0_=(fun k_=>some k_≠((.slice A0 l0.length c0):Value).ownBlock):=⟨_,rfl⟩
 have HFfr:=za (MB.frK_new w (fun k_ hk_=>by rw[HPO] at hk_;exact⟨trivial,hk_⟩):Kd.F (MB.frK w P0_) w (fun k_=>True∧some k_≠((.slice A0 l0.length c0):Value).ownBlock) (some ⟨0,0,none⟩) [()].length [()])
 replace HPO:=za HPO
 have hB_:=za hB0
 have HN0:=za (Kd.N_mono hn0 (fun k_ hk_=>⟨trivial,.inl hk_⟩):Kd.N (Kd.int .i32) 21 w B_ (fun k_=>True∧(some k_=((.slice A0 l0.length c0):Value).ownBlock∨w.heap.size≤k_)) (.slice A0 l0.length c0) l0)
 clear hn0
 have HB:=za (Below.refl B_ w)
 go_enter Try.func37,Try.ntmps37
 go_wp2
 go_loopg [9] k (fun kq u9 w'=>∃ (x1:Int) (x2:List Int),u9=.int .i64 x1∧Aside0 ((slices_heapSortOrdered_rune.l0 kq x1 x2 a1 a2 l0)=some r)∧Aside0 (kq≤k)∧Aside0 (Kd.F (MB.frK w P0_) w' (fun k_=>True∧some k_≠((.slice A0 l0.length c0):Value).ownBlock) (some ⟨0,0,none⟩) [()].length [()])∧Aside0 (Kd.N (Kd.int .i32) 21 w' B_ (fun k_=>True∧(some k_=((.slice A0 l0.length c0):Value).ownBlock∨w.heap.size≤k_)) (.slice A0 l0.length c0) x2)∧Aside0 (Below B_ w w'))
 case atStart=>exact⟨wrap64 (Int.tdiv (wrap64 ((wrap64 (a2 - a1)) - 1)) 2),l0,(by first|rfl|(simp;done)|(simp[*];done)),HH,⟨Nat.le_refl _⟩,⟨HFfr.out⟩,⟨(Kd.N_mono (ok:=(fun k_=>True∧(some k_=((.slice A0 l0.length c0):Value).ownBlock∨w.heap.size≤k_))) HN0.out (fun k_ hk_=>hk_))⟩,⟨HB.out⟩⟩
 case round=>
  clear HH
  clear HFfr HN0 HB
  obtain⟨x1,x2,rfl,HA,HK0,HFfr,HN0,HB⟩:=hrel
  obtain⟨w4,rfl⟩:∃ wo_:World,wo_=wr:=⟨_,rfl⟩
  cases gk with
  |zero=>exact absurd HA.out (by simp[slices_heapSortOrdered_rune.l0])
  |succ k3=>
   have H:=HA.out
   clear HA
   simp only[slices_heapSortOrdered_rune.l0] at H
   have HH:=za H
   clear H
   replace HH:=zqG HH
   rcases HH with⟨HH,hk6⟩|⟨HH,hk12⟩
   ·replace HH:=zd HH
    obtain⟨y7,At8,HH⟩:=HH
    have LEhq9:=MQ.N_len HN0.out
    have hq9:=slices_siftDownOrdered_rune.calls k3 B_ A0 c0 x2 x1 (wrap64 (a2 - a1)) a1 y7 w4 (Nat.le_trans hB_.out (MB.bsize (a:=B_) HB.out)) (MB.N_only (by rw[LEhq9];exact HN0.out:Kd.N (Kd.int .i32) 21 _ B_ (fun k_=>True∧(some k_=((.slice A0 l0.length c0):Value).ownBlock∨w.heap.size≤k_)) (.slice A0 x2.length c0) x2)) At8.out
    rw[LEhq9] at hq9
    clear LEhq9
    go_wp2_with (((with_reducible refine gc 47 rfl ?_);refine zc 47 (some 26) Try.func47 #[(.slice A0 l0.length c0),.int .i64 x1,.int .i64 (wrap64 (a2 - a1)),.int .i64 a1] (h:=?_);refine(hq9).mono ?_;rintro e w10 ⟨rfl,hn1,hfr,hb⟩;refine⟨_,rfl,?_⟩);replace hn1:=za hn1;replace hfr:=za hfr)
    refine zg ?_
    replace hn1:=hn1.out
    replace hfr:=hfr.out
    clear hq9
    replace HFfr:=za (Kd.F_step (ok:=(fun k_=>True∧some k_≠((.slice A0 l0.length c0):Value).ownBlock)) HFfr.out (fun k_ hk_ hlt_=>hfr k_ (hk_.2) hlt_))
    have HN11:=za (Kd.N_mono hn1 (fun k_ hk_=>hk_.elim (fun h_=>HN0.out.1 k_ h_.symm) (fun h_=>⟨trivial,(.inr (Nat.le_trans (MB.bsize (a:=B_) HB.out) h_))⟩)):Kd.N (Kd.int .i32) 21 w10 B_ (fun k_=>True∧(some k_=((.slice A0 l0.length c0):Value).ownBlock∨w.heap.size≤k_)) (.slice A0 l0.length c0) y7)
    replace HB:=za (Below.trans HB.out hb)
    clear HN0 hn1 hfr hb
    go_wp2
    go_roundg k3
    case measure=>have:=HK0.out;omega
    case rel=>exact⟨wrap64 (x1 - 1),y7,(by first|rfl|(simp;done)|(simp[*];done)),HH,⟨by have:=HK0.out;omega⟩,⟨HFfr.out⟩,⟨(Kd.N_mono (ok:=(fun k_=>True∧(some k_=((.slice A0 l0.length c0):Value).ownBlock∨w.heap.size≤k_))) HN11.out (fun k_ hk_=>hk_))⟩,⟨HB.out⟩⟩
   go_wp2
   go_loopg [10] k3 (fun kq u10 w'=>∃ (x13:Int) (x14:List Int),u10=.int .i64 x13∧Aside0 ((slices_heapSortOrdered_rune.l1 kq x13 x14 a1 l0)=some r)∧Aside0 (kq≤k3)∧Aside0 (Kd.F (MB.frK w P0_) w' (fun k_=>True∧some k_≠((.slice A0 l0.length c0):Value).ownBlock) (some ⟨0,0,none⟩) [()].length [()])∧Aside0 (Kd.N (Kd.int .i32) 21 w' B_ (fun k_=>True∧(some k_=((.slice A0 l0.length c0):Value).ownBlock∨w.heap.size≤k_)) (.slice A0 l0.length c0) x14)∧Aside0 (Below B_ w w'))
   case atStart=>exact⟨wrap64 ((wrap64 (a2 - a1)) - 1),x2,(by first|rfl|(simp;done)|(simp[*];done)),HH,⟨Nat.le_refl _⟩,⟨HFfr.out⟩,⟨(Kd.N_mono (ok:=(fun k_=>True∧(some k_=((.slice A0 l0.length c0):Value).ownBlock∨w.heap.size≤k_))) HN0.out (fun k_ hk_=>hk_))⟩,⟨HB.out⟩⟩
   case round=>
    clear hk12
    clear HH
    clear HFfr HN0 HB
    obtain⟨x13,x14,rfl,HA,HK1,HFfr,HN0,HB⟩:=hrel
    obtain⟨w16,rfl⟩:∃ wo_:World,wo_=wr:=⟨_,rfl⟩
    cases gk with
    |zero=>exact absurd HA.out (by simp[slices_heapSortOrdered_rune.l1])
    |succ k15=>
     have H:=HA.out
     clear HA
     simp only[slices_heapSortOrdered_rune.l1] at H
     have HH:=za H
     clear H
     replace HH:=zqG HH
     rcases HH with⟨HH,hk18⟩|⟨HH,hk50⟩
     ·go_wp2
      have hwr_:∀ n_:Int,IntKind.i64.wrap n_=wrap64 n_:=fun n_=>IntWalk.i64_left n_
      refine wp_region_any (by kernel_rfl) ?_
      change wpAny _ _ _ _ 20 #[false,false,false,false,false,false,false,false,false,false,false,false,false,false,false,false,false,false,false,false] _ w16.drew
      obtain⟨w19,hw_⟩:∃ w_:World,w_=w16.drew:=⟨_,rfl⟩
      rw[← hw_]
      have hb:Below w16.heap.size w16 w19:=by rw[hw_];exact below_drew1 (Below.refl _ _)
      clear hw_
      replace HFfr:=zfb HFfr.out hb
      replace HN0:=znb HN0.out hb
      replace HB:=za (MB.below_stepB hB_.out HB.out hb)
      clear hb
      refine zt 0 ((.slice A0 l0.length c0)) #[_,_,_,_,_,_,_,_,_,_,_,_,_,_,_,_,_,_,_,_] ⟨[_,_,_,_,_,_,_,_,_,_,_,_,_,_,_,_,_,_,_,_,_,_,_,_,_,_,_,_,_,_,_,_,_,_,_,_,_,_,_,_,_,_,_,_,_,_,_,_,_,_,_,_,_,_,_,_].toArray,[]⟩ (h:=?_)
      refine zt 1 (.int .i64 a1) #[_,_,_,_,_,_,_,_,_,_,_,_,_,_,_,_,_,_,_,_] ⟨[_,_,_,_,_,_,_,_,_,_,_,_,_,_,_,_,_,_,_,_,_,_,_,_,_,_,_,_,_,_,_,_,_,_,_,_,_,_,_,_,_,_,_,_,_,_,_,_,_,_,_,_,_,_,_,_].toArray,[]⟩ (h:=?_)
      refine zt 2 ((.slice A0 l0.length c0)) #[_,_,_,_,_,_,_,_,_,_,_,_,_,_,_,_,_,_,_,_] ⟨[_,_,_,_,_,_,_,_,_,_,_,_,_,_,_,_,_,_,_,_,_,_,_,_,_,_,_,_,_,_,_,_,_,_,_,_,_,_,_,_,_,_,_,_,_,_,_,_,_,_,_,_,_,_,_,_].toArray,[]⟩ (h:=?_)
      refine zt 3 (.int .i64 a1) #[_,_,_,_,_,_,_,_,_,_,_,_,_,_,_,_,_,_,_,_] ⟨[_,_,_,_,_,_,_,_,_,_,_,_,_,_,_,_,_,_,_,_,_,_,_,_,_,_,_,_,_,_,_,_,_,_,_,_,_,_,_,_,_,_,_,_,_,_,_,_,_,_,_,_,_,_,_,_].toArray,[]⟩ (h:=?_)
      refine zt 4 (.int .i64 x13) #[_,_,_,_,_,_,_,_,_,_,_,_,_,_,_,_,_,_,_,_] ⟨[_,_,_,_,_,_,_,_,_,_,_,_,_,_,_,_,_,_,_,_,_,_,_,_,_,_,_,_,_,_,_,_,_,_,_,_,_,_,_,_,_,_,_,_,_,_,_,_,_,_,_,_,_,_,_,_].toArray,[]⟩ (h:=?_)
      refine zt 5 (.int .i64 (wrap64 (a1+x13))) #[_,_,_,_,_,_,_,_,_,_,_,_,_,_,_,_,_,_,_,_] ⟨[_,_,_,_,_,_,_,_,_,_,_,_,_,_,_,_,_,_,_,_,_,_,_,_,_,_,_,_,_,_,_,_,_,_,_,_,_,_,_,_,_,_,_,_,_,_,_,_,_,_,_,_,_,_,_,_].toArray,[]⟩ (h:=?_)
      refine zt 6 ((.slice A0 l0.length c0)) #[_,_,_,_,_,_,_,_,_,_,_,_,_,_,_,_,_,_,_,_] ⟨[_,_,_,_,_,_,_,_,_,_,_,_,_,_,_,_,_,_,_,_,_,_,_,_,_,_,_,_,_,_,_,_,_,_,_,_,_,_,_,_,_,_,_,_,_,_,_,_,_,_,_,_,_,_,_,_].toArray,[]⟩ (h:=?_)
      refine zt 7 (.int .i64 a1) #[_,_,_,_,_,_,_,_,_,_,_,_,_,_,_,_,_,_,_,_] ⟨[_,_,_,_,_,_,_,_,_,_,_,_,_,_,_,_,_,_,_,_,_,_,_,_,_,_,_,_,_,_,_,_,_,_,_,_,_,_,_,_,_,_,_,_,_,_,_,_,_,_,_,_,_,_,_,_].toArray,[]⟩ (h:=?_)
      refine zt 8 (.int .i64 x13) #[_,_,_,_,_,_,_,_,_,_,_,_,_,_,_,_,_,_,_,_] ⟨[_,_,_,_,_,_,_,_,_,_,_,_,_,_,_,_,_,_,_,_,_,_,_,_,_,_,_,_,_,_,_,_,_,_,_,_,_,_,_,_,_,_,_,_,_,_,_,_,_,_,_,_,_,_,_,_].toArray,[]⟩ (h:=?_)
      refine zt 9 (.int .i64 (wrap64 (a1+x13))) #[_,_,_,_,_,_,_,_,_,_,_,_,_,_,_,_,_,_,_,_] ⟨[_,_,_,_,_,_,_,_,_,_,_,_,_,_,_,_,_,_,_,_,_,_,_,_,_,_,_,_,_,_,_,_,_,_,_,_,_,_,_,_,_,_,_,_,_,_,_,_,_,_,_,_,_,_,_,_].toArray,[]⟩ (h:=?_)
      replace HH:=zqdo HH
      obtain⟨HH,hk21⟩:=HH
      (try simp only[hk21,Bool.not_true,Bool.not_false])
      replace HH:=zqto HH
      obtain⟨HH,hk23,hk24⟩:=HH
      (try simp only[hk23,Bool.not_true,Bool.not_false])
      (try simp only[hk24,Bool.not_true,Bool.not_false])
      have p25:0≤((wrap64 (a1+x13)):Int):=of_decide_eq_true (by first|(with_reducible assumption)|assumption)
      have q25:(wrap64 (a1+x13))<(l0.length:Int):=of_decide_eq_true (by first|(with_reducible assumption)|assumption)
      obtain⟨ad25,e25,hx25_0⟩:=Kd.at_int (Kd.F_now (Kd.N_F HN0.out)) (wrap64 (a1+x13)) p25 q25
      cases e25
      replace p25:=eq_true p25
      replace q25:=eq_true q25
      refine zt 10 (.pointer (some (ad25.add ((wrap64 (a1+x13)).toNat)))) #[_,_,_,_,_,_,_,_,_,_,_,_,_,_,_,_,_,_,_,_] ⟨[_,_,_,_,_,_,_,_,_,_,_,_,_,_,_,_,_,_,_,_,_,_,_,_,_,_,_,_,_,_,_,_,_,_,_,_,_,_,_,_,_,_,_,_,_,_,_,_,_,_,_,_,_,_,_,_].toArray,[]⟩ (h:=?_)
      refine zt 12 ((.slice (some ad25) l0.length c0)) #[_,_,_,_,_,_,_,_,_,_,_,_,_,_,_,_,_,_,_,_] ⟨[_,_,_,_,_,_,_,_,_,_,_,_,_,_,_,_,_,_,_,_,_,_,_,_,_,_,_,_,_,_,_,_,_,_,_,_,_,_,_,_,_,_,_,_,_,_,_,_,_,_,_,_,_,_,_,_].toArray,[]⟩ (h:=?_)
      refine zt 13 (.int .i64 a1) #[_,_,_,_,_,_,_,_,_,_,_,_,_,_,_,_,_,_,_,_] ⟨[_,_,_,_,_,_,_,_,_,_,_,_,_,_,_,_,_,_,_,_,_,_,_,_,_,_,_,_,_,_,_,_,_,_,_,_,_,_,_,_,_,_,_,_,_,_,_,_,_,_,_,_,_,_,_,_].toArray,[]⟩ (h:=?_)
      replace HH:=zqdo HH
      obtain⟨HH,hk27⟩:=HH
      (try simp only[hk27,Bool.not_true,Bool.not_false])
      replace HH:=zqto HH
      obtain⟨HH,hk29,hk30⟩:=HH
      (try simp only[hk29,Bool.not_true,Bool.not_false])
      (try simp only[hk30,Bool.not_true,Bool.not_false])
      have p31:0≤(a1:Int):=of_decide_eq_true (by first|(with_reducible assumption)|assumption)
      have q31:a1<(l0.length:Int):=of_decide_eq_true (by first|(with_reducible assumption)|assumption)
      obtain⟨ad31,e31,hx31_0⟩:=Kd.at_int (Kd.F_now (Kd.N_F HN0.out)) a1 p31 q31
      cases e31
      replace p31:=eq_true p31
      replace q31:=eq_true q31
      refine zt 14 (.pointer (some (ad25.add (a1.toNat)))) #[_,_,_,_,_,_,_,_,_,_,_,_,_,_,_,_,_,_,_,_] ⟨[_,_,_,_,_,_,_,_,_,_,_,_,_,_,_,_,_,_,_,_,_,_,_,_,_,_,_,_,_,_,_,_,_,_,_,_,_,_,_,_,_,_,_,_,_,_,_,_,_,_,_,_,_,_,_,_].toArray,[]⟩ (h:=?_)
      refine MW.any_two (i:=11) (j:=15) (vi:=.int .i32 (rd x14 (wrap64 (a1+x13)))) (vj:=.int .i32 (rd x14 a1)) #[true,true,true,true,true,true,true,true,true,true,true,true,true,true,true,true,false,false,false,false] ⟨[(.slice (some ad25) l0.length c0),(.int .i64 a1),(.int .i64 a2),undef,undef,undef,(.int .i64 a1),(.int .i64 0),(.int .i64 (wrap64 (a2 - a1))),(.int .i64 x1),(.int .i64 x13),(.int .i64 a1),(.int .i64 a2),(.int .i64 a1),(.int .i64 (wrap64 (a2 - a1))),(.int .i64 (wrap64 (a2 - a1))),(.int .i64 (wrap64 ((wrap64 (a2 - a1)) - 1))),(.int .i64 (wrap64 (Int.tdiv (wrap64 ((wrap64 (a2 - a1)) - 1)) 2))),(.int .i64 x1),(.bool false),u20,u21,u22,u23,u24,u25,u26,(.int .i64 (wrap64 (a2 - a1))),(.int .i64 (wrap64 ((wrap64 (a2 - a1)) - 1))),(.int .i64 x13),(.bool true),u31,u32,(.slice (some ad25) l0.length c0),(.int .i64 a1),(.slice (some ad25) l0.length c0),(.int .i64 a1),(.int .i64 x13),(.int .i64 (wrap64 (a1+x13))),(.slice (some ad25) l0.length c0),(.int .i64 a1),(.int .i64 x13),(.int .i64 (wrap64 (a1+x13))),(.pointer (some (ad25.add ((wrap64 (a1+x13)).toNat)))),(.int .i32 (rd x14 (wrap64 (a1+x13)))),(.slice (some ad25) l0.length c0),(.int .i64 a1),(.pointer (some (ad25.add (a1.toNat)))),(.int .i32 (rd x14 a1)),u49,u50,u51,u52,u53,u54,u55].toArray,[]⟩ (by decide) rfl rfl (by kernel_rfl) (by kernel_rfl) (by kernel_rfl) (by kernel_rfl) (by kernel_rfl) (by first|rfl|(go_simp;done)|(go_simp;rfl)) (by first|rfl|(go_simp;done)|(go_simp;rfl)) (by first|rfl|(go_simp;done)|(go_simp;rfl)) (by first|rfl|(go_simp;done)|(go_simp;rfl)) (by kernel_rfl) (by kernel_rfl) (by kernel_rfl) (by kernel_rfl) (by kernel_rfl) (by kernel_rfl) ?_
      refine zt 16 (.pointer (some (ad25.add (a1.toNat)))) #[_,_,_,_,_,_,_,_,_,_,_,_,_,_,_,_,_,_,_,_] ⟨[_,_,_,_,_,_,_,_,_,_,_,_,_,_,_,_,_,_,_,_,_,_,_,_,_,_,_,_,_,_,_,_,_,_,_,_,_,_,_,_,_,_,_,_,_,_,_,_,_,_,_,_,_,_,_,_].toArray,[]⟩ (h:=?_)
      refine MW.any_seq 17 3 rfl (by kernel_rfl) ?_
      simp only[List.drop_succ_cons,List.drop_zero]
      clear hwr_
      obtain⟨y32,hy32⟩:∃ y_:List Int,y_=(List.set x14 a1.toNat (rd x14 (wrap64 (a1+x13)))):=⟨_,rfl⟩
      have H:((some (List.set y32 (wrap64 (a1+x13)).toNat (rd x14 a1):List Int)).bind fun y36=>((slices_siftDownOrdered_rune.f k15 y36 0 x13 a1).bind fun y39=>((slices_heapSortOrdered_rune.l1 k15 (wrap64 (x13 - 1)) y39 a1 l0))))=some r:=by rw[hy32];exact HH.out
      replace HH:=za H
      clear H
      have NYy32:=za hy32
      clear hy32
      go_wp2_with (((with_reducible refine gate_store (t:=21) (p:=49) rfl ?_);(try(refine gate_guard (by rfl) ?_;dsimp only));refine MW.ev_set1 (n:=l0.length) B_ rfl rfl _ _ _ rfl 21 a1 x14 (rd x14 (wrap64 (a1+x13))) (fun k_=>True∧(some k_=((.slice (some ad25) l0.length c0):Value).ownBlock∨w.heap.size≤k_)) (by rfl) (by rfl) (by kernel_rfl) HN0.out (of_decide_eq_true (by first|(with_reducible assumption)|assumption)) (of_decide_eq_true (by first|(with_reducible assumption)|assumption)) HB.out ?_;intro w33 hn1 hb1 hg1);refine stop_ ?_)
      refine zg ?_
      replace HFfr:=za (Kd.F_grown (ok:=(fun k_=>True∧some k_≠((.slice (some ad25) l0.length c0):Value).ownBlock)) HFfr.out hg1 (fun k_ hk_=>hk_.2))
      replace HB:=za hb1
      clear HN0
      have HN34:=za (by rw[NYy32.out];exact hn1:Kd.N (Kd.int .i32) 21 w33 B_ (fun k_=>True∧(some k_=((.slice (some ad25) l0.length c0):Value).ownBlock∨w.heap.size≤k_)) (.slice (some ad25) l0.length c0) y32)
      clear hn1 hb1 hg1
      clear hx25_0 p25 q25 hx31_0 p31 q31
      have p35:0≤((wrap64 (a1+x13)):Int):=of_decide_eq_true (by first|(with_reducible assumption)|assumption)
      have q35:(wrap64 (a1+x13))<(l0.length:Int):=of_decide_eq_true (by first|(with_reducible assumption)|assumption)
      obtain⟨ad35,e35,hx35_0⟩:=Kd.at_int (Kd.F_now (Kd.N_F HN34.out)) (wrap64 (a1+x13)) p35 q35
      cases e35
      replace p35:=eq_true p35
      replace q35:=eq_true q35
      obtain⟨y36,hy36⟩:∃ y_:List Int,y_=(List.set y32 (wrap64 (a1+x13)).toNat (rd x14 a1)):=⟨_,rfl⟩
      have H:((slices_siftDownOrdered_rune.f k15 y36 0 x13 a1).bind fun y39=>((slices_heapSortOrdered_rune.l1 k15 (wrap64 (x13 - 1)) y39 a1 l0)))=some r:=by rw[hy36];exact HH.out
      replace HH:=za H
      clear H
      have NYy36:=za hy36
      clear hy36
      go_wp2_with (((with_reducible refine gate_store (t:=21) (p:=50) rfl ?_);(try(refine gate_guard (by rfl) ?_;dsimp only));refine MW.ev_set1 (n:=l0.length) B_ rfl rfl _ _ _ rfl 21 (wrap64 (a1+x13)) y32 (rd x14 a1) (fun k_=>True∧(some k_=((.slice (some ad25) l0.length c0):Value).ownBlock∨w.heap.size≤k_)) (by rfl) (by rfl) (by kernel_rfl) HN34.out (of_decide_eq_true (by first|(with_reducible assumption)|assumption)) (of_decide_eq_true (by first|(with_reducible assumption)|assumption)) HB.out ?_;intro w37 hn1 hb1 hg1);refine stop_ ?_)
      refine zg ?_
      replace HFfr:=za (Kd.F_grown (ok:=(fun k_=>True∧some k_≠((.slice (some ad25) l0.length c0):Value).ownBlock)) HFfr.out hg1 (fun k_ hk_=>hk_.2))
      replace HB:=za hb1
      clear HN34
      have HN38:=za (by rw[NYy36.out];exact hn1:Kd.N (Kd.int .i32) 21 w37 B_ (fun k_=>True∧(some k_=((.slice (some ad25) l0.length c0):Value).ownBlock∨w.heap.size≤k_)) (.slice (some ad25) l0.length c0) y36)
      clear hn1 hb1 hg1
      clear hx35_0 p35 q35
      replace HH:=zd HH
      obtain⟨y39,At40,HH⟩:=HH
      have LEhq41:=MQ.N_len HN38.out
      have hq41:=slices_siftDownOrdered_rune.calls k15 B_ (some ad25) c0 y36 0 x13 a1 y39 w37 (Nat.le_trans hB_.out (MB.bsize (a:=B_) HB.out)) (MB.N_only (by rw[LEhq41];exact HN38.out:Kd.N (Kd.int .i32) 21 _ B_ (fun k_=>True∧(some k_=((.slice (some ad25) l0.length c0):Value).ownBlock∨w.heap.size≤k_)) (.slice (some ad25) y36.length c0) y36)) At40.out
      rw[LEhq41] at hq41
      clear LEhq41
      go_wp2_with (((with_reducible refine gc 47 rfl ?_);refine zc 47 (some 55) Try.func47 #[(.slice (some ad25) l0.length c0),.int .i64 0,.int .i64 x13,.int .i64 a1] (h:=?_);refine(hq41).mono ?_;rintro e w42 ⟨rfl,hn1,hfr,hb⟩;refine⟨_,rfl,?_⟩);replace hn1:=za hn1;replace hfr:=za hfr)
      refine zg ?_
      replace hn1:=hn1.out
      replace hfr:=hfr.out
      clear hq41
      replace HFfr:=za (Kd.F_step (ok:=(fun k_=>True∧some k_≠((.slice (some ad25) l0.length c0):Value).ownBlock)) HFfr.out (fun k_ hk_ hlt_=>hfr k_ (hk_.2) hlt_))
      have HN43:=za (Kd.N_mono hn1 (fun k_ hk_=>hk_.elim (fun h_=>HN38.out.1 k_ h_.symm) (fun h_=>⟨trivial,(.inr (Nat.le_trans (MB.bsize (a:=B_) HB.out) h_))⟩)):Kd.N (Kd.int .i32) 21 w42 B_ (fun k_=>True∧(some k_=((.slice (some ad25) l0.length c0):Value).ownBlock∨w.heap.size≤k_)) (.slice (some ad25) l0.length c0) y39)
      replace HB:=za (Below.trans HB.out hb)
      clear HN38 hn1 hfr hb
      go_wp2
      go_roundg k15
      case measure=>have:=HK0.out;have:=HK1.out;omega
      case rel=>exact⟨wrap64 (x13 - 1),y39,(by first|rfl|(simp;done)|(simp[*];done)),HH,⟨by have:=HK0.out;have:=HK1.out;omega⟩,⟨HFfr.out⟩,⟨(Kd.N_mono (ok:=(fun k_=>True∧(some k_=((.slice (some ad25) l0.length c0):Value).ownBlock∨w.heap.size≤k_))) HN43.out (fun k_ hk_=>hk_))⟩,⟨HB.out⟩⟩
     obtain rfl:=Option.some.inj HH.out
     clear HH
     go_wp2
     (first|go_end0|((try simp only[Exit.inBlock,Exit.then]);refine bodyPost_ret (results_none rfl _ _ _) rfl ?_))
     exact⟨by first|rfl|(simp;done)|(simp[*];done),(Kd.N_mono (ok:=(fun k_=>True∧(some k_=((.slice A0 l0.length c0):Value).ownBlock∨w.heap.size≤k_))) HN0.out (fun k_ hk_=>hk_.2)),(fun k_ hv_ hlt_=>MB.frK_out HFfr.out k_ (by rw[HPO.out];exact hv_) hlt_),HB.out⟩
end Go.Proofs.Ytcokpnajkkjclaa.GA
