import Derived.Lib.SlicesCompact
import Derived.Test.YtkbiiijmgbjnkaaGA0
import Derived.Test.YtkbiiijmgbjnkaaGAF66
import Derived.Test.YtkbiiijmgbjnkaaGM1
import Derived.Test.YtkbiiijmgbjnkaaMQ
import Derived.Test.YtkbiiijmgbjnkaaMS
namespace Go.Proofs.Ytkbiiijmgbjnkaa.GA
open Go.RowKit Go.Proofs.Ytkbiiijmgbjnkaa Go.Proofs.Ytkbiiijmgbjnkaa.MW Go.Proofs.YtkbiiijmgbjnkaaW.PrintWords Go.Proofs.YtkbiiijmgbjnkaaW.PrintLast Go.Proofs.YtkbiiijmgbjnkaaW.PrintMore
attribute [local go_sem] max2_int min2_int max_two min_two
set_option maxHeartbeats 8000000
set_option maxRecDepth 100000
set_option linter.unusedVariables false
set_option linter.unusedSimpArgs false
mutual
def slices_heapSortOrdered_rune.l0:Nat→Int→(List Int)→Int→Int→(List Int)→Option (List Int)
 |0,_,_,_,_,_=>none
 |k+1,x1,x2,a1,a2,l0=>if x1≥0 then((slices_siftDownOrdered_rune.f k x2 x1 (wrap64 (a2 - a1)) a1).bind fun y7=>((slices_heapSortOrdered_rune.l0 k (wrap64 (x1 - 1)) y7 a1 a2 l0))) else((slices_heapSortOrdered_rune.l1 k (wrap64 ((wrap64 (a2 - a1)) - 1)) x2 a1 l0))
def slices_heapSortOrdered_rune.l1:Nat→Int→(List Int)→Int→(List Int)→Option (List Int)
 |0,_,_,_,_=>none
 |k+1,x13,x14,a1,l0=>if x13≥0 then(if 0≤(wrap64 (a1+x13)) then(if (wrap64 (a1+x13))<(l0.length:Int) then(if 0≤a1 then(if a1<(l0.length:Int) then((some (List.set x14 a1.toNat (rd x14 (wrap64 (a1+x13))):List Int)).bind fun y32=>((some (List.set y32 (wrap64 (a1+x13)).toNat (rd x14 a1):List Int)).bind fun y36=>((slices_siftDownOrdered_rune.f k y36 0 x13 a1).bind fun y39=>((slices_heapSortOrdered_rune.l1 k (wrap64 (x13 - 1)) y39 a1 l0))))) else(none)) else(none)) else(none)) else(none)) else(some x14)
end
def slices_heapSortOrdered_rune.f (k:Nat) (l0:List Int) (a1:Int) (a2:Int):Option (List Int):=(slices_heapSortOrdered_rune.l0 k (wrap64 (Int.tdiv (wrap64 ((wrap64 (a2 - a1)) - 1)) 2)) l0 a1 a2 l0)
theorem slices_heapSortOrdered_rune.mono_l:∀ k,(∀ y0 y1 y2 y3 y4,LeO (slices_heapSortOrdered_rune.l0 k y0 y1 y2 y3 y4) (slices_heapSortOrdered_rune.l0 (k+1) y0 y1 y2 y3 y4))∧(∀ y0 y1 y2 y3,LeO (slices_heapSortOrdered_rune.l1 k y0 y1 y2 y3) (slices_heapSortOrdered_rune.l1 (k+1) y0 y1 y2 y3))
 |0=>⟨fun _ _ _ _ _ r h=>by simp[slices_heapSortOrdered_rune.l0] at h,fun _ _ _ _ r h=>by simp[slices_heapSortOrdered_rune.l1] at h⟩
 |k+1=>by
  obtain⟨ih0,ih1⟩:=slices_heapSortOrdered_rune.mono_l k
  refine⟨?_,?_⟩
  ·intro y0 y1 y2 y3 y4
   unfold slices_heapSortOrdered_rune.l0
   with_reducible repeat' first|exact ih0 _ _ _ _ _|exact ih1 _ _ _ _|exact slices_siftDownOrdered_rune.mono _ _ _ _ _|exact LeO.refl _|exact LeO.none _|refine LeO.ite ?_ ?_|refine LeO.bind ?_ (fun _=>?_)
  intro y0 y1 y2 y3
  unfold slices_heapSortOrdered_rune.l1
  with_reducible repeat' first|exact ih0 _ _ _ _ _|exact ih1 _ _ _ _|exact slices_siftDownOrdered_rune.mono _ _ _ _ _|exact LeO.refl _|exact LeO.none _|refine LeO.ite ?_ ?_|refine LeO.bind ?_ (fun _=>?_)
theorem slices_heapSortOrdered_rune.mono:∀ a0_ a1_ a2_ k,LeO (slices_heapSortOrdered_rune.f k a0_ a1_ a2_) (slices_heapSortOrdered_rune.f (k+1) a0_ a1_ a2_):=by
 intro a0_ a1_ a2_ k
 obtain⟨ih0,ih1⟩:=slices_heapSortOrdered_rune.mono_l k
 unfold slices_heapSortOrdered_rune.f
 with_reducible repeat' first|exact ih0 _ _ _ _ _|exact ih1 _ _ _ _|exact slices_siftDownOrdered_rune.mono _ _ _ _ _|exact LeO.refl _|exact LeO.none _|refine LeO.ite ?_ ?_|refine LeO.bind ?_ (fun _=>?_)
theorem slices_heapSortOrdered_rune.calls (k:Nat) (B_:Nat) (A0:Option Addr) (c0:Nat) (l0:List Int) (a1:Int) (a2:Int) (r:List Int) (w:World) (hB0:B_≤w.heap.size) (hn0:Kd.N (Kd.int .i32) 21 w B_ (fun k_=>some k_=((.slice A0 l0.length c0):Value).ownBlock) (.slice A0 l0.length c0) l0) (h:slices_heapSortOrdered_rune.f k l0 a1 a2=some r):
  Calls Try.prog 56 #[(.slice A0 l0.length c0),.int .i64 a1,.int .i64 a2] w (fun e w'=>e=.returned (.tuple #[])∧Kd.N (Kd.int .i32) 21 w' B_ (fun k_=>some k_=((.slice A0 l0.length c0):Value).ownBlock∨w.heap.size≤k_) (.slice A0 l0.length c0) r∧(∀ k_:Nat,some k_≠((.slice A0 l0.length c0):Value).ownBlock→k_<w.heap.size→w'.heap[k_]? =w.heap[k_]?)∧Below B_ w w'):=by
 unfold slices_heapSortOrdered_rune.f at h
 have HH:=za h
 clear h
 obtain⟨P0_,HPO⟩:∃ P0_:Nat→Prop,P0_=(fun k_=>some k_≠((.slice A0 l0.length c0):Value).ownBlock):=⟨_,rfl⟩
 have HFfr:=za (MB.frK_new w (fun k_ hk_=>by rw[HPO] at hk_;exact⟨trivial,hk_⟩):Kd.F (MB.frK w P0_) w (fun k_=>True∧some k_≠((.slice A0 l0.length c0):Value).ownBlock) (some ⟨0,0,none⟩) [()].length [()])
 replace HPO:=za HPO
 have hB_:=za hB0
 have HN0:=za (Kd.N_mono hn0 (fun k_ hk_=>⟨trivial,.inl hk_⟩):Kd.N (Kd.int .i32) 21 w B_ (fun k_=>True∧(some k_=((.slice A0 l0.length c0):Value).ownBlock∨w.heap.size≤k_)) (.slice A0 l0.length c0) l0)
 clear hn0
 have HB:=za (Below.refl B_ w)
 go_enter Try.func56,Try.ntmps56
 go_wp2
 go_loopg [9] k (fun kq u9 w'=>∃ (x1:Int) (x2:List Int),u9=.int .i64 x1∧Aside0 ((slices_heapSortOrdered_rune.l0 kq x1 x2 a1 a2 l0)=some r)∧Aside0 (kq≤k)∧Aside0 (Kd.F (MB.frK w P0_) w' (fun k_=>True∧some k_≠((.slice A0 l0.length c0):Value).ownBlock) (some ⟨0,0,none⟩) [()].length [()])∧Aside0 (Kd.N (Kd.int .i32) 21 w' B_ (fun k_=>True∧(some k_=((.slice A0 l0.length c0):Value).ownBlock∨w.heap.size≤k_)) (.slice A0 l0.length c0) x2)∧Aside0 (Below B_ w w'))
 case atStart=>exact⟨wrap64 (Int.tdiv (wrap64 ((wrap64 (a2 - a1)) - 1)) 2),l0,(by first|rfl|(simp;done)|(simp[*];done)),HH,⟨Nat.le_refl _⟩,⟨HFfr.out⟩,⟨(Kd.N_mono (ok:=(fun k_=>True∧(some k_=((.slice A0 l0.length c0):Value).ownBlock∨w.heap.size≤k_))) HN0.out (fun k_ hk_=>hk_))⟩,⟨HB.out⟩⟩
 case round=>
  clear HH
  clear HFfr HN0 HB
  obtain⟨x1,x2,rfl,HA,HK0,HFfr,HN0,HB⟩:=hrel
  obtain⟨w4,rfl⟩:∃ wo_:World,wo_=wr:=⟨_,rfl⟩
  cases gk with
  |zero=>exact absurd HA.out (by simp[slices_heapSortOrdered_rune.l0])
  |succ k3=>
   have H:=HA.out
   clear HA
   simp only[slices_heapSortOrdered_rune.l0] at H
   have HH:=za H
   clear H
   replace HH:=zqG HH
   rcases HH with⟨HH,hk6⟩|⟨HH,hk12⟩
   ·replace HH:=zd HH
    obtain⟨y7,At8,HH⟩:=HH
    have LEhq9:=MQ.N_len HN0.out
    have hq9:=slices_siftDownOrdered_rune.calls k3 B_ A0 c0 x2 x1 (wrap64 (a2 - a1)) a1 y7 w4 (Nat.le_trans hB_.out (MB.bsize (a:=B_) HB.out)) (MB.N_only (by rw[LEhq9];exact HN0.out:Kd.N (Kd.int .i32) 21 _ B_ (fun k_=>True∧(some k_=((.slice A0 l0.length c0):Value).ownBlock∨w.heap.size≤k_)) (.slice A0 x2.length c0) x2)) At8.out
    rw[LEhq9] at hq9
    clear LEhq9
    go_wp2_with (((with_reducible refine gc 66 rfl ?_);refine zc 66 (some 26) Try.func66 #[(.slice A0 l0.length c0),.int .i64 x1,.int .i64 (wrap64 (a2 - a1)),.int .i64 a1] (h:=?_);refine(hq9).mono ?_;rintro e w10 ⟨rfl,hn1,hfr,hb⟩;refine⟨_,rfl,?_⟩);replace hn1:=za hn1;replace hfr:=za hfr)
    refine zg ?_
    replace hn1:=hn1.out
    replace hfr:=hfr.out
    clear hq9
    replace HFfr:=za (Kd.F_step (ok:=(fun k_=>True∧some k_≠((.slice A0 l0.length c0):Value).ownBlock)) HFfr.out (fun k_ hk_ hlt_=>hfr k_ (hk_.2) hlt_))
    have HN11:=za (Kd.N_mono hn1 (fun k_ hk_=>hk_.elim (fun h_=>HN0.out.1 k_ h_.symm) (fun h_=>⟨trivial,(.inr (Nat.le_trans (MB.bsize (a:=B_) HB.out) h_))⟩)):Kd.N (Kd.int .i32) 21 w10 B_ (fun k_=>True∧(some k_=((.slice A0 l0.length c0):Value).ownBlock∨w.heap.size≤k_)) (.slice A0 l0.length c0) y7)
    replace HB:=za (Below.trans HB.out hb)
    clear HN0 hn1 hfr hb
    go_wp2
    go_roundg k3
    case measure=>have:=HK0.out;omega
    case rel=>exact⟨wrap64 (x1 - 1),y7,(by first|rfl|(simp;done)|(simp[*];done)),HH,⟨by have:=HK0.out;omega⟩,⟨HFfr.out⟩,⟨(Kd.N_mono (ok:=(fun k_=>True∧(some k_=((.slice A0 l0.length c0):Value).ownBlock∨w.heap.size≤k_))) HN11.out (fun k_ hk_=>hk_))⟩,⟨HB.out⟩⟩
   go_wp2
   go_loopg [10] k3 (fun kq u10 w'=>∃ (x13:Int) (x14:List Int),u10=.int .i64 x13∧Aside0 ((slices_heapSortOrdered_rune.l1 kq x13 x14 a1 l0)=some r)∧Aside0 (kq≤k3)∧Aside0 (Kd.F (MB.frK w P0_) w' (fun k_=>True∧some k_≠((.slice A0 l0.length c0):Value).ownBlock) (some ⟨0,0,none⟩) [()].length [()])∧Aside0 (Kd.N (Kd.int .i32) 21 w' B_ (fun k_=>True∧(some k_=((.slice A0 l0.length c0):Value).ownBlock∨w.heap.size≤k_)) (.slice A0 l0.length c0) x14)∧Aside0 (Below B_ w w'))
   case atStart=>exact⟨wrap64 ((wrap64 (a2 - a1)) - 1),x2,(by first|rfl|(simp;done)|(simp[*];done)),HH,⟨Nat.le_refl _⟩,⟨HFfr.out⟩,⟨(Kd.N_mono (ok:=(fun k_=>True∧(some k_=((.slice A0 l0.length c0):Value).ownBlock∨w.heap.size≤k_))) HN0.out (fun k_ hk_=>hk_))⟩,⟨HB.out⟩⟩
   case round=>
    clear hk12
    clear HH
    clear HFfr HN0 HB
    obtain⟨x13,x14,rfl,HA,HK1,HFfr,HN0,HB⟩:=hrel
    obtain⟨w16,rfl⟩:∃ wo_:World,wo_=wr:=⟨_,rfl⟩
    cases gk with
    |zero=>exact absurd HA.out (by simp[slices_heapSortOrdered_rune.l1])
    |succ k15=>
     have H:=HA.out
     clear HA
     simp only[slices_heapSortOrdered_rune.l1] at H
     have HH:=za H
     clear H
     replace HH:=zqG HH
     rcases HH with⟨HH,hk18⟩|⟨HH,hk50⟩
     ·go_wp2
      have hwr_:∀ n_:Int,IntKind.i64.wrap n_=wrap64 n_:=fun n_=>IntWalk.i64_left n_
      refine wp_region_any (by kernel_rfl) ?_
      change wpAny _ _ _ _ 20 #[false,false,false,false,false,false,false,false,false,false,false,false,false,false,false,false,false,false,false,false] _ w16.drew
      obtain⟨w19,hw_⟩:∃ w_:World,w_=w16.drew:=⟨_,rfl⟩
      rw[← hw_]
      have hb:Below w16.heap.size w16 w19:=by rw[hw_];exact below_drew1 (Below.refl _ _)
      clear hw_
      replace HFfr:=zfb HFfr.out hb
      replace HN0:=znb HN0.out hb
      replace HB:=za (MB.below_stepB hB_.out HB.out hb)
      clear hb
      refine zt 0 ((.slice A0 l0.length c0)) #[_,_,_,_,_,_,_,_,_,_,_,_,_,_,_,_,_,_,_,_] ⟨[_,_,_,_,_,_,_,_,_,_,_,_,_,_,_,_,_,_,_,_,_,_,_,_,_,_,_,_,_,_,_,_,_,_,_,_,_,_,_,_,_,_,_,_,_,_,_,_,_,_,_,_,_,_,_,_].toArray,[]⟩ (h:=?_)
      refine zt 1 (.int .i64 a1) #[_,_,_,_,_,_,_,_,_,_,_,_,_,_,_,_,_,_,_,_] ⟨[_,_,_,_,_,_,_,_,_,_,_,_,_,_,_,_,_,_,_,_,_,_,_,_,_,_,_,_,_,_,_,_,_,_,_,_,_,_,_,_,_,_,_,_,_,_,_,_,_,_,_,_,_,_,_,_].toArray,[]⟩ (h:=?_)
      refine zt 2 ((.slice A0 l0.length c0)) #[_,_,_,_,_,_,_,_,_,_,_,_,_,_,_,_,_,_,_,_] ⟨[_,_,_,_,_,_,_,_,_,_,_,_,_,_,_,_,_,_,_,_,_,_,_,_,_,_,_,_,_,_,_,_,_,_,_,_,_,_,_,_,_,_,_,_,_,_,_,_,_,_,_,_,_,_,_,_].toArray,[]⟩ (h:=?_)
      refine zt 3 (.int .i64 a1) #[_,_,_,_,_,_,_,_,_,_,_,_,_,_,_,_,_,_,_,_] ⟨[_,_,_,_,_,_,_,_,_,_,_,_,_,_,_,_,_,_,_,_,_,_,_,_,_,_,_,_,_,_,_,_,_,_,_,_,_,_,_,_,_,_,_,_,_,_,_,_,_,_,_,_,_,_,_,_].toArray,[]⟩ (h:=?_)
      refine zt 4 (.int .i64 x13) #[_,_,_,_,_,_,_,_,_,_,_,_,_,_,_,_,_,_,_,_] ⟨[_,_,_,_,_,_,_,_,_,_,_,_,_,_,_,_,_,_,_,_,_,_,_,_,_,_,_,_,_,_,_,_,_,_,_,_,_,_,_,_,_,_,_,_,_,_,_,_,_,_,_,_,_,_,_,_].toArray,[]⟩ (h:=?_)
      refine zt 5 (.int .i64 (wrap64 (a1+x13))) #[_,_,_,_,_,_,_,_,_,_,_,_,_,_,_,_,_,_,_,_] ⟨[_,_,_,_,_,_,_,_,_,_,_,_,_,_,_,_,_,_,_,_,_,_,_,_,_,_,_,_,_,_,_,_,_,_,_,_,_,_,_,_,_,_,_,_,_,_,_,_,_,_,_,_,_,_,_,_].toArray,[]⟩ (h:=?_)
      refine zt 6 ((.slice A0 l0.length c0)) #[_,_,_,_,_,_,_,_,_,_,_,_,_,_,_,_,_,_,_,_] ⟨[_,_,_,_,_,_,_,_,_,_,_,_,_,_,_,_,_,_,_,_,_,_,_,_,_,_,_,_,_,_,_,_,_,_,_,_,_,_,_,_,_,_,_,_,_,_,_,_,_,_,_,_,_,_,_,_].toArray,[]⟩ (h:=?_)
      refine zt 7 (.int .i64 a1) #[_,_,_,_,_,_,_,_,_,_,_,_,_,_,_,_,_,_,_,_] ⟨[_,_,_,_,_,_,_,_,_,_,_,_,_,_,_,_,_,_,_,_,_,_,_,_,_,_,_,_,_,_,_,_,_,_,_,_,_,_,_,_,_,_,_,_,_,_,_,_,_,_,_,_,_,_,_,_].toArray,[]⟩ (h:=?_)
      refine zt 8 (.int .i64 x13) #[_,_,_,_,_,_,_,_,_,_,_,_,_,_,_,_,_,_,_,_] ⟨[_,_,_,_,_,_,_,_,_,_,_,_,_,_,_,_,_,_,_,_,_,_,_,_,_,_,_,_,_,_,_,_,_,_,_,_,_,_,_,_,_,_,_,_,_,_,_,_,_,_,_,_,_,_,_,_].toArray,[]⟩ (h:=?_)
      refine zt 9 (.int .i64 (wrap64 (a1+x13))) #[_,_,_,_,_,_,_,_,_,_,_,_,_,_,_,_,_,_,_,_] ⟨[_,_,_,_,_,_,_,_,_,_,_,_,_,_,_,_,_,_,_,_,_,_,_,_,_,_,_,_,_,_,_,_,_,_,_,_,_,_,_,_,_,_,_,_,_,_,_,_,_,_,_,_,_,_,_,_].toArray,[]⟩ (h:=?_)
      replace HH:=zqdo HH
      obtain⟨HH,hk21⟩:=HH
      (try simp only[hk21,Bool.not_true,Bool.not_false])
      replace HH:=zqto HH
      obtain⟨HH,hk23,hk24⟩:=HH
      (try simp only[hk23,Bool.not_true,Bool.not_false])
      (try simp only[hk24,Bool.not_true,Bool.not_false])
      have p25:0≤((wrap64 (a1+x13)):Int):=of_decide_eq_true (by first|(with_reducible assumption)|assumption)
      have q25:(wrap64 (a1+x13))<(l0.length:Int):=of_decide_eq_true (by first|(with_reducible assumption)|assumption)
      obtain⟨ad25,e25,hx25_0⟩:=Kd.at_int (Kd.F_now (Kd.N_F HN0.out)) (wrap64 (a1+x13)) p25 q25
      cases e25
      replace p25:=eq_true p25
      replace q25:=eq_true q25
      refine zt 10 (.pointer (some (ad25.add ((wrap64 (a1+x13)).toNat)))) #[_,_,_,_,_,_,_,_,_,_,_,_,_,_,_,_,_,_,_,_] ⟨[_,_,_,_,_,_,_,_,_,_,_,_,_,_,_,_,_,_,_,_,_,_,_,_,_,_,_,_,_,_,_,_,_,_,_,_,_,_,_,_,_,_,_,_,_,_,_,_,_,_,_,_,_,_,_,_].toArray,[]⟩ (h:=?_)
      refine zt 12 ((.slice (some ad25) l0.length c0)) #[_,_,_,_,_,_,_,_,_,_,_,_,_,_,_,_,_,_,_,_] ⟨[_,_,_,_,_,_,_,_,_,_,_,_,_,_,_,_,_,_,_,_,_,_,_,_,_,_,_,_,_,_,_,_,_,_,_,_,_,_,_,_,_,_,_,_,_,_,_,_,_,_,_,_,_,_,_,_].toArray,[]⟩ (h:=?_)
      refine zt 13 (.int .i64 a1) #[_,_,_,_,_,_,_,_,_,_,_,_,_,_,_,_,_,_,_,_] ⟨[_,_,_,_,_,_,_,_,_,_,_,_,_,_,_,_,_,_,_,_,_,_,_,_,_,_,_,_,_,_,_,_,_,_,_,_,_,_,_,_,_,_,_,_,_,_,_,_,_,_,_,_,_,_,_,_].toArray,[]⟩ (h:=?_)
      replace HH:=zqdo HH
      obtain⟨HH,hk27⟩:=HH
      (try simp only[hk27,Bool.not_true,Bool.not_false])
      replace HH:=zqto HH
      obtain⟨HH,hk29,hk30⟩:=HH
      (try simp only[hk29,Bool.not_true,Bool.not_false])
      (try simp only[hk30,Bool.not_true,Bool.not_false])
      have p31:0≤(a1:Int):=of_decide_eq_true (by first|(with_reducible assumption)|assumption)
      have q31:a1<(l0.length:Int):=of_decide_eq_true (by first|(with_reducible assumption)|assumption)
      obtain⟨ad31,e31,hx31_0⟩:=Kd.at_int (Kd.F_now (Kd.N_F HN0.out)) a1 p31 q31
      cases e31
      replace p31:=eq_true p31
      replace q31:=eq_true q31
      refine zt 14 (.pointer (some (ad25.add (a1.toNat)))) #[_,_,_,_,_,_,_,_,_,_,_,_,_,_,_,_,_,_,_,_] ⟨[_,_,_,_,_,_,_,_,_,_,_,_,_,_,_,_,_,_,_,_,_,_,_,_,_,_,_,_,_,_,_,_,_,_,_,_,_,_,_,_,_,_,_,_,_,_,_,_,_,_,_,_,_,_,_,_].toArray,[]⟩ (h:=?_)
      refine MW.any_two (i:=11) (j:=15) (vi:=.int .i32 (rd x14 (wrap64 (a1+x13)))) (vj:=.int .i32 (rd x14 a1)) #[true,true,true,true,true,true,true,true,true,true,true,true,true,true,true,true,false,false,false,false] ⟨[(.slice (some ad25) l0.length c0),(.int .i64 a1),(.int .i64 a2),undef,undef,undef,(.int .i64 a1),(.int .i64 0),(.int .i64 (wrap64 (a2 - a1))),(.int .i64 x1),(.int .i64 x13),(.int .i64 a1),(.int .i64 a2),(.int .i64 a1),(.int .i64 (wrap64 (a2 - a1))),(.int .i64 (wrap64 (a2 - a1))),(.int .i64 (wrap64 ((wrap64 (a2 - a1)) - 1))),(.int .i64 (wrap64 (Int.tdiv (wrap64 ((wrap64 (a2 - a1)) - 1)) 2))),(.int .i64 x1),(.bool false),u20,u21,u22,u23,u24,u25,u26,(.int .i64 (wrap64 (a2 - a1))),(.int .i64 (wrap64 ((wrap64 (a2 - a1)) - 1))),(.int .i64 x13),(.bool true),u31,u32,(.slice (some ad25) l0.length c0),(.int .i64 a1),(.slice (some ad25) l0.length c0),(.int .i64 a1),(.int .i64 x13),(.int .i64 (wrap64 (a1+x13))),(.slice (some ad25) l0.length c0),(.int .i64 a1),(.int .i64 x13),(.int .i64 (wrap64 (a1+x13))),(.pointer (some (ad25.add ((wrap64 (a1+x13)).toNat)))),(.int .i32 (rd x14 (wrap64 (a1+x13)))),(.slice (some ad25) l0.length c0),(.int .i64 a1),(.pointer (some (ad25.add (a1.toNat)))),(.int .i32 (rd x14 a1)),u49,u50,u51,u52,u53,u54,u55].toArray,[]⟩ (by decide) rfl rfl (by kernel_rfl) (by kernel_rfl) (by kernel_rfl) (by kernel_rfl) (by kernel_rfl) (by first|rfl|(go_simp;done)|(go_simp;rfl)) (by first|rfl|(go_simp;done)|(go_simp;rfl)) (by first|rfl|(go_simp;done)|(go_simp;rfl)) (by first|rfl|(go_simp;done)|(go_simp;rfl)) (by kernel_rfl) (by kernel_rfl) (by kernel_rfl) (by kernel_rfl) (by kernel_rfl) (by kernel_rfl) ?_
      refine zt 16 (.pointer (some (ad25.add (a1.toNat)))) #[_,_,_,_,_,_,_,_,_,_,_,_,_,_,_,_,_,_,_,_] ⟨[_,_,_,_,_,_,_,_,_,_,_,_,_,_,_,_,_,_,_,_,_,_,_,_,_,_,_,_,_,_,_,_,_,_,_,_,_,_,_,_,_,_,_,_,_,_,_,_,_,_,_,_,_,_,_,_].toArray,[]⟩ (h:=?_)
      refine MW.any_seq 17 3 rfl (by kernel_rfl) ?_
      simp only[List.drop_succ_cons,List.drop_zero]
      clear hwr_
      obtain⟨y32,hy32⟩:∃ y_:List Int,y_=(List.set x14 a1.toNat (rd x14 (wrap64 (a1+x13)))):=⟨_,rfl⟩
      have H:((some (List.set y32 (wrap64 (a1+x13)).toNat (rd x14 a1):List Int)).bind fun y36=>((slices_siftDownOrdered_rune.f k15 y36 0 x13 a1).bind fun y39=>((slices_heapSortOrdered_rune.l1 k15 (wrap64 (x13 - 1)) y39 a1 l0))))=some r:=by rw[hy32];exact HH.out
      replace HH:=za H
      clear H
      have NYy32:=za hy32
      clear hy32
      go_wp2_with (((with_reducible refine gate_store (t:=21) (p:=49) rfl ?_);(try(refine gate_guard (by rfl) ?_;dsimp only));refine MW.ev_set1 (n:=l0.length) B_ rfl rfl _ _ _ rfl 21 a1 x14 (rd x14 (wrap64 (a1+x13))) (fun k_=>True∧(some k_=((.slice (some ad25) l0.length c0):Value).ownBlock∨w.heap.size≤k_)) (by rfl) (by rfl) (by kernel_rfl) HN0.out (of_decide_eq_true (by first|(with_reducible assumption)|assumption)) (of_decide_eq_true (by first|(with_reducible assumption)|assumption)) HB.out ?_;intro w33 hn1 hb1 hg1);refine stop_ ?_)
      refine zg ?_
      replace HFfr:=za (Kd.F_grown (ok:=(fun k_=>True∧some k_≠((.slice (some ad25) l0.length c0):Value).ownBlock)) HFfr.out hg1 (fun k_ hk_=>hk_.2))
      replace HB:=za hb1
      clear HN0
      have HN34:=za (by rw[NYy32.out];exact hn1:Kd.N (Kd.int .i32) 21 w33 B_ (fun k_=>True∧(some k_=((.slice (some ad25) l0.length c0):Value).ownBlock∨w.heap.size≤k_)) (.slice (some ad25) l0.length c0) y32)
      clear hn1 hb1 hg1
      clear hx25_0 p25 q25 hx31_0 p31 q31
      have p35:0≤((wrap64 (a1+x13)):Int):=of_decide_eq_true (by first|(with_reducible assumption)|assumption)
      have q35:(wrap64 (a1+x13))<(l0.length:Int):=of_decide_eq_true (by first|(with_reducible assumption)|assumption)
      obtain⟨ad35,e35,hx35_0⟩:=Kd.at_int (Kd.F_now (Kd.N_F HN34.out)) (wrap64 (a1+x13)) p35 q35
      cases e35
      replace p35:=eq_true p35
      replace q35:=eq_true q35
      obtain⟨y36,hy36⟩:∃ y_:List Int,y_=(List.set y32 (wrap64 (a1+x13)).toNat (rd x14 a1)):=⟨_,rfl⟩
      have H:((slices_siftDownOrdered_rune.f k15 y36 0 x13 a1).bind fun y39=>((slices_heapSortOrdered_rune.l1 k15 (wrap64 (x13 - 1)) y39 a1 l0)))=some r:=by rw[hy36];exact HH.out
      replace HH:=za H
      clear H
      have NYy36:=za hy36
      clear hy36
      go_wp2_with (((with_reducible refine gate_store (t:=21) (p:=50) rfl ?_);(try(refine gate_guard (by rfl) ?_;dsimp only));refine MW.ev_set1 (n:=l0.length) B_ rfl rfl _ _ _ rfl 21 (wrap64 (a1+x13)) y32 (rd x14 a1) (fun k_=>True∧(some k_=((.slice (some ad25) l0.length c0):Value).ownBlock∨w.heap.size≤k_)) (by rfl) (by rfl) (by kernel_rfl) HN34.out (of_decide_eq_true (by first|(with_reducible assumption)|assumption)) (of_decide_eq_true (by first|(with_reducible assumption)|assumption)) HB.out ?_;intro w37 hn1 hb1 hg1);refine stop_ ?_)
      refine zg ?_
      replace HFfr:=za (Kd.F_grown (ok:=(fun k_=>True∧some k_≠((.slice (some ad25) l0.length c0):Value).ownBlock)) HFfr.out hg1 (fun k_ hk_=>hk_.2))
      replace HB:=za hb1
      clear HN34
      have HN38:=za (by rw[NYy36.out];exact hn1:Kd.N (Kd.int .i32) 21 w37 B_ (fun k_=>True∧(some k_=((.slice (some ad25) l0.length c0):Value).ownBlock∨w.heap.size≤k_)) (.slice (some ad25) l0.length c0) y36)
      clear hn1 hb1 hg1
      clear hx35_0 p35 q35
      replace HH:=zd HH
      obtain⟨y39,At40,HH⟩:=HH
      have LEhq41:=MQ.N_len HN38.out
      have hq41:=slices_siftDownOrdered_rune.calls k15 B_ (some ad25) c0 y36 0 x13 a1 y39 w37 (Nat.le_trans hB_.out (MB.bsize (a:=B_) HB.out)) (MB.N_only (by rw[LEhq41];exact HN38.out:Kd.N (Kd.int .i32) 21 _ B_ (fun k_=>True∧(some k_=((.slice (some ad25) l0.length c0):Value).ownBlock∨w.heap.size≤k_)) (.slice (some ad25) y36.length c0) y36)) At40.out
      rw[LEhq41] at hq41
      clear LEhq41
      go_wp2_with (((with_reducible refine gc 66 rfl ?_);refine zc 66 (some 55) Try.func66 #[(.slice (some ad25) l0.length c0),.int .i64 0,.int .i64 x13,.int .i64 a1] (h:=?_);refine(hq41).mono ?_;rintro e w42 ⟨rfl,hn1,hfr,hb⟩;refine⟨_,rfl,?_⟩);replace hn1:=za hn1;replace hfr:=za hfr)
      refine zg ?_
      replace hn1:=hn1.out
      replace hfr:=hfr.out
      clear hq41
      replace HFfr:=za (Kd.F_step (ok:=(fun k_=>True∧some k_≠((.slice (some ad25) l0.length c0):Value).ownBlock)) HFfr.out (fun k_ hk_ hlt_=>hfr k_ (hk_.2) hlt_))
      have HN43:=za (Kd.N_mono hn1 (fun k_ hk_=>hk_.elim (fun h_=>HN38.out.1 k_ h_.symm) (fun h_=>⟨trivial,(.inr (Nat.le_trans (MB.bsize (a:=B_) HB.out) h_))⟩)):Kd.N (Kd.int .i32) 21 w42 B_ (fun k_=>True∧(some k_=((.slice (some ad25) l0.length c0):Value).ownBlock∨w.heap.size≤k_)) (.slice (some ad25) l0.length c0) y39)
      replace HB:=za (Below.trans HB.out hb)
      clear HN38 hn1 hfr hb
      go_wp2
      go_roundg k15
      case measure=>have:=HK0.out;have:=HK1.out;omega
      case rel=>exact⟨wrap64 (x13 - 1),y39,(by first|rfl|(simp;done)|(simp[*];done)),HH,⟨by have:=HK0.out;have:=HK1.out;omega⟩,⟨HFfr.out⟩,⟨(Kd.N_mono (ok:=(fun k_=>True∧(some k_=((.slice (some ad25) l0.length c0):Value).ownBlock∨w.heap.size≤k_))) HN43.out (fun k_ hk_=>hk_))⟩,⟨HB.out⟩⟩
     obtain rfl:=Option.some.inj HH.out
     clear HH
     go_wp2
     (first|go_end0|((try simp only[Exit.inBlock,Exit.then]);refine bodyPost_ret (results_none rfl _ _ _) rfl ?_))
     exact⟨by first|rfl|(simp;done)|(simp[*];done),(Kd.N_mono (ok:=(fun k_=>True∧(some k_=((.slice A0 l0.length c0):Value).ownBlock∨w.heap.size≤k_))) HN0.out (fun k_ hk_=>hk_.2)),(fun k_ hv_ hlt_=>MB.frK_out HFfr.out k_ (by rw[HPO.out];exact hv_) hlt_),HB.out⟩

def bits_Len.f (a0:Int):Option (Int):=(bits_Len64.f a0).bind fun t1=>(some t1)
theorem bits_Len.calls (a0:Int) (r:Int) (w:World) (h:bits_Len.f a0=some r):
  Calls Try.prog 54 #[.int .u64 a0] w (fun e w'=>e=.returned (.int .i64 r)∧Drawn0 w w'):=by
 unfold bits_Len.f at h
 have HH:=za h
 clear h
 go_enter Try.func54,Try.ntmps54
 replace HH:=zd HH
 obtain⟨t1,At2,HH⟩:=HH
 go_wp2_with ((with_reducible refine gc 65 rfl ?_);refine zc 65 (some 7) Try.func65 #[.int .u64 a0] (h:=?_);(with_reducible refine(bits_Len64.calls  a0 t1 _  At2.out).mono ?_);rintro e w' ⟨rfl,⟨nd,rfl⟩⟩;refine⟨_,rfl,?_⟩)
 refine zg ?_
 obtain rfl:=Option.some.inj HH.out
 clear HH
 go_wp2
 go_ret
 exact⟨by first|rfl|(simp;done)|(simp[*];done),by repeat(first|exact Drawn0.refl _|apply Drawn0.step)⟩

def slices_nextPowerOfTwo.f (a0:Int):Option (Int):=(bits_Len.f (IntKind.u64.wrap a0)).bind fun t1=>if 0≤t1 then some (IntKind.u64.wrap (2 ^ min t1.toNat 64)) else none
theorem slices_nextPowerOfTwo.calls (a0:Int) (r:Int) (w:World) (h:slices_nextPowerOfTwo.f a0=some r):
    Calls Try.prog 67 #[.int .i64 a0] w (fun e w'=>e=.returned (.int .u64 r)∧Drawn0 w w'):=by
  unfold slices_nextPowerOfTwo.f at h
  have HH:=za h
  clear h
  go_enter Try.func67,Try.ntmps67
  replace HH:=zd HH
  obtain⟨t1,At2,HH⟩:=HH
  go_wp2_with ((with_reducible refine gc 54 rfl ?_);refine zc 54 (some 5) Try.func54 #[.int .u64 (IntKind.u64.wrap a0)] (h:=?_);(with_reducible refine(bits_Len.calls (IntKind.u64.wrap a0) t1 _  At2.out).mono ?_);rintro e w' ⟨rfl,⟨nd,rfl⟩⟩;refine⟨_,rfl,?_⟩)
  refine zg ?_
  have H:=HH.out
  by_cases hn:0≤t1
  · rw[if_pos hn] at H
    obtain rfl:=Option.some.inj H
    clear HH
    go_wp2
    go_ret
    exact⟨by first|rfl|(simp;done)|(simp[*];done),by repeat(first|exact Drawn0.refl _|apply Drawn0.step)⟩
  · rw[if_neg hn] at H;cases H

def slices_xorshift_Next.f (a0_0:Int):Option (Int × Int):=some (Go.bits .xor .u64 (Go.bits .xor .u64 (Go.bits .xor .u64 a0_0 (IntKind.u64.wrap (a0_0*8192))) ((Go.bits .xor .u64 a0_0 (IntKind.u64.wrap (a0_0*8192))) / 128)) (IntKind.u64.wrap ((Go.bits .xor .u64 (Go.bits .xor .u64 a0_0 (IntKind.u64.wrap (a0_0*8192))) ((Go.bits .xor .u64 a0_0 (IntKind.u64.wrap (a0_0*8192))) / 128))*131072)),Go.bits .xor .u64 (Go.bits .xor .u64 (Go.bits .xor .u64 a0_0 (IntKind.u64.wrap (a0_0*8192))) ((Go.bits .xor .u64 a0_0 (IntKind.u64.wrap (a0_0*8192))) / 128)) (IntKind.u64.wrap ((Go.bits .xor .u64 (Go.bits .xor .u64 a0_0 (IntKind.u64.wrap (a0_0*8192))) ((Go.bits .xor .u64 a0_0 (IntKind.u64.wrap (a0_0*8192))) / 128))*131072)))
def slices_xorshift_Next.Post (B_:Nat) (g0:Nat) (a0_0:Int) (w:World) (r1:Int) (r2:Int) (e:Ending) (w':World):Prop:=e=.returned (.int .u64 r1)∧w'.heap[g0]? =some (.cells #[.int .u64 r2] 77 (0,0))∧(∀ k_:Nat,k_≠g0→k_<w.heap.size→w'.heap[k_]? =w.heap[k_]?)∧Below B_ w w'
theorem slices_xorshift_Next.calls (B_:Nat) (g0:Nat) (a0_0:Int) (r1:Int) (r2:Int) (w:World) (hB0:B_≤w.heap.size) (hb0:w.heap[g0]? =some (.cells #[.int .u64 a0_0] 77 (0,0))) (hge0:B_≤g0) (h:slices_xorshift_Next.f a0_0=some (r1,r2)):
  Calls Try.prog 68 #[.pointer (some ⟨g0,0,none⟩)] w (fun e w'=>slices_xorshift_Next.Post B_ g0 a0_0 w r1 r2 e w'):=by
 unfold slices_xorshift_Next.f at h
 have HH:=za h
 clear h
 obtain⟨P0_,HPO⟩:∃ P0_:Nat→Prop,P0_=(fun k_=>k_≠g0):=⟨_,rfl⟩
 have HFfr:=za (MB.frK_new w (fun k_ hk_=>by rw[HPO] at hk_;exact⟨trivial,hk_⟩):Kd.F (MB.frK w P0_) w (fun k_=>True∧k_≠g0) (some ⟨0,0,none⟩) [()].length [()])
 replace HPO:=za HPO
 have hB_:=za hB0
 have BKg0:=za hb0
 have GEg0:=za hge0
 clear hb0 hge0
 have j1:=MB.lz1 BKg0.out
 have HB:=za (Below.refl B_ w)
 go_enter Try.func68,Try.ntmps68
 go_wp2
 have hwr_:∀ n_:Int,IntKind.i64.wrap n_=wrap64 n_:=fun n_=>IntWalk.i64_left n_
 go_still_tail 9,(by kernel_rfl)
 clear hwr_
 change wpList _ _ _ _ _ w.drew
 obtain⟨w2,hw_⟩:∃ w_:World,w_=w.drew:=⟨_,rfl⟩
 rw[← hw_]
 have hb:Below w.heap.size w w2:=by rw[hw_];exact below_drew1 (Below.refl _ _)
 clear hw_
 replace HFfr:=zfb HFfr.out hb
 replace BKg0:=zbb BKg0.out hb
 replace HB:=za (MB.below_stepB hB_.out HB.out hb)
 clear hb
 clear j1
 have j3:=MB.lz1 BKg0.out
 go_wp2_with ((with_reducible refine gs 77 11 rfl ?_);refine zs 77 11 #[.int .u64 (Go.bits .xor .u64 a0_0 (IntKind.u64.wrap (a0_0*8192)))] BKg0.out [.int .u64 (Go.bits .xor .u64 a0_0 (IntKind.u64.wrap (a0_0*8192)))] (h:=?_);intro w4 hbk hg)
 refine zg ?_
 replace HFfr:=zfg HFfr.out hg fun k_ hk_=>hk_.2
 replace HB:=zhg HB.out hg (Nat.le_trans hB_.out (MB.bsize (a:=B_) HB.out)) GEg0
 replace BKg0:=hbk
 clear hg hbk
 clear j3
 have j5:=MB.lz1 BKg0.out
 go_wp2
 have hwr_:∀ n_:Int,IntKind.i64.wrap n_=wrap64 n_:=fun n_=>IntWalk.i64_left n_
 go_still_tail 9,(by kernel_rfl)
 clear hwr_
 change wpList _ _ _ _ _ w4.drew
 obtain⟨w6,hw_⟩:∃ w_:World,w_=w4.drew:=⟨_,rfl⟩
 rw[← hw_]
 have hb:Below w4.heap.size w4 w6:=by rw[hw_];exact below_drew1 (Below.refl _ _)
 clear hw_
 replace HFfr:=zfb HFfr.out hb
 replace BKg0:=zbb BKg0.out hb
 replace HB:=za (MB.below_stepB hB_.out HB.out hb)
 clear hb
 clear j5
 have j7:=MB.lz1 BKg0.out
 go_wp2_with ((with_reducible refine gs 77 20 rfl ?_);refine zs 77 20 #[.int .u64 (Go.bits .xor .u64 (Go.bits .xor .u64 a0_0 (IntKind.u64.wrap (a0_0*8192))) ((Go.bits .xor .u64 a0_0 (IntKind.u64.wrap (a0_0*8192))) / 128))] BKg0.out [.int .u64 (Go.bits .xor .u64 (Go.bits .xor .u64 a0_0 (IntKind.u64.wrap (a0_0*8192))) ((Go.bits .xor .u64 a0_0 (IntKind.u64.wrap (a0_0*8192))) / 128))] (h:=?_);intro w8 hbk hg)
 refine zg ?_
 replace HFfr:=zfg HFfr.out hg fun k_ hk_=>hk_.2
 replace HB:=zhg HB.out hg (Nat.le_trans hB_.out (MB.bsize (a:=B_) HB.out)) GEg0
 replace BKg0:=hbk
 clear hg hbk
 clear j7
 have j9:=MB.lz1 BKg0.out
 go_wp2
 have hwr_:∀ n_:Int,IntKind.i64.wrap n_=wrap64 n_:=fun n_=>IntWalk.i64_left n_
 go_still_tail 9,(by kernel_rfl)
 clear hwr_
 change wpList _ _ _ _ _ w8.drew
 obtain⟨w10,hw_⟩:∃ w_:World,w_=w8.drew:=⟨_,rfl⟩
 rw[← hw_]
 have hb:Below w8.heap.size w8 w10:=by rw[hw_];exact below_drew1 (Below.refl _ _)
 clear hw_
 replace HFfr:=zfb HFfr.out hb
 replace BKg0:=zbb BKg0.out hb
 replace HB:=za (MB.below_stepB hB_.out HB.out hb)
 clear hb
 clear j9
 have jb:=MB.lz1 BKg0.out
 go_wp2_with ((with_reducible refine gs 77 29 rfl ?_);refine zs 77 29 #[.int .u64 (Go.bits .xor .u64 (Go.bits .xor .u64 (Go.bits .xor .u64 a0_0 (IntKind.u64.wrap (a0_0*8192))) ((Go.bits .xor .u64 a0_0 (IntKind.u64.wrap (a0_0*8192))) / 128)) (IntKind.u64.wrap ((Go.bits .xor .u64 (Go.bits .xor .u64 a0_0 (IntKind.u64.wrap (a0_0*8192))) ((Go.bits .xor .u64 a0_0 (IntKind.u64.wrap (a0_0*8192))) / 128))*131072)))] BKg0.out [.int .u64 (Go.bits .xor .u64 (Go.bits .xor .u64 (Go.bits .xor .u64 a0_0 (IntKind.u64.wrap (a0_0*8192))) ((Go.bits .xor .u64 a0_0 (IntKind.u64.wrap (a0_0*8192))) / 128)) (IntKind.u64.wrap ((Go.bits .xor .u64 (Go.bits .xor .u64 a0_0 (IntKind.u64.wrap (a0_0*8192))) ((Go.bits .xor .u64 a0_0 (IntKind.u64.wrap (a0_0*8192))) / 128))*131072)))] (h:=?_);intro w12 hbk hg)
 refine zg ?_
 replace HFfr:=zfg HFfr.out hg fun k_ hk_=>hk_.2
 replace HB:=zhg HB.out hg (Nat.le_trans hB_.out (MB.bsize (a:=B_) HB.out)) GEg0
 replace BKg0:=hbk
 clear hg hbk
 clear jb
 have jd:=MB.lz1 BKg0.out
 have H:=HH.out
 simp only[Option.some.injEq,Prod.mk.injEq] at H
 obtain⟨rfl,rfl⟩:=H
 clear HH
 go_wp2
 go_ret
 unfold slices_xorshift_Next.Post
 exact⟨by first|rfl|(simp;done)|(simp[*];done),(by first|exact BKg0.out|(have h_:=BKg0.out;simp only[*] at h_;exact h_)|(have h_:=BKg0.out;simp[*] at h_ ⊢;exact h_)),(fun k_ hg_ hlt_=>MB.frK_out HFfr.out k_ (by rw[HPO.out];exact hg_) hlt_),HB.out⟩

def slices_order2Ordered_rune.f (l0:List Int) (a1:Int) (a2:Int) (a3_0:Int):Option (Int × Int × Int):=if 0≤a2 then(if a2<(l0.length:Int) then(if 0≤a1 then(if a1<(l0.length:Int) then((cmp_Less_rune.f (rd l0 a2) (rd l0 a1)).bind fun t14=>(if t14=true then(some (a2,a1,wrap64 (a3_0+1))) else(some (a1,a2,a3_0)))) else(none)) else(none)) else(none)) else(none)
def slices_order2Ordered_rune.Post (P_:Nat→Prop) (B_:Nat) (A0:Option Addr) (c0:Nat) (l0:List Int) (a1:Int) (a2:Int) (g3:Nat) (a3_0:Int) (w:World) (r1:Int) (r2:Int) (r3:Int) (e:Ending) (w':World):Prop:=e=.returned (.tuple #[.int .i64 r1,.int .i64 r2])∧w'.heap[g3]? =some (.cells #[.int .i64 r3] 3 (0,0))∧(∀ k_:Nat,k_≠g3→k_<w.heap.size→w'.heap[k_]? =w.heap[k_]?)∧Below B_ w w'
theorem slices_order2Ordered_rune.calls (P_:Nat→Prop) (B_:Nat) (A0:Option Addr) (c0:Nat) (l0:List Int) (a1:Int) (a2:Int) (g3:Nat) (a3_0:Int) (r1:Int) (r2:Int) (r3:Int) (w:World) (hB0:B_≤w.heap.size) (hPg:∀ k_,P_ k_→k_≠g3) (hs0:Kd.F (Kd.int .i32) w P_ A0 l0.length l0) (hc0:l0.length≤c0) (hb3:w.heap[g3]? =some (.cells #[.int .i64 a3_0] 3 (0,0))) (hge3:B_≤g3) (h:slices_order2Ordered_rune.f l0 a1 a2 a3_0=some (r1,r2,r3)):
  Calls Try.prog 72 #[.slice A0 l0.length c0,.int .i64 a1,.int .i64 a2,.pointer (some ⟨g3,0,none⟩)] w (fun e w'=>slices_order2Ordered_rune.Post P_ B_ A0 c0 l0 a1 a2 g3 a3_0 w r1 r2 r3 e w'):=by
 unfold slices_order2Ordered_rune.f at h
 have HH:=za h
 clear h
 obtain⟨P0_,HPO⟩:∃ P0_:Nat→Prop,P0_=(fun k_=>k_≠g3):=⟨_,rfl⟩
 have HFfr:=za (MB.frK_new w (fun k_ hk_=>by rw[HPO] at hk_;exact⟨trivial,hk_⟩):Kd.F (MB.frK w P0_) w (fun k_=>True∧k_≠g3) (some ⟨0,0,none⟩) [()].length [()])
 replace HPO:=za HPO
 have hB_:=za hB0
 have HF0:=za (Kd.F_mono hs0 (ok':=(fun k_=>(True∧(P_ k_∨w.heap.size≤k_))∧k_≠g3)) (fun k_ hk_=>⟨⟨trivial,.inl hk_⟩,hPg k_ hk_⟩))
 clear hs0 hc0
 have BKg3:=za hb3
 have GEg3:=za hge3
 clear hb3 hge3
 have j1:=MB.lz1 BKg3.out
 have HB:=za (Below.refl B_ w)
 go_enter Try.func72,Try.ntmps72
 replace HH:=zqdo HH
 obtain⟨HH,hk3⟩:=HH
 replace HH:=zqto HH
 obtain⟨HH,hk5,hk6⟩:=HH
 have p7:0≤(a2:Int):=of_decide_eq_true (by first|(with_reducible assumption)|assumption)
 have q7:a2<(l0.length:Int):=of_decide_eq_true (by first|(with_reducible assumption)|assumption)
 obtain⟨ad7,e7,hx7_0⟩:=Kd.at_int (Kd.F_now HF0.out) a2 p7 q7
 cases e7
 replace p7:=eq_true p7
 replace q7:=eq_true q7
 replace HH:=zqdo HH
 obtain⟨HH,hk9⟩:=HH
 replace HH:=zqto HH
 obtain⟨HH,hk11,hk12⟩:=HH
 have p13:0≤(a1:Int):=of_decide_eq_true (by first|(with_reducible assumption)|assumption)
 have q13:a1<(l0.length:Int):=of_decide_eq_true (by first|(with_reducible assumption)|assumption)
 obtain⟨ad13,e13,hx13_0⟩:=Kd.at_int (Kd.F_now HF0.out) a1 p13 q13
 cases e13
 replace p13:=eq_true p13
 replace q13:=eq_true q13
 replace HH:=zd HH
 obtain⟨t14,At15,HH⟩:=HH
 by_cases c16:t14=true
 ·replace HH:=MW.hpos HH c16
  subst c16
  go_wp2
  go_quiet ((first|(go_at_call 61;first|exact Calls.quiet_of (MW.drawn (cmp_Less_rune.calls  (rd l0 a2) (rd l0 a1) true _  At15.out))|exact MW.quiet_far (MW.drawn (cmp_Less_rune.calls  (rd l0 a2) (rd l0 a1) true _  At15.out)))))
  go_wp2_with ((with_reducible refine gs 3 23 rfl ?_);refine zs 3 23 #[.int .i64 (wrap64 (a3_0+1))] (cs:= #[.int .i64 a3_0]) (ty:=3) (by(with_reducible repeat(first|refine blk_drewN ?_ _|refine blk_drew ?_|refine blk_alloc ?_ _));exact BKg3.out) [.int .i64 (wrap64 (a3_0+1))] (h:=?_);intro w17 hbk hg)
  refine zg ?_
  replace HFfr:=zfg (ok:=(fun k_=>True∧k_≠g3)) (by(with_reducible repeat(first|apply Kd.F_alloc|apply Kd.F_drewN|apply Kd.F_drew));exact HFfr.out) hg fun k_ hk_=>hk_.2
  replace HB:=zhg (by repeat(first|(with_reducible first|exact HB.out|apply MB.below_allocB hB_.out|apply pw_below_drewN|apply below_drew1)|exact HB.out)) hg (Nat.le_trans hB_.out (MB.bsize (a:=B_) (by repeat(first|(with_reducible first|exact HB.out|apply MB.below_allocB hB_.out|apply pw_below_drewN|apply below_drew1)|exact HB.out)))) GEg3
  replace BKg3:=hbk
  clear hg hbk
  clear j1 hx7_0 p7 q7 hx13_0 p13 q13
  have ji:=MB.lz1 BKg3.out
  have H:=HH.out
  simp only[Option.some.injEq,Prod.mk.injEq] at H
  obtain⟨rfl,rfl,rfl⟩:=H
  clear HH
  go_wp2
  go_ret2
  unfold slices_order2Ordered_rune.Post
  exact⟨by first|rfl|(simp;done)|(simp[*];done),(by first|exact BKg3.out|(have h_:=BKg3.out;simp only[*] at h_;exact h_)|(have h_:=BKg3.out;simp[*] at h_ ⊢;exact h_)),(fun k_ hg_ hlt_=>MB.frK_out HFfr.out k_ (by rw[HPO.out];exact hg_) hlt_),HB.out⟩
 replace HH:=MW.hneg HH c16
 replace c16:=Bool.eq_false_iff.mpr c16
 subst c16
 have H:=HH.out
 simp only[Option.some.injEq,Prod.mk.injEq] at H
 obtain⟨rfl,rfl,rfl⟩:=H
 clear HH
 go_wp2
 go_quiet ((first|(go_at_call 61;first|exact Calls.quiet_of (MW.drawn (cmp_Less_rune.calls  (rd l0 a2) (rd l0 a1) false _  At15.out))|exact MW.quiet_far (MW.drawn (cmp_Less_rune.calls  (rd l0 a2) (rd l0 a1) false _  At15.out)))))
 go_wp2
 go_ret2
 unfold slices_order2Ordered_rune.Post
 exact⟨by first|rfl|(simp;done)|(simp[*];done),(by first|exact(by(with_reducible repeat(first|refine blk_drewN ?_ _|refine blk_drew ?_|refine blk_alloc ?_ _));exact BKg3.out)|(have h_:=(by(with_reducible repeat(first|refine blk_drewN ?_ _|refine blk_drew ?_|refine blk_alloc ?_ _));exact BKg3.out);simp only[*] at h_;exact h_)|(have h_:=(by(with_reducible repeat(first|refine blk_drewN ?_ _|refine blk_drew ?_|refine blk_alloc ?_ _));exact BKg3.out);simp[*] at h_ ⊢;exact h_)),(fun k_ hg_ hlt_=>MB.frK_out (by(with_reducible repeat(first|apply Kd.F_alloc|apply Kd.F_drewN|apply Kd.F_drew));exact HFfr.out) k_ (by rw[HPO.out];exact hg_) hlt_),(by repeat(first|(with_reducible first|exact HB.out|apply MB.below_allocB hB_.out|apply pw_below_drewN|apply below_drew1)|exact HB.out))⟩

def slices_medianOrdered_rune.f (l0:List Int) (a1:Int) (a2:Int) (a3:Int) (a4_0:Int):Option (Int × Int):=(slices_order2Ordered_rune.f l0 a1 a2 a4_0).bind fun bt2=>((slices_order2Ordered_rune.f l0 bt2.2.1 a3 bt2.2.2).bind fun bt8=>((slices_order2Ordered_rune.f l0 bt2.1 bt8.1 bt8.2.2).bind fun bt14=>(some (bt14.2.1,bt14.2.2))))
def slices_medianOrdered_rune.Post (P_:Nat→Prop) (B_:Nat) (A0:Option Addr) (c0:Nat) (l0:List Int) (a1:Int) (a2:Int) (a3:Int) (g4:Nat) (a4_0:Int) (w:World) (r1:Int) (r2:Int) (e:Ending) (w':World):Prop:=e=.returned (.int .i64 r1)∧w'.heap[g4]? =some (.cells #[.int .i64 r2] 3 (0,0))∧(∀ k_:Nat,k_≠g4→k_<w.heap.size→w'.heap[k_]? =w.heap[k_]?)∧Below B_ w w'
theorem slices_medianOrdered_rune.calls (P_:Nat→Prop) (B_:Nat) (A0:Option Addr) (c0:Nat) (l0:List Int) (a1:Int) (a2:Int) (a3:Int) (g4:Nat) (a4_0:Int) (r1:Int) (r2:Int) (w:World) (hB0:B_≤w.heap.size) (hPg:∀ k_,P_ k_→k_≠g4) (hs0:Kd.F (Kd.int .i32) w P_ A0 l0.length l0) (hc0:l0.length≤c0) (hb4:w.heap[g4]? =some (.cells #[.int .i64 a4_0] 3 (0,0))) (hge4:B_≤g4) (h:slices_medianOrdered_rune.f l0 a1 a2 a3 a4_0=some (r1,r2)):
  Calls Try.prog 70 #[.slice A0 l0.length c0,.int .i64 a1,.int .i64 a2,.int .i64 a3,.pointer (some ⟨g4,0,none⟩)] w (fun e w'=>slices_medianOrdered_rune.Post P_ B_ A0 c0 l0 a1 a2 a3 g4 a4_0 w r1 r2 e w'):=by
 unfold slices_medianOrdered_rune.f at h
 have HH:=za h
 clear h
 obtain⟨P0_,HPO⟩:∃ P0_:Nat→Prop,P0_=(fun k_=>k_≠g4):=⟨_,rfl⟩
 have HFfr:=za (MB.frK_new w (fun k_ hk_=>by rw[HPO] at hk_;exact⟨trivial,hk_⟩):Kd.F (MB.frK w P0_) w (fun k_=>True∧k_≠g4) (some ⟨0,0,none⟩) [()].length [()])
 replace HPO:=za HPO
 have hB_:=za hB0
 have HF0:=za (Kd.F_mono hs0 (ok':=(fun k_=>(True∧(P_ k_∨w.heap.size≤k_))∧k_≠g4)) (fun k_ hk_=>⟨⟨trivial,.inl hk_⟩,hPg k_ hk_⟩))
 have HL0:=za hc0
 clear hs0 hc0
 have BKg4:=za hb4
 have GEg4:=za hge4
 clear hb4 hge4
 have j1:=MB.lz1 BKg4.out
 have HB:=za (Below.refl B_ w)
 go_enter Try.func70,Try.ntmps70
 replace HH:=zd HH
 obtain⟨⟨t2,t3,t4⟩,At5,HH⟩:=HH
 dsimp only at HH
 go_wp2_with (((with_reducible refine gc 72 rfl ?_);refine zc 72 (some 16) Try.func72 #[.slice A0 l0.length c0,.int .i64 a1,.int .i64 a2,.pointer (some ⟨g4,0,none⟩)] (h:=?_);refine(slices_order2Ordered_rune.calls (fun k_=>(True∧(P_ k_∨w.heap.size≤k_))∧k_≠g4) B_ _ _ l0 a1 a2 g4 a4_0 t2 t3 t4 _ (Nat.le_trans hB_.out (MB.bsize (a:=B_) HB.out)) (fun k_ hk_=>hk_.2) HF0.out HL0.out BKg4.out GEg4.out At5.out).mono ?_;rintro e w6 ⟨rfl,hbk,hfr,hb⟩;refine⟨_,rfl,?_⟩);replace hbk:=za hbk;replace hfr:=za hfr)
 refine zg ?_
 replace hbk:=hbk.out
 replace hfr:=hfr.out
 replace HFfr:=za (Kd.F_step (ok:=(fun k_=>True∧k_≠g4)) HFfr.out (fun k_ hk_ hlt_=>hfr k_ (hk_.2) hlt_))
 replace HF0:=za (Kd.F_step (ok:=(fun k_=>(True∧(P_ k_∨w.heap.size≤k_))∧k_≠g4)) HF0.out (fun k_ hk_ hlt_=>hfr k_ (hk_.2) hlt_))
 replace HB:=za (Below.trans HB.out hb)
 replace BKg4:=za hbk
 clear hbk hfr hb
 clear j1
 have j7:=MB.lz1 BKg4.out
 replace HH:=zd HH
 obtain⟨⟨t8,t9,t10⟩,At11,HH⟩:=HH
 dsimp only at HH
 go_wp2_with (((with_reducible refine gc 72 rfl ?_);refine zc 72 (some 24) Try.func72 #[.slice A0 l0.length c0,.int .i64 t3,.int .i64 a3,.pointer (some ⟨g4,0,none⟩)] (h:=?_);refine(slices_order2Ordered_rune.calls (fun k_=>(True∧(P_ k_∨w.heap.size≤k_))∧k_≠g4) B_ _ _ l0 t3 a3 g4 t4 t8 t9 t10 _ (Nat.le_trans hB_.out (MB.bsize (a:=B_) HB.out)) (fun k_ hk_=>hk_.2) HF0.out HL0.out BKg4.out GEg4.out At11.out).mono ?_;rintro e w12 ⟨rfl,hbk,hfr,hb⟩;refine⟨_,rfl,?_⟩);replace hbk:=za hbk;replace hfr:=za hfr)
 refine zg ?_
 replace hbk:=hbk.out
 replace hfr:=hfr.out
 replace HFfr:=za (Kd.F_step (ok:=(fun k_=>True∧k_≠g4)) HFfr.out (fun k_ hk_ hlt_=>hfr k_ (hk_.2) hlt_))
 replace HF0:=za (Kd.F_step (ok:=(fun k_=>(True∧(P_ k_∨w.heap.size≤k_))∧k_≠g4)) HF0.out (fun k_ hk_ hlt_=>hfr k_ (hk_.2) hlt_))
 replace HB:=za (Below.trans HB.out hb)
 replace BKg4:=za hbk
 clear hbk hfr hb
 clear j7
 have jd:=MB.lz1 BKg4.out
 replace HH:=zd HH
 obtain⟨⟨t14,t15,t16⟩,At17,HH⟩:=HH
 dsimp only at HH
 go_wp2_with (((with_reducible refine gc 72 rfl ?_);refine zc 72 (some 32) Try.func72 #[.slice A0 l0.length c0,.int .i64 t2,.int .i64 t8,.pointer (some ⟨g4,0,none⟩)] (h:=?_);refine(slices_order2Ordered_rune.calls (fun k_=>(True∧(P_ k_∨w.heap.size≤k_))∧k_≠g4) B_ _ _ l0 t2 t8 g4 t10 t14 t15 t16 _ (Nat.le_trans hB_.out (MB.bsize (a:=B_) HB.out)) (fun k_ hk_=>hk_.2) HF0.out HL0.out BKg4.out GEg4.out At17.out).mono ?_;rintro e w18 ⟨rfl,hbk,hfr,hb⟩;refine⟨_,rfl,?_⟩);replace hbk:=za hbk;replace hfr:=za hfr)
 refine zg ?_
 replace hbk:=hbk.out
 replace hfr:=hfr.out
 replace HFfr:=za (Kd.F_step (ok:=(fun k_=>True∧k_≠g4)) HFfr.out (fun k_ hk_ hlt_=>hfr k_ (hk_.2) hlt_))
 replace HB:=za (Below.trans HB.out hb)
 replace BKg4:=za hbk
 clear hbk hfr hb
 clear jd
 have jj:=MB.lz1 BKg4.out
 have H:=HH.out
 simp only[Option.some.injEq,Prod.mk.injEq] at H
 obtain⟨rfl,rfl⟩:=H
 clear HH
 go_wp2
 go_ret
 unfold slices_medianOrdered_rune.Post
 exact⟨by first|rfl|(simp;done)|(simp[*];done),(by first|exact BKg4.out|(have h_:=BKg4.out;simp only[*] at h_;exact h_)|(have h_:=BKg4.out;simp[*] at h_ ⊢;exact h_)),(fun k_ hg_ hlt_=>MB.frK_out HFfr.out k_ (by rw[HPO.out];exact hg_) hlt_),HB.out⟩

def slices_medianAdjacentOrdered_rune.f (l0:List Int) (a1:Int) (a2_0:Int):Option (Int × Int):=(slices_medianOrdered_rune.f l0 (wrap64 (a1 - 1)) a1 (wrap64 (a1+1)) a2_0).bind fun bt2=>(some (bt2.1,bt2.2))
def slices_medianAdjacentOrdered_rune.Post (P_:Nat→Prop) (B_:Nat) (A0:Option Addr) (c0:Nat) (l0:List Int) (a1:Int) (g2:Nat) (a2_0:Int) (w:World) (r1:Int) (r2:Int) (e:Ending) (w':World):Prop:=e=.returned (.int .i64 r1)∧w'.heap[g2]? =some (.cells #[.int .i64 r2] 3 (0,0))∧(∀ k_:Nat,k_≠g2→k_<w.heap.size→w'.heap[k_]? =w.heap[k_]?)∧Below B_ w w'
theorem slices_medianAdjacentOrdered_rune.calls (P_:Nat→Prop) (B_:Nat) (A0:Option Addr) (c0:Nat) (l0:List Int) (a1:Int) (g2:Nat) (a2_0:Int) (r1:Int) (r2:Int) (w:World) (hB0:B_≤w.heap.size) (hPg:∀ k_,P_ k_→k_≠g2) (hs0:Kd.F (Kd.int .i32) w P_ A0 l0.length l0) (hc0:l0.length≤c0) (hb2:w.heap[g2]? =some (.cells #[.int .i64 a2_0] 3 (0,0))) (hge2:B_≤g2) (h:slices_medianAdjacentOrdered_rune.f l0 a1 a2_0=some (r1,r2)):
  Calls Try.prog 69 #[.slice A0 l0.length c0,.int .i64 a1,.pointer (some ⟨g2,0,none⟩)] w (fun e w'=>slices_medianAdjacentOrdered_rune.Post P_ B_ A0 c0 l0 a1 g2 a2_0 w r1 r2 e w'):=by
 unfold slices_medianAdjacentOrdered_rune.f at h
 have HH:=za h
 clear h
 obtain⟨P0_,HPO⟩:∃ P0_:Nat→Prop,P0_=(fun k_=>k_≠g2):=⟨_,rfl⟩
 have HFfr:=za (MB.frK_new w (fun k_ hk_=>by rw[HPO] at hk_;exact⟨trivial,hk_⟩):Kd.F (MB.frK w P0_) w (fun k_=>True∧k_≠g2) (some ⟨0,0,none⟩) [()].length [()])
 replace HPO:=za HPO
 have hB_:=za hB0
 have HF0:=za (Kd.F_mono hs0 (ok':=(fun k_=>(True∧(P_ k_∨w.heap.size≤k_))∧k_≠g2)) (fun k_ hk_=>⟨⟨trivial,.inl hk_⟩,hPg k_ hk_⟩))
 have HL0:=za hc0
 clear hs0 hc0
 have BKg2:=za hb2
 have GEg2:=za hge2
 clear hb2 hge2
 have j1:=MB.lz1 BKg2.out
 have HB:=za (Below.refl B_ w)
 go_enter Try.func69,Try.ntmps69
 replace HH:=zd HH
 obtain⟨⟨t2,t3⟩,At4,HH⟩:=HH
 dsimp only at HH
 go_wp2_with (((with_reducible refine gc 70 rfl ?_);refine zc 70 (some 14) Try.func70 #[.slice A0 l0.length c0,.int .i64 (wrap64 (a1 - 1)),.int .i64 a1,.int .i64 (wrap64 (a1+1)),.pointer (some ⟨g2,0,none⟩)] (h:=?_);refine(slices_medianOrdered_rune.calls (fun k_=>(True∧(P_ k_∨w.heap.size≤k_))∧k_≠g2) B_ _ _ l0 (wrap64 (a1 - 1)) a1 (wrap64 (a1+1)) g2 a2_0 t2 t3 _ (Nat.le_trans hB_.out (MB.bsize (a:=B_) HB.out)) (fun k_ hk_=>hk_.2) HF0.out HL0.out BKg2.out GEg2.out At4.out).mono ?_;rintro e w5 ⟨rfl,hbk,hfr,hb⟩;refine⟨_,rfl,?_⟩);replace hbk:=za hbk;replace hfr:=za hfr)
 refine zg ?_
 replace hbk:=hbk.out
 replace hfr:=hfr.out
 replace HFfr:=za (Kd.F_step (ok:=(fun k_=>True∧k_≠g2)) HFfr.out (fun k_ hk_ hlt_=>hfr k_ (hk_.2) hlt_))
 replace HB:=za (Below.trans HB.out hb)
 replace BKg2:=za hbk
 clear hbk hfr hb
 clear j1
 have j6:=MB.lz1 BKg2.out
 have H:=HH.out
 simp only[Option.some.injEq,Prod.mk.injEq] at H
 obtain⟨rfl,rfl⟩:=H
 clear HH
 go_wp2
 go_ret
 unfold slices_medianAdjacentOrdered_rune.Post
 exact⟨by first|rfl|(simp;done)|(simp[*];done),(by first|exact BKg2.out|(have h_:=BKg2.out;simp only[*] at h_;exact h_)|(have h_:=BKg2.out;simp[*] at h_ ⊢;exact h_)),(fun k_ hg_ hlt_=>MB.frK_out HFfr.out k_ (by rw[HPO.out];exact hg_) hlt_),HB.out⟩

def slices_choosePivotOrdered_rune.f (l0:List Int) (a1:Int) (a2:Int):Option (Int × Int):=if (wrap64 (a2 - a1))≥8 then(if (wrap64 (a2 - a1))≥50 then((slices_medianAdjacentOrdered_rune.f l0 (wrap64 (a1+(wrap64 ((wrap64 (Int.tdiv (wrap64 (a2 - a1)) 4)))))) 0).bind fun bt8=>((slices_medianAdjacentOrdered_rune.f l0 (wrap64 (a1+(wrap64 ((wrap64 (Int.tdiv (wrap64 (a2 - a1)) 4))*2)))) bt8.2).bind fun bt13=>((slices_medianAdjacentOrdered_rune.f l0 (wrap64 (a1+(wrap64 ((wrap64 (Int.tdiv (wrap64 (a2 - a1)) 4))*3)))) bt13.2).bind fun bt18=>((slices_medianOrdered_rune.f l0 bt8.1 bt13.1 bt18.1 bt18.2).bind fun bt23=>(if bt23.2=0 then(some (bt23.1,1)) else(if bt23.2=12 then(some (bt23.1,2)) else(some (bt23.1,0)))))))) else((slices_medianOrdered_rune.f l0 (wrap64 (a1+(wrap64 ((wrap64 (Int.tdiv (wrap64 (a2 - a1)) 4)))))) (wrap64 (a1+(wrap64 ((wrap64 (Int.tdiv (wrap64 (a2 - a1)) 4))*2)))) (wrap64 (a1+(wrap64 ((wrap64 (Int.tdiv (wrap64 (a2 - a1)) 4))*3)))) 0).bind fun bt39=>(if bt39.2=0 then(some (bt39.1,1)) else(if bt39.2=12 then(some (bt39.1,2)) else(some (bt39.1,0)))))) else(some (wrap64 (a1+(wrap64 ((wrap64 (Int.tdiv (wrap64 (a2 - a1)) 4))*2))),1))
theorem slices_choosePivotOrdered_rune.calls (P_:Nat→Prop) (A0:Option Addr) (c0:Nat) (l0:List Int) (a1:Int) (a2:Int) (r1:Int) (r2:Int) (w:World) (hs0:Kd.F (Kd.int .i32) w P_ A0 l0.length l0) (hc0:l0.length≤c0) (h:slices_choosePivotOrdered_rune.f l0 a1 a2=some (r1,r2)):
  Calls Try.prog 58 #[.slice A0 l0.length c0,.int .i64 a1,.int .i64 a2] w (fun e w'=>e=.returned (.tuple #[.int .i64 r1,.int .i64 r2])∧Below w.heap.size w w'):=by
 unfold slices_choosePivotOrdered_rune.f at h
 have HH:=za h
 clear h
 have HF0:=zfp hs0
 have HL0:=za hc0
 clear hs0 hc0
 have HB:=za (Below.refl w.heap.size w)
 go_enter Try.func58,Try.ntmps58
 go_wp2_with ((with_reducible refine gd 9 rfl ?_);refine zb 9 3 #[.int .i64 0] (h:=?_);intro g1 hg w2 BKg1 hb)
 refine zg ?_
 have GEg1:=zge hg (below_size HB.out)
 replace HF0:=zfe HF0.out hg hb
 replace HB:=zhb HB.out hb
 clear hg hb
 have j3:=MB.lz1 BKg1.out
 replace HH:=zqG HH
 rcases HH with⟨HH,hk5⟩|⟨HH,hk54⟩
 ·replace HH:=zqG HH
  rcases HH with⟨HH,hk7⟩|⟨HH,hk38⟩
  ·replace HH:=zd HH
   obtain⟨⟨t8,t9⟩,At10,HH⟩:=HH
   dsimp only at HH
   go_wp2_with (((with_reducible refine gc 69 rfl ?_);refine zc 69 (some 37) Try.func69 #[.slice A0 l0.length c0,.int .i64 (wrap64 (a1+(wrap64 ((wrap64 (Int.tdiv (wrap64 (a2 - a1)) 4)))))),.pointer (some ⟨g1,0,none⟩)] (h:=?_);refine(slices_medianAdjacentOrdered_rune.calls (fun k_=>(P_ k_∨w.heap.size≤k_)∧k_≠g1) w.heap.size _ _ l0 (wrap64 (a1+(wrap64 ((wrap64 (Int.tdiv (wrap64 (a2 - a1)) 4)))))) g1 0 t8 t9 _ (below_size HB.out) (fun k_ hk_=>hk_.2) HF0.out HL0.out BKg1.out GEg1.out At10.out).mono ?_;rintro e w11 ⟨rfl,hbk,hfr,hb⟩;refine⟨_,rfl,?_⟩);replace hbk:=za hbk;replace hfr:=za hfr)
   refine zg ?_
   replace hbk:=hbk.out
   replace hfr:=hfr.out
   replace HF0:=za (Kd.F_step (ok:=(fun k_=>(P_ k_∨w.heap.size≤k_)∧k_≠g1)) HF0.out (fun k_ hk_ hlt_=>hfr k_ (hk_.2) hlt_))
   replace HB:=za (Below.trans HB.out hb)
   replace BKg1:=za hbk
   clear hbk hfr hb
   clear j3
   have jc:=MB.lz1 BKg1.out
   replace HH:=zd HH
   obtain⟨⟨t13,t14⟩,At15,HH⟩:=HH
   dsimp only at HH
   go_wp2_with (((with_reducible refine gc 69 rfl ?_);refine zc 69 (some 40) Try.func69 #[.slice A0 l0.length c0,.int .i64 (wrap64 (a1+(wrap64 ((wrap64 (Int.tdiv (wrap64 (a2 - a1)) 4))*2)))),.pointer (some ⟨g1,0,none⟩)] (h:=?_);refine(slices_medianAdjacentOrdered_rune.calls (fun k_=>(P_ k_∨w.heap.size≤k_)∧k_≠g1) w.heap.size _ _ l0 (wrap64 (a1+(wrap64 ((wrap64 (Int.tdiv (wrap64 (a2 - a1)) 4))*2)))) g1 t9 t13 t14 _ (below_size HB.out) (fun k_ hk_=>hk_.2) HF0.out HL0.out BKg1.out GEg1.out At15.out).mono ?_;rintro e w16 ⟨rfl,hbk,hfr,hb⟩;refine⟨_,rfl,?_⟩);replace hbk:=za hbk;replace hfr:=za hfr)
   refine zg ?_
   replace hbk:=hbk.out
   replace hfr:=hfr.out
   replace HF0:=za (Kd.F_step (ok:=(fun k_=>(P_ k_∨w.heap.size≤k_)∧k_≠g1)) HF0.out (fun k_ hk_ hlt_=>hfr k_ (hk_.2) hlt_))
   replace HB:=za (Below.trans HB.out hb)
   replace BKg1:=za hbk
   clear hbk hfr hb
   clear jc
   have jh:=MB.lz1 BKg1.out
   replace HH:=zd HH
   obtain⟨⟨t18,t19⟩,At20,HH⟩:=HH
   dsimp only at HH
   go_wp2_with (((with_reducible refine gc 69 rfl ?_);refine zc 69 (some 43) Try.func69 #[.slice A0 l0.length c0,.int .i64 (wrap64 (a1+(wrap64 ((wrap64 (Int.tdiv (wrap64 (a2 - a1)) 4))*3)))),.pointer (some ⟨g1,0,none⟩)] (h:=?_);refine(slices_medianAdjacentOrdered_rune.calls (fun k_=>(P_ k_∨w.heap.size≤k_)∧k_≠g1) w.heap.size _ _ l0 (wrap64 (a1+(wrap64 ((wrap64 (Int.tdiv (wrap64 (a2 - a1)) 4))*3)))) g1 t14 t18 t19 _ (below_size HB.out) (fun k_ hk_=>hk_.2) HF0.out HL0.out BKg1.out GEg1.out At20.out).mono ?_;rintro e w21 ⟨rfl,hbk,hfr,hb⟩;refine⟨_,rfl,?_⟩);replace hbk:=za hbk;replace hfr:=za hfr)
   refine zg ?_
   replace hbk:=hbk.out
   replace hfr:=hfr.out
   replace HF0:=za (Kd.F_step (ok:=(fun k_=>(P_ k_∨w.heap.size≤k_)∧k_≠g1)) HF0.out (fun k_ hk_ hlt_=>hfr k_ (hk_.2) hlt_))
   replace HB:=za (Below.trans HB.out hb)
   replace BKg1:=za hbk
   clear hbk hfr hb
   clear jh
   have jm:=MB.lz1 BKg1.out
   replace HH:=zd HH
   obtain⟨⟨t23,t24⟩,At25,HH⟩:=HH
   dsimp only at HH
   go_wp2_with (((with_reducible refine gc 70 rfl ?_);refine zc 70 (some 48) Try.func70 #[.slice A0 l0.length c0,.int .i64 t8,.int .i64 t13,.int .i64 t18,.pointer (some ⟨g1,0,none⟩)] (h:=?_);refine(slices_medianOrdered_rune.calls (fun k_=>(P_ k_∨w.heap.size≤k_)∧k_≠g1) w.heap.size _ _ l0 t8 t13 t18 g1 t19 t23 t24 _ (below_size HB.out) (fun k_ hk_=>hk_.2) HF0.out HL0.out BKg1.out GEg1.out At25.out).mono ?_;rintro e w26 ⟨rfl,hbk,hfr,hb⟩;refine⟨_,rfl,?_⟩);replace hbk:=za hbk;replace hfr:=za hfr)
   refine zg ?_
   replace hbk:=hbk.out
   replace hfr:=hfr.out
   replace HB:=za (Below.trans HB.out hb)
   replace BKg1:=za hbk
   clear hbk hfr hb
   clear jm
   have jr:=MB.lz1 BKg1.out
   replace HH:=zqe HH
   rcases HH with⟨HH,hk29,hk30⟩|⟨HH,hk31,hk32⟩
   ·have H:=HH.out
    simp only[Option.some.injEq,Prod.mk.injEq] at H
    obtain⟨rfl,rfl⟩:=H
    clear HH
    go_wp2
    go_ret2
    exact zfi HB.out
   replace HH:=zqe HH
   rcases HH with⟨HH,hk34,hk35⟩|⟨HH,hk36,hk37⟩
   ·have H:=HH.out
    simp only[Option.some.injEq,Prod.mk.injEq] at H
    obtain⟨rfl,rfl⟩:=H
    clear HH
    go_wp2
    go_ret2
    exact zfi HB.out
   have H:=HH.out
   simp only[Option.some.injEq,Prod.mk.injEq] at H
   obtain⟨rfl,rfl⟩:=H
   clear HH
   go_wp2
   go_ret2
   exact zfi HB.out
  replace HH:=zd HH
  obtain⟨⟨t39,t40⟩,At41,HH⟩:=HH
  dsimp only at HH
  go_wp2_with (((with_reducible refine gc 70 rfl ?_);refine zc 70 (some 48) Try.func70 #[.slice A0 l0.length c0,.int .i64 (wrap64 (a1+(wrap64 ((wrap64 (Int.tdiv (wrap64 (a2 - a1)) 4)))))),.int .i64 (wrap64 (a1+(wrap64 ((wrap64 (Int.tdiv (wrap64 (a2 - a1)) 4))*2)))),.int .i64 (wrap64 (a1+(wrap64 ((wrap64 (Int.tdiv (wrap64 (a2 - a1)) 4))*3)))),.pointer (some ⟨g1,0,none⟩)] (h:=?_);refine(slices_medianOrdered_rune.calls (fun k_=>(P_ k_∨w.heap.size≤k_)∧k_≠g1) w.heap.size _ _ l0 (wrap64 (a1+(wrap64 ((wrap64 (Int.tdiv (wrap64 (a2 - a1)) 4)))))) (wrap64 (a1+(wrap64 ((wrap64 (Int.tdiv (wrap64 (a2 - a1)) 4))*2)))) (wrap64 (a1+(wrap64 ((wrap64 (Int.tdiv (wrap64 (a2 - a1)) 4))*3)))) g1 0 t39 t40 _ (below_size HB.out) (fun k_ hk_=>hk_.2) HF0.out HL0.out BKg1.out GEg1.out At41.out).mono ?_;rintro e w42 ⟨rfl,hbk,hfr,hb⟩;refine⟨_,rfl,?_⟩);replace hbk:=za hbk;replace hfr:=za hfr)
  refine zg ?_
  replace hbk:=hbk.out
  replace hfr:=hfr.out
  replace HB:=za (Below.trans HB.out hb)
  replace BKg1:=za hbk
  clear hbk hfr hb
  clear j3
  have jH:=MB.lz1 BKg1.out
  replace HH:=zqe HH
  rcases HH with⟨HH,hk45,hk46⟩|⟨HH,hk47,hk48⟩
  ·have H:=HH.out
   simp only[Option.some.injEq,Prod.mk.injEq] at H
   obtain⟨rfl,rfl⟩:=H
   clear HH
   go_wp2
   go_ret2
   exact zfi HB.out
  replace HH:=zqe HH
  rcases HH with⟨HH,hk50,hk51⟩|⟨HH,hk52,hk53⟩
  ·have H:=HH.out
   simp only[Option.some.injEq,Prod.mk.injEq] at H
   obtain⟨rfl,rfl⟩:=H
   clear HH
   go_wp2
   go_ret2
   exact zfi HB.out
  have H:=HH.out
  simp only[Option.some.injEq,Prod.mk.injEq] at H
  obtain⟨rfl,rfl⟩:=H
  clear HH
  go_wp2
  go_ret2
  exact zfi HB.out
 have H:=HH.out
 simp only[Option.some.injEq,Prod.mk.injEq] at H
 obtain⟨rfl,rfl⟩:=H
 clear HH
 go_wp2
 go_ret2
 exact zfi HB.out

def slices_reverseRangeOrdered_rune.l0:Nat→Int→Int→(List Int)→(List Int)→Option (List Int)
 |0,_,_,_,_=>none
 |k+1,x1,x2,x3,l0=>if x1<x2 then(if 0≤x2 then(if x2<(l0.length:Int) then(if 0≤x1 then(if x1<(l0.length:Int) then((some (List.set x3 x1.toNat (rd x3 x2):List Int)).bind fun y22=>((some (List.set y22 x2.toNat (rd x3 x1):List Int)).bind fun y26=>((slices_reverseRangeOrdered_rune.l0 k (wrap64 (x1+1)) (wrap64 (x2 - 1)) y26 l0)))) else(none)) else(none)) else(none)) else(none)) else(some x3)
def slices_reverseRangeOrdered_rune.f (k:Nat) (l0:List Int) (a1:Int) (a2:Int):Option (List Int):=(slices_reverseRangeOrdered_rune.l0 k a1 (wrap64 (a2 - 1)) l0 l0)
theorem slices_reverseRangeOrdered_rune.mono_l:∀ k,(∀ y0 y1 y2 y3,LeO (slices_reverseRangeOrdered_rune.l0 k y0 y1 y2 y3) (slices_reverseRangeOrdered_rune.l0 (k+1) y0 y1 y2 y3))
 |0=>fun _ _ _ _ r h=>by simp[slices_reverseRangeOrdered_rune.l0] at h
 |k+1=>by
  have ih0:=slices_reverseRangeOrdered_rune.mono_l k
  ·intro y0 y1 y2 y3
   unfold slices_reverseRangeOrdered_rune.l0
   with_reducible repeat' first|exact ih0 _ _ _ _|exact LeO.refl _|exact LeO.none _|refine LeO.ite ?_ ?_|refine LeO.bind ?_ (fun _=>?_)
theorem slices_reverseRangeOrdered_rune.mono:∀ a0_ a1_ a2_ k,LeO (slices_reverseRangeOrdered_rune.f k a0_ a1_ a2_) (slices_reverseRangeOrdered_rune.f (k+1) a0_ a1_ a2_):=by
 intro a0_ a1_ a2_ k
 have ih0:=slices_reverseRangeOrdered_rune.mono_l k
 unfold slices_reverseRangeOrdered_rune.f
 with_reducible repeat' first|exact ih0 _ _ _ _|exact LeO.refl _|exact LeO.none _|refine LeO.ite ?_ ?_|refine LeO.bind ?_ (fun _=>?_)
theorem slices_reverseRangeOrdered_rune.calls (k:Nat) (B_:Nat) (A0:Option Addr) (c0:Nat) (l0:List Int) (a1:Int) (a2:Int) (r:List Int) (w:World) (hB0:B_≤w.heap.size) (hn0:Kd.N (Kd.int .i32) 21 w B_ (fun k_=>some k_=((.slice A0 l0.length c0):Value).ownBlock) (.slice A0 l0.length c0) l0) (h:slices_reverseRangeOrdered_rune.f k l0 a1 a2=some r):
  Calls Try.prog 59 #[(.slice A0 l0.length c0),.int .i64 a1,.int .i64 a2] w (fun e w'=>e=.returned (.tuple #[])∧Kd.N (Kd.int .i32) 21 w' B_ (fun k_=>some k_=((.slice A0 l0.length c0):Value).ownBlock∨w.heap.size≤k_) (.slice A0 l0.length c0) r∧(∀ k_:Nat,some k_≠((.slice A0 l0.length c0):Value).ownBlock→k_<w.heap.size→w'.heap[k_]? =w.heap[k_]?)∧Below B_ w w'):=by
 unfold slices_reverseRangeOrdered_rune.f at h
 have HH:=za h
 clear h
 obtain⟨P0_,HPO⟩:∃ P0_:Nat→Prop,P0_=(fun k_=>some k_≠((.slice A0 l0.length c0):Value).ownBlock):=⟨_,rfl⟩
 have HFfr:=za (MB.frK_new w (fun k_ hk_=>by rw[HPO] at hk_;exact⟨trivial,hk_⟩):Kd.F (MB.frK w P0_) w (fun k_=>True∧some k_≠((.slice A0 l0.length c0):Value).ownBlock) (some ⟨0,0,none⟩) [()].length [()])
 replace HPO:=za HPO
 have hB_:=za hB0
 have HN0:=za (Kd.N_mono hn0 (fun k_ hk_=>⟨trivial,.inl hk_⟩):Kd.N (Kd.int .i32) 21 w B_ (fun k_=>True∧(some k_=((.slice A0 l0.length c0):Value).ownBlock∨w.heap.size≤k_)) (.slice A0 l0.length c0) l0)
 clear hn0
 have HB:=za (Below.refl B_ w)
 go_enter Try.func59,Try.ntmps59
 go_wp2
 go_loopg [6,7] k (fun kq u6 u7 w'=>∃ (x1:Int) (x2:Int) (x3:List Int),u6=.int .i64 x1∧u7=.int .i64 x2∧Aside0 ((slices_reverseRangeOrdered_rune.l0 kq x1 x2 x3 l0)=some r)∧Aside0 (kq≤k)∧Aside0 (Kd.F (MB.frK w P0_) w' (fun k_=>True∧some k_≠((.slice A0 l0.length c0):Value).ownBlock) (some ⟨0,0,none⟩) [()].length [()])∧Aside0 (Kd.N (Kd.int .i32) 21 w' B_ (fun k_=>True∧(some k_=((.slice A0 l0.length c0):Value).ownBlock∨w.heap.size≤k_)) (.slice A0 l0.length c0) x3)∧Aside0 (Below B_ w w'))
 case atStart=>exact⟨a1,wrap64 (a2 - 1),l0,(by first|rfl|(simp;done)|(simp[*];done)),(by first|rfl|(simp;done)|(simp[*];done)),HH,⟨Nat.le_refl _⟩,⟨HFfr.out⟩,⟨(Kd.N_mono (ok:=(fun k_=>True∧(some k_=((.slice A0 l0.length c0):Value).ownBlock∨w.heap.size≤k_))) HN0.out (fun k_ hk_=>hk_))⟩,⟨HB.out⟩⟩
 case round=>
  clear HH
  clear HFfr HN0 HB
  obtain⟨x1,x2,x3,rfl,rfl,HA,HK0,HFfr,HN0,HB⟩:=hrel
  obtain⟨w5,rfl⟩:∃ wo_:World,wo_=wr:=⟨_,rfl⟩
  cases gk with
  |zero=>exact absurd HA.out (by simp[slices_reverseRangeOrdered_rune.l0])
  |succ k4=>
   have H:=HA.out
   clear HA
   simp only[slices_reverseRangeOrdered_rune.l0] at H
   have HH:=za H
   clear H
   replace HH:=zqt HH
   rcases HH with⟨HH,hk7,hk8⟩|⟨HH,hk35,hk36⟩
   ·go_wp2
    have hwr_:∀ n_:Int,IntKind.i64.wrap n_=wrap64 n_:=fun n_=>IntWalk.i64_left n_
    refine wp_region_any (by kernel_rfl) ?_
    change wpAny _ _ _ _ 16 #[false,false,false,false,false,false,false,false,false,false,false,false,false,false,false,false] _ w5.drew
    obtain⟨w9,hw_⟩:∃ w_:World,w_=w5.drew:=⟨_,rfl⟩
    rw[← hw_]
    have hb:Below w5.heap.size w5 w9:=by rw[hw_];exact below_drew1 (Below.refl _ _)
    clear hw_
    replace HFfr:=zfb HFfr.out hb
    replace HN0:=znb HN0.out hb
    replace HB:=za (MB.below_stepB hB_.out HB.out hb)
    clear hb
    refine zt 0 ((.slice A0 l0.length c0)) #[_,_,_,_,_,_,_,_,_,_,_,_,_,_,_,_] ⟨[_,_,_,_,_,_,_,_,_,_,_,_,_,_,_,_,_,_,_,_,_,_,_,_,_,_,_,_,_,_,_,_].toArray,[]⟩ (h:=?_)
    refine zt 1 (.int .i64 x1) #[_,_,_,_,_,_,_,_,_,_,_,_,_,_,_,_] ⟨[_,_,_,_,_,_,_,_,_,_,_,_,_,_,_,_,_,_,_,_,_,_,_,_,_,_,_,_,_,_,_,_].toArray,[]⟩ (h:=?_)
    refine zt 2 ((.slice A0 l0.length c0)) #[_,_,_,_,_,_,_,_,_,_,_,_,_,_,_,_] ⟨[_,_,_,_,_,_,_,_,_,_,_,_,_,_,_,_,_,_,_,_,_,_,_,_,_,_,_,_,_,_,_,_].toArray,[]⟩ (h:=?_)
    refine zt 3 (.int .i64 x2) #[_,_,_,_,_,_,_,_,_,_,_,_,_,_,_,_] ⟨[_,_,_,_,_,_,_,_,_,_,_,_,_,_,_,_,_,_,_,_,_,_,_,_,_,_,_,_,_,_,_,_].toArray,[]⟩ (h:=?_)
    refine zt 4 ((.slice A0 l0.length c0)) #[_,_,_,_,_,_,_,_,_,_,_,_,_,_,_,_] ⟨[_,_,_,_,_,_,_,_,_,_,_,_,_,_,_,_,_,_,_,_,_,_,_,_,_,_,_,_,_,_,_,_].toArray,[]⟩ (h:=?_)
    refine zt 5 (.int .i64 x2) #[_,_,_,_,_,_,_,_,_,_,_,_,_,_,_,_] ⟨[_,_,_,_,_,_,_,_,_,_,_,_,_,_,_,_,_,_,_,_,_,_,_,_,_,_,_,_,_,_,_,_].toArray,[]⟩ (h:=?_)
    replace HH:=zqdo HH
    obtain⟨HH,hk11⟩:=HH
    (try simp only[hk11,Bool.not_true,Bool.not_false])
    replace HH:=zqto HH
    obtain⟨HH,hk13,hk14⟩:=HH
    (try simp only[hk13,Bool.not_true,Bool.not_false])
    (try simp only[hk14,Bool.not_true,Bool.not_false])
    have p15:0≤(x2:Int):=of_decide_eq_true (by first|(with_reducible assumption)|assumption)
    have q15:x2<(l0.length:Int):=of_decide_eq_true (by first|(with_reducible assumption)|assumption)
    obtain⟨ad15,e15,hx15_0⟩:=Kd.at_int (Kd.F_now (Kd.N_F HN0.out)) x2 p15 q15
    cases e15
    replace p15:=eq_true p15
    replace q15:=eq_true q15
    refine zt 6 (.pointer (some (ad15.add (x2.toNat)))) #[_,_,_,_,_,_,_,_,_,_,_,_,_,_,_,_] ⟨[_,_,_,_,_,_,_,_,_,_,_,_,_,_,_,_,_,_,_,_,_,_,_,_,_,_,_,_,_,_,_,_].toArray,[]⟩ (h:=?_)
    refine zt 8 ((.slice (some ad15) l0.length c0)) #[_,_,_,_,_,_,_,_,_,_,_,_,_,_,_,_] ⟨[_,_,_,_,_,_,_,_,_,_,_,_,_,_,_,_,_,_,_,_,_,_,_,_,_,_,_,_,_,_,_,_].toArray,[]⟩ (h:=?_)
    refine zt 9 (.int .i64 x1) #[_,_,_,_,_,_,_,_,_,_,_,_,_,_,_,_] ⟨[_,_,_,_,_,_,_,_,_,_,_,_,_,_,_,_,_,_,_,_,_,_,_,_,_,_,_,_,_,_,_,_].toArray,[]⟩ (h:=?_)
    replace HH:=zqdo HH
    obtain⟨HH,hk17⟩:=HH
    (try simp only[hk17,Bool.not_true,Bool.not_false])
    replace HH:=zqto HH
    obtain⟨HH,hk19,hk20⟩:=HH
    (try simp only[hk19,Bool.not_true,Bool.not_false])
    (try simp only[hk20,Bool.not_true,Bool.not_false])
    have p21:0≤(x1:Int):=of_decide_eq_true (by first|(with_reducible assumption)|assumption)
    have q21:x1<(l0.length:Int):=of_decide_eq_true (by first|(with_reducible assumption)|assumption)
    obtain⟨ad21,e21,hx21_0⟩:=Kd.at_int (Kd.F_now (Kd.N_F HN0.out)) x1 p21 q21
    cases e21
    replace p21:=eq_true p21
    replace q21:=eq_true q21
    refine zt 10 (.pointer (some (ad15.add (x1.toNat)))) #[_,_,_,_,_,_,_,_,_,_,_,_,_,_,_,_] ⟨[_,_,_,_,_,_,_,_,_,_,_,_,_,_,_,_,_,_,_,_,_,_,_,_,_,_,_,_,_,_,_,_].toArray,[]⟩ (h:=?_)
    refine MW.any_two (i:=7) (j:=11) (vi:=.int .i32 (rd x3 x2)) (vj:=.int .i32 (rd x3 x1)) #[true,true,true,true,true,true,true,true,true,true,true,true,false,false,false,false] ⟨[(.slice (some ad15) l0.length c0),(.int .i64 a1),(.int .i64 a2),undef,undef,undef,(.int .i64 x1),(.int .i64 x2),(.int .i64 a1),(.int .i64 a2),(.int .i64 (wrap64 (a2 - 1))),(.int .i64 x1),(.int .i64 x2),(.bool true),(.slice (some ad15) l0.length c0),(.int .i64 x1),(.slice (some ad15) l0.length c0),(.int .i64 x2),(.slice (some ad15) l0.length c0),(.int .i64 x2),(.pointer (some (ad15.add (x2.toNat)))),(.int .i32 (rd x3 x2)),(.slice (some ad15) l0.length c0),(.int .i64 x1),(.pointer (some (ad15.add (x1.toNat)))),(.int .i32 (rd x3 x1)),u26,u27,u28,u29,u30,u31].toArray,[]⟩ (by decide) rfl rfl (by kernel_rfl) (by kernel_rfl) (by kernel_rfl) (by kernel_rfl) (by kernel_rfl) (by first|rfl|(go_simp;done)|(go_simp;rfl)) (by first|rfl|(go_simp;done)|(go_simp;rfl)) (by first|rfl|(go_simp;done)|(go_simp;rfl)) (by first|rfl|(go_simp;done)|(go_simp;rfl)) (by kernel_rfl) (by kernel_rfl) (by kernel_rfl) (by kernel_rfl) (by kernel_rfl) (by kernel_rfl) ?_
    refine zt 12 (.pointer (some (ad15.add (x1.toNat)))) #[_,_,_,_,_,_,_,_,_,_,_,_,_,_,_,_] ⟨[_,_,_,_,_,_,_,_,_,_,_,_,_,_,_,_,_,_,_,_,_,_,_,_,_,_,_,_,_,_,_,_].toArray,[]⟩ (h:=?_)
    refine MW.any_seq 13 3 rfl (by kernel_rfl) ?_
    simp only[List.drop_succ_cons,List.drop_zero]
    clear hwr_
    obtain⟨y22,hy22⟩:∃ y_:List Int,y_=(List.set x3 x1.toNat (rd x3 x2)):=⟨_,rfl⟩
    have H:((some (List.set y22 x2.toNat (rd x3 x1):List Int)).bind fun y26=>((slices_reverseRangeOrdered_rune.l0 k4 (wrap64 (x1+1)) (wrap64 (x2 - 1)) y26 l0)))=some r:=by rw[hy22];exact HH.out
    replace HH:=za H
    clear H
    have NYy22:=za hy22
    clear hy22
    go_wp2_with (((with_reducible refine gate_store (t:=21) (p:=26) rfl ?_);(try(refine gate_guard (by rfl) ?_;dsimp only));refine MW.ev_set1 (n:=l0.length) B_ rfl rfl _ _ _ rfl 21 x1 x3 (rd x3 x2) (fun k_=>True∧(some k_=((.slice (some ad15) l0.length c0):Value).ownBlock∨w.heap.size≤k_)) (by rfl) (by rfl) (by kernel_rfl) HN0.out (of_decide_eq_true (by first|(with_reducible assumption)|assumption)) (of_decide_eq_true (by first|(with_reducible assumption)|assumption)) HB.out ?_;intro w23 hn1 hb1 hg1);refine stop_ ?_)
    refine zg ?_
    replace HFfr:=za (Kd.F_grown (ok:=(fun k_=>True∧some k_≠((.slice (some ad15) l0.length c0):Value).ownBlock)) HFfr.out hg1 (fun k_ hk_=>hk_.2))
    replace HB:=za hb1
    clear HN0
    have HN24:=za (by rw[NYy22.out];exact hn1:Kd.N (Kd.int .i32) 21 w23 B_ (fun k_=>True∧(some k_=((.slice (some ad15) l0.length c0):Value).ownBlock∨w.heap.size≤k_)) (.slice (some ad15) l0.length c0) y22)
    clear hn1 hb1 hg1
    clear hx15_0 p15 q15 hx21_0 p21 q21
    have p25:0≤(x2:Int):=of_decide_eq_true (by first|(with_reducible assumption)|assumption)
    have q25:x2<(l0.length:Int):=of_decide_eq_true (by first|(with_reducible assumption)|assumption)
    obtain⟨ad25,e25,hx25_0⟩:=Kd.at_int (Kd.F_now (Kd.N_F HN24.out)) x2 p25 q25
    cases e25
    replace p25:=eq_true p25
    replace q25:=eq_true q25
    obtain⟨y26,hy26⟩:∃ y_:List Int,y_=(List.set y22 x2.toNat (rd x3 x1)):=⟨_,rfl⟩
    have H:((slices_reverseRangeOrdered_rune.l0 k4 (wrap64 (x1+1)) (wrap64 (x2 - 1)) y26 l0))=some r:=by rw[hy26];exact HH.out
    replace HH:=za H
    clear H
    have NYy26:=za hy26
    clear hy26
    go_wp2_with (((with_reducible refine gate_store (t:=21) (p:=27) rfl ?_);(try(refine gate_guard (by rfl) ?_;dsimp only));refine MW.ev_set1 (n:=l0.length) B_ rfl rfl _ _ _ rfl 21 x2 y22 (rd x3 x1) (fun k_=>True∧(some k_=((.slice (some ad15) l0.length c0):Value).ownBlock∨w.heap.size≤k_)) (by rfl) (by rfl) (by kernel_rfl) HN24.out (of_decide_eq_true (by first|(with_reducible assumption)|assumption)) (of_decide_eq_true (by first|(with_reducible assumption)|assumption)) HB.out ?_;intro w27 hn1 hb1 hg1);refine stop_ ?_)
    refine zg ?_
    replace HFfr:=za (Kd.F_grown (ok:=(fun k_=>True∧some k_≠((.slice (some ad15) l0.length c0):Value).ownBlock)) HFfr.out hg1 (fun k_ hk_=>hk_.2))
    replace HB:=za hb1
    clear HN24
    have HN28:=za (by rw[NYy26.out];exact hn1:Kd.N (Kd.int .i32) 21 w27 B_ (fun k_=>True∧(some k_=((.slice (some ad15) l0.length c0):Value).ownBlock∨w.heap.size≤k_)) (.slice (some ad15) l0.length c0) y26)
    clear hn1 hb1 hg1
    clear hx25_0 p25 q25
    go_wp2
    go_roundg k4
    case measure=>have:=HK0.out;omega
    case rel=>exact⟨wrap64 (x1+1),wrap64 (x2 - 1),y26,(by first|rfl|(simp;done)|(simp[*];done)),(by first|rfl|(simp;done)|(simp[*];done)),HH,⟨by have:=HK0.out;omega⟩,⟨HFfr.out⟩,⟨(Kd.N_mono (ok:=(fun k_=>True∧(some k_=((.slice (some ad15) l0.length c0):Value).ownBlock∨w.heap.size≤k_))) HN28.out (fun k_ hk_=>hk_))⟩,⟨HB.out⟩⟩
   obtain rfl:=Option.some.inj HH.out
   clear HH
   go_wp2
   (first|go_end0|((try simp only[Exit.inBlock,Exit.then]);refine bodyPost_ret (results_none rfl _ _ _) rfl ?_))
   exact⟨by first|rfl|(simp;done)|(simp[*];done),(Kd.N_mono (ok:=(fun k_=>True∧(some k_=((.slice A0 l0.length c0):Value).ownBlock∨w.heap.size≤k_))) HN0.out (fun k_ hk_=>hk_.2)),(fun k_ hv_ hlt_=>MB.frK_out HFfr.out k_ (by rw[HPO.out];exact hv_) hlt_),HB.out⟩

def slices_Compact_rune_rune.f (l0:List Int):Option (List Int):=some (Go.Lib.compact l0)
theorem N_max {α :Type} {d:Kd α} {e base n c:Nat} {A:Option Addr} {W:World} {ok:Nat→Prop} {xs:List α} (h:Kd.N d e W base ok (.slice A n c) xs):n≤maxLen:=by
  obtain⟨_,rows,hl,⟨_,inner,⟨_,ho⟩,_⟩,_⟩:=h
  rcases ho with⟨h1,h2⟩|⟨g,cap,cur,hv,_,_,h3,h4,_⟩
  · injection h1 with _ h3
    omega
  · injection hv with _ h5
    omega
theorem at_arr (xs:List Int) (j:Nat) (h:j<xs.length):rd xs (j:Int)=xs.toArray[j]! :=by
  simp[rd,rdOf,List.getD,h]
theorem grown_drewN (w:World) (q n:Nat) {g:Nat}:w.grownBy (w.drewN (q+n)) (some g):=⟨rfl,rfl,rfl,Nat.le_refl _,fun _ _ _=>rfl⟩
theorem grown_drew2 {w W:World} {n g:Nat} (h:w.grownBy W (some g)):w.grownBy (W.drewN n) (some g):=⟨h.os,h.tape,h.output,h.size,h.block⟩
theorem zero21 (w:World):(zeroValue 21).run Try.prog w=.ok (.int .i32 0) w:=by
  obtain⟨i,h1,h2,_⟩:=info_parts info21
  simp[zeroValue,typeInfo,h1,h2]
theorem comp_keep {d xs:List Int} {m k:Nat} {u:Int} (h:Go.Lib.CompInv d.toArray m k xs.toArray) (hm:m<d.length) (hu:d.toArray[m]! =u) (hk:Go.Lib.keeps d.toArray m=true):Go.Lib.CompInv d.toArray (m+1) (k+1) (xs.set k u).toArray:=by
  have h1:=h.keep (by simpa using hm) hk
  rw[hu] at h1
  simpa using h1
theorem grown_any {w W:World} {g:Nat} (h:Below w.heap.size w W):w.grownBy W (some g):=⟨h.os,h.tape,h.output,h.size,fun k hk _=>h.block k hk⟩
theorem below_grown {B g:Nat} {w W:World} (hb:B≤g) (hw:B≤w.heap.size) (h:w.grownBy W (some g)):Below B w W:=⟨h.os,h.tape,h.output,h.size,fun k hk=>h.block k (Nat.lt_of_lt_of_le hk hw) (fun e=>by injection e with e;omega)⟩
theorem slices_Compact_rune_rune.calls0 (B_:Nat) (A0:Option Addr) (c0:Nat) (l0:List Int) (r:List Int) (w:World) (hB0:B_≤w.heap.size) (hn0:Kd.N (Kd.int .i32) 21 w B_ (fun k_=>some k_=((.slice A0 l0.length c0):Value).ownBlock) (.slice A0 l0.length c0) l0) (h:slices_Compact_rune_rune.f l0=some r):
    Calls Try.prog 51 #[(.slice A0 l0.length c0)] w (fun e w'=>e=.returned (.slice A0 r.length c0)∧Kd.N (Kd.int .i32) 21 w' B_ (fun k_=>some k_=((.slice A0 r.length c0):Value).ownBlock) (.slice A0 r.length c0) r∧(∀ k_:Nat,some k_≠((.slice A0 l0.length c0):Value).ownBlock→k_<w.heap.size→w'.heap[k_]? =w.heap[k_]?)∧Below B_ w w'):=by
  obtain rfl:Go.Lib.compact l0=r:=Option.some.inj h
  clear h
  by_cases h2:l0.length<2
  · have e:Go.Lib.compact l0=l0:=Go.Lib.compact_all _ (fun j hj=>Go.Lib.keeps_lt_one _ j (by omega))
    rw[e]
    have q2:((l0.length:Int)<2)=True:=eq_true (by omega)
    have HN:=za hn0
    clear hn0
    go_enter Try.func51,Try.ntmps51
    go_wp2
    go_ret
    exact⟨rfl,HN.out,fun _ _ _=>rfl,Below.refl _ _⟩
  · obtain⟨g,cap,hv,hbg,hgl,_⟩:=Kd.N_form hn0 (by omega)
    injection hv with hA _ hc
    subst hA
    subst hc
    have hmx:l0.length≤9223372036854775807:=N_max hn0
    have q2:((l0.length:Int)<2)=False:=eq_false (by omega)
    have hl0:l0.length≤c0:=(Kd.N_reads' hn0).2.1
    have HN:=za hn0
    clear hn0
    go_enter Try.func51,Try.ntmps51
    go_wp2
    go_loopg [3] l0.length (fun gk s3 wr=>∃ (k q:Nat),1≤k∧k≤l0.length∧l0.length - k≤gk∧s3=.int .i64 k∧wr=w.drewN q∧Aside0 (∀ j,j<k→Go.Lib.keeps l0.toArray j=true))
    case atStart=>exact⟨1,0,by omega,by omega,by omega,rfl,rfl,⟨Go.Lib.keeps_lt_one _⟩⟩
    case round=>
      obtain⟨k,q,hk1,hk,hg,rfl,rfl,hall⟩:=hrel
      by_cases hlt:k<l0.length
      · obtain⟨ad,e1,hx⟩:=Kd.at_int (Kd.F_now (Kd.N_F HN.out)) k (by omega) (by omega)
        cases e1
        obtain⟨ad,e2,hy⟩:=Kd.at_int (Kd.F_now (Kd.N_F HN.out)) (k - 1) (by omega) (by omega)
        cases e2
        obtain⟨x,hxe⟩:∃ x,rd l0 k=x:=⟨_,rfl⟩
        obtain⟨y,hye⟩:∃ y,rd l0 (k - 1)=y:=⟨_,rfl⟩
        rw[hxe] at hx
        rw[hye] at hy
        have B:=za (And.intro hxe hye)
        clear hxe hye
        have hw1:wrap64 ((k:Int) - 1)=(k:Int) - 1:=by simp[wrap64];omega
        have p1:(0≤(k:Int))=True:=eq_true (by omega)
        have p2:((k:Int)<(l0.length:Int))=True:=eq_true (by omega)
        have p3:(0≤(k:Int) - 1)=True:=eq_true (by omega)
        have p4:((k:Int) - 1<(l0.length:Int))=True:=eq_true (by omega)
        have ek:((k:Int) - 1).toNat=k - 1:=by omega
        have hx1:w.cell? ⟨g,k,none⟩=some (.int .i32 x):=by rw[← hx,add_at,Nat.zero_add,Int.toNat_natCast]
        have hy1:w.cell? ⟨g,k - 1,none⟩=some (.int .i32 y):=by rw[← hy,add_at,Nat.zero_add,ek]
        clear hx hy
        by_cases hdup:x=y
        · subst hdup
          go_wp2
          go_quiet (fail)
          go_wp2
          clear p1 p2 p3 p4 hx1 hy1
          have hneg:Go.Lib.keeps l0.toArray k=false:=Go.Lib.keeps_neg (by omega) (by rw[← at_arr l0 k (by omega),← at_arr l0 (k - 1) (by omega),B.out.1,show((k - 1:Nat):Int)=(k:Int) - 1 by omega,B.out.2])
          have hst:=za (Go.Lib.CompInv.start hall.out hneg)
          have hle0:(k:Int)≤(l0.length:Int):=by omega
          clear hneg hall
          go_loopg [3,5] l0.length (fun gk s3 s5 wr=>∃ (kk k2:Nat) (xs:List Int),s3=.int .i64 kk∧s5=.int .i64 k2∧1≤k2∧k+k2≤l0.length∧l0.length - (k+k2)≤gk∧Aside0 (w.grownBy wr (some g))∧Aside0 (Kd.N (Kd.int .i32) 21 wr B_ (fun k_=>some k_=((.slice (some ⟨g,0,none⟩) l0.length c0):Value).ownBlock) (.slice (some ⟨g,0,none⟩) l0.length c0) xs)∧Aside0 (Go.Lib.CompInv l0.toArray (k+k2) kk xs.toArray))
          case atStart=>exact⟨k,1,l0,rfl,rfl,by omega,by omega,by omega,⟨grown_drewN w q nq⟩,⟨Kd.N_drewN (Kd.N_drewN HN.out q) nq⟩,hst⟩
          case round=>
            obtain⟨kk,k2,xs,rfl,rfl,h1,hle,hg2,HG,HX,HI⟩:=hrel
            have hkk:=HI.out.lt
            have hxl:xs.length=l0.length:=by have:=HI.out.size;simpa using this
            obtain⟨w1,rfl⟩:∃ wo_:World,wo_=wr:=⟨_,rfl⟩
            have HB:=za (below_grown hbg hB0 HG.out)
            by_cases hlt2:k+k2<l0.length
            · obtain⟨ad,e1,hx⟩:=Kd.at_int (Kd.F_now (Kd.N_F HX.out)) ((k+k2:Nat):Int) (by omega) (by omega)
              cases e1
              obtain⟨ad,e2,hy⟩:=Kd.at_int (Kd.F_now (Kd.N_F HX.out)) ((k+k2 - 1:Nat):Int) (by omega) (by omega)
              cases e2
              obtain⟨u,hue⟩:∃ u,rd xs ((k+k2:Nat):Int)=u:=⟨_,rfl⟩
              obtain⟨v,hve⟩:∃ v,rd xs ((k+k2 - 1:Nat):Int)=v:=⟨_,rfl⟩
              rw[hue] at hx
              rw[hve] at hy
              have eu:l0.toArray[k+k2]! =u:=by rw[← HI.out.high _ (by omega),← at_arr xs _ (by omega),hue]
              have ev:l0.toArray[k+k2 - 1]! =v:=by rw[← HI.out.high _ (by omega),← at_arr xs _ (by omega),hve]
              have B2:=za (And.intro eu ev)
              clear hue hve eu ev
              have hw2:wrap64 ((k2:Int) - 1)=(k2:Int) - 1:=by simp[wrap64];omega
              have ek2:((k2:Int) - 1).toNat=k2 - 1:=by omega
              have hx1:w1.cell? ⟨g,k+k2,none⟩=some (.int .i32 u):=by rw[← hx,add_at,Nat.zero_add,Int.toNat_natCast]
              have hy1:w1.cell? ⟨g,k+(k2 - 1),none⟩=some (.int .i32 v):=by rw[← hy,add_at,Nat.zero_add,Int.toNat_natCast,show k+(k2 - 1)=k+k2 - 1 by omega]
              clear hx hy
              have p1:(0≤(k2:Int))=True:=eq_true (by omega)
              have p2:((k2:Int)<((l0.length - k:Nat):Int))=True:=eq_true (by omega)
              have p3:(0≤(k2:Int) - 1)=True:=eq_true (by omega)
              have p4:((k2:Int) - 1<((l0.length - k:Nat):Int))=True:=eq_true (by omega)
              by_cases huv:u=v
              · subst huv
                go_wp2
                go_quiet (fail)
                go_wp2
                go_roundg (l0.length - (k+(k2+1)))
                case measure=>omega
                case rel=>exact⟨kk,k2+1,xs,rfl,by go_num,by omega,by omega,Nat.le_refl _,⟨grown_drew2 HG.out⟩,⟨Kd.N_drewN HX.out _⟩,⟨HI.out.skip (Go.Lib.keeps_neg (by omega) (by rw[B2.out.1,B2.out.2]))⟩⟩
              · have hd:(u==v)=false:=by simpa using huv
                have p5:(0≤(kk:Int))=True:=eq_true (by omega)
                have p6:((kk:Int)<(l0.length:Int))=True:=eq_true (by omega)
                go_wp2
                go_quiet (fail)
                repeat(first|(refine MQ.code_stop (id:=12) ?_)|go_values|go_skip|go_guarded|go_step|go_upon)
                refine zg ?_
                clear hx1 hy1
                refine MW.name_world (W0:=w1) (by repeat(first|exact Drawn0.refl _|apply Drawn0.step)) ?_
                intro w2 hb
                replace HX:=znb HX.out hb
                have HG2:=za (World.grownBy.trans HG.out (grown_any hb))
                have HB2:=za (below_grown hbg hB0 HG2.out)
                clear hb HG HB
                obtain⟨ad,e1,hx⟩:=Kd.at_int (Kd.F_now (Kd.N_F HX.out)) ((k+k2:Nat):Int) (by omega) (by omega)
                cases e1
                rw[show rd xs ((k+k2:Nat):Int)=u by rw[at_arr xs _ (by omega),HI.out.high _ (by omega),B2.out.1]] at hx
                have hx1:w2.cell? ⟨g,k+k2,none⟩=some (.int .i32 u):=by rw[← hx,add_at,Nat.zero_add,Int.toNat_natCast]
                clear hx
                go_wp2_with (((with_reducible refine gate_store (t:=21) (p:=51) rfl ?_);(try(refine gate_guard (by rfl) ?_;dsimp only));refine MW.ev_set1 (n:=l0.length) B_ rfl rfl _ _ _ rfl 21 (kk:Int) xs u (fun k_=>some k_=((.slice (some ⟨g,0,none⟩) l0.length c0):Value).ownBlock) (by rw[add_at,Nat.zero_add,Int.toNat_natCast];rfl) (by rfl) (by kernel_rfl) HX.out (by omega) (by omega) HB2.out ?_;intro w3 hn1 hb1 hg1);refine stop_ ?_)
                refine zg ?_
                have HG3:=za (World.grownBy.trans HG2.out hg1)
                have HX3:=za hn1
                clear hn1 hb1 hg1 hx1
                go_wp2
                go_roundg (l0.length - (k+(k2+1)))
                case measure=>omega
                case rel=>exact⟨kk+1,k2+1,xs.set kk u,by go_num,by go_num,by omega,by omega,Nat.le_refl _,HG3,HX3,⟨comp_keep (m:=k+k2) HI.out hlt2 B2.out.1 (Go.Lib.keeps_pos (by rw[B2.out.1,B2.out.2];exact huv))⟩⟩
            · have hend:k+k2=l0.length:=by omega
              have hz:∀ w,(zeroValue 21).run Try.prog w=.ok (.int .i32 0) w:=zero21
              have hcl:∀ ty,(Builtin.clear_ #[29] ty #[.slice (some ⟨g,kk,none⟩) (l0.length - kk) (c0 - kk)]).run Try.prog w1=.ok (.tuple #[]) (w1.setCells g kk (List.replicate (l0.length - kk) (.int .i32 0))):=
                fun ty=>Lib.run_clear_slice w1 29 21 ty _ Try.underlying29 hz rfl rfl g kk _ _ (by omega)
                  (fun j hj=>by
                    obtain⟨ad,e1,hx⟩:=Kd.at_int (Kd.F_now (Kd.N_F HX.out)) ((kk+j:Nat):Int) (by omega) (by omega)
                    cases e1
                    rw[add_at,Nat.zero_add,Int.toNat_natCast] at hx
                    rw[hx];rfl) (fun j hj=>by
                    obtain⟨c,_,_,_,hf⟩:=Kd.N_elem HX.out 0 ((kk+j:Nat):Int) (by omega) (by omega)
                    have e:((kk+j:Nat):Int).toNat*(Kd.int .i32).sz+0=kk+j:=by rw[Int.toNat_natCast];exact Nat.mul_one _
                    rw[← e];exact hf 0)
              have hlek:(kk:Int)≤(l0.length:Int):=by omega
              have p5:(0≤(kk:Int))=True:=eq_true (by omega)
              go_wp2
              go_ret
              have hI:=HI.out
              rw[hend] at hI
              have hcomp:Go.Lib.compact l0=xs.take kk:=by
                apply List.ext_getElem?
                intro j
                rw[List.getElem?_take]
                split
                · rename_i hj
                  rw[show Go.Lib.compact l0=Go.Lib.compactUpTo l0.toArray l0.length from rfl,hI.low j hj]
                  have:j<xs.length:=by omega
                  simp[this]
                · exact List.getElem?_eq_none (by rw[show Go.Lib.compact l0=Go.Lib.compactUpTo l0.toArray l0.length from rfl,hI.len];omega)
              have hlen:(Go.Lib.compact l0).length=kk:=hI.len
              have hgr:=World.grownBy.trans HG.out (MS.setCells_grown w1 g kk (List.replicate (l0.length - kk) (.int .i32 0)))
              rw[hlen,hcomp]
              refine⟨rfl,MS.N_head HX.out (by omega) (fun k_ hk_ hlt_=>(MS.setCells_grown w1 g kk _).block k_ hlt_ (fun e=>hk_ (Option.some.inj e))) (fun cur hcur=>?_),fun k_ hk_ hlt_=>hgr.block k_ hlt_ hk_,below_grown hbg hB0 hgr⟩
              obtain⟨cur',h1,h2,h3⟩:=MS.setCells_head (List.replicate (l0.length - kk) (.int .i32 0)) kk w1 cur hcur
              exact⟨cur',h1,h2,fun j hj=>h3 j (by rw[show(Kd.int .i32).sz=1 from rfl] at hj;omega)⟩
        · have hd:(x==y)=false:=by simpa using hdup
          go_wp2
          go_quiet (fail)
          go_wp2
          go_roundg (l0.length - (k+1))
          case measure=>omega
          case rel=> 
            refine⟨k+1,q+nq,by omega,by omega,by omega,by go_num,rfl,⟨fun j hj=>?_⟩⟩
            by_cases e:j=k
            · subst e
              exact Go.Lib.keeps_pos (by rw[← at_arr l0 j (by omega),← at_arr l0 (j - 1) (by omega),B.out.1,show((j - 1:Nat):Int)=(j:Int) - 1 by omega,B.out.2];exact hdup)
            · exact hall.out j (by omega)
      · have e:k=l0.length:=by omega
        subst e
        go_wp2
        go_ret
        have e:Go.Lib.compact l0=l0:=Go.Lib.compact_all _ (fun j hj=>hall.out j hj)
        rw[e]
        exact⟨rfl,Kd.N_drewN HN.out q,fun k_ _ hlt_=>(pw_below_drewN (Below.refl _ _) _).block k_ hlt_,pw_below_drewN (Below.refl _ _) _⟩
theorem slices_Compact_rune_rune.calls (B_:Nat) (A0:Option Addr) (c0:Nat) (l0:List Int) (r:List Int) (w:World) (hB0:B_≤w.heap.size) (hn0:Kd.N (Kd.int .i32) 21 w B_ (fun k_=>some k_=((.slice A0 l0.length c0):Value).ownBlock) (.slice A0 l0.length c0) l0) (h:slices_Compact_rune_rune.f l0=some r):
    Calls Try.prog 51 #[(.slice A0 l0.length c0)] w (fun e w'=>∃ v0_:Value,e=.returned v0_∧v0_.ownBlock=((.slice A0 l0.length c0):Value).ownBlock∧Kd.N (Kd.int .i32) 21 w' B_ (fun k_=>some k_=v0_.ownBlock) v0_ r∧(∀ k_:Nat,some k_≠((.slice A0 l0.length c0):Value).ownBlock→k_<w.heap.size→w'.heap[k_]? =w.heap[k_]?)∧Below B_ w w'):=by
  refine(slices_Compact_rune_rune.calls0 B_ A0 c0 l0 r w hB0 hn0 h).mono ?_
  rintro e w' ⟨rfl,hn,hf,hb⟩
  exact⟨_,rfl,by cases A0 <;>rfl,hn,hf,hb⟩
end Go.Proofs.Ytkbiiijmgbjnkaa.GA

namespace Go.Proofs.Ytkbiiijmgbjnkaa.GA
open Go.RowKit Go.Proofs.Ytkbiiijmgbjnkaa Go.Proofs.Ytkbiiijmgbjnkaa.MW Go.Proofs.YtkbiiijmgbjnkaaW.PrintWords Go.Proofs.YtkbiiijmgbjnkaaW.PrintLast Go.Proofs.YtkbiiijmgbjnkaaW.PrintMore
attribute [local go_sem] max2_int min2_int max_two min_two
set_option linter.unusedVariables false
set_option linter.unusedSimpArgs false
attribute [local go_sem high] eqA38
def toponymref02_Same.l0:Nat→Int→(List (S38))→(List (S38))→Option (Bool)
 |0,_,_,_=>none
 |k+1,x5,l0,l1=>if x5<(l0.length:Int) then(if 0≤x5 then(if x5<(l1.length:Int) then(if (!(((rd_T38 l0 x5).f0)==((rd_T38 l1 x5).f0)) || (!(((rd_T38 l0 x5).f1)==((rd_T38 l1 x5).f1)) || (!(((rd_T38 l0 x5).f2)==((rd_T38 l1 x5).f2)))))=true then(some false) else((toponymref02_Same.l0 k (wrap64 (x5+1)) l0 l1))) else(none)) else(none)) else(some true)
def toponymref02_Same.f (k:Nat) (l0:List (S38)) (l1:List (S38)):Option (Bool):=if (l0.length:Int)=(l1.length:Int) then((toponymref02_Same.l0 k 0 l0 l1)) else(some false)
theorem toponymref02_Same.mono_l:∀ k,(∀ y0 y1 y2,LeO (toponymref02_Same.l0 k y0 y1 y2) (toponymref02_Same.l0 (k+1) y0 y1 y2))
 |0=>fun _ _ _ r h=>by simp[toponymref02_Same.l0] at h
 |k+1=>by
  have ih0:=toponymref02_Same.mono_l k
  ·intro y0 y1 y2
   unfold toponymref02_Same.l0
   with_reducible repeat' first|exact ih0 _ _ _|exact LeO.refl _|exact LeO.none _|refine LeO.ite ?_ ?_|refine LeO.bind ?_ (fun _=>?_)
theorem toponymref02_Same.mono:∀ a0_ a1_ k,LeO (toponymref02_Same.f k a0_ a1_) (toponymref02_Same.f (k+1) a0_ a1_):=by
 intro a0_ a1_ k
 have ih0:=toponymref02_Same.mono_l k
 unfold toponymref02_Same.f
 with_reducible repeat' first|exact ih0 _ _ _|exact LeO.refl _|exact LeO.none _|refine LeO.ite ?_ ?_|refine LeO.bind ?_ (fun _=>?_)
theorem toponymref02_Same.calls (k:Nat) (P_:Nat→Prop) (A0:Option Addr) (c0:Nat) (l0:List (S38)) (A1:Option Addr) (c1:Nat) (l1:List (S38)) (r:Bool) (w:World) (hs0:Kd.F k38 w P_ A0 l0.length l0) (hc0:l0.length≤c0) (hs1:Kd.F k38 w P_ A1 l1.length l1) (hc1:l1.length≤c1) (h:toponymref02_Same.f k l0 l1=some r):
  Calls Try.prog 20 #[.slice A0 l0.length c0,.slice A1 l1.length c1] w (fun e w'=>e=.returned (.bool r)∧Drawn0 w w'):=by
 unfold toponymref02_Same.f at h
 have HH:=za h
 clear h
 have HF0:=zfp hs0
 clear hs0 hc0
 have HF1:=zfp hs1
 clear hs1 hc1
 have hu38:=Try.underlying38
 go_enter Try.func20,Try.ntmps20
 by_cases c1:(l0.length:Int)=(l1.length:Int)
 ·replace HH:=MW.hpos HH c1
  have hk2:((l0.length:Int)==(l1.length:Int))=true:=beq_iff_eq.mpr c1
  have hk3:((l0.length:Int) != (l1.length:Int))=false:=bne_eq_false_iff_eq.mpr c1
  have hk4:(l0.length==l1.length)=true:=by first|simpa using c1|(simp at c1 ⊢;omega)
  clear c1
  go_wp2
  go_loopg [5] k (fun kq u5 w'=>∃ (x5:Int),u5=.int .i64 x5∧Aside0 ((toponymref02_Same.l0 kq x5 l0 l1)=some r)∧Aside0 (kq≤k)∧Drawn0 w w')
  case atStart=>exact⟨0,(by first|rfl|(simp;done)|(simp[*];done)),HH,⟨Nat.le_refl _⟩,by repeat(first|exact Drawn0.refl _|apply Drawn0.step)⟩
  case round=>
   clear hk2
   clear hk3
   clear hk4
   clear HH
   obtain⟨x5,rfl,HA,HK0,⟨m0_,rfl⟩⟩:=hrel
   cases gk with
   |zero=>exact absurd HA.out (by simp[toponymref02_Same.l0])
   |succ k6=>
    have H:=HA.out
    clear HA
    simp only[toponymref02_Same.l0] at H
    have HH:=za H
    clear H
    replace HH:=zqt HH
    rcases HH with⟨HH,hk9,hk10⟩|⟨HH,hk24,hk25⟩
    ·replace HH:=zqdo HH
     obtain⟨HH,hk12⟩:=HH
     have p13:0≤(x5:Int):=of_decide_eq_true (by first|(with_reducible assumption)|assumption)
     have q13:x5<(l0.length:Int):=of_decide_eq_true (by first|(with_reducible assumption)|assumption)
     obtain⟨ad13,e13,hx13_0,hx13_1,hx13_2⟩:=atF_T38 HF0.out x5 p13 q13
     cases e13
     replace p13:=eq_true p13
     replace q13:=eq_true q13
     replace HH:=zqto HH
     obtain⟨HH,hk15,hk16⟩:=HH
     have p17:0≤(x5:Int):=of_decide_eq_true (by first|(with_reducible assumption)|assumption)
     have q17:x5<(l1.length:Int):=of_decide_eq_true (by first|(with_reducible assumption)|assumption)
     obtain⟨ad17,e17,hx17_0,hx17_1,hx17_2⟩:=atF_T38 HF1.out x5 p17 q17
     cases e17
     replace p17:=eq_true p17
     replace q17:=eq_true q17
     by_cases c18:(!(((rd_T38 l0 x5).f0)==((rd_T38 l1 x5).f0)) || (!(((rd_T38 l0 x5).f1)==((rd_T38 l1 x5).f1)) || (!(((rd_T38 l0 x5).f2)==((rd_T38 l1 x5).f2)))))=true
     ·replace HH:=MW.hpos HH c18
      have hk19:(!(((rd_T38 l0 x5).f0)==((rd_T38 l1 x5).f0)) || (!(((rd_T38 l0 x5).f1)==((rd_T38 l1 x5).f1)) || (!(((rd_T38 l0 x5).f2)==((rd_T38 l1 x5).f2)))))=true:=c18
      clear c18
      obtain rfl:=Option.some.inj HH.out
      clear HH
      go_wp2
      go_quiet (fail)
      go_wp2
      go_ret
      exact⟨by first|rfl|(simp;done)|(simp[*];done),by repeat(first|exact Drawn0.refl _|apply Drawn0.step)⟩
     replace HH:=MW.hneg HH c18
     have hk20:(!(((rd_T38 l0 x5).f0)==((rd_T38 l1 x5).f0)) || (!(((rd_T38 l0 x5).f1)==((rd_T38 l1 x5).f1)) || (!(((rd_T38 l0 x5).f2)==((rd_T38 l1 x5).f2)))))=false:=by simpa using c18
     clear c18
     go_wp2
     go_quiet (fail)
     go_wp2
     go_roundg k6
     case measure=>have:=HK0.out;omega
     case rel=>exact⟨wrap64 (x5+1),(by first|rfl|(simp;done)|(simp[*];done)),HH,⟨by have:=HK0.out;omega⟩,by repeat(first|exact Drawn0.refl _|apply Drawn0.step)⟩
    obtain rfl:=Option.some.inj HH.out
    clear HH
    go_wp2
    go_ret
    exact⟨by first|rfl|(simp;done)|(simp[*];done),by repeat(first|exact Drawn0.refl _|apply Drawn0.step)⟩
 replace HH:=MW.hneg HH c1
 have hk26:((l0.length:Int)==(l1.length:Int))=false:=beq_eq_false_iff_ne.mpr c1
 have hk27:((l0.length:Int) != (l1.length:Int))=true:=bne_iff_ne.mpr c1
 have hk28:(l0.length==l1.length)=false:=by first|simpa using c1|(simp at c1 ⊢;omega)
 clear c1
 obtain rfl:=Option.some.inj HH.out
 clear HH
 go_wp2
 go_ret
 exact⟨by first|rfl|(simp;done)|(simp[*];done),by repeat(first|exact Drawn0.refl _|apply Drawn0.step)⟩
end Go.Proofs.Ytkbiiijmgbjnkaa.GA

namespace Go.Proofs.Ytkbiiijmgbjnkaa.GA
open Go.RowKit Go.Proofs.Ytkbiiijmgbjnkaa Go.Proofs.Ytkbiiijmgbjnkaa.MW Go.Proofs.YtkbiiijmgbjnkaaW.PrintWords Go.Proofs.YtkbiiijmgbjnkaaW.PrintLast Go.Proofs.YtkbiiijmgbjnkaaW.PrintMore
attribute [local go_sem] max2_int min2_int max_two min_two
set_option linter.unusedVariables false
set_option linter.unusedSimpArgs false
def toponymref02_may.f (a0_0:Int) (a0_1:Int) (a0_2:Int):Option (Bool):=if a0_0≥0 then(if a0_1≥a0_0 then(some (decide (a0_1≤1114111))) else(some false)) else(some false)
theorem toponymref02_may.calls (a0_0:Int) (a0_1:Int) (a0_2:Int) (r:Bool) (w:World) (h:toponymref02_may.f a0_0 a0_1 a0_2=some r):
  Calls Try.prog 46 #[.agg #[.int .i32 a0_0,.int .i32 a0_1,.int .i64 a0_2]] w (fun e w'=>e=.returned (.bool r)∧Below w.heap.size w w'):=by
 unfold toponymref02_may.f at h
 have HH:=za h
 clear h
 have HB:=za (Below.refl w.heap.size w)
 have hu38:=Try.underlying38
 go_enter Try.func46,Try.ntmps46
 go_wp2_with ((with_reducible refine gd 1 rfl ?_);refine zb 1 38 #[.int .i32 a0_0,.int .i32 a0_1,.int .i64 a0_2] (h:=?_);intro g1 hg w2 BKg1 hb)
 refine zg ?_
 replace HB:=zhb HB.out hb
 clear hg hb
 replace cBKg1:=MB.lz3 BKg1.out
 replace HH:=zqG HH
 rcases HH with⟨HH,hk7⟩|⟨HH,hk11⟩
 ·replace HH:=zqG HH
  rcases HH with⟨HH,hk9⟩|⟨HH,hk10⟩
  ·obtain rfl:=Option.some.inj HH.out
   clear HH
   go_wp2
   go_ret
   exact zfi HB.out
  obtain rfl:=Option.some.inj HH.out
  clear HH
  go_wp2
  go_ret
  exact zfi HB.out
 obtain rfl:=Option.some.inj HH.out
 clear HH
 go_wp2
 go_ret
 exact zfi HB.out

def toponymref02_Check.l0:Nat→Int→(List (S38))→Option (Int)
 |0,_,_=>none
 |k+1,x6,l0=>if x6<(l0.length:Int) then(if 0≤x6 then((toponymref02_may.f ((rd_T38 l0 x6).f0) ((rd_T38 l0 x6).f1) ((rd_T38 l0 x6).f2)).bind fun t16=>(if t16=true then(if ((rd_T38 l0 x6).f2)=0 then(some 20) else(if x6=0 then((toponymref02_Check.l0 k (wrap64 (x6+1)) l0)) else(if 0≤(wrap64 (x6 - 1)) then(if (wrap64 (x6 - 1))<(l0.length:Int) then(if (wrap32 (((rd_T38 l0 x6).f0) - ((rd_T38 l0 (wrap64 (x6 - 1))).f1)))<1 then(some 20) else(if (wrap32 (((rd_T38 l0 x6).f0) - ((rd_T38 l0 (wrap64 (x6 - 1))).f1)))=1 then(if ((rd_T38 l0 x6).f2)=((rd_T38 l0 (wrap64 (x6 - 1))).f2) then(some 20) else((toponymref02_Check.l0 k (wrap64 (x6+1)) l0))) else((toponymref02_Check.l0 k (wrap64 (x6+1)) l0)))) else(none)) else(none)))) else(some 20))) else(none)) else(some 0)
def toponymref02_Check.f (k:Nat) (l0:List (S38)):Option (Int):=if (l0.length:Int)>500 then(some 20) else((toponymref02_Check.l0 k 0 l0))
theorem toponymref02_Check.mono_l:∀ k,(∀ y0 y1,LeO (toponymref02_Check.l0 k y0 y1) (toponymref02_Check.l0 (k+1) y0 y1))
 |0=>fun _ _ r h=>by simp[toponymref02_Check.l0] at h
 |k+1=>by
  have ih0:=toponymref02_Check.mono_l k
  ·intro y0 y1
   unfold toponymref02_Check.l0
   with_reducible repeat' first|exact ih0 _ _|exact LeO.refl _|exact LeO.none _|refine LeO.ite ?_ ?_|refine LeO.bind ?_ (fun _=>?_)
theorem toponymref02_Check.mono:∀ a0_ k,LeO (toponymref02_Check.f k a0_) (toponymref02_Check.f (k+1) a0_):=by
 intro a0_ k
 have ih0:=toponymref02_Check.mono_l k
 unfold toponymref02_Check.f
 with_reducible repeat' first|exact ih0 _ _|exact LeO.refl _|exact LeO.none _|refine LeO.ite ?_ ?_|refine LeO.bind ?_ (fun _=>?_)
theorem toponymref02_Check.calls (k:Nat) (P_:Nat→Prop) (A0:Option Addr) (c0:Nat) (l0:List (S38)) (r:Int) (w:World) (hs0:Kd.F k38 w P_ A0 l0.length l0) (hc0:l0.length≤c0) (h:toponymref02_Check.f k l0=some r):
  Calls Try.prog 36 #[.slice A0 l0.length c0] w (fun e w'=>e=.returned (.int .i64 r)∧Below w.heap.size w w'):=by
 unfold toponymref02_Check.f at h
 have HH:=za h
 clear h
 have HF0:=zfp hs0
 clear hs0 hc0
 have HB:=za (Below.refl w.heap.size w)
 have hu38:=Try.underlying38
 go_enter Try.func36,Try.ntmps36
 replace HH:=zqK 500 HH
 rcases HH with⟨HH,hk2,hk3⟩|⟨HH,hk4,hk5⟩
 ·obtain rfl:=Option.some.inj HH.out
  clear HH
  go_wp2
  go_ret
  exact zfi HB.out
 go_wp2
 go_loopg [3] k (fun kq u3 w'=>∃ (x6:Int),u3=.int .i64 x6∧Aside0 ((toponymref02_Check.l0 kq x6 l0)=some r)∧Aside0 (kq≤k)∧Aside0 (Kd.F k38 w' (fun k_=>(P_ k_∨w.heap.size≤k_)) A0 l0.length l0)∧Aside0 (Below w.heap.size w w'))
 case atStart=>exact⟨0,(by first|rfl|(simp;done)|(simp[*];done)),HH,⟨Nat.le_refl _⟩,⟨HF0.out⟩,⟨HB.out⟩⟩
 case round=>
  clear hk4
  clear hk5
  clear HH
  clear HF0 HB
  obtain⟨x6,rfl,HA,HK0,HF0,HB⟩:=hrel
  obtain⟨w8,rfl⟩:∃ wo_:World,wo_=wr:=⟨_,rfl⟩
  cases gk with
  |zero=>exact absurd HA.out (by simp[toponymref02_Check.l0])
  |succ k9=>
   have H:=HA.out
   clear HA
   simp only[toponymref02_Check.l0] at H
   have HH:=za H
   clear H
   replace HH:=zqt HH
   rcases HH with⟨HH,hk11,hk12⟩|⟨HH,hk56,hk57⟩
   ·replace HH:=zqdo HH
    obtain⟨HH,hk14⟩:=HH
    have p15:0≤(x6:Int):=of_decide_eq_true (by first|(with_reducible assumption)|assumption)
    have q15:x6<(l0.length:Int):=of_decide_eq_true (by first|(with_reducible assumption)|assumption)
    obtain⟨ad15,e15,hx15_0,hx15_1,hx15_2⟩:=atF_T38 HF0.out x6 p15 q15
    cases e15
    replace p15:=eq_true p15
    replace q15:=eq_true q15
    replace HH:=zd HH
    obtain⟨t16,At17,HH⟩:=HH
    go_wp2_with ((with_reducible refine gc 46 rfl ?_);refine zc 46 (some 18) Try.func46 #[.agg #[.int .i32 ((rd_T38 l0 x6).f0),.int .i32 ((rd_T38 l0 x6).f1),.int .i64 ((rd_T38 l0 x6).f2)]] (h:=?_);(with_reducible refine(toponymref02_may.calls  ((rd_T38 l0 x6).f0) ((rd_T38 l0 x6).f1) ((rd_T38 l0 x6).f2) t16 _  At17.out).mono ?_);rintro e w18 ⟨rfl,hb⟩;refine⟨_,rfl,?_⟩)
    refine zg ?_
    replace HF0:=zfb HF0.out hb
    replace HB:=zhb HB.out hb
    clear hb
    clear hx15_0 hx15_1 hx15_2 p15 q15
    by_cases c19:t16=true
    ·replace HH:=MW.hpos HH c19
     subst c19
     have p20:0≤(x6:Int):=of_decide_eq_true (by first|(with_reducible assumption)|assumption)
     have q20:x6<(l0.length:Int):=of_decide_eq_true (by first|(with_reducible assumption)|assumption)
     obtain⟨ad20,e20,hx20_0,hx20_1,hx20_2⟩:=atF_T38 HF0.out x6 p20 q20
     cases e20
     replace p20:=eq_true p20
     replace q20:=eq_true q20
     replace HH:=zqe HH
     rcases HH with⟨HH,hk22,hk23⟩|⟨HH,hk24,hk25⟩
     ·obtain rfl:=Option.some.inj HH.out
      clear HH
      go_wp2
      go_ret
      exact zfi HB.out
     replace HH:=zqe HH
     rcases HH with⟨HH,hk27,hk28⟩|⟨HH,hk29,hk30⟩
     ·go_wp2
      go_roundg k9
      case measure=>have:=HK0.out;omega
      case rel=>exact⟨wrap64 (x6+1),(by first|rfl|(simp;done)|(simp[*];done)),HH,⟨by have:=HK0.out;omega⟩,⟨HF0.out⟩,⟨HB.out⟩⟩
     replace HH:=zqdo HH
     obtain⟨HH,hk32⟩:=HH
     replace HH:=zqto HH
     obtain⟨HH,hk34,hk35⟩:=HH
     have p36:0≤((wrap64 (x6 - 1)):Int):=of_decide_eq_true (by first|(with_reducible assumption)|assumption)
     have q36:(wrap64 (x6 - 1))<(l0.length:Int):=of_decide_eq_true (by first|(with_reducible assumption)|assumption)
     obtain⟨ad36,e36,hx36_0,hx36_1,hx36_2⟩:=atF_T38 HF0.out (wrap64 (x6 - 1)) p36 q36
     cases e36
     replace p36:=eq_true p36
     replace q36:=eq_true q36
     replace HH:=zqt HH
     rcases HH with⟨HH,hk38,hk39⟩|⟨HH,hk40,hk41⟩
     ·obtain rfl:=Option.some.inj HH.out
      clear HH
      go_wp2
      go_quiet (fail)
      go_wp2
      go_quiet (fail)
      go_wp2
      go_ret
      exact zfi (by repeat(first|(with_reducible first|exact HB.out|apply below_alloc|apply pw_below_drewN|apply below_drew1)|exact HB.out))
     replace HH:=zqe HH
     rcases HH with⟨HH,hk43,hk44⟩|⟨HH,hk50,hk51⟩
     ·replace HH:=zqe HH
      rcases HH with⟨HH,hk46,hk47⟩|⟨HH,hk48,hk49⟩
      ·obtain rfl:=Option.some.inj HH.out
       clear HH
       go_wp2
       go_quiet (fail)
       go_wp2
       go_quiet (fail)
       go_wp2
       go_ret
       exact zfi (by repeat(first|(with_reducible first|exact HB.out|apply below_alloc|apply pw_below_drewN|apply below_drew1)|exact HB.out))
      go_wp2
      go_quiet (fail)
      go_wp2
      go_quiet (fail)
      go_wp2
      go_roundg k9
      case measure=>have:=HK0.out;omega
      case rel=>exact⟨wrap64 (x6+1),(by first|rfl|(simp;done)|(simp[*];done)),HH,⟨by have:=HK0.out;omega⟩,⟨(by(with_reducible repeat(first|apply Kd.F_alloc|apply Kd.F_drewN|apply Kd.F_drew));exact HF0.out)⟩,⟨(by repeat(first|(with_reducible first|exact HB.out|apply below_alloc|apply pw_below_drewN|apply below_drew1)|exact HB.out))⟩⟩
     go_wp2
     go_quiet (fail)
     go_wp2
     go_quiet (fail)
     go_wp2
     go_roundg k9
     case measure=>have:=HK0.out;omega
     case rel=>exact⟨wrap64 (x6+1),(by first|rfl|(simp;done)|(simp[*];done)),HH,⟨by have:=HK0.out;omega⟩,⟨(by(with_reducible repeat(first|apply Kd.F_alloc|apply Kd.F_drewN|apply Kd.F_drew));exact HF0.out)⟩,⟨(by repeat(first|(with_reducible first|exact HB.out|apply below_alloc|apply pw_below_drewN|apply below_drew1)|exact HB.out))⟩⟩
    replace HH:=MW.hneg HH c19
    replace c19:=Bool.eq_false_iff.mpr c19
    subst c19
    obtain rfl:=Option.some.inj HH.out
    clear HH
    go_wp2
    go_ret
    exact zfi HB.out
   obtain rfl:=Option.some.inj HH.out
   clear HH
   go_wp2
   go_ret
   exact zfi HB.out

def toponymref02_Find.l0:Nat→Int→Int→(List (S38))→Option (Int)
 |0,_,_,_=>none
 |k+1,x1,a1,l0=>if x1<(l0.length:Int) then((toponymref02_Check.f k l0).bind fun t7=>(if t7=0 then(if 0≤x1 then(if ((rd_T38 l0 x1).f0)≤a1 then(if a1≤((rd_T38 l0 x1).f1) then(some ((rd_T38 l0 x1).f2)) else((toponymref02_Find.l0 k (wrap64 (x1+1)) a1 l0))) else((toponymref02_Find.l0 k (wrap64 (x1+1)) a1 l0))) else(none)) else(some 0))) else(some 0)
def toponymref02_Find.f (k:Nat) (l0:List (S38)) (a1:Int):Option (Int):=(toponymref02_Find.l0 k 0 a1 l0)
theorem toponymref02_Find.mono_l:∀ k,(∀ y0 y1 y2,LeO (toponymref02_Find.l0 k y0 y1 y2) (toponymref02_Find.l0 (k+1) y0 y1 y2))
 |0=>fun _ _ _ r h=>by simp[toponymref02_Find.l0] at h
 |k+1=>by
  have ih0:=toponymref02_Find.mono_l k
  ·intro y0 y1 y2
   unfold toponymref02_Find.l0
   with_reducible repeat' first|exact ih0 _ _ _|exact toponymref02_Check.mono _ _|exact LeO.refl _|exact LeO.none _|refine LeO.ite ?_ ?_|refine LeO.bind ?_ (fun _=>?_)
theorem toponymref02_Find.mono:∀ a0_ a1_ k,LeO (toponymref02_Find.f k a0_ a1_) (toponymref02_Find.f (k+1) a0_ a1_):=by
 intro a0_ a1_ k
 have ih0:=toponymref02_Find.mono_l k
 unfold toponymref02_Find.f
 with_reducible repeat' first|exact ih0 _ _ _|exact toponymref02_Check.mono _ _|exact LeO.refl _|exact LeO.none _|refine LeO.ite ?_ ?_|refine LeO.bind ?_ (fun _=>?_)
theorem toponymref02_Find.calls (k:Nat) (P_:Nat→Prop) (A0:Option Addr) (c0:Nat) (l0:List (S38)) (a1:Int) (r:Int) (w:World) (hs0:Kd.F k38 w P_ A0 l0.length l0) (hc0:l0.length≤c0) (h:toponymref02_Find.f k l0 a1=some r):
  Calls Try.prog 22 #[.slice A0 l0.length c0,.int .i32 a1] w (fun e w'=>e=.returned (.int .i64 r)∧Below w.heap.size w w'):=by
 unfold toponymref02_Find.f at h
 have HH:=za h
 clear h
 have HF0:=zfp hs0
 have HL0:=za hc0
 clear hs0 hc0
 have HB:=za (Below.refl w.heap.size w)
 go_enter Try.func22,Try.ntmps22
 go_wp2
 go_loopg [5] k (fun kq u5 w'=>∃ (x1:Int),u5=.int .i64 x1∧Aside0 ((toponymref02_Find.l0 kq x1 a1 l0)=some r)∧Aside0 (kq≤k)∧Aside0 (Kd.F k38 w' (fun k_=>(P_ k_∨w.heap.size≤k_)) A0 l0.length l0)∧Aside0 (Below w.heap.size w w'))
 case atStart=>exact⟨0,(by first|rfl|(simp;done)|(simp[*];done)),HH,⟨Nat.le_refl _⟩,⟨HF0.out⟩,⟨HB.out⟩⟩
 case round=>
  clear HH
  clear HF0 HB
  obtain⟨x1,rfl,HA,HK0,HF0,HB⟩:=hrel
  obtain⟨w3,rfl⟩:∃ wo_:World,wo_=wr:=⟨_,rfl⟩
  cases gk with
  |zero=>exact absurd HA.out (by simp[toponymref02_Find.l0])
  |succ k2=>
   have H:=HA.out
   clear HA
   simp only[toponymref02_Find.l0] at H
   have HH:=za H
   clear H
   replace HH:=zqt HH
   rcases HH with⟨HH,hk5,hk6⟩|⟨HH,hk25,hk26⟩
   ·replace HH:=zd HH
    obtain⟨t7,At8,HH⟩:=HH
    go_wp2_with ((with_reducible refine gc 36 rfl ?_);refine zc 36 (some 12) Try.func36 #[.slice A0 l0.length c0] (h:=?_);(with_reducible refine(toponymref02_Check.calls k2 (fun k_=>(P_ k_∨w.heap.size≤k_)) _ _ l0 t7 _ HF0.out HL0.out At8.out).mono ?_);rintro e w9 ⟨rfl,hb⟩;refine⟨_,rfl,?_⟩)
    refine zg ?_
    replace HF0:=zfb HF0.out hb
    replace HB:=zhb HB.out hb
    clear hb
    replace HH:=zqe HH
    rcases HH with⟨HH,hk11,hk12⟩|⟨HH,hk23,hk24⟩
    ·replace HH:=zqdo HH
     obtain⟨HH,hk14⟩:=HH
     have p15:0≤(x1:Int):=of_decide_eq_true (by first|(with_reducible assumption)|assumption)
     have q15:x1<(l0.length:Int):=of_decide_eq_true (by first|(with_reducible assumption)|assumption)
     obtain⟨ad15,e15,hx15_0,hx15_1,hx15_2⟩:=atF_T38 HF0.out x1 p15 q15
     cases e15
     replace p15:=eq_true p15
     replace q15:=eq_true q15
     replace HH:=zqd HH
     rcases HH with⟨HH,hk17⟩|⟨HH,hk21⟩
     ·replace HH:=zqd HH
      rcases HH with⟨HH,hk19⟩|⟨HH,hk20⟩
      ·obtain rfl:=Option.some.inj HH.out
       clear HH
       go_wp2
       go_ret
       exact zfi HB.out
      go_wp2
      go_roundg k2
      case measure=>have:=HK0.out;omega
      case rel=>exact⟨wrap64 (x1+1),(by first|rfl|(simp;done)|(simp[*];done)),HH,⟨by have:=HK0.out;omega⟩,⟨HF0.out⟩,⟨HB.out⟩⟩
     go_wp2
     go_roundg k2
     case measure=>have:=HK0.out;omega
     case rel=>exact⟨wrap64 (x1+1),(by first|rfl|(simp;done)|(simp[*];done)),HH,⟨by have:=HK0.out;omega⟩,⟨HF0.out⟩,⟨HB.out⟩⟩
    obtain rfl:=Option.some.inj HH.out
    clear HH
    go_wp2
    go_ret
    exact zfi HB.out
   obtain rfl:=Option.some.inj HH.out
   clear HH
   go_wp2
   go_ret
   exact zfi HB.out
end Go.Proofs.Ytkbiiijmgbjnkaa.GA
