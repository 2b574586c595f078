import Derived.Test.YtcokpnajkkjclaaGA0
import Derived.Test.YtcokpnajkkjclaaGAF38
import Derived.Test.YtcokpnajkkjclaaGAF41
import Derived.Test.YtcokpnajkkjclaaGAF43
import Derived.Test.YtcokpnajkkjclaaGAF44
import Derived.Test.YtcokpnajkkjclaaGM1
import Derived.Test.YtcokpnajkkjclaaGM2
import Derived.Test.YtcokpnajkkjclaaMQ
import Derived.Test.YtcokpnajkkjclaaMS
namespace Go.Proofs.Ytcokpnajkkjclaa.GA
open Go.RowKit Go.Proofs.Ytcokpnajkkjclaa Go.Proofs.Ytcokpnajkkjclaa.MW Go.Proofs.YtcokpnajkkjclaaW.PrintWords Go.Proofs.YtcokpnajkkjclaaW.PrintLast Go.Proofs.YtcokpnajkkjclaaW.PrintMore
attribute [local go_sem] max2_int min2_int max_two min_two
set_option maxHeartbeats 8000000
set_option maxRecDepth 100000
set_option linter.unusedVariables false
set_option linter.unusedSimpArgs false
mutual
def slices_pdqsortOrdered_rune.l0:Nat→Int→Int→Int→Bool→Bool→(List Int)→(List Int)→Option (List Int)
 |0,_,_,_,_,_,_,_=>none
 |k+1,x1,x2,x3,x4,x5,x6,l0=>if (wrap64 (x2 - x1))≤12 then((slices_insertionSortOrdered_rune.f k x6 x1 x2).bind fun y12=>(some y12)) else(if x3=0 then((slices_heapSortOrdered_rune.f k x6 x1 x2).bind fun y21=>(some y21)) else((if x4=true then(some (x3,x6)) else((slices_breakPatternsOrdered_rune.f k x6 x1 x2).bind fun y39=>(some (wrap64 (x3 - 1),y39)))).bind fun bx34=>((slices_choosePivotOrdered_rune.f bx34.2 x1 x2).bind fun bt47=>((if bt47.2=2 then((slices_reverseRangeOrdered_rune.f k bx34.2 x1 x2).bind fun y70=>(some (wrap64 ((wrap64 (x2 - 1)) - (wrap64 (bt47.1 - x1))),1,y70))) else(some (bt47.1,bt47.2,bx34.2))).bind fun bx62=>((if x4=true then(if x5=true then(some (bx62.2.1==1)) else(some (false))) else(some (false))).bind fun x79=>(if x79=true then((slices_partialInsertionSortOrdered_rune.f k bx62.2.2 x1 x2).bind fun bt85=>(if bt85.1=true then(some bt85.2) else(if x1>0 then(if 0≤(wrap64 (x1 - 1)) then(if (wrap64 (x1 - 1))<(l0.length:Int) then(if 0≤bx62.1 then(if bx62.1<(l0.length:Int) then((cmp_Less_rune.f (rd bt85.2 (wrap64 (x1 - 1))) (rd bt85.2 bx62.1)).bind fun t106=>(if t106=true then((slices_partitionOrdered_rune.f k bt85.2 x1 x2 bx62.1).bind fun bt110=>(if (wrap64 (bt110.1 - x1))<(wrap64 (x2 - bt110.1)) then((slices_pdqsortOrdered_rune.f k bt110.2.2 x1 bt110.1 bx34.1).bind fun y120=>((slices_pdqsortOrdered_rune.l0 k (wrap64 (bt110.1+1)) x2 bx34.1 (decide ((wrap64 (bt110.1 - x1))≥(wrap64 (Int.tdiv (wrap64 (x2 - x1)) 8)))) bt110.2.1 y120 l0))) else((slices_pdqsortOrdered_rune.f k bt110.2.2 (wrap64 (bt110.1+1)) x2 bx34.1).bind fun y127=>((slices_pdqsortOrdered_rune.l0 k x1 bt110.1 bx34.1 (decide ((wrap64 (x2 - bt110.1))≥(wrap64 (Int.tdiv (wrap64 (x2 - x1)) 8)))) bt110.2.1 y127 l0))))) else((slices_partitionEqualOrdered_rune.f k bt85.2 x1 x2 bx62.1).bind fun bt133=>((slices_pdqsortOrdered_rune.l0 k bt133.1 x2 bx34.1 x4 x5 bt133.2 l0))))) else(none)) else(none)) else(none)) else(none)) else((slices_partitionOrdered_rune.f k bt85.2 x1 x2 bx62.1).bind fun bt147=>(if (wrap64 (bt147.1 - x1))<(wrap64 (x2 - bt147.1)) then((slices_pdqsortOrdered_rune.f k bt147.2.2 x1 bt147.1 bx34.1).bind fun y157=>((slices_pdqsortOrdered_rune.l0 k (wrap64 (bt147.1+1)) x2 bx34.1 (decide ((wrap64 (bt147.1 - x1))≥(wrap64 (Int.tdiv (wrap64 (x2 - x1)) 8)))) bt147.2.1 y157 l0))) else((slices_pdqsortOrdered_rune.f k bt147.2.2 (wrap64 (bt147.1+1)) x2 bx34.1).bind fun y164=>((slices_pdqsortOrdered_rune.l0 k x1 bt147.1 bx34.1 (decide ((wrap64 (x2 - bt147.1))≥(wrap64 (Int.tdiv (wrap64 (x2 - x1)) 8)))) bt147.2.1 y164 l0)))))))) else(if x1>0 then(if 0≤(wrap64 (x1 - 1)) then(if (wrap64 (x1 - 1))<(l0.length:Int) then(if 0≤bx62.1 then(if bx62.1<(l0.length:Int) then((cmp_Less_rune.f (rd bx62.2.2 (wrap64 (x1 - 1))) (rd bx62.2.2 bx62.1)).bind fun t183=>(if t183=true then((slices_partitionOrdered_rune.f k bx62.2.2 x1 x2 bx62.1).bind fun bt187=>(if (wrap64 (bt187.1 - x1))<(wrap64 (x2 - bt187.1)) then((slices_pdqsortOrdered_rune.f k bt187.2.2 x1 bt187.1 bx34.1).bind fun y197=>((slices_pdqsortOrdered_rune.l0 k (wrap64 (bt187.1+1)) x2 bx34.1 (decide ((wrap64 (bt187.1 - x1))≥(wrap64 (Int.tdiv (wrap64 (x2 - x1)) 8)))) bt187.2.1 y197 l0))) else((slices_pdqsortOrdered_rune.f k bt187.2.2 (wrap64 (bt187.1+1)) x2 bx34.1).bind fun y204=>((slices_pdqsortOrdered_rune.l0 k x1 bt187.1 bx34.1 (decide ((wrap64 (x2 - bt187.1))≥(wrap64 (Int.tdiv (wrap64 (x2 - x1)) 8)))) bt187.2.1 y204 l0))))) else((slices_partitionEqualOrdered_rune.f k bx62.2.2 x1 x2 bx62.1).bind fun bt210=>((slices_pdqsortOrdered_rune.l0 k bt210.1 x2 bx34.1 x4 x5 bt210.2 l0))))) else(none)) else(none)) else(none)) else(none)) else((slices_partitionOrdered_rune.f k bx62.2.2 x1 x2 bx62.1).bind fun bt224=>(if (wrap64 (bt224.1 - x1))<(wrap64 (x2 - bt224.1)) then((slices_pdqsortOrdered_rune.f k bt224.2.2 x1 bt224.1 bx34.1).bind fun y234=>((slices_pdqsortOrdered_rune.l0 k (wrap64 (bt224.1+1)) x2 bx34.1 (decide ((wrap64 (bt224.1 - x1))≥(wrap64 (Int.tdiv (wrap64 (x2 - x1)) 8)))) bt224.2.1 y234 l0))) else((slices_pdqsortOrdered_rune.f k bt224.2.2 (wrap64 (bt224.1+1)) x2 bx34.1).bind fun y241=>((slices_pdqsortOrdered_rune.l0 k x1 bt224.1 bx34.1 (decide ((wrap64 (x2 - bt224.1))≥(wrap64 (Int.tdiv (wrap64 (x2 - x1)) 8)))) bt224.2.1 y241 l0))))))))))))
def slices_pdqsortOrdered_rune.f:Nat→(List Int)→Int→Int→Int→Option (List Int)
 |0,_,_,_,_=>none
 |k+1,l0,a1,a2,a3=>(slices_pdqsortOrdered_rune.l0 k a1 a2 a3 true true l0 l0)
end
theorem slices_pdqsortOrdered_rune.mono_l:∀ k,(∀ y0 y1 y2 y3,LeO (slices_pdqsortOrdered_rune.f k y0 y1 y2 y3) (slices_pdqsortOrdered_rune.f (k+1) y0 y1 y2 y3))∧(∀ y0 y1 y2 y3 y4 y5 y6,LeO (slices_pdqsortOrdered_rune.l0 k y0 y1 y2 y3 y4 y5 y6) (slices_pdqsortOrdered_rune.l0 (k+1) y0 y1 y2 y3 y4 y5 y6))
 |0=>⟨fun _ _ _ _ r h=>by simp[slices_pdqsortOrdered_rune.f] at h,fun _ _ _ _ _ _ _ r h=>by simp[slices_pdqsortOrdered_rune.l0] at h⟩
 |k+1=>by
  obtain⟨ih0,ih1⟩:=slices_pdqsortOrdered_rune.mono_l k
  refine⟨?_,?_⟩
  ·intro y0 y1 y2 y3
   unfold slices_pdqsortOrdered_rune.f
   with_reducible repeat' first|exact ih0 _ _ _ _|exact ih1 _ _ _ _ _ _ _|exact slices_breakPatternsOrdered_rune.mono _ _ _ _|exact slices_heapSortOrdered_rune.mono _ _ _ _|exact slices_insertionSortOrdered_rune.mono _ _ _ _|exact slices_partialInsertionSortOrdered_rune.mono _ _ _ _|exact slices_partitionEqualOrdered_rune.mono _ _ _ _ _|exact slices_partitionOrdered_rune.mono _ _ _ _ _|exact slices_reverseRangeOrdered_rune.mono _ _ _ _|exact LeO.refl _|exact LeO.none _|refine LeO.ite ?_ ?_|refine LeO.bind ?_ (fun _=>?_)
  intro y0 y1 y2 y3 y4 y5 y6
  unfold slices_pdqsortOrdered_rune.l0
  with_reducible repeat' first|exact ih0 _ _ _ _|exact ih1 _ _ _ _ _ _ _|exact slices_breakPatternsOrdered_rune.mono _ _ _ _|exact slices_heapSortOrdered_rune.mono _ _ _ _|exact slices_insertionSortOrdered_rune.mono _ _ _ _|exact slices_partialInsertionSortOrdered_rune.mono _ _ _ _|exact slices_partitionEqualOrdered_rune.mono _ _ _ _ _|exact slices_partitionOrdered_rune.mono _ _ _ _ _|exact slices_reverseRangeOrdered_rune.mono _ _ _ _|exact LeO.refl _|exact LeO.none _|refine LeO.ite ?_ ?_|refine LeO.bind ?_ (fun _=>?_)
theorem slices_pdqsortOrdered_rune.mono:∀ a0_ a1_ a2_ a3_ k,LeO (slices_pdqsortOrdered_rune.f k a0_ a1_ a2_ a3_) (slices_pdqsortOrdered_rune.f (k+1) a0_ a1_ a2_ a3_):=by
 intro a0_ a1_ a2_ a3_ k
 obtain⟨ih0,ih1⟩:=slices_pdqsortOrdered_rune.mono_l k
 exact ih0 a0_ a1_ a2_ a3_
theorem slices_pdqsortOrdered_rune.calls (k:Nat):∀ (B_:Nat) (A0:Option Addr) (c0:Nat) (l0:List Int) (a1:Int) (a2:Int) (a3:Int) (r:List Int) (w:World) (hB0:B_≤w.heap.size) (hn0:Kd.N (Kd.int .i32) 21 w B_ (fun k_=>some k_=((.slice A0 l0.length c0):Value).ownBlock) (.slice A0 l0.length c0) l0) (h:slices_pdqsortOrdered_rune.f k l0 a1 a2 a3=some r),
  Calls Try.prog 34 #[(.slice A0 l0.length c0),.int .i64 a1,.int .i64 a2,.int .i64 a3] w (fun e w'=>e=.returned (.tuple #[])∧Kd.N (Kd.int .i32) 21 w' B_ (fun k_=>some k_=((.slice A0 l0.length c0):Value).ownBlock∨w.heap.size≤k_) (.slice A0 l0.length c0) r∧(∀ k_:Nat,some k_≠((.slice A0 l0.length c0):Value).ownBlock→k_<w.heap.size→w'.heap[k_]? =w.heap[k_]?)∧Below B_ w w'):=by
 induction k using Nat.strongRecOn with
 |_ k ih=>
 intro B_ A0 c0 l0 a1 a2 a3 r w hB0 hn0 h
 cases k with
 |zero=>exact absurd h (by simp[slices_pdqsortOrdered_rune.f])
 |succ k1=>
 simp only[slices_pdqsortOrdered_rune.f] at h
 have HH:=za h
 clear h
 obtain⟨P0_,HPO⟩:∃ P0_:Nat→Prop,P0_=(fun k_=>some k_≠((.slice A0 l0.length c0):Value).ownBlock):=⟨_,rfl⟩
 have HFfr:=za (MB.frK_new w (fun k_ hk_=>by rw[HPO] at hk_;exact⟨trivial,hk_⟩):Kd.F (MB.frK w P0_) w (fun k_=>True∧some k_≠((.slice A0 l0.length c0):Value).ownBlock) (some ⟨0,0,none⟩) [()].length [()])
 replace HPO:=za HPO
 have hB_:=za hB0
 have HN0:=za (Kd.N_mono hn0 (fun k_ hk_=>⟨trivial,.inl hk_⟩):Kd.N (Kd.int .i32) 21 w B_ (fun k_=>True∧(some k_=((.slice A0 l0.length c0):Value).ownBlock∨w.heap.size≤k_)) (.slice A0 l0.length c0) l0)
 clear hn0
 have HB:=za (Below.refl B_ w)
 go_enter Try.func34,Try.ntmps34
 go_wp2
 go_loopg [1,2,3,8,9] k1 (fun kq u1 u2 u3 u8 u9 w'=>∃ (x1:Int) (x2:Int) (x3:Int) (x4:Bool) (x5:Bool) (x6:List Int),u1=.int .i64 x1∧u2=.int .i64 x2∧u3=.int .i64 x3∧u8=.bool x4∧u9=.bool x5∧Aside0 ((slices_pdqsortOrdered_rune.l0 kq x1 x2 x3 x4 x5 x6 l0)=some r)∧Aside0 (kq≤k1)∧Aside0 (Kd.F (MB.frK w P0_) w' (fun k_=>True∧some k_≠((.slice A0 l0.length c0):Value).ownBlock) (some ⟨0,0,none⟩) [()].length [()])∧Aside0 (Kd.N (Kd.int .i32) 21 w' B_ (fun k_=>True∧(some k_=((.slice A0 l0.length c0):Value).ownBlock∨w.heap.size≤k_)) (.slice A0 l0.length c0) x6)∧Aside0 (Below B_ w w'))
 case atStart=>exact⟨a1,a2,a3,true,true,l0,(by first|rfl|(simp;done)|(simp[*];done)),(by first|rfl|(simp;done)|(simp[*];done)),(by first|rfl|(simp;done)|(simp[*];done)),(by first|rfl|(simp;done)|(simp[*];done)),(by first|rfl|(simp;done)|(simp[*];done)),HH,⟨Nat.le_refl _⟩,⟨HFfr.out⟩,⟨(Kd.N_mono (ok:=(fun k_=>True∧(some k_=((.slice A0 l0.length c0):Value).ownBlock∨w.heap.size≤k_))) HN0.out (fun k_ hk_=>hk_))⟩,⟨HB.out⟩⟩
 case round=>
  clear HH
  clear HFfr HN0 HB
  obtain⟨x1,x2,x3,x4,x5,x6,rfl,rfl,rfl,rfl,rfl,HA,HK0,HFfr,HN0,HB⟩:=hrel
  obtain⟨w8,rfl⟩:∃ wo_:World,wo_=wr:=⟨_,rfl⟩
  cases gk with
  |zero=>exact absurd HA.out (by simp[slices_pdqsortOrdered_rune.l0])
  |succ k9=>
   have H:=HA.out
   clear HA
   simp only[slices_pdqsortOrdered_rune.l0] at H
   have HH:=za H
   clear H
   replace HH:=zqd HH
   rcases HH with⟨HH,hk11⟩|⟨HH,hk17⟩
   ·replace HH:=zd HH
    obtain⟨y12,At13,HH⟩:=HH
    have LEhq14:=MQ.N_len HN0.out
    have hq14:=slices_insertionSortOrdered_rune.calls k9 B_ A0 c0 x6 x1 x2 y12 w8 (Nat.le_trans hB_.out (MB.bsize (a:=B_) HB.out)) (MB.N_only (by rw[LEhq14];exact HN0.out:Kd.N (Kd.int .i32) 21 _ B_ (fun k_=>True∧(some k_=((.slice A0 l0.length c0):Value).ownBlock∨w.heap.size≤k_)) (.slice A0 x6.length c0) x6)) At13.out
    rw[LEhq14] at hq14
    clear LEhq14
    go_wp2_with (((with_reducible refine gc 36 rfl ?_);refine zc 36 (some 27) Try.func36 #[(.slice A0 l0.length c0),.int .i64 x1,.int .i64 x2] (h:=?_);refine(hq14).mono ?_;rintro e w15 ⟨rfl,hn1,hfr,hb⟩;refine⟨_,rfl,?_⟩);replace hn1:=za hn1;replace hfr:=za hfr)
    refine zg ?_
    replace hn1:=hn1.out
    replace hfr:=hfr.out
    clear hq14
    replace HFfr:=za (Kd.F_step (ok:=(fun k_=>True∧some k_≠((.slice A0 l0.length c0):Value).ownBlock)) HFfr.out (fun k_ hk_ hlt_=>hfr k_ (hk_.2) hlt_))
    have HN16:=za (Kd.N_mono hn1 (fun k_ hk_=>hk_.elim (fun h_=>HN0.out.1 k_ h_.symm) (fun h_=>⟨trivial,(.inr (Nat.le_trans (MB.bsize (a:=B_) HB.out) h_))⟩)):Kd.N (Kd.int .i32) 21 w15 B_ (fun k_=>True∧(some k_=((.slice A0 l0.length c0):Value).ownBlock∨w.heap.size≤k_)) (.slice A0 l0.length c0) y12)
    replace HB:=za (Below.trans HB.out hb)
    clear HN0 hn1 hfr hb
    obtain rfl:=Option.some.inj HH.out
    clear HH
    go_wp2
    (first|go_end0|((try simp only[Exit.inBlock,Exit.then]);refine bodyPost_ret (results_none rfl _ _ _) rfl ?_))
    exact⟨by first|rfl|(simp;done)|(simp[*];done),(Kd.N_mono (ok:=(fun k_=>True∧(some k_=((.slice A0 l0.length c0):Value).ownBlock∨w.heap.size≤k_))) HN16.out (fun k_ hk_=>hk_.2)),(fun k_ hv_ hlt_=>MB.frK_out HFfr.out k_ (by rw[HPO.out];exact hv_) hlt_),HB.out⟩
   replace HH:=zqe HH
   rcases HH with⟨HH,hk19,hk20⟩|⟨HH,hk26,hk27⟩
   ·replace HH:=zd HH
    obtain⟨y21,At22,HH⟩:=HH
    have LEhq23:=MQ.N_len HN0.out
    have hq23:=slices_heapSortOrdered_rune.calls k9 B_ A0 c0 x6 x1 x2 y21 w8 (Nat.le_trans hB_.out (MB.bsize (a:=B_) HB.out)) (MB.N_only (by rw[LEhq23];exact HN0.out:Kd.N (Kd.int .i32) 21 _ B_ (fun k_=>True∧(some k_=((.slice A0 l0.length c0):Value).ownBlock∨w.heap.size≤k_)) (.slice A0 x6.length c0) x6)) At22.out
    rw[LEhq23] at hq23
    clear LEhq23
    go_wp2_with (((with_reducible refine gc 37 rfl ?_);refine zc 37 (some 33) Try.func37 #[(.slice A0 l0.length c0),.int .i64 x1,.int .i64 x2] (h:=?_);refine(hq23).mono ?_;rintro e w24 ⟨rfl,hn1,hfr,hb⟩;refine⟨_,rfl,?_⟩);replace hn1:=za hn1;replace hfr:=za hfr)
    refine zg ?_
    replace hn1:=hn1.out
    replace hfr:=hfr.out
    clear hq23
    replace HFfr:=za (Kd.F_step (ok:=(fun k_=>True∧some k_≠((.slice A0 l0.length c0):Value).ownBlock)) HFfr.out (fun k_ hk_ hlt_=>hfr k_ (hk_.2) hlt_))
    have HN25:=za (Kd.N_mono hn1 (fun k_ hk_=>hk_.elim (fun h_=>HN0.out.1 k_ h_.symm) (fun h_=>⟨trivial,(.inr (Nat.le_trans (MB.bsize (a:=B_) HB.out) h_))⟩)):Kd.N (Kd.int .i32) 21 w24 B_ (fun k_=>True∧(some k_=((.slice A0 l0.length c0):Value).ownBlock∨w.heap.size≤k_)) (.slice A0 l0.length c0) y21)
    replace HB:=za (Below.trans HB.out hb)
    clear HN0 hn1 hfr hb
    obtain rfl:=Option.some.inj HH.out
    clear HH
    go_wp2
    (first|go_end0|((try simp only[Exit.inBlock,Exit.then]);refine bodyPost_ret (results_none rfl _ _ _) rfl ?_))
    exact⟨by first|rfl|(simp;done)|(simp[*];done),(Kd.N_mono (ok:=(fun k_=>True∧(some k_=((.slice A0 l0.length c0):Value).ownBlock∨w.heap.size≤k_))) HN25.out (fun k_ hk_=>hk_.2)),(fun k_ hv_ hlt_=>MB.frK_out HFfr.out k_ (by rw[HPO.out];exact hv_) hlt_),HB.out⟩
   go_upto_if 35 with fail
   replace HH:=zd HH
   obtain⟨⟨x34,y35⟩,At36,HH⟩:=HH
   dsimp only at HH
   obtain⟨R_,hR_⟩:∃ R_:Act→World→Prop,R_=(fun a_ w_=>∃ u19 u20 u21 u22 u23 u28 u29 u34 u35 u36 u37 u38 u39 u40 u41:Value,a_=(⟨[(.slice A0 l0.length c0),(.int .i64 x1),(.int .i64 x2),(.int .i64 x34),undef,undef,undef,undef,(.bool x4),(.bool x5),(.int .i64 (wrap64 (x2 - x1))),u11,u12,u13,u14,u15,u16,u17,u18,u19,u20,u21,u22,u23,u24,u25,u26,u27,u28,u29,u30,u31,u32,u33,u34,u35,u36,u37,u38,u39,u40,u41,u42,u43,u44,u45,u46,u47,u48,u49,u50,u51,u52,u53,u54,u55,u56,u57,u58,u59,u60,u61,u62,u63,u64,u65,u66,u67,u68,u69,u70,u71,u72,u73,u74,u75,u76,u77,u78,u79,u80,u81,u82,u83,u84,u85,u86,u87,u88,u89,u90,u91,u92,u93,u94,u95,u96,u97,u98,u99,u100,u101,u102,u103,u104,u105,u106,u107,u108,u109,u110,u111,u112,u113,u114,u115,u116,u117,u118,u119,u120,u121,u122,u123,u124,u125,u126,u127,u128,u129,u130,u131,u132,u133].toArray,[]⟩:Act)∧Aside0 (Kd.N (Kd.int .i32) 21 w_ B_ (fun k_=>True∧(some k_=((.slice A0 l0.length c0):Value).ownBlock∨w.heap.size≤k_)) (.slice A0 l0.length c0) y35)∧Aside0 (Kd.F (MB.frK w P0_) w_ (fun k_=>True∧some k_≠((.slice A0 l0.length c0):Value).ownBlock) (some ⟨0,0,none⟩) [()].length [()])∧Aside0 (Below B_ w w_)):=⟨_,rfl⟩
   replace hR_:=za hR_
   refine MS.cut R_ ?_ ?_
   ·clear HH
    have HH:=At36
    clear At36
    by_cases c38:x4=true
    ·replace HH:=MW.hpos HH c38
     subst c38
     go_wp2
     refine MS.Joined.mk ?_
     have HJ0:=Option.some.inj HH.out
     obtain⟨hj0,HJ1⟩:=Prod.mk.inj HJ0
     clear HJ0
     clear HH
     subst hj0
     subst HJ1
     rw[hR_.out]
     exact⟨_,_,_,_,_,_,_,_,_,_,_,_,_,_,_,rfl,⟨HN0.out⟩,⟨HFfr.out⟩,⟨HB.out⟩⟩
    replace HH:=MW.hneg HH c38
    replace c38:=Bool.eq_false_iff.mpr c38
    subst c38
    replace HH:=zd HH
    obtain⟨y39,At40,HH⟩:=HH
    have LEhq41:=MQ.N_len HN0.out
    have hq41:=slices_breakPatternsOrdered_rune.calls k9 B_ A0 c0 x6 x1 x2 y39 w8 (Nat.le_trans hB_.out (MB.bsize (a:=B_) HB.out)) (MB.N_only (by rw[LEhq41];exact HN0.out:Kd.N (Kd.int .i32) 21 _ B_ (fun k_=>True∧(some k_=((.slice A0 l0.length c0):Value).ownBlock∨w.heap.size≤k_)) (.slice A0 x6.length c0) x6)) At40.out
    rw[LEhq41] at hq41
    clear LEhq41
    go_wp2_with (((with_reducible refine gc 38 rfl ?_);refine zc 38 (some 39) Try.func38 #[(.slice A0 l0.length c0),.int .i64 x1,.int .i64 x2] (h:=?_);refine(hq41).mono ?_;rintro e w42 ⟨rfl,hn1,hfr,hb⟩;refine⟨_,rfl,?_⟩);replace hn1:=za hn1;replace hfr:=za hfr)
    refine zg ?_
    replace hn1:=hn1.out
    replace hfr:=hfr.out
    clear hq41
    replace HFfr:=za (Kd.F_step (ok:=(fun k_=>True∧some k_≠((.slice A0 l0.length c0):Value).ownBlock)) HFfr.out (fun k_ hk_ hlt_=>hfr k_ (hk_.2) hlt_))
    have HN43:=za (Kd.N_mono hn1 (fun k_ hk_=>hk_.elim (fun h_=>HN0.out.1 k_ h_.symm) (fun h_=>⟨trivial,(.inr (Nat.le_trans (MB.bsize (a:=B_) HB.out) h_))⟩)):Kd.N (Kd.int .i32) 21 w42 B_ (fun k_=>True∧(some k_=((.slice A0 l0.length c0):Value).ownBlock∨w.heap.size≤k_)) (.slice A0 l0.length c0) y39)
    replace HB:=za (Below.trans HB.out hb)
    clear HN0 hn1 hfr hb
    go_wp2
    refine MS.Joined.mk ?_
    have HJ0:=Option.some.inj HH.out
    obtain⟨hj0,HJ1⟩:=Prod.mk.inj HJ0
    clear HJ0
    clear HH
    subst hj0
    subst HJ1
    rw[hR_.out]
    exact⟨_,_,_,_,_,_,_,_,_,_,_,_,_,_,_,rfl,⟨HN43.out⟩,⟨HFfr.out⟩,⟨HB.out⟩⟩
   intro a_ w37 hd_
   rw[hR_.out] at hd_
   clear HN0 HFfr HB At36 hR_ R_
   obtain⟨u19,u20,u21,u22,u23,u28,u29,u34,u35,u36,u37,u38,u39,u40,u41,rfl,HN0,HFfr,HB⟩:=hd_
   try dsimp only
   have LE46:=MQ.N_len HN0.out
   have HFv44:Aside0 (Kd.F (Kd.int .i32) w37 (fun k_=>True∧(some k_=((.slice A0 l0.length c0):Value).ownBlock∨w.heap.size≤k_)) A0 y35.length y35):=⟨by rw[LE46];exact Kd.N_F HN0.out⟩
   have HLv45:Aside0 (y35.length≤c0):=⟨by first|exact(Kd.N_reads' HN0.out).2.1|(rw[LE46];exact(Kd.N_reads' HN0.out).2.1)⟩
   replace HH:=zd HH
   obtain⟨⟨t47,t48⟩,At49,HH⟩:=HH
   dsimp only at HH
   have hq50:=slices_choosePivotOrdered_rune.calls (fun k_=>True∧(some k_=((.slice A0 l0.length c0):Value).ownBlock∨w.heap.size≤k_)) _ _ y35 x1 x2 t47 t48 w37 HFv44.out HLv45.out At49.out
   rw[LE46] at hq50
   go_wp2_with ((with_reducible refine gc 39 rfl ?_);refine zc 39 (some 46) Try.func39 #[(.slice A0 l0.length c0),.int .i64 x1,.int .i64 x2] (h:=?_);(with_reducible refine(hq50).mono ?_);rintro e w51 ⟨rfl,hb⟩;refine⟨_,rfl,?_⟩)
   refine zg ?_
   replace HFfr:=zfb HFfr.out hb
   replace HN0:=znb HN0.out hb
   replace HB:=za (MB.below_stepB hB_.out HB.out hb)
   clear hb
   clear hq50 LE46 HLv45 HFv44
   go_upto_if 50 with fail
   replace HH:=zd HH
   obtain⟨⟨x62,x63,y64⟩,At65,HH⟩:=HH
   dsimp only at HH
   obtain⟨R_,hR_⟩:∃ R_:Act→World→Prop,R_=(fun a_ w_=>∃ u42 u43 u44 u45 u46 u47 u48 u49 u50 u51 u52 u53 u54 u55 u56 u57 u58 u59 u60:Value,a_=(⟨[(.slice A0 l0.length c0),(.int .i64 x1),(.int .i64 x2),(.int .i64 x34),undef,undef,undef,undef,(.bool x4),(.bool x5),(.int .i64 (wrap64 (x2 - x1))),(.int .i64 x62),(.int .i64 x63),u13,u14,u15,u16,u17,u18,u19,u20,u21,u22,u23,u24,u25,u26,u27,u28,u29,u30,u31,u32,u33,u34,u35,u36,u37,u38,u39,u40,u41,u42,u43,u44,u45,u46,u47,u48,u49,u50,u51,u52,u53,u54,u55,u56,u57,u58,u59,u60,u61,u62,u63,u64,u65,u66,u67,u68,u69,u70,u71,u72,u73,u74,u75,u76,u77,u78,u79,u80,u81,u82,u83,u84,u85,u86,u87,u88,u89,u90,u91,u92,u93,u94,u95,u96,u97,u98,u99,u100,u101,u102,u103,u104,u105,u106,u107,u108,u109,u110,u111,u112,u113,u114,u115,u116,u117,u118,u119,u120,u121,u122,u123,u124,u125,u126,u127,u128,u129,u130,u131,u132,u133].toArray,[]⟩:Act)∧Aside0 (Kd.N (Kd.int .i32) 21 w_ B_ (fun k_=>True∧(some k_=((.slice A0 l0.length c0):Value).ownBlock∨w.heap.size≤k_)) (.slice A0 l0.length c0) y64)∧Aside0 (Kd.F (MB.frK w P0_) w_ (fun k_=>True∧some k_≠((.slice A0 l0.length c0):Value).ownBlock) (some ⟨0,0,none⟩) [()].length [()])∧Aside0 (Below B_ w w_)):=⟨_,rfl⟩
   replace hR_:=za hR_
   refine MS.cut R_ ?_ ?_
   ·clear HH
    have HH:=At65
    clear At65
    replace HH:=zqe HH
    rcases HH with⟨HH,hk68,hk69⟩|⟨HH,hk75,hk76⟩
    ·replace HH:=zd HH
     obtain⟨y70,At71,HH⟩:=HH
     have LEhq72:=MQ.N_len HN0.out
     have hq72:=slices_reverseRangeOrdered_rune.calls k9 B_ A0 c0 y35 x1 x2 y70 w51 (Nat.le_trans hB_.out (MB.bsize (a:=B_) HB.out)) (MB.N_only (by rw[LEhq72];exact HN0.out:Kd.N (Kd.int .i32) 21 _ B_ (fun k_=>True∧(some k_=((.slice A0 l0.length c0):Value).ownBlock∨w.heap.size≤k_)) (.slice A0 y35.length c0) y35)) At71.out
     rw[LEhq72] at hq72
     clear LEhq72
     go_wp2_with (((with_reducible refine gc 40 rfl ?_);refine zc 40 (some 54) Try.func40 #[(.slice A0 l0.length c0),.int .i64 x1,.int .i64 x2] (h:=?_);refine(hq72).mono ?_;rintro e w73 ⟨rfl,hn1,hfr,hb⟩;refine⟨_,rfl,?_⟩);replace hn1:=za hn1;replace hfr:=za hfr)
     refine zg ?_
     replace hn1:=hn1.out
     replace hfr:=hfr.out
     clear hq72
     replace HFfr:=za (Kd.F_step (ok:=(fun k_=>True∧some k_≠((.slice A0 l0.length c0):Value).ownBlock)) HFfr.out (fun k_ hk_ hlt_=>hfr k_ (hk_.2) hlt_))
     have HN74:=za (Kd.N_mono hn1 (fun k_ hk_=>hk_.elim (fun h_=>HN0.out.1 k_ h_.symm) (fun h_=>⟨trivial,(.inr (Nat.le_trans (MB.bsize (a:=B_) HB.out) h_))⟩)):Kd.N (Kd.int .i32) 21 w73 B_ (fun k_=>True∧(some k_=((.slice A0 l0.length c0):Value).ownBlock∨w.heap.size≤k_)) (.slice A0 l0.length c0) y70)
     replace HB:=za (Below.trans HB.out hb)
     clear HN0 hn1 hfr hb
     go_wp2
     refine MS.Joined.mk ?_
     have HJ0:=Option.some.inj HH.out
     obtain⟨hj0,HJ1⟩:=Prod.mk.inj HJ0
     clear HJ0
     clear HH
     subst hj0
     obtain⟨hj1,HJ2⟩:=Prod.mk.inj HJ1
     clear HJ1
     subst hj1
     subst HJ2
     rw[hR_.out]
     exact⟨_,_,_,_,_,_,_,_,_,_,_,_,_,_,_,_,_,_,_,rfl,⟨HN74.out⟩,⟨HFfr.out⟩,⟨HB.out⟩⟩
    go_wp2
    refine MS.Joined.mk ?_
    have HJ0:=Option.some.inj HH.out
    obtain⟨hj0,HJ1⟩:=Prod.mk.inj HJ0
    clear HJ0
    clear HH
    subst hj0
    obtain⟨hj1,HJ2⟩:=Prod.mk.inj HJ1
    clear HJ1
    subst hj1
    subst HJ2
    rw[hR_.out]
    exact⟨_,_,_,_,_,_,_,_,_,_,_,_,_,_,_,_,_,_,_,rfl,⟨HN0.out⟩,⟨HFfr.out⟩,⟨HB.out⟩⟩
   intro a_ w66 hd_
   rw[hR_.out] at hd_
   clear HN0 HFfr HB At65 hR_ R_
   obtain⟨u42,u43,u44,u45,u46,u47,u48,u49,u50,u51,u52,u53,u54,u55,u56,u57,u58,u59,u60,rfl,HN0,HFfr,HB⟩:=hd_
   try dsimp only
   go_upto_region 15 with fail
   replace HH:=zd HH
   obtain⟨x79,At80,HH⟩:=HH
   obtain⟨R_,hR_⟩:∃ R_:Act→World→Prop,R_=(fun a_ w_=>∃ u12 u61 u62 u63 u64 u65 u66 u67:Value,a_=(⟨[(.slice A0 l0.length c0),(.int .i64 x1),(.int .i64 x2),(.int .i64 x34),undef,undef,undef,undef,(.bool x4),(.bool x5),(.int .i64 (wrap64 (x2 - x1))),(.int .i64 x62),u12,u13,u14,u15,u16,u17,u18,u19,u20,u21,u22,u23,u24,u25,u26,u27,u28,u29,u30,u31,u32,u33,u34,u35,u36,u37,u38,u39,u40,u41,u42,u43,u44,u45,u46,u47,u48,u49,u50,u51,u52,u53,u54,u55,u56,u57,u58,u59,u60,u61,u62,u63,u64,u65,u66,u67,(.bool x79),u69,u70,u71,u72,u73,u74,u75,u76,u77,u78,u79,u80,u81,u82,u83,u84,u85,u86,u87,u88,u89,u90,u91,u92,u93,u94,u95,u96,u97,u98,u99,u100,u101,u102,u103,u104,u105,u106,u107,u108,u109,u110,u111,u112,u113,u114,u115,u116,u117,u118,u119,u120,u121,u122,u123,u124,u125,u126,u127,u128,u129,u130,u131,u132,u133].toArray,[]⟩:Act)∧Aside0 (Kd.N (Kd.int .i32) 21 w_ B_ (fun k_=>True∧(some k_=((.slice A0 l0.length c0):Value).ownBlock∨w.heap.size≤k_)) (.slice A0 l0.length c0) y64)∧Aside0 (Kd.F (MB.frK w P0_) w_ (fun k_=>True∧some k_≠((.slice A0 l0.length c0):Value).ownBlock) (some ⟨0,0,none⟩) [()].length [()])∧Aside0 (Below B_ w w_)):=⟨_,rfl⟩
   replace hR_:=za hR_
   refine MS.cut R_ ?_ ?_
   ·clear HH
    have HH:=At80
    clear At80
    by_cases c82:x4=true
    ·replace HH:=MW.hpos HH c82
     subst c82
     by_cases c83:x5=true
     ·replace HH:=MW.hpos HH c83
      subst c83
      go_wp2
      refine MS.Joined.mk ?_
      have HJ0:=Option.some.inj HH.out
      subst HJ0
      rw[hR_.out]
      exact⟨_,_,_,_,_,_,_,_,rfl,⟨HN0.out⟩,⟨HFfr.out⟩,⟨HB.out⟩⟩
     replace HH:=MW.hneg HH c83
     replace c83:=Bool.eq_false_iff.mpr c83
     subst c83
     go_wp2
     refine MS.Joined.mk ?_
     have HJ0:=Option.some.inj HH.out
     subst HJ0
     rw[hR_.out]
     exact⟨_,_,_,_,_,_,_,_,rfl,⟨HN0.out⟩,⟨HFfr.out⟩,⟨HB.out⟩⟩
    replace HH:=MW.hneg HH c82
    replace c82:=Bool.eq_false_iff.mpr c82
    subst c82
    go_wp2
    refine MS.Joined.mk ?_
    have HJ0:=Option.some.inj HH.out
    subst HJ0
    rw[hR_.out]
    exact⟨_,_,_,_,_,_,_,_,rfl,⟨HN0.out⟩,⟨HFfr.out⟩,⟨HB.out⟩⟩
   intro a_ w81 hd_
   rw[hR_.out] at hd_
   clear HN0 HFfr HB At80 hR_ R_
   obtain⟨u12,u61,u62,u63,u64,u65,u66,u67,rfl,HN0,HFfr,HB⟩:=hd_
   try dsimp only
   by_cases c84:x79=true
   ·replace HH:=MW.hpos HH c84
    subst c84
    replace HH:=zd HH
    obtain⟨⟨t85,y86⟩,At87,HH⟩:=HH
    dsimp only at HH
    have LEhq88:=MQ.N_len HN0.out
    have hq88:=slices_partialInsertionSortOrdered_rune.calls k9 B_ A0 c0 y64 x1 x2 t85 y86 w81 (Nat.le_trans hB_.out (MB.bsize (a:=B_) HB.out)) (MB.N_only (by rw[LEhq88];exact HN0.out:Kd.N (Kd.int .i32) 21 _ B_ (fun k_=>True∧(some k_=((.slice A0 l0.length c0):Value).ownBlock∨w.heap.size≤k_)) (.slice A0 y64.length c0) y64)) At87.out
    rw[LEhq88] at hq88
    clear LEhq88
    go_wp2_with (((with_reducible refine gc 41 rfl ?_);refine zc 41 (some 72) Try.func41 #[(.slice A0 l0.length c0),.int .i64 x1,.int .i64 x2] (h:=?_);refine(hq88).mono ?_;rintro e w89 ⟨rfl,hn1,hfr,hb⟩;refine⟨_,rfl,?_⟩);replace hn1:=za hn1;replace hfr:=za hfr)
    refine zg ?_
    replace hn1:=hn1.out
    replace hfr:=hfr.out
    clear hq88
    replace HFfr:=za (Kd.F_step (ok:=(fun k_=>True∧some k_≠((.slice A0 l0.length c0):Value).ownBlock)) HFfr.out (fun k_ hk_ hlt_=>hfr k_ (hk_.2) hlt_))
    have HN90:=za (Kd.N_mono hn1 (fun k_ hk_=>hk_.elim (fun h_=>HN0.out.1 k_ h_.symm) (fun h_=>⟨trivial,(.inr (Nat.le_trans (MB.bsize (a:=B_) HB.out) h_))⟩)):Kd.N (Kd.int .i32) 21 w89 B_ (fun k_=>True∧(some k_=((.slice A0 l0.length c0):Value).ownBlock∨w.heap.size≤k_)) (.slice A0 l0.length c0) y86)
    replace HB:=za (Below.trans HB.out hb)
    clear HN0 hn1 hfr hb
    by_cases c91:t85=true
    ·replace HH:=MW.hpos HH c91
     subst c91
     obtain rfl:=Option.some.inj HH.out
     clear HH
     go_wp2
     (first|go_end0|((try simp only[Exit.inBlock,Exit.then]);refine bodyPost_ret (results_none rfl _ _ _) rfl ?_))
     exact⟨by first|rfl|(simp;done)|(simp[*];done),(Kd.N_mono (ok:=(fun k_=>True∧(some k_=((.slice A0 l0.length c0):Value).ownBlock∨w.heap.size≤k_))) HN90.out (fun k_ hk_=>hk_.2)),(fun k_ hv_ hlt_=>MB.frK_out HFfr.out k_ (by rw[HPO.out];exact hv_) hlt_),HB.out⟩
    replace HH:=MW.hneg HH c91
    replace c91:=Bool.eq_false_iff.mpr c91
    subst c91
    replace HH:=zqg HH
    rcases HH with⟨HH,hk93⟩|⟨HH,hk145⟩
    ·replace HH:=zqdo HH
     obtain⟨HH,hk95⟩:=HH
     replace HH:=zqto HH
     obtain⟨HH,hk97,hk98⟩:=HH
     have p99:0≤((wrap64 (x1 - 1)):Int):=of_decide_eq_true (by first|(with_reducible assumption)|assumption)
     have q99:(wrap64 (x1 - 1))<(l0.length:Int):=of_decide_eq_true (by first|(with_reducible assumption)|assumption)
     obtain⟨ad99,e99,hx99_0⟩:=Kd.at_int (Kd.F_now (Kd.N_F HN90.out)) (wrap64 (x1 - 1)) p99 q99
     cases e99
     replace p99:=eq_true p99
     replace q99:=eq_true q99
     replace HH:=zqdo HH
     obtain⟨HH,hk101⟩:=HH
     replace HH:=zqto HH
     obtain⟨HH,hk103,hk104⟩:=HH
     have p105:0≤(x62:Int):=of_decide_eq_true (by first|(with_reducible assumption)|assumption)
     have q105:x62<(l0.length:Int):=of_decide_eq_true (by first|(with_reducible assumption)|assumption)
     obtain⟨ad105,e105,hx105_0⟩:=Kd.at_int (Kd.F_now (Kd.N_F HN90.out)) x62 p105 q105
     cases e105
     replace p105:=eq_true p105
     replace q105:=eq_true q105
     replace HH:=zd HH
     obtain⟨t106,At107,HH⟩:=HH
     by_cases c108:t106=true
     ·replace HH:=MW.hpos HH c108
      subst c108
      go_wp2
      try go_simp
      have hwr_:∀ n_:Int,IntKind.i64.wrap n_=wrap64 n_:=fun n_=>IntWalk.i64_left n_
      go_quiet ((first|(go_at_call 42;first|exact Calls.quiet_of (MW.drawn (cmp_Less_rune.calls  (rd y86 (wrap64 (x1 - 1))) (rd y86 x62) true _  At107.out))|exact MW.quiet_far (MW.drawn (cmp_Less_rune.calls  (rd y86 (wrap64 (x1 - 1))) (rd y86 x62) true _  At107.out)))))
      clear hwr_
      repeat(first|(refine MQ.code_stop (id:=20) ?_)|go_values|go_skip|go_guarded|go_step|go_upon)
      refine zg ?_
      refine MW.name_world (W0:=w89) (by repeat(first|exact Drawn0.refl _|apply Drawn0.step)) ?_
      intro w109 hb
      replace HFfr:=zfb HFfr.out hb
      replace HN90:=znb HN90.out hb
      replace HB:=za (MB.below_stepB hB_.out HB.out hb)
      clear hb
      clear hx99_0 p99 q99 hx105_0 p105 q105
      replace HH:=zd HH
      obtain⟨⟨t110,t111,y112⟩,At113,HH⟩:=HH
      dsimp only at HH
      have LEhq114:=MQ.N_len HN90.out
      have hq114:=slices_partitionOrdered_rune.calls k9 B_ (some ad99) c0 y86 x1 x2 x62 t110 t111 y112 w109 (Nat.le_trans hB_.out (MB.bsize (a:=B_) HB.out)) (MB.N_only (by rw[LEhq114];exact HN90.out:Kd.N (Kd.int .i32) 21 _ B_ (fun k_=>True∧(some k_=((.slice (some ad99) l0.length c0):Value).ownBlock∨w.heap.size≤k_)) (.slice (some ad99) y86.length c0) y86)) At113.out
      rw[LEhq114] at hq114
      clear LEhq114
      go_wp2_with (((with_reducible refine gc 44 rfl ?_);refine zc 44 (some 99) Try.func44 #[(.slice (some ad99) l0.length c0),.int .i64 x1,.int .i64 x2,.int .i64 x62] (h:=?_);refine(hq114).mono ?_;rintro e w115 ⟨rfl,hn1,hfr,hb⟩;refine⟨_,rfl,?_⟩);replace hn1:=za hn1;replace hfr:=za hfr)
      refine zg ?_
      replace hn1:=hn1.out
      replace hfr:=hfr.out
      clear hq114
      replace HFfr:=za (Kd.F_step (ok:=(fun k_=>True∧some k_≠((.slice (some ad99) l0.length c0):Value).ownBlock)) HFfr.out (fun k_ hk_ hlt_=>hfr k_ (hk_.2) hlt_))
      have HN116:=za (Kd.N_mono hn1 (fun k_ hk_=>hk_.elim (fun h_=>HN90.out.1 k_ h_.symm) (fun h_=>⟨trivial,(.inr (Nat.le_trans (MB.bsize (a:=B_) HB.out) h_))⟩)):Kd.N (Kd.int .i32) 21 w115 B_ (fun k_=>True∧(some k_=((.slice (some ad99) l0.length c0):Value).ownBlock∨w.heap.size≤k_)) (.slice (some ad99) l0.length c0) y112)
      replace HB:=za (Below.trans HB.out hb)
      clear HN90 hn1 hfr hb
      replace HH:=zqt HH
      rcases HH with⟨HH,hk118,hk119⟩|⟨HH,hk125,hk126⟩
      ·replace HH:=zd HH
       obtain⟨y120,At121,HH⟩:=HH
       have LEhq122:=MQ.N_len HN116.out
       have hq122:=ih k9 (by have:=HK0.out;omega) B_ (some ad99) c0 y112 x1 t110 x34 y120 w115 (Nat.le_trans hB_.out (MB.bsize (a:=B_) HB.out)) (MB.N_only (by rw[LEhq122];exact HN116.out:Kd.N (Kd.int .i32) 21 _ B_ (fun k_=>True∧(some k_=((.slice (some ad99) l0.length c0):Value).ownBlock∨w.heap.size≤k_)) (.slice (some ad99) y112.length c0) y112)) At121.out
       rw[LEhq122] at hq122
       clear LEhq122
       go_wp2_with (((with_reducible refine gc 34 rfl ?_);refine zc 34 (some 121) Try.func34 #[(.slice (some ad99) l0.length c0),.int .i64 x1,.int .i64 t110,.int .i64 x34] (h:=?_);refine(hq122).mono ?_;rintro e w123 ⟨rfl,hn1,hfr,hb⟩;refine⟨_,rfl,?_⟩);replace hn1:=za hn1;replace hfr:=za hfr)
       refine zg ?_
       replace hn1:=hn1.out
       replace hfr:=hfr.out
       clear hq122
       replace HFfr:=za (Kd.F_step (ok:=(fun k_=>True∧some k_≠((.slice (some ad99) l0.length c0):Value).ownBlock)) HFfr.out (fun k_ hk_ hlt_=>hfr k_ (hk_.2) hlt_))
       have HN124:=za (Kd.N_mono hn1 (fun k_ hk_=>hk_.elim (fun h_=>HN116.out.1 k_ h_.symm) (fun h_=>⟨trivial,(.inr (Nat.le_trans (MB.bsize (a:=B_) HB.out) h_))⟩)):Kd.N (Kd.int .i32) 21 w123 B_ (fun k_=>True∧(some k_=((.slice (some ad99) l0.length c0):Value).ownBlock∨w.heap.size≤k_)) (.slice (some ad99) l0.length c0) y120)
       replace HB:=za (Below.trans HB.out hb)
       clear HN116 hn1 hfr hb
       go_wp2
       go_roundg k9
       case measure=>have:=HK0.out;omega
       case rel=>exact⟨wrap64 (t110+1),x2,x34,decide ((wrap64 (t110 - x1))≥(wrap64 (Int.tdiv (wrap64 (x2 - x1)) 8))),t111,y120,(by first|rfl|(simp;done)|(simp[*];done)),(by first|rfl|(simp;done)|(simp[*];done)),(by first|rfl|(simp;done)|(simp[*];done)),(by first|rfl|(simp;done)|(simp[*];done)),(by first|rfl|(simp;done)|(simp[*];done)),HH,⟨by have:=HK0.out;omega⟩,⟨HFfr.out⟩,⟨(Kd.N_mono (ok:=(fun k_=>True∧(some k_=((.slice (some ad99) l0.length c0):Value).ownBlock∨w.heap.size≤k_))) HN124.out (fun k_ hk_=>hk_))⟩,⟨HB.out⟩⟩
      replace HH:=zd HH
      obtain⟨y127,At128,HH⟩:=HH
      have LEhq129:=MQ.N_len HN116.out
      have hq129:=ih k9 (by have:=HK0.out;omega) B_ (some ad99) c0 y112 (wrap64 (t110+1)) x2 x34 y127 w115 (Nat.le_trans hB_.out (MB.bsize (a:=B_) HB.out)) (MB.N_only (by rw[LEhq129];exact HN116.out:Kd.N (Kd.int .i32) 21 _ B_ (fun k_=>True∧(some k_=((.slice (some ad99) l0.length c0):Value).ownBlock∨w.heap.size≤k_)) (.slice (some ad99) y112.length c0) y112)) At128.out
      rw[LEhq129] at hq129
      clear LEhq129
      go_wp2_with (((with_reducible refine gc 34 rfl ?_);refine zc 34 (some 132) Try.func34 #[(.slice (some ad99) l0.length c0),.int .i64 (wrap64 (t110+1)),.int .i64 x2,.int .i64 x34] (h:=?_);refine(hq129).mono ?_;rintro e w130 ⟨rfl,hn1,hfr,hb⟩;refine⟨_,rfl,?_⟩);replace hn1:=za hn1;replace hfr:=za hfr)
      refine zg ?_
      replace hn1:=hn1.out
      replace hfr:=hfr.out
      clear hq129
      replace HFfr:=za (Kd.F_step (ok:=(fun k_=>True∧some k_≠((.slice (some ad99) l0.length c0):Value).ownBlock)) HFfr.out (fun k_ hk_ hlt_=>hfr k_ (hk_.2) hlt_))
      have HN131:=za (Kd.N_mono hn1 (fun k_ hk_=>hk_.elim (fun h_=>HN116.out.1 k_ h_.symm) (fun h_=>⟨trivial,(.inr (Nat.le_trans (MB.bsize (a:=B_) HB.out) h_))⟩)):Kd.N (Kd.int .i32) 21 w130 B_ (fun k_=>True∧(some k_=((.slice (some ad99) l0.length c0):Value).ownBlock∨w.heap.size≤k_)) (.slice (some ad99) l0.length c0) y127)
      replace HB:=za (Below.trans HB.out hb)
      clear HN116 hn1 hfr hb
      go_wp2
      go_roundg k9
      case measure=>have:=HK0.out;omega
      case rel=>exact⟨x1,t110,x34,decide ((wrap64 (x2 - t110))≥(wrap64 (Int.tdiv (wrap64 (x2 - x1)) 8))),t111,y127,(by first|rfl|(simp;done)|(simp[*];done)),(by first|rfl|(simp;done)|(simp[*];done)),(by first|rfl|(simp;done)|(simp[*];done)),(by first|rfl|(simp;done)|(simp[*];done)),(by first|rfl|(simp;done)|(simp[*];done)),HH,⟨by have:=HK0.out;omega⟩,⟨HFfr.out⟩,⟨(Kd.N_mono (ok:=(fun k_=>True∧(some k_=((.slice (some ad99) l0.length c0):Value).ownBlock∨w.heap.size≤k_))) HN131.out (fun k_ hk_=>hk_))⟩,⟨HB.out⟩⟩
     replace HH:=MW.hneg HH c108
     replace c108:=Bool.eq_false_iff.mpr c108
     subst c108
     go_wp2
     try go_simp
     have hwr_:∀ n_:Int,IntKind.i64.wrap n_=wrap64 n_:=fun n_=>IntWalk.i64_left n_
     go_quiet ((first|(go_at_call 42;first|exact Calls.quiet_of (MW.drawn (cmp_Less_rune.calls  (rd y86 (wrap64 (x1 - 1))) (rd y86 x62) false _  At107.out))|exact MW.quiet_far (MW.drawn (cmp_Less_rune.calls  (rd y86 (wrap64 (x1 - 1))) (rd y86 x62) false _  At107.out)))))
     clear hwr_
     repeat(first|(refine MQ.code_stop (id:=18) ?_)|go_values|go_skip|go_guarded|go_step|go_upon)
     refine zg ?_
     refine MW.name_world (W0:=w89) (by repeat(first|exact Drawn0.refl _|apply Drawn0.step)) ?_
     intro w132 hb
     replace HFfr:=zfb HFfr.out hb
     replace HN90:=znb HN90.out hb
     replace HB:=za (MB.below_stepB hB_.out HB.out hb)
     clear hb
     clear hx99_0 p99 q99 hx105_0 p105 q105
     replace HH:=zd HH
     obtain⟨⟨t133,y134⟩,At135,HH⟩:=HH
     dsimp only at HH
     have LEhq136:=MQ.N_len HN90.out
     have hq136:=slices_partitionEqualOrdered_rune.calls k9 B_ (some ad99) c0 y86 x1 x2 x62 t133 y134 w132 (Nat.le_trans hB_.out (MB.bsize (a:=B_) HB.out)) (MB.N_only (by rw[LEhq136];exact HN90.out:Kd.N (Kd.int .i32) 21 _ B_ (fun k_=>True∧(some k_=((.slice (some ad99) l0.length c0):Value).ownBlock∨w.heap.size≤k_)) (.slice (some ad99) y86.length c0) y86)) At135.out
     rw[LEhq136] at hq136
     clear LEhq136
     go_wp2_with (((with_reducible refine gc 43 rfl ?_);refine zc 43 (some 92) Try.func43 #[(.slice (some ad99) l0.length c0),.int .i64 x1,.int .i64 x2,.int .i64 x62] (h:=?_);refine(hq136).mono ?_;rintro e w137 ⟨rfl,hn1,hfr,hb⟩;refine⟨_,rfl,?_⟩);replace hn1:=za hn1;replace hfr:=za hfr)
     refine zg ?_
     replace hn1:=hn1.out
     replace hfr:=hfr.out
     clear hq136
     replace HFfr:=za (Kd.F_step (ok:=(fun k_=>True∧some k_≠((.slice (some ad99) l0.length c0):Value).ownBlock)) HFfr.out (fun k_ hk_ hlt_=>hfr k_ (hk_.2) hlt_))
     have HN138:=za (Kd.N_mono hn1 (fun k_ hk_=>hk_.elim (fun h_=>HN90.out.1 k_ h_.symm) (fun h_=>⟨trivial,(.inr (Nat.le_trans (MB.bsize (a:=B_) HB.out) h_))⟩)):Kd.N (Kd.int .i32) 21 w137 B_ (fun k_=>True∧(some k_=((.slice (some ad99) l0.length c0):Value).ownBlock∨w.heap.size≤k_)) (.slice (some ad99) l0.length c0) y134)
     replace HB:=za (Below.trans HB.out hb)
     clear HN90 hn1 hfr hb
     go_wp2
     go_roundg k9
     case measure=>have:=HK0.out;omega
     case rel=>exact⟨t133,x2,x34,x4,x5,y134,(by first|rfl|(simp;done)|(simp[*];done)),(by first|rfl|(simp;done)|(simp[*];done)),(by first|rfl|(simp;done)|(simp[*];done)),(by first|rfl|(simp;done)|(simp[*];done)),(by first|rfl|(simp;done)|(simp[*];done)),HH,⟨by have:=HK0.out;omega⟩,⟨HFfr.out⟩,⟨(Kd.N_mono (ok:=(fun k_=>True∧(some k_=((.slice (some ad99) l0.length c0):Value).ownBlock∨w.heap.size≤k_))) HN138.out (fun k_ hk_=>hk_))⟩,⟨HB.out⟩⟩
    go_wp2
    try go_simp
    have hwr_:∀ n_:Int,IntKind.i64.wrap n_=wrap64 n_:=fun n_=>IntWalk.i64_left n_
    go_quiet ((first|(go_at_call 42;first|exact Calls.quiet_of (MW.drawn (cmp_Less_rune.calls  (rd y86 (wrap64 (x1 - 1))) (rd y86 x62) t106 _  At107.out))|exact MW.quiet_far (MW.drawn (cmp_Less_rune.calls  (rd y86 (wrap64 (x1 - 1))) (rd y86 x62) t106 _  At107.out)))))
    clear hwr_
    repeat(first|(refine MQ.code_stop (id:=20) ?_)|go_values|go_skip|go_guarded|go_step|go_upon)
    refine zg ?_
    refine MW.name_world (W0:=w89) (by repeat(first|exact Drawn0.refl _|apply Drawn0.step)) ?_
    intro w146 hb
    replace HFfr:=zfb HFfr.out hb
    replace HN90:=znb HN90.out hb
    replace HB:=za (MB.below_stepB hB_.out HB.out hb)
    clear hb
    replace HH:=zd HH
    obtain⟨⟨t147,t148,y149⟩,At150,HH⟩:=HH
    dsimp only at HH
    have LEhq151:=MQ.N_len HN90.out
    have hq151:=slices_partitionOrdered_rune.calls k9 B_ A0 c0 y86 x1 x2 x62 t147 t148 y149 w146 (Nat.le_trans hB_.out (MB.bsize (a:=B_) HB.out)) (MB.N_only (by rw[LEhq151];exact HN90.out:Kd.N (Kd.int .i32) 21 _ B_ (fun k_=>True∧(some k_=((.slice A0 l0.length c0):Value).ownBlock∨w.heap.size≤k_)) (.slice A0 y86.length c0) y86)) At150.out
    rw[LEhq151] at hq151
    clear LEhq151
    go_wp2_with (((with_reducible refine gc 44 rfl ?_);refine zc 44 (some 99) Try.func44 #[(.slice A0 l0.length c0),.int .i64 x1,.int .i64 x2,.int .i64 x62] (h:=?_);refine(hq151).mono ?_;rintro e w152 ⟨rfl,hn1,hfr,hb⟩;refine⟨_,rfl,?_⟩);replace hn1:=za hn1;replace hfr:=za hfr)
    refine zg ?_
    replace hn1:=hn1.out
    replace hfr:=hfr.out
    clear hq151
    replace HFfr:=za (Kd.F_step (ok:=(fun k_=>True∧some k_≠((.slice A0 l0.length c0):Value).ownBlock)) HFfr.out (fun k_ hk_ hlt_=>hfr k_ (hk_.2) hlt_))
    have HN153:=za (Kd.N_mono hn1 (fun k_ hk_=>hk_.elim (fun h_=>HN90.out.1 k_ h_.symm) (fun h_=>⟨trivial,(.inr (Nat.le_trans (MB.bsize (a:=B_) HB.out) h_))⟩)):Kd.N (Kd.int .i32) 21 w152 B_ (fun k_=>True∧(some k_=((.slice A0 l0.length c0):Value).ownBlock∨w.heap.size≤k_)) (.slice A0 l0.length c0) y149)
    replace HB:=za (Below.trans HB.out hb)
    clear HN90 hn1 hfr hb
    replace HH:=zqt HH
    rcases HH with⟨HH,hk155,hk156⟩|⟨HH,hk162,hk163⟩
    ·replace HH:=zd HH
     obtain⟨y157,At158,HH⟩:=HH
     have LEhq159:=MQ.N_len HN153.out
     have hq159:=ih k9 (by have:=HK0.out;omega) B_ A0 c0 y149 x1 t147 x34 y157 w152 (Nat.le_trans hB_.out (MB.bsize (a:=B_) HB.out)) (MB.N_only (by rw[LEhq159];exact HN153.out:Kd.N (Kd.int .i32) 21 _ B_ (fun k_=>True∧(some k_=((.slice A0 l0.length c0):Value).ownBlock∨w.heap.size≤k_)) (.slice A0 y149.length c0) y149)) At158.out
     rw[LEhq159] at hq159
     clear LEhq159
     go_wp2_with (((with_reducible refine gc 34 rfl ?_);refine zc 34 (some 121) Try.func34 #[(.slice A0 l0.length c0),.int .i64 x1,.int .i64 t147,.int .i64 x34] (h:=?_);refine(hq159).mono ?_;rintro e w160 ⟨rfl,hn1,hfr,hb⟩;refine⟨_,rfl,?_⟩);replace hn1:=za hn1;replace hfr:=za hfr)
     refine zg ?_
     replace hn1:=hn1.out
     replace hfr:=hfr.out
     clear hq159
     replace HFfr:=za (Kd.F_step (ok:=(fun k_=>True∧some k_≠((.slice A0 l0.length c0):Value).ownBlock)) HFfr.out (fun k_ hk_ hlt_=>hfr k_ (hk_.2) hlt_))
     have HN161:=za (Kd.N_mono hn1 (fun k_ hk_=>hk_.elim (fun h_=>HN153.out.1 k_ h_.symm) (fun h_=>⟨trivial,(.inr (Nat.le_trans (MB.bsize (a:=B_) HB.out) h_))⟩)):Kd.N (Kd.int .i32) 21 w160 B_ (fun k_=>True∧(some k_=((.slice A0 l0.length c0):Value).ownBlock∨w.heap.size≤k_)) (.slice A0 l0.length c0) y157)
     replace HB:=za (Below.trans HB.out hb)
     clear HN153 hn1 hfr hb
     go_wp2
     go_roundg k9
     case measure=>have:=HK0.out;omega
     case rel=>exact⟨wrap64 (t147+1),x2,x34,decide ((wrap64 (t147 - x1))≥(wrap64 (Int.tdiv (wrap64 (x2 - x1)) 8))),t148,y157,(by first|rfl|(simp;done)|(simp[*];done)),(by first|rfl|(simp;done)|(simp[*];done)),(by first|rfl|(simp;done)|(simp[*];done)),(by first|rfl|(simp;done)|(simp[*];done)),(by first|rfl|(simp;done)|(simp[*];done)),HH,⟨by have:=HK0.out;omega⟩,⟨HFfr.out⟩,⟨(Kd.N_mono (ok:=(fun k_=>True∧(some k_=((.slice A0 l0.length c0):Value).ownBlock∨w.heap.size≤k_))) HN161.out (fun k_ hk_=>hk_))⟩,⟨HB.out⟩⟩
    replace HH:=zd HH
    obtain⟨y164,At165,HH⟩:=HH
    have LEhq166:=MQ.N_len HN153.out
    have hq166:=ih k9 (by have:=HK0.out;omega) B_ A0 c0 y149 (wrap64 (t147+1)) x2 x34 y164 w152 (Nat.le_trans hB_.out (MB.bsize (a:=B_) HB.out)) (MB.N_only (by rw[LEhq166];exact HN153.out:Kd.N (Kd.int .i32) 21 _ B_ (fun k_=>True∧(some k_=((.slice A0 l0.length c0):Value).ownBlock∨w.heap.size≤k_)) (.slice A0 y149.length c0) y149)) At165.out
    rw[LEhq166] at hq166
    clear LEhq166
    go_wp2_with (((with_reducible refine gc 34 rfl ?_);refine zc 34 (some 132) Try.func34 #[(.slice A0 l0.length c0),.int .i64 (wrap64 (t147+1)),.int .i64 x2,.int .i64 x34] (h:=?_);refine(hq166).mono ?_;rintro e w167 ⟨rfl,hn1,hfr,hb⟩;refine⟨_,rfl,?_⟩);replace hn1:=za hn1;replace hfr:=za hfr)
    refine zg ?_
    replace hn1:=hn1.out
    replace hfr:=hfr.out
    clear hq166
    replace HFfr:=za (Kd.F_step (ok:=(fun k_=>True∧some k_≠((.slice A0 l0.length c0):Value).ownBlock)) HFfr.out (fun k_ hk_ hlt_=>hfr k_ (hk_.2) hlt_))
    have HN168:=za (Kd.N_mono hn1 (fun k_ hk_=>hk_.elim (fun h_=>HN153.out.1 k_ h_.symm) (fun h_=>⟨trivial,(.inr (Nat.le_trans (MB.bsize (a:=B_) HB.out) h_))⟩)):Kd.N (Kd.int .i32) 21 w167 B_ (fun k_=>True∧(some k_=((.slice A0 l0.length c0):Value).ownBlock∨w.heap.size≤k_)) (.slice A0 l0.length c0) y164)
    replace HB:=za (Below.trans HB.out hb)
    clear HN153 hn1 hfr hb
    go_wp2
    go_roundg k9
    case measure=>have:=HK0.out;omega
    case rel=>exact⟨x1,t147,x34,decide ((wrap64 (x2 - t147))≥(wrap64 (Int.tdiv (wrap64 (x2 - x1)) 8))),t148,y164,(by first|rfl|(simp;done)|(simp[*];done)),(by first|rfl|(simp;done)|(simp[*];done)),(by first|rfl|(simp;done)|(simp[*];done)),(by first|rfl|(simp;done)|(simp[*];done)),(by first|rfl|(simp;done)|(simp[*];done)),HH,⟨by have:=HK0.out;omega⟩,⟨HFfr.out⟩,⟨(Kd.N_mono (ok:=(fun k_=>True∧(some k_=((.slice A0 l0.length c0):Value).ownBlock∨w.heap.size≤k_))) HN168.out (fun k_ hk_=>hk_))⟩,⟨HB.out⟩⟩
   replace HH:=MW.hneg HH c84
   replace c84:=Bool.eq_false_iff.mpr c84
   subst c84
   replace HH:=zqg HH
   rcases HH with⟨HH,hk170⟩|⟨HH,hk222⟩
   ·replace HH:=zqdo HH
    obtain⟨HH,hk172⟩:=HH
    replace HH:=zqto HH
    obtain⟨HH,hk174,hk175⟩:=HH
    have p176:0≤((wrap64 (x1 - 1)):Int):=of_decide_eq_true (by first|(with_reducible assumption)|assumption)
    have q176:(wrap64 (x1 - 1))<(l0.length:Int):=of_decide_eq_true (by first|(with_reducible assumption)|assumption)
    obtain⟨ad176,e176,hx176_0⟩:=Kd.at_int (Kd.F_now (Kd.N_F HN0.out)) (wrap64 (x1 - 1)) p176 q176
    cases e176
    replace p176:=eq_true p176
    replace q176:=eq_true q176
    replace HH:=zqdo HH
    obtain⟨HH,hk178⟩:=HH
    replace HH:=zqto HH
    obtain⟨HH,hk180,hk181⟩:=HH
    have p182:0≤(x62:Int):=of_decide_eq_true (by first|(with_reducible assumption)|assumption)
    have q182:x62<(l0.length:Int):=of_decide_eq_true (by first|(with_reducible assumption)|assumption)
    obtain⟨ad182,e182,hx182_0⟩:=Kd.at_int (Kd.F_now (Kd.N_F HN0.out)) x62 p182 q182
    cases e182
    replace p182:=eq_true p182
    replace q182:=eq_true q182
    replace HH:=zd HH
    obtain⟨t183,At184,HH⟩:=HH
    by_cases c185:t183=true
    ·replace HH:=MW.hpos HH c185
     subst c185
     go_wp2
     try go_simp
     have hwr_:∀ n_:Int,IntKind.i64.wrap n_=wrap64 n_:=fun n_=>IntWalk.i64_left n_
     go_quiet ((first|(go_at_call 42;first|exact Calls.quiet_of (MW.drawn (cmp_Less_rune.calls  (rd y64 (wrap64 (x1 - 1))) (rd y64 x62) true _  At184.out))|exact MW.quiet_far (MW.drawn (cmp_Less_rune.calls  (rd y64 (wrap64 (x1 - 1))) (rd y64 x62) true _  At184.out)))))
     clear hwr_
     repeat(first|(refine MQ.code_stop (id:=20) ?_)|go_values|go_skip|go_guarded|go_step|go_upon)
     refine zg ?_
     refine MW.name_world (W0:=w81) (by repeat(first|exact Drawn0.refl _|apply Drawn0.step)) ?_
     intro w186 hb
     replace HFfr:=zfb HFfr.out hb
     replace HN0:=znb HN0.out hb
     replace HB:=za (MB.below_stepB hB_.out HB.out hb)
     clear hb
     clear hx176_0 p176 q176 hx182_0 p182 q182
     replace HH:=zd HH
     obtain⟨⟨t187,t188,y189⟩,At190,HH⟩:=HH
     dsimp only at HH
     have LEhq191:=MQ.N_len HN0.out
     have hq191:=slices_partitionOrdered_rune.calls k9 B_ (some ad176) c0 y64 x1 x2 x62 t187 t188 y189 w186 (Nat.le_trans hB_.out (MB.bsize (a:=B_) HB.out)) (MB.N_only (by rw[LEhq191];exact HN0.out:Kd.N (Kd.int .i32) 21 _ B_ (fun k_=>True∧(some k_=((.slice (some ad176) l0.length c0):Value).ownBlock∨w.heap.size≤k_)) (.slice (some ad176) y64.length c0) y64)) At190.out
     rw[LEhq191] at hq191
     clear LEhq191
     go_wp2_with (((with_reducible refine gc 44 rfl ?_);refine zc 44 (some 99) Try.func44 #[(.slice (some ad176) l0.length c0),.int .i64 x1,.int .i64 x2,.int .i64 x62] (h:=?_);refine(hq191).mono ?_;rintro e w192 ⟨rfl,hn1,hfr,hb⟩;refine⟨_,rfl,?_⟩);replace hn1:=za hn1;replace hfr:=za hfr)
     refine zg ?_
     replace hn1:=hn1.out
     replace hfr:=hfr.out
     clear hq191
     replace HFfr:=za (Kd.F_step (ok:=(fun k_=>True∧some k_≠((.slice (some ad176) l0.length c0):Value).ownBlock)) HFfr.out (fun k_ hk_ hlt_=>hfr k_ (hk_.2) hlt_))
     have HN193:=za (Kd.N_mono hn1 (fun k_ hk_=>hk_.elim (fun h_=>HN0.out.1 k_ h_.symm) (fun h_=>⟨trivial,(.inr (Nat.le_trans (MB.bsize (a:=B_) HB.out) h_))⟩)):Kd.N (Kd.int .i32) 21 w192 B_ (fun k_=>True∧(some k_=((.slice (some ad176) l0.length c0):Value).ownBlock∨w.heap.size≤k_)) (.slice (some ad176) l0.length c0) y189)
     replace HB:=za (Below.trans HB.out hb)
     clear HN0 hn1 hfr hb
     replace HH:=zqt HH
     rcases HH with⟨HH,hk195,hk196⟩|⟨HH,hk202,hk203⟩
     ·replace HH:=zd HH
      obtain⟨y197,At198,HH⟩:=HH
      have LEhq199:=MQ.N_len HN193.out
      have hq199:=ih k9 (by have:=HK0.out;omega) B_ (some ad176) c0 y189 x1 t187 x34 y197 w192 (Nat.le_trans hB_.out (MB.bsize (a:=B_) HB.out)) (MB.N_only (by rw[LEhq199];exact HN193.out:Kd.N (Kd.int .i32) 21 _ B_ (fun k_=>True∧(some k_=((.slice (some ad176) l0.length c0):Value).ownBlock∨w.heap.size≤k_)) (.slice (some ad176) y189.length c0) y189)) At198.out
      rw[LEhq199] at hq199
      clear LEhq199
      go_wp2_with (((with_reducible refine gc 34 rfl ?_);refine zc 34 (some 121) Try.func34 #[(.slice (some ad176) l0.length c0),.int .i64 x1,.int .i64 t187,.int .i64 x34] (h:=?_);refine(hq199).mono ?_;rintro e w200 ⟨rfl,hn1,hfr,hb⟩;refine⟨_,rfl,?_⟩);replace hn1:=za hn1;replace hfr:=za hfr)
      refine zg ?_
      replace hn1:=hn1.out
      replace hfr:=hfr.out
      clear hq199
      replace HFfr:=za (Kd.F_step (ok:=(fun k_=>True∧some k_≠((.slice (some ad176) l0.length c0):Value).ownBlock)) HFfr.out (fun k_ hk_ hlt_=>hfr k_ (hk_.2) hlt_))
      have HN201:=za (Kd.N_mono hn1 (fun k_ hk_=>hk_.elim (fun h_=>HN193.out.1 k_ h_.symm) (fun h_=>⟨trivial,(.inr (Nat.le_trans (MB.bsize (a:=B_) HB.out) h_))⟩)):Kd.N (Kd.int .i32) 21 w200 B_ (fun k_=>True∧(some k_=((.slice (some ad176) l0.length c0):Value).ownBlock∨w.heap.size≤k_)) (.slice (some ad176) l0.length c0) y197)
      replace HB:=za (Below.trans HB.out hb)
      clear HN193 hn1 hfr hb
      go_wp2
      go_roundg k9
      case measure=>have:=HK0.out;omega
      case rel=>exact⟨wrap64 (t187+1),x2,x34,decide ((wrap64 (t187 - x1))≥(wrap64 (Int.tdiv (wrap64 (x2 - x1)) 8))),t188,y197,(by first|rfl|(simp;done)|(simp[*];done)),(by first|rfl|(simp;done)|(simp[*];done)),(by first|rfl|(simp;done)|(simp[*];done)),(by first|rfl|(simp;done)|(simp[*];done)),(by first|rfl|(simp;done)|(simp[*];done)),HH,⟨by have:=HK0.out;omega⟩,⟨HFfr.out⟩,⟨(Kd.N_mono (ok:=(fun k_=>True∧(some k_=((.slice (some ad176) l0.length c0):Value).ownBlock∨w.heap.size≤k_))) HN201.out (fun k_ hk_=>hk_))⟩,⟨HB.out⟩⟩
     replace HH:=zd HH
     obtain⟨y204,At205,HH⟩:=HH
     have LEhq206:=MQ.N_len HN193.out
     have hq206:=ih k9 (by have:=HK0.out;omega) B_ (some ad176) c0 y189 (wrap64 (t187+1)) x2 x34 y204 w192 (Nat.le_trans hB_.out (MB.bsize (a:=B_) HB.out)) (MB.N_only (by rw[LEhq206];exact HN193.out:Kd.N (Kd.int .i32) 21 _ B_ (fun k_=>True∧(some k_=((.slice (some ad176) l0.length c0):Value).ownBlock∨w.heap.size≤k_)) (.slice (some ad176) y189.length c0) y189)) At205.out
     rw[LEhq206] at hq206
     clear LEhq206
     go_wp2_with (((with_reducible refine gc 34 rfl ?_);refine zc 34 (some 132) Try.func34 #[(.slice (some ad176) l0.length c0),.int .i64 (wrap64 (t187+1)),.int .i64 x2,.int .i64 x34] (h:=?_);refine(hq206).mono ?_;rintro e w207 ⟨rfl,hn1,hfr,hb⟩;refine⟨_,rfl,?_⟩);replace hn1:=za hn1;replace hfr:=za hfr)
     refine zg ?_
     replace hn1:=hn1.out
     replace hfr:=hfr.out
     clear hq206
     replace HFfr:=za (Kd.F_step (ok:=(fun k_=>True∧some k_≠((.slice (some ad176) l0.length c0):Value).ownBlock)) HFfr.out (fun k_ hk_ hlt_=>hfr k_ (hk_.2) hlt_))
     have HN208:=za (Kd.N_mono hn1 (fun k_ hk_=>hk_.elim (fun h_=>HN193.out.1 k_ h_.symm) (fun h_=>⟨trivial,(.inr (Nat.le_trans (MB.bsize (a:=B_) HB.out) h_))⟩)):Kd.N (Kd.int .i32) 21 w207 B_ (fun k_=>True∧(some k_=((.slice (some ad176) l0.length c0):Value).ownBlock∨w.heap.size≤k_)) (.slice (some ad176) l0.length c0) y204)
     replace HB:=za (Below.trans HB.out hb)
     clear HN193 hn1 hfr hb
     go_wp2
     go_roundg k9
     case measure=>have:=HK0.out;omega
     case rel=>exact⟨x1,t187,x34,decide ((wrap64 (x2 - t187))≥(wrap64 (Int.tdiv (wrap64 (x2 - x1)) 8))),t188,y204,(by first|rfl|(simp;done)|(simp[*];done)),(by first|rfl|(simp;done)|(simp[*];done)),(by first|rfl|(simp;done)|(simp[*];done)),(by first|rfl|(simp;done)|(simp[*];done)),(by first|rfl|(simp;done)|(simp[*];done)),HH,⟨by have:=HK0.out;omega⟩,⟨HFfr.out⟩,⟨(Kd.N_mono (ok:=(fun k_=>True∧(some k_=((.slice (some ad176) l0.length c0):Value).ownBlock∨w.heap.size≤k_))) HN208.out (fun k_ hk_=>hk_))⟩,⟨HB.out⟩⟩
    replace HH:=MW.hneg HH c185
    replace c185:=Bool.eq_false_iff.mpr c185
    subst c185
    go_wp2
    try go_simp
    have hwr_:∀ n_:Int,IntKind.i64.wrap n_=wrap64 n_:=fun n_=>IntWalk.i64_left n_
    go_quiet ((first|(go_at_call 42;first|exact Calls.quiet_of (MW.drawn (cmp_Less_rune.calls  (rd y64 (wrap64 (x1 - 1))) (rd y64 x62) false _  At184.out))|exact MW.quiet_far (MW.drawn (cmp_Less_rune.calls  (rd y64 (wrap64 (x1 - 1))) (rd y64 x62) false _  At184.out)))))
    clear hwr_
    repeat(first|(refine MQ.code_stop (id:=18) ?_)|go_values|go_skip|go_guarded|go_step|go_upon)
    refine zg ?_
    refine MW.name_world (W0:=w81) (by repeat(first|exact Drawn0.refl _|apply Drawn0.step)) ?_
    intro w209 hb
    replace HFfr:=zfb HFfr.out hb
    replace HN0:=znb HN0.out hb
    replace HB:=za (MB.below_stepB hB_.out HB.out hb)
    clear hb
    clear hx176_0 p176 q176 hx182_0 p182 q182
    replace HH:=zd HH
    obtain⟨⟨t210,y211⟩,At212,HH⟩:=HH
    dsimp only at HH
    have LEhq213:=MQ.N_len HN0.out
    have hq213:=slices_partitionEqualOrdered_rune.calls k9 B_ (some ad176) c0 y64 x1 x2 x62 t210 y211 w209 (Nat.le_trans hB_.out (MB.bsize (a:=B_) HB.out)) (MB.N_only (by rw[LEhq213];exact HN0.out:Kd.N (Kd.int .i32) 21 _ B_ (fun k_=>True∧(some k_=((.slice (some ad176) l0.length c0):Value).ownBlock∨w.heap.size≤k_)) (.slice (some ad176) y64.length c0) y64)) At212.out
    rw[LEhq213] at hq213
    clear LEhq213
    go_wp2_with (((with_reducible refine gc 43 rfl ?_);refine zc 43 (some 92) Try.func43 #[(.slice (some ad176) l0.length c0),.int .i64 x1,.int .i64 x2,.int .i64 x62] (h:=?_);refine(hq213).mono ?_;rintro e w214 ⟨rfl,hn1,hfr,hb⟩;refine⟨_,rfl,?_⟩);replace hn1:=za hn1;replace hfr:=za hfr)
    refine zg ?_
    replace hn1:=hn1.out
    replace hfr:=hfr.out
    clear hq213
    replace HFfr:=za (Kd.F_step (ok:=(fun k_=>True∧some k_≠((.slice (some ad176) l0.length c0):Value).ownBlock)) HFfr.out (fun k_ hk_ hlt_=>hfr k_ (hk_.2) hlt_))
    have HN215:=za (Kd.N_mono hn1 (fun k_ hk_=>hk_.elim (fun h_=>HN0.out.1 k_ h_.symm) (fun h_=>⟨trivial,(.inr (Nat.le_trans (MB.bsize (a:=B_) HB.out) h_))⟩)):Kd.N (Kd.int .i32) 21 w214 B_ (fun k_=>True∧(some k_=((.slice (some ad176) l0.length c0):Value).ownBlock∨w.heap.size≤k_)) (.slice (some ad176) l0.length c0) y211)
    replace HB:=za (Below.trans HB.out hb)
    clear HN0 hn1 hfr hb
    go_wp2
    go_roundg k9
    case measure=>have:=HK0.out;omega
    case rel=>exact⟨t210,x2,x34,x4,x5,y211,(by first|rfl|(simp;done)|(simp[*];done)),(by first|rfl|(simp;done)|(simp[*];done)),(by first|rfl|(simp;done)|(simp[*];done)),(by first|rfl|(simp;done)|(simp[*];done)),(by first|rfl|(simp;done)|(simp[*];done)),HH,⟨by have:=HK0.out;omega⟩,⟨HFfr.out⟩,⟨(Kd.N_mono (ok:=(fun k_=>True∧(some k_=((.slice (some ad176) l0.length c0):Value).ownBlock∨w.heap.size≤k_))) HN215.out (fun k_ hk_=>hk_))⟩,⟨HB.out⟩⟩
   go_wp2
   try go_simp
   have hwr_:∀ n_:Int,IntKind.i64.wrap n_=wrap64 n_:=fun n_=>IntWalk.i64_left n_
   go_quiet ((first|(go_at_call 42;first|exact Calls.quiet_of (MW.drawn (cmp_Less_rune.calls  (rd y64 (wrap64 (x1 - 1))) (rd y64 x62) t183 _  At184.out))|exact MW.quiet_far (MW.drawn (cmp_Less_rune.calls  (rd y64 (wrap64 (x1 - 1))) (rd y64 x62) t183 _  At184.out)))))
   clear hwr_
   repeat(first|(refine MQ.code_stop (id:=20) ?_)|go_values|go_skip|go_guarded|go_step|go_upon)
   refine zg ?_
   refine MW.name_world (W0:=w81) (by repeat(first|exact Drawn0.refl _|apply Drawn0.step)) ?_
   intro w223 hb
   replace HFfr:=zfb HFfr.out hb
   replace HN0:=znb HN0.out hb
   replace HB:=za (MB.below_stepB hB_.out HB.out hb)
   clear hb
   replace HH:=zd HH
   obtain⟨⟨t224,t225,y226⟩,At227,HH⟩:=HH
   dsimp only at HH
   have LEhq228:=MQ.N_len HN0.out
   have hq228:=slices_partitionOrdered_rune.calls k9 B_ A0 c0 y64 x1 x2 x62 t224 t225 y226 w223 (Nat.le_trans hB_.out (MB.bsize (a:=B_) HB.out)) (MB.N_only (by rw[LEhq228];exact HN0.out:Kd.N (Kd.int .i32) 21 _ B_ (fun k_=>True∧(some k_=((.slice A0 l0.length c0):Value).ownBlock∨w.heap.size≤k_)) (.slice A0 y64.length c0) y64)) At227.out
   rw[LEhq228] at hq228
   clear LEhq228
   go_wp2_with (((with_reducible refine gc 44 rfl ?_);refine zc 44 (some 99) Try.func44 #[(.slice A0 l0.length c0),.int .i64 x1,.int .i64 x2,.int .i64 x62] (h:=?_);refine(hq228).mono ?_;rintro e w229 ⟨rfl,hn1,hfr,hb⟩;refine⟨_,rfl,?_⟩);replace hn1:=za hn1;replace hfr:=za hfr)
   refine zg ?_
   replace hn1:=hn1.out
   replace hfr:=hfr.out
   clear hq228
   replace HFfr:=za (Kd.F_step (ok:=(fun k_=>True∧some k_≠((.slice A0 l0.length c0):Value).ownBlock)) HFfr.out (fun k_ hk_ hlt_=>hfr k_ (hk_.2) hlt_))
   have HN230:=za (Kd.N_mono hn1 (fun k_ hk_=>hk_.elim (fun h_=>HN0.out.1 k_ h_.symm) (fun h_=>⟨trivial,(.inr (Nat.le_trans (MB.bsize (a:=B_) HB.out) h_))⟩)):Kd.N (Kd.int .i32) 21 w229 B_ (fun k_=>True∧(some k_=((.slice A0 l0.length c0):Value).ownBlock∨w.heap.size≤k_)) (.slice A0 l0.length c0) y226)
   replace HB:=za (Below.trans HB.out hb)
   clear HN0 hn1 hfr hb
   replace HH:=zqt HH
   rcases HH with⟨HH,hk232,hk233⟩|⟨HH,hk239,hk240⟩
   ·replace HH:=zd HH
    obtain⟨y234,At235,HH⟩:=HH
    have LEhq236:=MQ.N_len HN230.out
    have hq236:=ih k9 (by have:=HK0.out;omega) B_ A0 c0 y226 x1 t224 x34 y234 w229 (Nat.le_trans hB_.out (MB.bsize (a:=B_) HB.out)) (MB.N_only (by rw[LEhq236];exact HN230.out:Kd.N (Kd.int .i32) 21 _ B_ (fun k_=>True∧(some k_=((.slice A0 l0.length c0):Value).ownBlock∨w.heap.size≤k_)) (.slice A0 y226.length c0) y226)) At235.out
    rw[LEhq236] at hq236
    clear LEhq236
    go_wp2_with (((with_reducible refine gc 34 rfl ?_);refine zc 34 (some 121) Try.func34 #[(.slice A0 l0.length c0),.int .i64 x1,.int .i64 t224,.int .i64 x34] (h:=?_);refine(hq236).mono ?_;rintro e w237 ⟨rfl,hn1,hfr,hb⟩;refine⟨_,rfl,?_⟩);replace hn1:=za hn1;replace hfr:=za hfr)
    refine zg ?_
    replace hn1:=hn1.out
    replace hfr:=hfr.out
    clear hq236
    replace HFfr:=za (Kd.F_step (ok:=(fun k_=>True∧some k_≠((.slice A0 l0.length c0):Value).ownBlock)) HFfr.out (fun k_ hk_ hlt_=>hfr k_ (hk_.2) hlt_))
    have HN238:=za (Kd.N_mono hn1 (fun k_ hk_=>hk_.elim (fun h_=>HN230.out.1 k_ h_.symm) (fun h_=>⟨trivial,(.inr (Nat.le_trans (MB.bsize (a:=B_) HB.out) h_))⟩)):Kd.N (Kd.int .i32) 21 w237 B_ (fun k_=>True∧(some k_=((.slice A0 l0.length c0):Value).ownBlock∨w.heap.size≤k_)) (.slice A0 l0.length c0) y234)
    replace HB:=za (Below.trans HB.out hb)
    clear HN230 hn1 hfr hb
    go_wp2
    go_roundg k9
    case measure=>have:=HK0.out;omega
    case rel=>exact⟨wrap64 (t224+1),x2,x34,decide ((wrap64 (t224 - x1))≥(wrap64 (Int.tdiv (wrap64 (x2 - x1)) 8))),t225,y234,(by first|rfl|(simp;done)|(simp[*];done)),(by first|rfl|(simp;done)|(simp[*];done)),(by first|rfl|(simp;done)|(simp[*];done)),(by first|rfl|(simp;done)|(simp[*];done)),(by first|rfl|(simp;done)|(simp[*];done)),HH,⟨by have:=HK0.out;omega⟩,⟨HFfr.out⟩,⟨(Kd.N_mono (ok:=(fun k_=>True∧(some k_=((.slice A0 l0.length c0):Value).ownBlock∨w.heap.size≤k_))) HN238.out (fun k_ hk_=>hk_))⟩,⟨HB.out⟩⟩
   replace HH:=zd HH
   obtain⟨y241,At242,HH⟩:=HH
   have LEhq243:=MQ.N_len HN230.out
   have hq243:=ih k9 (by have:=HK0.out;omega) B_ A0 c0 y226 (wrap64 (t224+1)) x2 x34 y241 w229 (Nat.le_trans hB_.out (MB.bsize (a:=B_) HB.out)) (MB.N_only (by rw[LEhq243];exact HN230.out:Kd.N (Kd.int .i32) 21 _ B_ (fun k_=>True∧(some k_=((.slice A0 l0.length c0):Value).ownBlock∨w.heap.size≤k_)) (.slice A0 y226.length c0) y226)) At242.out
   rw[LEhq243] at hq243
   clear LEhq243
   go_wp2_with (((with_reducible refine gc 34 rfl ?_);refine zc 34 (some 132) Try.func34 #[(.slice A0 l0.length c0),.int .i64 (wrap64 (t224+1)),.int .i64 x2,.int .i64 x34] (h:=?_);refine(hq243).mono ?_;rintro e w244 ⟨rfl,hn1,hfr,hb⟩;refine⟨_,rfl,?_⟩);replace hn1:=za hn1;replace hfr:=za hfr)
   refine zg ?_
   replace hn1:=hn1.out
   replace hfr:=hfr.out
   clear hq243
   replace HFfr:=za (Kd.F_step (ok:=(fun k_=>True∧some k_≠((.slice A0 l0.length c0):Value).ownBlock)) HFfr.out (fun k_ hk_ hlt_=>hfr k_ (hk_.2) hlt_))
   have HN245:=za (Kd.N_mono hn1 (fun k_ hk_=>hk_.elim (fun h_=>HN230.out.1 k_ h_.symm) (fun h_=>⟨trivial,(.inr (Nat.le_trans (MB.bsize (a:=B_) HB.out) h_))⟩)):Kd.N (Kd.int .i32) 21 w244 B_ (fun k_=>True∧(some k_=((.slice A0 l0.length c0):Value).ownBlock∨w.heap.size≤k_)) (.slice A0 l0.length c0) y241)
   replace HB:=za (Below.trans HB.out hb)
   clear HN230 hn1 hfr hb
   go_wp2
   go_roundg k9
   case measure=>have:=HK0.out;omega
   case rel=>exact⟨x1,t224,x34,decide ((wrap64 (x2 - t224))≥(wrap64 (Int.tdiv (wrap64 (x2 - x1)) 8))),t225,y241,(by first|rfl|(simp;done)|(simp[*];done)),(by first|rfl|(simp;done)|(simp[*];done)),(by first|rfl|(simp;done)|(simp[*];done)),(by first|rfl|(simp;done)|(simp[*];done)),(by first|rfl|(simp;done)|(simp[*];done)),HH,⟨by have:=HK0.out;omega⟩,⟨HFfr.out⟩,⟨(Kd.N_mono (ok:=(fun k_=>True∧(some k_=((.slice A0 l0.length c0):Value).ownBlock∨w.heap.size≤k_))) HN245.out (fun k_ hk_=>hk_))⟩,⟨HB.out⟩⟩
end Go.Proofs.Ytcokpnajkkjclaa.GA
