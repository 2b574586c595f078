import Derived.Test.YtcokpnajkkjclaaGA0
import Derived.Test.YtcokpnajkkjclaaGM1
import Derived.Test.YtcokpnajkkjclaaMQ
namespace Go.Proofs.Ytcokpnajkkjclaa.GA
open Go.RowKit Go.Proofs.Ytcokpnajkkjclaa Go.Proofs.Ytcokpnajkkjclaa.MW Go.Proofs.YtcokpnajkkjclaaW.PrintWords Go.Proofs.YtcokpnajkkjclaaW.PrintLast Go.Proofs.YtcokpnajkkjclaaW.PrintMore
attribute [local go_sem] max2_int min2_int max_two min_two
set_option maxHeartbeats 8000000
set_option maxRecDepth 100000
set_option linter.unusedVariables false
set_option linter.unusedSimpArgs false
def slices_breakPatternsOrdered_rune.l0:Nat→Int→Int→(List Int)→Int→Int→(List Int)→Int→Option (List Int)
 |0,_,_,_,_,_,_,_=>none
 |k+1,x13,x14,x15,a1,a2,l0,t8=>if x13≤(wrap64 ((wrap64 (a1+(wrap64 ((wrap64 (Int.tdiv (wrap64 (a2 - a1)) 4))*2))))+1)) then((slices_xorshift_Next.f x14).bind fun bt21=>(if (wrap64 (Go.bits .and .u64 bt21.1 (IntKind.u64.wrap (t8 - 1))))≥(wrap64 (a2 - a1)) then(if 0≤(wrap64 (a1+(wrap64 ((wrap64 (Go.bits .and .u64 bt21.1 (IntKind.u64.wrap (t8 - 1)))) - (wrap64 (a2 - a1)))))) then(if (wrap64 (a1+(wrap64 ((wrap64 (Go.bits .and .u64 bt21.1 (IntKind.u64.wrap (t8 - 1)))) - (wrap64 (a2 - a1))))))<(l0.length:Int) then(if 0≤x13 then(if x13<(l0.length:Int) then((some (List.set x15 x13.toNat (rd x15 (wrap64 (a1+(wrap64 ((wrap64 (Go.bits .and .u64 bt21.1 (IntKind.u64.wrap (t8 - 1)))) - (wrap64 (a2 - a1))))))):List Int)).bind fun y42=>((some (List.set y42 (wrap64 (a1+(wrap64 ((wrap64 (Go.bits .and .u64 bt21.1 (IntKind.u64.wrap (t8 - 1)))) - (wrap64 (a2 - a1)))))).toNat (rd x15 x13):List Int)).bind fun y47=>((slices_breakPatternsOrdered_rune.l0 k (wrap64 (x13+1)) bt21.2 y47 a1 a2 l0 t8)))) else(none)) else(none)) else(none)) else(none)) else(if 0≤(wrap64 (a1+(wrap64 (Go.bits .and .u64 bt21.1 (IntKind.u64.wrap (t8 - 1)))))) then(if (wrap64 (a1+(wrap64 (Go.bits .and .u64 bt21.1 (IntKind.u64.wrap (t8 - 1))))))<(l0.length:Int) then(if 0≤x13 then(if x13<(l0.length:Int) then((some (List.set x15 x13.toNat (rd x15 (wrap64 (a1+(wrap64 (Go.bits .and .u64 bt21.1 (IntKind.u64.wrap (t8 - 1))))))):List Int)).bind fun y72=>((some (List.set y72 (wrap64 (a1+(wrap64 (Go.bits .and .u64 bt21.1 (IntKind.u64.wrap (t8 - 1)))))).toNat (rd x15 x13):List Int)).bind fun y77=>((slices_breakPatternsOrdered_rune.l0 k (wrap64 (x13+1)) bt21.2 y77 a1 a2 l0 t8)))) else(none)) else(none)) else(none)) else(none)))) else(some x15)
def slices_breakPatternsOrdered_rune.f (k:Nat) (l0:List Int) (a1:Int) (a2:Int):Option (List Int):=if (wrap64 (a2 - a1))≥8 then((slices_nextPowerOfTwo.f (wrap64 (a2 - a1))).bind fun t8=>((slices_breakPatternsOrdered_rune.l0 k (wrap64 ((wrap64 (a1+(wrap64 ((wrap64 (Int.tdiv (wrap64 (a2 - a1)) 4))*2)))) - 1)) (IntKind.u64.wrap (wrap64 (a2 - a1))) l0 a1 a2 l0 t8))) else(some l0)
theorem slices_breakPatternsOrdered_rune.mono_l:∀ k,(∀ y0 y1 y2 y3 y4 y5 y6,LeO (slices_breakPatternsOrdered_rune.l0 k y0 y1 y2 y3 y4 y5 y6) (slices_breakPatternsOrdered_rune.l0 (k+1) y0 y1 y2 y3 y4 y5 y6))
 |0=>fun _ _ _ _ _ _ _ r h=>by simp[slices_breakPatternsOrdered_rune.l0] at h
 |k+1=>by
  have ih0:=slices_breakPatternsOrdered_rune.mono_l k
  ·intro y0 y1 y2 y3 y4 y5 y6
   unfold slices_breakPatternsOrdered_rune.l0
   with_reducible repeat' first|exact ih0 _ _ _ _ _ _ _|exact LeO.refl _|exact LeO.none _|refine LeO.ite ?_ ?_|refine LeO.bind ?_ (fun _=>?_)
theorem slices_breakPatternsOrdered_rune.mono:∀ a0_ a1_ a2_ k,LeO (slices_breakPatternsOrdered_rune.f k a0_ a1_ a2_) (slices_breakPatternsOrdered_rune.f (k+1) a0_ a1_ a2_):=by
 intro a0_ a1_ a2_ k
 have ih0:=slices_breakPatternsOrdered_rune.mono_l k
 unfold slices_breakPatternsOrdered_rune.f
 with_reducible repeat' first|exact ih0 _ _ _ _ _ _ _|exact LeO.refl _|exact LeO.none _|refine LeO.ite ?_ ?_|refine LeO.bind ?_ (fun _=>?_)
theorem slices_breakPatternsOrdered_rune.calls (k:Nat) (B_:Nat) (A0:Option Addr) (c0:Nat) (l0:List Int) (a1:Int) (a2:Int) (r:List Int) (w:World) (hB0:B_≤w.heap.size) (hn0:Kd.N (Kd.int .i32) 21 w B_ (fun k_=>some k_=((.slice A0 l0.length c0):Value).ownBlock) (.slice A0 l0.length c0) l0) (h:slices_breakPatternsOrdered_rune.f k l0 a1 a2=some r):
  Calls Try.prog 38 #[(.slice A0 l0.length c0),.int .i64 a1,.int .i64 a2] w (fun e w'=>e=.returned (.tuple #[])∧Kd.N (Kd.int .i32) 21 w' B_ (fun k_=>some k_=((.slice A0 l0.length c0):Value).ownBlock∨w.heap.size≤k_) (.slice A0 l0.length c0) r∧(∀ k_:Nat,some k_≠((.slice A0 l0.length c0):Value).ownBlock→k_<w.heap.size→w'.heap[k_]? =w.heap[k_]?)∧Below B_ w w'):=by
 unfold slices_breakPatternsOrdered_rune.f at h
 have HH:=za h
 clear h
 obtain⟨P0_,HPO⟩:∃ P0_:Nat→Prop,P0_=(fun k_=>some k_≠((.slice A0 l0.length c0):Value).ownBlock):=⟨_,rfl⟩
 have HFfr:=za (MB.frK_new w (fun k_ hk_=>by rw[HPO] at hk_;exact⟨trivial,hk_⟩):Kd.F (MB.frK w P0_) w (fun k_=>True∧some k_≠((.slice A0 l0.length c0):Value).ownBlock) (some ⟨0,0,none⟩) [()].length [()])
 replace HPO:=za HPO
 have hB_:=za hB0
 have HN0:=za (Kd.N_mono hn0 (fun k_ hk_=>⟨trivial,.inl hk_⟩):Kd.N (Kd.int .i32) 21 w B_ (fun k_=>True∧(some k_=((.slice A0 l0.length c0):Value).ownBlock∨w.heap.size≤k_)) (.slice A0 l0.length c0) l0)
 clear hn0
 have HB:=za (Below.refl B_ w)
 go_enter Try.func38,Try.ntmps38
 replace HH:=zqG HH
 rcases HH with⟨HH,hk2⟩|⟨HH,hk88⟩
 ·go_wp2_with ((with_reducible refine gd 7 rfl ?_);refine zb 7 73 #[.int .u64 0] (h:=?_);intro g3 hg w4 BKg3 hb)
  refine zg ?_
  have GEg3:=zge hg (Nat.le_trans hB_.out (MB.bsize (a:=B_) HB.out))
  replace HFfr:=zfe HFfr.out hg hb
  replace HN0:=zne HN0.out hg hb
  replace HB:=za (MB.below_stepB hB_.out HB.out hb)
  clear hg hb
  have j5:=MB.lz1 BKg3.out
  go_wp2_with ((with_reducible refine gs 73 7 rfl ?_);refine zs 73 7 #[.int .u64 (IntKind.u64.wrap (wrap64 (a2 - a1)))] BKg3.out [.int .u64 (IntKind.u64.wrap (wrap64 (a2 - a1)))] (h:=?_);intro w6 hbk hg)
  refine zg ?_
  replace HFfr:=zfg HFfr.out hg fun k_ hk_=>hk_.2
  replace HN0:=zng HN0.out hg fun k_ hk_=>hk_.2
  replace HB:=zhg HB.out hg (Nat.le_trans hB_.out (MB.bsize (a:=B_) HB.out)) GEg3
  replace BKg3:=hbk
  clear hg hbk
  clear j5
  have j7:=MB.lz1 BKg3.out
  replace HH:=zd HH
  obtain⟨t8,At9,HH⟩:=HH
  go_wp2_with ((with_reducible refine gc 48 rfl ?_);refine zc 48 (some 19) Try.func48 #[.int .i64 (wrap64 (a2 - a1))] (h:=?_);(with_reducible refine(slices_nextPowerOfTwo.calls  (wrap64 (a2 - a1)) t8 _  At9.out).mono ?_);rintro e w' ⟨rfl,⟨nd,rfl⟩⟩;refine⟨_,rfl,?_⟩)
  refine zg ?_
  repeat(first|(refine MQ.code_stop (id:=4) ?_)|go_values|go_skip|go_guarded|go_step|go_upon)
  refine zg ?_
  refine MW.name_world (W0:=w6) (by repeat(first|exact Drawn0.refl _|apply Drawn0.step)) ?_
  intro w11 hb
  replace HFfr:=zfb HFfr.out hb
  replace HN0:=znb HN0.out hb
  replace BKg3:=zbb BKg3.out hb
  replace HB:=za (MB.below_stepB hB_.out HB.out hb)
  clear hb
  clear j7
  have jc:=MB.lz1 BKg3.out
  go_wp2
  go_loopg [9] k (fun kq u9 w'=>∃ (x13:Int) (x14:Int) (x15:List Int),u9=.int .i64 x13∧Aside0 ((slices_breakPatternsOrdered_rune.l0 kq x13 x14 x15 a1 a2 l0 t8)=some r)∧Aside0 (kq≤k)∧Aside0 (Kd.F (MB.frK w P0_) w' (fun k_=>(True∧some k_≠((.slice A0 l0.length c0):Value).ownBlock)∧k_≠g3) (some ⟨0,0,none⟩) [()].length [()])∧Aside0 (Kd.N (Kd.int .i32) 21 w' B_ (fun k_=>(True∧(some k_=((.slice A0 l0.length c0):Value).ownBlock∨w.heap.size≤k_))∧k_≠g3) (.slice A0 l0.length c0) x15)∧Aside0 (w'.heap[g3]? =some (.cells #[.int .u64 x14] 73 (0,0)))∧Aside0 (Below B_ w w'))
  case atStart=>exact⟨wrap64 ((wrap64 (a1+(wrap64 ((wrap64 (Int.tdiv (wrap64 (a2 - a1)) 4))*2)))) - 1),IntKind.u64.wrap (wrap64 (a2 - a1)),l0,(by first|rfl|(simp;done)|(simp[*];done)),HH,⟨Nat.le_refl _⟩,⟨HFfr.out⟩,⟨(Kd.N_mono (ok:=(fun k_=>(True∧(some k_=((.slice A0 l0.length c0):Value).ownBlock∨w.heap.size≤k_))∧k_≠g3)) HN0.out (fun k_ hk_=>hk_))⟩,⟨BKg3.out⟩,⟨HB.out⟩⟩
  case round=>
   clear jc
   clear hk2
   clear HH
   clear HFfr HN0 BKg3 HB
   obtain⟨x13,x14,x15,rfl,HA,HK0,HFfr,HN0,BKg3,HB⟩:=hrel
   obtain⟨w17,rfl⟩:∃ wo_:World,wo_=wr:=⟨_,rfl⟩
   cases gk with
   |zero=>exact absurd HA.out (by simp[slices_breakPatternsOrdered_rune.l0])
   |succ k16=>
    have H:=HA.out
    clear HA
    simp only[slices_breakPatternsOrdered_rune.l0] at H
    have HH:=za H
    clear H
    have ji:=MB.lz1 BKg3.out
    replace HH:=zqd HH
    rcases HH with⟨HH,hk20⟩|⟨HH,hk87⟩
    ·replace HH:=zd HH
     obtain⟨⟨t21,t22⟩,At23,HH⟩:=HH
     dsimp only at HH
     go_wp2_with (((with_reducible refine gc 49 rfl ?_);refine zc 49 (some 36) Try.func49 #[.pointer (some ⟨g3,0,none⟩)] (h:=?_);refine(slices_xorshift_Next.calls B_ g3 x14 t21 t22 _ (Nat.le_trans hB_.out (MB.bsize (a:=B_) HB.out)) BKg3.out GEg3.out At23.out).mono ?_;rintro e w24 ⟨rfl,hbk,hfr,hb⟩;refine⟨_,rfl,?_⟩);replace hbk:=za hbk;replace hfr:=za hfr)
     refine zg ?_
     replace hbk:=hbk.out
     replace hfr:=hfr.out
     replace HFfr:=za (Kd.F_step (ok:=(fun k_=>(True∧some k_≠((.slice A0 l0.length c0):Value).ownBlock)∧k_≠g3)) HFfr.out (fun k_ hk_ hlt_=>hfr k_ (hk_.2) hlt_))
     replace HN0:=za (Kd.N_step (ok:=(fun k_=>(True∧(some k_=((.slice A0 l0.length c0):Value).ownBlock∨w.heap.size≤k_))∧k_≠g3)) HN0.out (fun k_ hk_ hlt_=>hfr k_ (hk_.2) hlt_))
     replace HB:=za (Below.trans HB.out hb)
     replace BKg3:=za hbk
     clear hbk hfr hb
     clear ji
     have jp:=MB.lz1 BKg3.out
     replace HH:=zqG HH
     rcases HH with⟨HH,hk27⟩|⟨HH,hk57⟩
     ·go_wp2
      have hwr_:∀ n_:Int,IntKind.i64.wrap n_=wrap64 n_:=fun n_=>IntWalk.i64_left n_
      refine wp_region_any (by kernel_rfl) ?_
      change wpAny _ _ _ _ 20 #[false,false,false,false,false,false,false,false,false,false,false,false,false,false,false,false,false,false,false,false] _ w24.drew
      obtain⟨w28,hw_⟩:∃ w_:World,w_=w24.drew:=⟨_,rfl⟩
      rw[← hw_]
      have hb:Below w24.heap.size w24 w28:=by rw[hw_];exact below_drew1 (Below.refl _ _)
      clear hw_
      replace HFfr:=zfb HFfr.out hb
      replace HN0:=znb HN0.out hb
      replace BKg3:=zbb BKg3.out hb
      replace HB:=za (MB.below_stepB hB_.out HB.out hb)
      clear hb
      clear jp
      have jt:=MB.lz1 BKg3.out
      refine zt 0 ((.slice A0 l0.length c0)) #[_,_,_,_,_,_,_,_,_,_,_,_,_,_,_,_,_,_,_,_] ⟨[_,_,_,_,_,_,_,_,_,_,_,_,_,_,_,_,_,_,_,_,_,_,_,_,_,_,_,_,_,_,_,_,_,_,_,_,_,_,_,_,_,_,_,_,_,_,_,_,_,_,_,_,_,_,_,_,_,_,_,_,_,_,_,_,_].toArray,[]⟩ (h:=?_)
      refine zt 1 (.int .i64 x13) #[_,_,_,_,_,_,_,_,_,_,_,_,_,_,_,_,_,_,_,_] ⟨[_,_,_,_,_,_,_,_,_,_,_,_,_,_,_,_,_,_,_,_,_,_,_,_,_,_,_,_,_,_,_,_,_,_,_,_,_,_,_,_,_,_,_,_,_,_,_,_,_,_,_,_,_,_,_,_,_,_,_,_,_,_,_,_,_].toArray,[]⟩ (h:=?_)
      refine zt 2 ((.slice A0 l0.length c0)) #[_,_,_,_,_,_,_,_,_,_,_,_,_,_,_,_,_,_,_,_] ⟨[_,_,_,_,_,_,_,_,_,_,_,_,_,_,_,_,_,_,_,_,_,_,_,_,_,_,_,_,_,_,_,_,_,_,_,_,_,_,_,_,_,_,_,_,_,_,_,_,_,_,_,_,_,_,_,_,_,_,_,_,_,_,_,_,_].toArray,[]⟩ (h:=?_)
      refine zt 3 (.int .i64 a1) #[_,_,_,_,_,_,_,_,_,_,_,_,_,_,_,_,_,_,_,_] ⟨[_,_,_,_,_,_,_,_,_,_,_,_,_,_,_,_,_,_,_,_,_,_,_,_,_,_,_,_,_,_,_,_,_,_,_,_,_,_,_,_,_,_,_,_,_,_,_,_,_,_,_,_,_,_,_,_,_,_,_,_,_,_,_,_,_].toArray,[]⟩ (h:=?_)
      refine zt 4 (.int .i64 (wrap64 ((wrap64 (Go.bits .and .u64 t21 (IntKind.u64.wrap (t8 - 1)))) - (wrap64 (a2 - a1))))) #[_,_,_,_,_,_,_,_,_,_,_,_,_,_,_,_,_,_,_,_] ⟨[_,_,_,_,_,_,_,_,_,_,_,_,_,_,_,_,_,_,_,_,_,_,_,_,_,_,_,_,_,_,_,_,_,_,_,_,_,_,_,_,_,_,_,_,_,_,_,_,_,_,_,_,_,_,_,_,_,_,_,_,_,_,_,_,_].toArray,[]⟩ (h:=?_)
      refine zt 5 (.int .i64 (wrap64 (a1+(wrap64 ((wrap64 (Go.bits .and .u64 t21 (IntKind.u64.wrap (t8 - 1)))) - (wrap64 (a2 - a1))))))) #[_,_,_,_,_,_,_,_,_,_,_,_,_,_,_,_,_,_,_,_] ⟨[_,_,_,_,_,_,_,_,_,_,_,_,_,_,_,_,_,_,_,_,_,_,_,_,_,_,_,_,_,_,_,_,_,_,_,_,_,_,_,_,_,_,_,_,_,_,_,_,_,_,_,_,_,_,_,_,_,_,_,_,_,_,_,_,_].toArray,[]⟩ (h:=?_)
      refine zt 6 ((.slice A0 l0.length c0)) #[_,_,_,_,_,_,_,_,_,_,_,_,_,_,_,_,_,_,_,_] ⟨[_,_,_,_,_,_,_,_,_,_,_,_,_,_,_,_,_,_,_,_,_,_,_,_,_,_,_,_,_,_,_,_,_,_,_,_,_,_,_,_,_,_,_,_,_,_,_,_,_,_,_,_,_,_,_,_,_,_,_,_,_,_,_,_,_].toArray,[]⟩ (h:=?_)
      refine zt 7 (.int .i64 a1) #[_,_,_,_,_,_,_,_,_,_,_,_,_,_,_,_,_,_,_,_] ⟨[_,_,_,_,_,_,_,_,_,_,_,_,_,_,_,_,_,_,_,_,_,_,_,_,_,_,_,_,_,_,_,_,_,_,_,_,_,_,_,_,_,_,_,_,_,_,_,_,_,_,_,_,_,_,_,_,_,_,_,_,_,_,_,_,_].toArray,[]⟩ (h:=?_)
      refine zt 8 (.int .i64 (wrap64 ((wrap64 (Go.bits .and .u64 t21 (IntKind.u64.wrap (t8 - 1)))) - (wrap64 (a2 - a1))))) #[_,_,_,_,_,_,_,_,_,_,_,_,_,_,_,_,_,_,_,_] ⟨[_,_,_,_,_,_,_,_,_,_,_,_,_,_,_,_,_,_,_,_,_,_,_,_,_,_,_,_,_,_,_,_,_,_,_,_,_,_,_,_,_,_,_,_,_,_,_,_,_,_,_,_,_,_,_,_,_,_,_,_,_,_,_,_,_].toArray,[]⟩ (h:=?_)
      refine zt 9 (.int .i64 (wrap64 (a1+(wrap64 ((wrap64 (Go.bits .and .u64 t21 (IntKind.u64.wrap (t8 - 1)))) - (wrap64 (a2 - a1))))))) #[_,_,_,_,_,_,_,_,_,_,_,_,_,_,_,_,_,_,_,_] ⟨[_,_,_,_,_,_,_,_,_,_,_,_,_,_,_,_,_,_,_,_,_,_,_,_,_,_,_,_,_,_,_,_,_,_,_,_,_,_,_,_,_,_,_,_,_,_,_,_,_,_,_,_,_,_,_,_,_,_,_,_,_,_,_,_,_].toArray,[]⟩ (h:=?_)
      replace HH:=zqdo HH
      obtain⟨HH,hk31⟩:=HH
      (try simp only[hk31,Bool.not_true,Bool.not_false])
      replace HH:=zqto HH
      obtain⟨HH,hk33,hk34⟩:=HH
      (try simp only[hk33,Bool.not_true,Bool.not_false])
      (try simp only[hk34,Bool.not_true,Bool.not_false])
      have p35:0≤((wrap64 (a1+(wrap64 ((wrap64 (Go.bits .and .u64 t21 (IntKind.u64.wrap (t8 - 1)))) - (wrap64 (a2 - a1)))))):Int):=of_decide_eq_true (by first|(with_reducible assumption)|assumption)
      have q35:(wrap64 (a1+(wrap64 ((wrap64 (Go.bits .and .u64 t21 (IntKind.u64.wrap (t8 - 1)))) - (wrap64 (a2 - a1))))))<(l0.length:Int):=of_decide_eq_true (by first|(with_reducible assumption)|assumption)
      obtain⟨ad35,e35,hx35_0⟩:=Kd.at_int (Kd.F_now (Kd.N_F HN0.out)) (wrap64 (a1+(wrap64 ((wrap64 (Go.bits .and .u64 t21 (IntKind.u64.wrap (t8 - 1)))) - (wrap64 (a2 - a1)))))) p35 q35
      cases e35
      replace p35:=eq_true p35
      replace q35:=eq_true q35
      refine zt 10 (.pointer (some (ad35.add ((wrap64 (a1+(wrap64 ((wrap64 (Go.bits .and .u64 t21 (IntKind.u64.wrap (t8 - 1)))) - (wrap64 (a2 - a1)))))).toNat)))) #[_,_,_,_,_,_,_,_,_,_,_,_,_,_,_,_,_,_,_,_] ⟨[_,_,_,_,_,_,_,_,_,_,_,_,_,_,_,_,_,_,_,_,_,_,_,_,_,_,_,_,_,_,_,_,_,_,_,_,_,_,_,_,_,_,_,_,_,_,_,_,_,_,_,_,_,_,_,_,_,_,_,_,_,_,_,_,_].toArray,[]⟩ (h:=?_)
      refine zt 12 ((.slice (some ad35) l0.length c0)) #[_,_,_,_,_,_,_,_,_,_,_,_,_,_,_,_,_,_,_,_] ⟨[_,_,_,_,_,_,_,_,_,_,_,_,_,_,_,_,_,_,_,_,_,_,_,_,_,_,_,_,_,_,_,_,_,_,_,_,_,_,_,_,_,_,_,_,_,_,_,_,_,_,_,_,_,_,_,_,_,_,_,_,_,_,_,_,_].toArray,[]⟩ (h:=?_)
      refine zt 13 (.int .i64 x13) #[_,_,_,_,_,_,_,_,_,_,_,_,_,_,_,_,_,_,_,_] ⟨[_,_,_,_,_,_,_,_,_,_,_,_,_,_,_,_,_,_,_,_,_,_,_,_,_,_,_,_,_,_,_,_,_,_,_,_,_,_,_,_,_,_,_,_,_,_,_,_,_,_,_,_,_,_,_,_,_,_,_,_,_,_,_,_,_].toArray,[]⟩ (h:=?_)
      replace HH:=zqdo HH
      obtain⟨HH,hk37⟩:=HH
      (try simp only[hk37,Bool.not_true,Bool.not_false])
      replace HH:=zqto HH
      obtain⟨HH,hk39,hk40⟩:=HH
      (try simp only[hk39,Bool.not_true,Bool.not_false])
      (try simp only[hk40,Bool.not_true,Bool.not_false])
      have p41:0≤(x13:Int):=of_decide_eq_true (by first|(with_reducible assumption)|assumption)
      have q41:x13<(l0.length:Int):=of_decide_eq_true (by first|(with_reducible assumption)|assumption)
      obtain⟨ad41,e41,hx41_0⟩:=Kd.at_int (Kd.F_now (Kd.N_F HN0.out)) x13 p41 q41
      cases e41
      replace p41:=eq_true p41
      replace q41:=eq_true q41
      refine zt 14 (.pointer (some (ad35.add (x13.toNat)))) #[_,_,_,_,_,_,_,_,_,_,_,_,_,_,_,_,_,_,_,_] ⟨[_,_,_,_,_,_,_,_,_,_,_,_,_,_,_,_,_,_,_,_,_,_,_,_,_,_,_,_,_,_,_,_,_,_,_,_,_,_,_,_,_,_,_,_,_,_,_,_,_,_,_,_,_,_,_,_,_,_,_,_,_,_,_,_,_].toArray,[]⟩ (h:=?_)
      refine MW.any_two (i:=11) (j:=15) (vi:=.int .i32 (rd x15 (wrap64 (a1+(wrap64 ((wrap64 (Go.bits .and .u64 t21 (IntKind.u64.wrap (t8 - 1)))) - (wrap64 (a2 - a1)))))))) (vj:=.int .i32 (rd x15 x13)) #[true,true,true,true,true,true,true,true,true,true,true,true,true,true,true,true,false,false,false,false] ⟨[(.slice (some ad35) l0.length c0),(.int .i64 a1),(.int .i64 a2),undef,undef,undef,(.int .i64 (wrap64 (a2 - a1))),(.pointer (some ⟨g3,0,none⟩)),(.int .u64 t8),(.int .i64 x13),(.int .i64 (wrap64 ((wrap64 (Go.bits .and .u64 t21 (IntKind.u64.wrap (t8 - 1)))) - (wrap64 (a2 - a1))))),(.int .i64 a2),(.int .i64 a1),(.int .i64 (wrap64 (a2 - a1))),(.int .i64 (wrap64 (a2 - a1))),(.bool true),(.int .i64 (wrap64 (a2 - a1))),(.int .u64 (IntKind.u64.wrap (wrap64 (a2 - a1)))),(.int .i64 (wrap64 (a2 - a1))),(.int .u64 t8),(.int .i64 a1),(.int .i64 (wrap64 (a2 - a1))),(.int .i64 (wrap64 (Int.tdiv (wrap64 (a2 - a1)) 4))),(.int .i64 (wrap64 ((wrap64 (Int.tdiv (wrap64 (a2 - a1)) 4))*2))),(.int .i64 (wrap64 (a1+(wrap64 ((wrap64 (Int.tdiv (wrap64 (a2 - a1)) 4))*2))))),(.int .i64 (wrap64 ((wrap64 (a1+(wrap64 ((wrap64 (Int.tdiv (wrap64 (a2 - a1)) 4))*2)))) - 1))),(.int .i64 x13),(.int .i64 a1),(.int .i64 (wrap64 (a2 - a1))),(.int .i64 (wrap64 (Int.tdiv (wrap64 (a2 - a1)) 4))),(.int .i64 (wrap64 ((wrap64 (Int.tdiv (wrap64 (a2 - a1)) 4))*2))),(.int .i64 (wrap64 (a1+(wrap64 ((wrap64 (Int.tdiv (wrap64 (a2 - a1)) 4))*2))))),(.int .i64 (wrap64 ((wrap64 (a1+(wrap64 ((wrap64 (Int.tdiv (wrap64 (a2 - a1)) 4))*2))))+1))),(.bool true),u34,u35,(.int .u64 t21),(.int .u64 t8),(.int .u64 (IntKind.u64.wrap (t8 - 1))),(.int .u64 (Go.bits .and .u64 t21 (IntKind.u64.wrap (t8 - 1)))),(.int .i64 (wrap64 (Go.bits .and .u64 t21 (IntKind.u64.wrap (t8 - 1))))),(.int .i64 (wrap64 (Go.bits .and .u64 t21 (IntKind.u64.wrap (t8 - 1))))),(.int .i64 (wrap64 (a2 - a1))),(.bool true),(.int .i64 (wrap64 (Go.bits .and .u64 t21 (IntKind.u64.wrap (t8 - 1))))),(.int .i64 (wrap64 (a2 - a1))),(.int .i64 (wrap64 ((wrap64 (Go.bits .and .u64 t21 (IntKind.u64.wrap (t8 - 1)))) - (wrap64 (a2 - a1))))),(.slice (some ad35) l0.length c0),(.int .i64 x13),(.slice (some ad35) l0.length c0),(.int .i64 a1),(.int .i64 (wrap64 ((wrap64 (Go.bits .and .u64 t21 (IntKind.u64.wrap (t8 - 1)))) - (wrap64 (a2 - a1))))),(.int .i64 (wrap64 (a1+(wrap64 ((wrap64 (Go.bits .and .u64 t21 (IntKind.u64.wrap (t8 - 1)))) - (wrap64 (a2 - a1))))))),(.slice (some ad35) l0.length c0),(.int .i64 a1),(.int .i64 (wrap64 ((wrap64 (Go.bits .and .u64 t21 (IntKind.u64.wrap (t8 - 1)))) - (wrap64 (a2 - a1))))),(.int .i64 (wrap64 (a1+(wrap64 ((wrap64 (Go.bits .and .u64 t21 (IntKind.u64.wrap (t8 - 1)))) - (wrap64 (a2 - a1))))))),(.pointer (some (ad35.add ((wrap64 (a1+(wrap64 ((wrap64 (Go.bits .and .u64 t21 (IntKind.u64.wrap (t8 - 1)))) - (wrap64 (a2 - a1)))))).toNat)))),(.int .i32 (rd x15 (wrap64 (a1+(wrap64 ((wrap64 (Go.bits .and .u64 t21 (IntKind.u64.wrap (t8 - 1)))) - (wrap64 (a2 - a1)))))))),(.slice (some ad35) l0.length c0),(.int .i64 x13),(.pointer (some (ad35.add (x13.toNat)))),(.int .i32 (rd x15 x13)),u63,u64].toArray,[]⟩ (by decide) rfl rfl (by kernel_rfl) (by kernel_rfl) (by kernel_rfl) (by kernel_rfl) (by kernel_rfl) (by first|rfl|(go_simp;done)|(go_simp;rfl)) (by first|rfl|(go_simp;done)|(go_simp;rfl)) (by first|rfl|(go_simp;done)|(go_simp;rfl)) (by first|rfl|(go_simp;done)|(go_simp;rfl)) (by kernel_rfl) (by kernel_rfl) (by kernel_rfl) (by kernel_rfl) (by kernel_rfl) (by kernel_rfl) ?_
      refine zt 16 (.pointer (some (ad35.add (x13.toNat)))) #[_,_,_,_,_,_,_,_,_,_,_,_,_,_,_,_,_,_,_,_] ⟨[_,_,_,_,_,_,_,_,_,_,_,_,_,_,_,_,_,_,_,_,_,_,_,_,_,_,_,_,_,_,_,_,_,_,_,_,_,_,_,_,_,_,_,_,_,_,_,_,_,_,_,_,_,_,_,_,_,_,_,_,_,_,_,_,_].toArray,[]⟩ (h:=?_)
      refine MW.any_seq 17 3 rfl (by kernel_rfl) ?_
      simp only[List.drop_succ_cons,List.drop_zero]
      clear hwr_
      obtain⟨y42,hy42⟩:∃ y_:List Int,y_=(List.set x15 x13.toNat (rd x15 (wrap64 (a1+(wrap64 ((wrap64 (Go.bits .and .u64 t21 (IntKind.u64.wrap (t8 - 1)))) - (wrap64 (a2 - a1)))))))):=⟨_,rfl⟩
      have H:((some (List.set y42 (wrap64 (a1+(wrap64 ((wrap64 (Go.bits .and .u64 t21 (IntKind.u64.wrap (t8 - 1)))) - (wrap64 (a2 - a1)))))).toNat (rd x15 x13):List Int)).bind fun y47=>((slices_breakPatternsOrdered_rune.l0 k16 (wrap64 (x13+1)) t22 y47 a1 a2 l0 t8)))=some r:=by rw[hy42];exact HH.out
      replace HH:=za H
      clear H
      have NYy42:=za hy42
      clear hy42
      go_wp2_with (((with_reducible refine gate_store (t:=21) (p:=63) rfl ?_);(try(refine gate_guard (by rfl) ?_;dsimp only));refine MW.ev_set1 (n:=l0.length) B_ rfl rfl _ _ _ rfl 21 x13 x15 (rd x15 (wrap64 (a1+(wrap64 ((wrap64 (Go.bits .and .u64 t21 (IntKind.u64.wrap (t8 - 1)))) - (wrap64 (a2 - a1))))))) (fun k_=>(True∧(some k_=((.slice (some ad35) l0.length c0):Value).ownBlock∨w.heap.size≤k_))∧k_≠g3) (by rfl) (by rfl) (by kernel_rfl) HN0.out (of_decide_eq_true (by first|(with_reducible assumption)|assumption)) (of_decide_eq_true (by first|(with_reducible assumption)|assumption)) HB.out ?_;intro w43 hn1 hb1 hg1);refine stop_ ?_)
      refine zg ?_
      replace HFfr:=za (Kd.F_grown (ok:=(fun k_=>(True∧some k_≠((.slice (some ad35) l0.length c0):Value).ownBlock)∧k_≠g3)) HFfr.out hg1 (fun k_ hk_=>hk_.1.2))
      replace BKg3:=za (blk_grown (g:=g3) BKg3.out hg1 (Kd.N_away (ok:=(fun k_=>(True∧(some k_=((.slice (some ad35) l0.length c0):Value).ownBlock∨w.heap.size≤k_))∧k_≠g3)) HN0.out (fun k_ hk_=>hk_.2)))
      replace HB:=za hb1
      clear HN0
      have HN44:=za (by rw[NYy42.out];exact hn1:Kd.N (Kd.int .i32) 21 w43 B_ (fun k_=>(True∧(some k_=((.slice (some ad35) l0.length c0):Value).ownBlock∨w.heap.size≤k_))∧k_≠g3) (.slice (some ad35) l0.length c0) y42)
      clear hn1 hb1 hg1
      clear jt hx35_0 p35 q35 hx41_0 p41 q41
      have jJ:=MB.lz1 BKg3.out
      have p46:0≤((wrap64 (a1+(wrap64 ((wrap64 (Go.bits .and .u64 t21 (IntKind.u64.wrap (t8 - 1)))) - (wrap64 (a2 - a1)))))):Int):=of_decide_eq_true (by first|(with_reducible assumption)|assumption)
      have q46:(wrap64 (a1+(wrap64 ((wrap64 (Go.bits .and .u64 t21 (IntKind.u64.wrap (t8 - 1)))) - (wrap64 (a2 - a1))))))<(l0.length:Int):=of_decide_eq_true (by first|(with_reducible assumption)|assumption)
      obtain⟨ad46,e46,hx46_0⟩:=Kd.at_int (Kd.F_now (Kd.N_F HN44.out)) (wrap64 (a1+(wrap64 ((wrap64 (Go.bits .and .u64 t21 (IntKind.u64.wrap (t8 - 1)))) - (wrap64 (a2 - a1)))))) p46 q46
      cases e46
      replace p46:=eq_true p46
      replace q46:=eq_true q46
      obtain⟨y47,hy47⟩:∃ y_:List Int,y_=(List.set y42 (wrap64 (a1+(wrap64 ((wrap64 (Go.bits .and .u64 t21 (IntKind.u64.wrap (t8 - 1)))) - (wrap64 (a2 - a1)))))).toNat (rd x15 x13)):=⟨_,rfl⟩
      have H:((slices_breakPatternsOrdered_rune.l0 k16 (wrap64 (x13+1)) t22 y47 a1 a2 l0 t8))=some r:=by rw[hy47];exact HH.out
      replace HH:=za H
      clear H
      have NYy47:=za hy47
      clear hy47
      go_wp2_with (((with_reducible refine gate_store (t:=21) (p:=64) rfl ?_);(try(refine gate_guard (by rfl) ?_;dsimp only));refine MW.ev_set1 (n:=l0.length) B_ rfl rfl _ _ _ rfl 21 (wrap64 (a1+(wrap64 ((wrap64 (Go.bits .and .u64 t21 (IntKind.u64.wrap (t8 - 1)))) - (wrap64 (a2 - a1)))))) y42 (rd x15 x13) (fun k_=>(True∧(some k_=((.slice (some ad35) l0.length c0):Value).ownBlock∨w.heap.size≤k_))∧k_≠g3) (by rfl) (by rfl) (by kernel_rfl) HN44.out (of_decide_eq_true (by first|(with_reducible assumption)|assumption)) (of_decide_eq_true (by first|(with_reducible assumption)|assumption)) HB.out ?_;intro w48 hn1 hb1 hg1);refine stop_ ?_)
      refine zg ?_
      replace HFfr:=za (Kd.F_grown (ok:=(fun k_=>(True∧some k_≠((.slice (some ad35) l0.length c0):Value).ownBlock)∧k_≠g3)) HFfr.out hg1 (fun k_ hk_=>hk_.1.2))
      replace BKg3:=za (blk_grown (g:=g3) BKg3.out hg1 (Kd.N_away (ok:=(fun k_=>(True∧(some k_=((.slice (some ad35) l0.length c0):Value).ownBlock∨w.heap.size≤k_))∧k_≠g3)) HN44.out (fun k_ hk_=>hk_.2)))
      replace HB:=za hb1
      clear HN44
      have HN49:=za (by rw[NYy47.out];exact hn1:Kd.N (Kd.int .i32) 21 w48 B_ (fun k_=>(True∧(some k_=((.slice (some ad35) l0.length c0):Value).ownBlock∨w.heap.size≤k_))∧k_≠g3) (.slice (some ad35) l0.length c0) y47)
      clear hn1 hb1 hg1
      clear jJ hx46_0 p46 q46
      have jO:=MB.lz1 BKg3.out
      go_wp2
      go_roundg k16
      case measure=>have:=HK0.out;omega
      case rel=>exact⟨wrap64 (x13+1),t22,y47,(by first|rfl|(simp;done)|(simp[*];done)),HH,⟨by have:=HK0.out;omega⟩,⟨HFfr.out⟩,⟨(Kd.N_mono (ok:=(fun k_=>(True∧(some k_=((.slice (some ad35) l0.length c0):Value).ownBlock∨w.heap.size≤k_))∧k_≠g3)) HN49.out (fun k_ hk_=>hk_))⟩,⟨BKg3.out⟩,⟨HB.out⟩⟩
     go_wp2
     have hwr_:∀ n_:Int,IntKind.i64.wrap n_=wrap64 n_:=fun n_=>IntWalk.i64_left n_
     refine wp_region_any (by kernel_rfl) ?_
     change wpAny _ _ _ _ 20 #[false,false,false,false,false,false,false,false,false,false,false,false,false,false,false,false,false,false,false,false] _ w24.drew
     obtain⟨w58,hw_⟩:∃ w_:World,w_=w24.drew:=⟨_,rfl⟩
     rw[← hw_]
     have hb:Below w24.heap.size w24 w58:=by rw[hw_];exact below_drew1 (Below.refl _ _)
     clear hw_
     replace HFfr:=zfb HFfr.out hb
     replace HN0:=znb HN0.out hb
     replace BKg3:=zbb BKg3.out hb
     replace HB:=za (MB.below_stepB hB_.out HB.out hb)
     clear hb
     clear jp
     have jX:=MB.lz1 BKg3.out
     refine zt 0 ((.slice A0 l0.length c0)) #[_,_,_,_,_,_,_,_,_,_,_,_,_,_,_,_,_,_,_,_] ⟨[_,_,_,_,_,_,_,_,_,_,_,_,_,_,_,_,_,_,_,_,_,_,_,_,_,_,_,_,_,_,_,_,_,_,_,_,_,_,_,_,_,_,_,_,_,_,_,_,_,_,_,_,_,_,_,_,_,_,_,_,_,_,_,_,_].toArray,[]⟩ (h:=?_)
     refine zt 1 (.int .i64 x13) #[_,_,_,_,_,_,_,_,_,_,_,_,_,_,_,_,_,_,_,_] ⟨[_,_,_,_,_,_,_,_,_,_,_,_,_,_,_,_,_,_,_,_,_,_,_,_,_,_,_,_,_,_,_,_,_,_,_,_,_,_,_,_,_,_,_,_,_,_,_,_,_,_,_,_,_,_,_,_,_,_,_,_,_,_,_,_,_].toArray,[]⟩ (h:=?_)
     refine zt 2 ((.slice A0 l0.length c0)) #[_,_,_,_,_,_,_,_,_,_,_,_,_,_,_,_,_,_,_,_] ⟨[_,_,_,_,_,_,_,_,_,_,_,_,_,_,_,_,_,_,_,_,_,_,_,_,_,_,_,_,_,_,_,_,_,_,_,_,_,_,_,_,_,_,_,_,_,_,_,_,_,_,_,_,_,_,_,_,_,_,_,_,_,_,_,_,_].toArray,[]⟩ (h:=?_)
     refine zt 3 (.int .i64 a1) #[_,_,_,_,_,_,_,_,_,_,_,_,_,_,_,_,_,_,_,_] ⟨[_,_,_,_,_,_,_,_,_,_,_,_,_,_,_,_,_,_,_,_,_,_,_,_,_,_,_,_,_,_,_,_,_,_,_,_,_,_,_,_,_,_,_,_,_,_,_,_,_,_,_,_,_,_,_,_,_,_,_,_,_,_,_,_,_].toArray,[]⟩ (h:=?_)
     refine zt 4 (.int .i64 (wrap64 (Go.bits .and .u64 t21 (IntKind.u64.wrap (t8 - 1))))) #[_,_,_,_,_,_,_,_,_,_,_,_,_,_,_,_,_,_,_,_] ⟨[_,_,_,_,_,_,_,_,_,_,_,_,_,_,_,_,_,_,_,_,_,_,_,_,_,_,_,_,_,_,_,_,_,_,_,_,_,_,_,_,_,_,_,_,_,_,_,_,_,_,_,_,_,_,_,_,_,_,_,_,_,_,_,_,_].toArray,[]⟩ (h:=?_)
     refine zt 5 (.int .i64 (wrap64 (a1+(wrap64 (Go.bits .and .u64 t21 (IntKind.u64.wrap (t8 - 1))))))) #[_,_,_,_,_,_,_,_,_,_,_,_,_,_,_,_,_,_,_,_] ⟨[_,_,_,_,_,_,_,_,_,_,_,_,_,_,_,_,_,_,_,_,_,_,_,_,_,_,_,_,_,_,_,_,_,_,_,_,_,_,_,_,_,_,_,_,_,_,_,_,_,_,_,_,_,_,_,_,_,_,_,_,_,_,_,_,_].toArray,[]⟩ (h:=?_)
     refine zt 6 ((.slice A0 l0.length c0)) #[_,_,_,_,_,_,_,_,_,_,_,_,_,_,_,_,_,_,_,_] ⟨[_,_,_,_,_,_,_,_,_,_,_,_,_,_,_,_,_,_,_,_,_,_,_,_,_,_,_,_,_,_,_,_,_,_,_,_,_,_,_,_,_,_,_,_,_,_,_,_,_,_,_,_,_,_,_,_,_,_,_,_,_,_,_,_,_].toArray,[]⟩ (h:=?_)
     refine zt 7 (.int .i64 a1) #[_,_,_,_,_,_,_,_,_,_,_,_,_,_,_,_,_,_,_,_] ⟨[_,_,_,_,_,_,_,_,_,_,_,_,_,_,_,_,_,_,_,_,_,_,_,_,_,_,_,_,_,_,_,_,_,_,_,_,_,_,_,_,_,_,_,_,_,_,_,_,_,_,_,_,_,_,_,_,_,_,_,_,_,_,_,_,_].toArray,[]⟩ (h:=?_)
     refine zt 8 (.int .i64 (wrap64 (Go.bits .and .u64 t21 (IntKind.u64.wrap (t8 - 1))))) #[_,_,_,_,_,_,_,_,_,_,_,_,_,_,_,_,_,_,_,_] ⟨[_,_,_,_,_,_,_,_,_,_,_,_,_,_,_,_,_,_,_,_,_,_,_,_,_,_,_,_,_,_,_,_,_,_,_,_,_,_,_,_,_,_,_,_,_,_,_,_,_,_,_,_,_,_,_,_,_,_,_,_,_,_,_,_,_].toArray,[]⟩ (h:=?_)
     refine zt 9 (.int .i64 (wrap64 (a1+(wrap64 (Go.bits .and .u64 t21 (IntKind.u64.wrap (t8 - 1))))))) #[_,_,_,_,_,_,_,_,_,_,_,_,_,_,_,_,_,_,_,_] ⟨[_,_,_,_,_,_,_,_,_,_,_,_,_,_,_,_,_,_,_,_,_,_,_,_,_,_,_,_,_,_,_,_,_,_,_,_,_,_,_,_,_,_,_,_,_,_,_,_,_,_,_,_,_,_,_,_,_,_,_,_,_,_,_,_,_].toArray,[]⟩ (h:=?_)
     replace HH:=zqdo HH
     obtain⟨HH,hk61⟩:=HH
     (try simp only[hk61,Bool.not_true,Bool.not_false])
     replace HH:=zqto HH
     obtain⟨HH,hk63,hk64⟩:=HH
     (try simp only[hk63,Bool.not_true,Bool.not_false])
     (try simp only[hk64,Bool.not_true,Bool.not_false])
     have p65:0≤((wrap64 (a1+(wrap64 (Go.bits .and .u64 t21 (IntKind.u64.wrap (t8 - 1)))))):Int):=of_decide_eq_true (by first|(with_reducible assumption)|assumption)
     have q65:(wrap64 (a1+(wrap64 (Go.bits .and .u64 t21 (IntKind.u64.wrap (t8 - 1))))))<(l0.length:Int):=of_decide_eq_true (by first|(with_reducible assumption)|assumption)
     obtain⟨ad65,e65,hx65_0⟩:=Kd.at_int (Kd.F_now (Kd.N_F HN0.out)) (wrap64 (a1+(wrap64 (Go.bits .and .u64 t21 (IntKind.u64.wrap (t8 - 1)))))) p65 q65
     cases e65
     replace p65:=eq_true p65
     replace q65:=eq_true q65
     refine zt 10 (.pointer (some (ad65.add ((wrap64 (a1+(wrap64 (Go.bits .and .u64 t21 (IntKind.u64.wrap (t8 - 1)))))).toNat)))) #[_,_,_,_,_,_,_,_,_,_,_,_,_,_,_,_,_,_,_,_] ⟨[_,_,_,_,_,_,_,_,_,_,_,_,_,_,_,_,_,_,_,_,_,_,_,_,_,_,_,_,_,_,_,_,_,_,_,_,_,_,_,_,_,_,_,_,_,_,_,_,_,_,_,_,_,_,_,_,_,_,_,_,_,_,_,_,_].toArray,[]⟩ (h:=?_)
     refine zt 12 ((.slice (some ad65) l0.length c0)) #[_,_,_,_,_,_,_,_,_,_,_,_,_,_,_,_,_,_,_,_] ⟨[_,_,_,_,_,_,_,_,_,_,_,_,_,_,_,_,_,_,_,_,_,_,_,_,_,_,_,_,_,_,_,_,_,_,_,_,_,_,_,_,_,_,_,_,_,_,_,_,_,_,_,_,_,_,_,_,_,_,_,_,_,_,_,_,_].toArray,[]⟩ (h:=?_)
     refine zt 13 (.int .i64 x13) #[_,_,_,_,_,_,_,_,_,_,_,_,_,_,_,_,_,_,_,_] ⟨[_,_,_,_,_,_,_,_,_,_,_,_,_,_,_,_,_,_,_,_,_,_,_,_,_,_,_,_,_,_,_,_,_,_,_,_,_,_,_,_,_,_,_,_,_,_,_,_,_,_,_,_,_,_,_,_,_,_,_,_,_,_,_,_,_].toArray,[]⟩ (h:=?_)
     replace HH:=zqdo HH
     obtain⟨HH,hk67⟩:=HH
     (try simp only[hk67,Bool.not_true,Bool.not_false])
     replace HH:=zqto HH
     obtain⟨HH,hk69,hk70⟩:=HH
     (try simp only[hk69,Bool.not_true,Bool.not_false])
     (try simp only[hk70,Bool.not_true,Bool.not_false])
     have p71:0≤(x13:Int):=of_decide_eq_true (by first|(with_reducible assumption)|assumption)
     have q71:x13<(l0.length:Int):=of_decide_eq_true (by first|(with_reducible assumption)|assumption)
     obtain⟨ad71,e71,hx71_0⟩:=Kd.at_int (Kd.F_now (Kd.N_F HN0.out)) x13 p71 q71
     cases e71
     replace p71:=eq_true p71
     replace q71:=eq_true q71
     refine zt 14 (.pointer (some (ad65.add (x13.toNat)))) #[_,_,_,_,_,_,_,_,_,_,_,_,_,_,_,_,_,_,_,_] ⟨[_,_,_,_,_,_,_,_,_,_,_,_,_,_,_,_,_,_,_,_,_,_,_,_,_,_,_,_,_,_,_,_,_,_,_,_,_,_,_,_,_,_,_,_,_,_,_,_,_,_,_,_,_,_,_,_,_,_,_,_,_,_,_,_,_].toArray,[]⟩ (h:=?_)
     refine MW.any_two (i:=11) (j:=15) (vi:=.int .i32 (rd x15 (wrap64 (a1+(wrap64 (Go.bits .and .u64 t21 (IntKind.u64.wrap (t8 - 1)))))))) (vj:=.int .i32 (rd x15 x13)) #[true,true,true,true,true,true,true,true,true,true,true,true,true,true,true,true,false,false,false,false] ⟨[(.slice (some ad65) l0.length c0),(.int .i64 a1),(.int .i64 a2),undef,undef,undef,(.int .i64 (wrap64 (a2 - a1))),(.pointer (some ⟨g3,0,none⟩)),(.int .u64 t8),(.int .i64 x13),(.int .i64 (wrap64 (Go.bits .and .u64 t21 (IntKind.u64.wrap (t8 - 1))))),(.int .i64 a2),(.int .i64 a1),(.int .i64 (wrap64 (a2 - a1))),(.int .i64 (wrap64 (a2 - a1))),(.bool true),(.int .i64 (wrap64 (a2 - a1))),(.int .u64 (IntKind.u64.wrap (wrap64 (a2 - a1)))),(.int .i64 (wrap64 (a2 - a1))),(.int .u64 t8),(.int .i64 a1),(.int .i64 (wrap64 (a2 - a1))),(.int .i64 (wrap64 (Int.tdiv (wrap64 (a2 - a1)) 4))),(.int .i64 (wrap64 ((wrap64 (Int.tdiv (wrap64 (a2 - a1)) 4))*2))),(.int .i64 (wrap64 (a1+(wrap64 ((wrap64 (Int.tdiv (wrap64 (a2 - a1)) 4))*2))))),(.int .i64 (wrap64 ((wrap64 (a1+(wrap64 ((wrap64 (Int.tdiv (wrap64 (a2 - a1)) 4))*2)))) - 1))),(.int .i64 x13),(.int .i64 a1),(.int .i64 (wrap64 (a2 - a1))),(.int .i64 (wrap64 (Int.tdiv (wrap64 (a2 - a1)) 4))),(.int .i64 (wrap64 ((wrap64 (Int.tdiv (wrap64 (a2 - a1)) 4))*2))),(.int .i64 (wrap64 (a1+(wrap64 ((wrap64 (Int.tdiv (wrap64 (a2 - a1)) 4))*2))))),(.int .i64 (wrap64 ((wrap64 (a1+(wrap64 ((wrap64 (Int.tdiv (wrap64 (a2 - a1)) 4))*2))))+1))),(.bool true),u34,u35,(.int .u64 t21),(.int .u64 t8),(.int .u64 (IntKind.u64.wrap (t8 - 1))),(.int .u64 (Go.bits .and .u64 t21 (IntKind.u64.wrap (t8 - 1)))),(.int .i64 (wrap64 (Go.bits .and .u64 t21 (IntKind.u64.wrap (t8 - 1))))),(.int .i64 (wrap64 (Go.bits .and .u64 t21 (IntKind.u64.wrap (t8 - 1))))),(.int .i64 (wrap64 (a2 - a1))),(.bool false),u44,u45,u46,(.slice (some ad65) l0.length c0),(.int .i64 x13),(.slice (some ad65) l0.length c0),(.int .i64 a1),(.int .i64 (wrap64 (Go.bits .and .u64 t21 (IntKind.u64.wrap (t8 - 1))))),(.int .i64 (wrap64 (a1+(wrap64 (Go.bits .and .u64 t21 (IntKind.u64.wrap (t8 - 1))))))),(.slice (some ad65) l0.length c0),(.int .i64 a1),(.int .i64 (wrap64 (Go.bits .and .u64 t21 (IntKind.u64.wrap (t8 - 1))))),(.int .i64 (wrap64 (a1+(wrap64 (Go.bits .and .u64 t21 (IntKind.u64.wrap (t8 - 1))))))),(.pointer (some (ad65.add ((wrap64 (a1+(wrap64 (Go.bits .and .u64 t21 (IntKind.u64.wrap (t8 - 1)))))).toNat)))),(.int .i32 (rd x15 (wrap64 (a1+(wrap64 (Go.bits .and .u64 t21 (IntKind.u64.wrap (t8 - 1)))))))),(.slice (some ad65) l0.length c0),(.int .i64 x13),(.pointer (some (ad65.add (x13.toNat)))),(.int .i32 (rd x15 x13)),u63,u64].toArray,[]⟩ (by decide) rfl rfl (by kernel_rfl) (by kernel_rfl) (by kernel_rfl) (by kernel_rfl) (by kernel_rfl) (by first|rfl|(go_simp;done)|(go_simp;rfl)) (by first|rfl|(go_simp;done)|(go_simp;rfl)) (by first|rfl|(go_simp;done)|(go_simp;rfl)) (by first|rfl|(go_simp;done)|(go_simp;rfl)) (by kernel_rfl) (by kernel_rfl) (by kernel_rfl) (by kernel_rfl) (by kernel_rfl) (by kernel_rfl) ?_
     refine zt 16 (.pointer (some (ad65.add (x13.toNat)))) #[_,_,_,_,_,_,_,_,_,_,_,_,_,_,_,_,_,_,_,_] ⟨[_,_,_,_,_,_,_,_,_,_,_,_,_,_,_,_,_,_,_,_,_,_,_,_,_,_,_,_,_,_,_,_,_,_,_,_,_,_,_,_,_,_,_,_,_,_,_,_,_,_,_,_,_,_,_,_,_,_,_,_,_,_,_,_,_].toArray,[]⟩ (h:=?_)
     refine MW.any_seq 17 3 rfl (by kernel_rfl) ?_
     simp only[List.drop_succ_cons,List.drop_zero]
     clear hwr_
     obtain⟨y72,hy72⟩:∃ y_:List Int,y_=(List.set x15 x13.toNat (rd x15 (wrap64 (a1+(wrap64 (Go.bits .and .u64 t21 (IntKind.u64.wrap (t8 - 1)))))))):=⟨_,rfl⟩
     have H:((some (List.set y72 (wrap64 (a1+(wrap64 (Go.bits .and .u64 t21 (IntKind.u64.wrap (t8 - 1)))))).toNat (rd x15 x13):List Int)).bind fun y77=>((slices_breakPatternsOrdered_rune.l0 k16 (wrap64 (x13+1)) t22 y77 a1 a2 l0 t8)))=some r:=by rw[hy72];exact HH.out
     replace HH:=za H
     clear H
     have NYy72:=za hy72
     clear hy72
     go_wp2_with (((with_reducible refine gate_store (t:=21) (p:=63) rfl ?_);(try(refine gate_guard (by rfl) ?_;dsimp only));refine MW.ev_set1 (n:=l0.length) B_ rfl rfl _ _ _ rfl 21 x13 x15 (rd x15 (wrap64 (a1+(wrap64 (Go.bits .and .u64 t21 (IntKind.u64.wrap (t8 - 1))))))) (fun k_=>(True∧(some k_=((.slice (some ad65) l0.length c0):Value).ownBlock∨w.heap.size≤k_))∧k_≠g3) (by rfl) (by rfl) (by kernel_rfl) HN0.out (of_decide_eq_true (by first|(with_reducible assumption)|assumption)) (of_decide_eq_true (by first|(with_reducible assumption)|assumption)) HB.out ?_;intro w73 hn1 hb1 hg1);refine stop_ ?_)
     refine zg ?_
     replace HFfr:=za (Kd.F_grown (ok:=(fun k_=>(True∧some k_≠((.slice (some ad65) l0.length c0):Value).ownBlock)∧k_≠g3)) HFfr.out hg1 (fun k_ hk_=>hk_.1.2))
     replace BKg3:=za (blk_grown (g:=g3) BKg3.out hg1 (Kd.N_away (ok:=(fun k_=>(True∧(some k_=((.slice (some ad65) l0.length c0):Value).ownBlock∨w.heap.size≤k_))∧k_≠g3)) HN0.out (fun k_ hk_=>hk_.2)))
     replace HB:=za hb1
     clear HN0
     have HN74:=za (by rw[NYy72.out];exact hn1:Kd.N (Kd.int .i32) 21 w73 B_ (fun k_=>(True∧(some k_=((.slice (some ad65) l0.length c0):Value).ownBlock∨w.heap.size≤k_))∧k_≠g3) (.slice (some ad65) l0.length c0) y72)
     clear hn1 hb1 hg1
     clear jX hx65_0 p65 q65 hx71_0 p71 q71
     have j1d:=MB.lz1 BKg3.out
     have p76:0≤((wrap64 (a1+(wrap64 (Go.bits .and .u64 t21 (IntKind.u64.wrap (t8 - 1)))))):Int):=of_decide_eq_true (by first|(with_reducible assumption)|assumption)
     have q76:(wrap64 (a1+(wrap64 (Go.bits .and .u64 t21 (IntKind.u64.wrap (t8 - 1))))))<(l0.length:Int):=of_decide_eq_true (by first|(with_reducible assumption)|assumption)
     obtain⟨ad76,e76,hx76_0⟩:=Kd.at_int (Kd.F_now (Kd.N_F HN74.out)) (wrap64 (a1+(wrap64 (Go.bits .and .u64 t21 (IntKind.u64.wrap (t8 - 1)))))) p76 q76
     cases e76
     replace p76:=eq_true p76
     replace q76:=eq_true q76
     obtain⟨y77,hy77⟩:∃ y_:List Int,y_=(List.set y72 (wrap64 (a1+(wrap64 (Go.bits .and .u64 t21 (IntKind.u64.wrap (t8 - 1)))))).toNat (rd x15 x13)):=⟨_,rfl⟩
     have H:((slices_breakPatternsOrdered_rune.l0 k16 (wrap64 (x13+1)) t22 y77 a1 a2 l0 t8))=some r:=by rw[hy77];exact HH.out
     replace HH:=za H
     clear H
     have NYy77:=za hy77
     clear hy77
     go_wp2_with (((with_reducible refine gate_store (t:=21) (p:=64) rfl ?_);(try(refine gate_guard (by rfl) ?_;dsimp only));refine MW.ev_set1 (n:=l0.length) B_ rfl rfl _ _ _ rfl 21 (wrap64 (a1+(wrap64 (Go.bits .and .u64 t21 (IntKind.u64.wrap (t8 - 1)))))) y72 (rd x15 x13) (fun k_=>(True∧(some k_=((.slice (some ad65) l0.length c0):Value).ownBlock∨w.heap.size≤k_))∧k_≠g3) (by rfl) (by rfl) (by kernel_rfl) HN74.out (of_decide_eq_true (by first|(with_reducible assumption)|assumption)) (of_decide_eq_true (by first|(with_reducible assumption)|assumption)) HB.out ?_;intro w78 hn1 hb1 hg1);refine stop_ ?_)
     refine zg ?_
     replace HFfr:=za (Kd.F_grown (ok:=(fun k_=>(True∧some k_≠((.slice (some ad65) l0.length c0):Value).ownBlock)∧k_≠g3)) HFfr.out hg1 (fun k_ hk_=>hk_.1.2))
     replace BKg3:=za (blk_grown (g:=g3) BKg3.out hg1 (Kd.N_away (ok:=(fun k_=>(True∧(some k_=((.slice (some ad65) l0.length c0):Value).ownBlock∨w.heap.size≤k_))∧k_≠g3)) HN74.out (fun k_ hk_=>hk_.2)))
     replace HB:=za hb1
     clear HN74
     have HN79:=za (by rw[NYy77.out];exact hn1:Kd.N (Kd.int .i32) 21 w78 B_ (fun k_=>(True∧(some k_=((.slice (some ad65) l0.length c0):Value).ownBlock∨w.heap.size≤k_))∧k_≠g3) (.slice (some ad65) l0.length c0) y77)
     clear hn1 hb1 hg1
     clear j1d hx76_0 p76 q76
     have j1i:=MB.lz1 BKg3.out
     go_wp2
     go_roundg k16
     case measure=>have:=HK0.out;omega
     case rel=>exact⟨wrap64 (x13+1),t22,y77,(by first|rfl|(simp;done)|(simp[*];done)),HH,⟨by have:=HK0.out;omega⟩,⟨HFfr.out⟩,⟨(Kd.N_mono (ok:=(fun k_=>(True∧(some k_=((.slice (some ad65) l0.length c0):Value).ownBlock∨w.heap.size≤k_))∧k_≠g3)) HN79.out (fun k_ hk_=>hk_))⟩,⟨BKg3.out⟩,⟨HB.out⟩⟩
    obtain rfl:=Option.some.inj HH.out
    clear HH
    go_wp2
    (first|go_end0|((try simp only[Exit.inBlock,Exit.then]);refine bodyPost_ret (results_none rfl _ _ _) rfl ?_))
    exact⟨by first|rfl|(simp;done)|(simp[*];done),(Kd.N_mono (ok:=(fun k_=>(True∧(some k_=((.slice A0 l0.length c0):Value).ownBlock∨w.heap.size≤k_))∧k_≠g3)) HN0.out (fun k_ hk_=>hk_.1.2)),(fun k_ hv_ hlt_=>MB.frK_out HFfr.out k_ (by rw[HPO.out];exact hv_) hlt_),HB.out⟩
 obtain rfl:=Option.some.inj HH.out
 clear HH
 go_wp2
 (first|go_end0|((try simp only[Exit.inBlock,Exit.then]);refine bodyPost_ret (results_none rfl _ _ _) rfl ?_))
 exact⟨by first|rfl|(simp;done)|(simp[*];done),(Kd.N_mono (ok:=(fun k_=>True∧(some k_=((.slice A0 l0.length c0):Value).ownBlock∨w.heap.size≤k_))) HN0.out (fun k_ hk_=>hk_.2)),(fun k_ hv_ hlt_=>MB.frK_out HFfr.out k_ (by rw[HPO.out];exact hv_) hlt_),HB.out⟩
end Go.Proofs.Ytcokpnajkkjclaa.GA
