import Derived.Test.YtcokpnajkkjclaaGA0
import Derived.Test.YtcokpnajkkjclaaGM1
import Derived.Test.YtcokpnajkkjclaaMQ
import Derived.Test.YtcokpnajkkjclaaMS
namespace Go.Proofs.Ytcokpnajkkjclaa.GA
open Go.RowKit Go.Proofs.Ytcokpnajkkjclaa Go.Proofs.Ytcokpnajkkjclaa.MW Go.Proofs.YtcokpnajkkjclaaW.PrintWords Go.Proofs.YtcokpnajkkjclaaW.PrintLast Go.Proofs.YtcokpnajkkjclaaW.PrintMore
attribute [local go_sem] max2_int min2_int max_two min_two
set_option maxHeartbeats 8000000
set_option maxRecDepth 100000
set_option linter.unusedVariables false
set_option linter.unusedSimpArgs false
mutual
def slices_partialInsertionSortOrdered_rune.l0:Nat→Int→Int→(List Int)→Int→Int→(List Int)→Option (Bool × List Int)
 |0,_,_,_,_,_,_=>none
 |k+1,x1,x2,x3,a1,a2,l0=>if x2<5 then((slices_partialInsertionSortOrdered_rune.l1 k x1 a1 a2 l0 x2 x3)) else(some (false,x3))
def slices_partialInsertionSortOrdered_rune.l1:Nat→Int→Int→Int→(List Int)→Int→(List Int)→Option (Bool × List Int)
 |0,_,_,_,_,_,_=>none
 |k+1,x9,a1,a2,l0,x2,x3=>(if x9<a2 then(if 0≤x9 then(if x9<(l0.length:Int) then(if 0≤(wrap64 (x9 - 1)) then(if (wrap64 (x9 - 1))<(l0.length:Int) then((cmp_Less_rune.f (rd x3 x9) (rd x3 (wrap64 (x9 - 1)))).bind fun t30=>(some (!t30))) else(none)) else(none)) else(none)) else(none)) else(some (false))).bind fun b12=>(if b12=true then((slices_partialInsertionSortOrdered_rune.l1 k (wrap64 (x9+1)) a1 a2 l0 x2 x3)) else(if x9=a2 then(some (true,x3)) else(if (wrap64 (a2 - a1))<50 then(some (false,x3)) else(if 0≤(wrap64 (x9 - 1)) then(if (wrap64 (x9 - 1))<(l0.length:Int) then(if 0≤x9 then(if x9<(l0.length:Int) then((some (List.set x3 x9.toNat (rd x3 (wrap64 (x9 - 1))):List Int)).bind fun y64=>((some (List.set y64 (wrap64 (x9 - 1)).toNat (rd x3 x9):List Int)).bind fun y68=>(if (wrap64 (x9 - a1))≥2 then((slices_partialInsertionSortOrdered_rune.l2 k (wrap64 (x9 - 1)) y68 a1 a2 l0 x2 x9)) else(if (wrap64 (a2 - x9))≥2 then((slices_partialInsertionSortOrdered_rune.l5 k (wrap64 (x9+1)) y68 a1 a2 l0 x2 x9)) else((slices_partialInsertionSortOrdered_rune.l0 k x9 (wrap64 (x2+1)) y68 a1 a2 l0)))))) else(none)) else(none)) else(none)) else(none)))))
def slices_partialInsertionSortOrdered_rune.l2:Nat→Int→(List Int)→Int→Int→(List Int)→Int→Int→Option (Bool × List Int)
 |0,_,_,_,_,_,_,_=>none
 |k+1,x73,x74,a1,a2,l0,x2,x9=>if x73≥1 then(if 0≤x73 then(if x73<(l0.length:Int) then(if 0≤(wrap64 (x73 - 1)) then(if (wrap64 (x73 - 1))<(l0.length:Int) then((cmp_Less_rune.f (rd x74 x73) (rd x74 (wrap64 (x73 - 1)))).bind fun t91=>(if t91=true then((some (List.set x74 x73.toNat (rd x74 (wrap64 (x73 - 1))):List Int)).bind fun y98=>((some (List.set y98 (wrap64 (x73 - 1)).toNat (rd x74 x73):List Int)).bind fun y102=>((slices_partialInsertionSortOrdered_rune.l2 k (wrap64 (x73 - 1)) y102 a1 a2 l0 x2 x9)))) else(if (wrap64 (a2 - x9))≥2 then((slices_partialInsertionSortOrdered_rune.l3 k (wrap64 (x9+1)) x74 a1 a2 l0 x2 x9)) else((slices_partialInsertionSortOrdered_rune.l0 k x9 (wrap64 (x2+1)) x74 a1 a2 l0))))) else(none)) else(none)) else(none)) else(none)) else(if (wrap64 (a2 - x9))≥2 then((slices_partialInsertionSortOrdered_rune.l4 k (wrap64 (x9+1)) x74 a1 a2 l0 x2 x9)) else((slices_partialInsertionSortOrdered_rune.l0 k x9 (wrap64 (x2+1)) x74 a1 a2 l0)))
def slices_partialInsertionSortOrdered_rune.l3:Nat→Int→(List Int)→Int→Int→(List Int)→Int→Int→Option (Bool × List Int)
 |0,_,_,_,_,_,_,_=>none
 |k+1,x108,x109,a1,a2,l0,x2,x9=>if x108<a2 then(if 0≤x108 then(if x108<(l0.length:Int) then(if 0≤(wrap64 (x108 - 1)) then(if (wrap64 (x108 - 1))<(l0.length:Int) then((cmp_Less_rune.f (rd x109 x108) (rd x109 (wrap64 (x108 - 1)))).bind fun t127=>(if t127=true then((some (List.set x109 x108.toNat (rd x109 (wrap64 (x108 - 1))):List Int)).bind fun y134=>((some (List.set y134 (wrap64 (x108 - 1)).toNat (rd x109 x108):List Int)).bind fun y138=>((slices_partialInsertionSortOrdered_rune.l3 k (wrap64 (x108+1)) y138 a1 a2 l0 x2 x9)))) else((slices_partialInsertionSortOrdered_rune.l0 k x9 (wrap64 (x2+1)) x109 a1 a2 l0)))) else(none)) else(none)) else(none)) else(none)) else((slices_partialInsertionSortOrdered_rune.l0 k x9 (wrap64 (x2+1)) x109 a1 a2 l0))
def slices_partialInsertionSortOrdered_rune.l4:Nat→Int→(List Int)→Int→Int→(List Int)→Int→Int→Option (Bool × List Int)
 |0,_,_,_,_,_,_,_=>none
 |k+1,x160,x161,a1,a2,l0,x2,x9=>if x160<a2 then(if 0≤x160 then(if x160<(l0.length:Int) then(if 0≤(wrap64 (x160 - 1)) then(if (wrap64 (x160 - 1))<(l0.length:Int) then((cmp_Less_rune.f (rd x161 x160) (rd x161 (wrap64 (x160 - 1)))).bind fun t179=>(if t179=true then((some (List.set x161 x160.toNat (rd x161 (wrap64 (x160 - 1))):List Int)).bind fun y186=>((some (List.set y186 (wrap64 (x160 - 1)).toNat (rd x161 x160):List Int)).bind fun y190=>((slices_partialInsertionSortOrdered_rune.l4 k (wrap64 (x160+1)) y190 a1 a2 l0 x2 x9)))) else((slices_partialInsertionSortOrdered_rune.l0 k x9 (wrap64 (x2+1)) x161 a1 a2 l0)))) else(none)) else(none)) else(none)) else(none)) else((slices_partialInsertionSortOrdered_rune.l0 k x9 (wrap64 (x2+1)) x161 a1 a2 l0))
def slices_partialInsertionSortOrdered_rune.l5:Nat→Int→(List Int)→Int→Int→(List Int)→Int→Int→Option (Bool × List Int)
 |0,_,_,_,_,_,_,_=>none
 |k+1,x206,x207,a1,a2,l0,x2,x9=>if x206<a2 then(if 0≤x206 then(if x206<(l0.length:Int) then(if 0≤(wrap64 (x206 - 1)) then(if (wrap64 (x206 - 1))<(l0.length:Int) then((cmp_Less_rune.f (rd x207 x206) (rd x207 (wrap64 (x206 - 1)))).bind fun t225=>(if t225=true then((some (List.set x207 x206.toNat (rd x207 (wrap64 (x206 - 1))):List Int)).bind fun y232=>((some (List.set y232 (wrap64 (x206 - 1)).toNat (rd x207 x206):List Int)).bind fun y236=>((slices_partialInsertionSortOrdered_rune.l5 k (wrap64 (x206+1)) y236 a1 a2 l0 x2 x9)))) else((slices_partialInsertionSortOrdered_rune.l0 k x9 (wrap64 (x2+1)) x207 a1 a2 l0)))) else(none)) else(none)) else(none)) else(none)) else((slices_partialInsertionSortOrdered_rune.l0 k x9 (wrap64 (x2+1)) x207 a1 a2 l0))
end
def slices_partialInsertionSortOrdered_rune.f (k:Nat) (l0:List Int) (a1:Int) (a2:Int):Option (Bool × List Int):=(slices_partialInsertionSortOrdered_rune.l0 k (wrap64 (a1+1)) 0 l0 a1 a2 l0)
theorem slices_partialInsertionSortOrdered_rune.mono_l:∀ k,(∀ y0 y1 y2 y3 y4 y5,LeO (slices_partialInsertionSortOrdered_rune.l0 k y0 y1 y2 y3 y4 y5) (slices_partialInsertionSortOrdered_rune.l0 (k+1) y0 y1 y2 y3 y4 y5))∧(∀ y0 y1 y2 y3 y4 y5,LeO (slices_partialInsertionSortOrdered_rune.l1 k y0 y1 y2 y3 y4 y5) (slices_partialInsertionSortOrdered_rune.l1 (k+1) y0 y1 y2 y3 y4 y5))∧(∀ y0 y1 y2 y3 y4 y5 y6,LeO (slices_partialInsertionSortOrdered_rune.l2 k y0 y1 y2 y3 y4 y5 y6) (slices_partialInsertionSortOrdered_rune.l2 (k+1) y0 y1 y2 y3 y4 y5 y6))∧(∀ y0 y1 y2 y3 y4 y5 y6,LeO (slices_partialInsertionSortOrdered_rune.l3 k y0 y1 y2 y3 y4 y5 y6) (slices_partialInsertionSortOrdered_rune.l3 (k+1) y0 y1 y2 y3 y4 y5 y6))∧(∀ y0 y1 y2 y3 y4 y5 y6,LeO (slices_partialInsertionSortOrdered_rune.l4 k y0 y1 y2 y3 y4 y5 y6) (slices_partialInsertionSortOrdered_rune.l4 (k+1) y0 y1 y2 y3 y4 y5 y6))∧(∀ y0 y1 y2 y3 y4 y5 y6,LeO (slices_partialInsertionSortOrdered_rune.l5 k y0 y1 y2 y3 y4 y5 y6) (slices_partialInsertionSortOrdered_rune.l5 (k+1) y0 y1 y2 y3 y4 y5 y6))
 |0=>⟨fun _ _ _ _ _ _ r h=>by simp[slices_partialInsertionSortOrdered_rune.l0] at h,fun _ _ _ _ _ _ r h=>by simp[slices_partialInsertionSortOrdered_rune.l1] at h,fun _ _ _ _ _ _ _ r h=>by simp[slices_partialInsertionSortOrdered_rune.l2] at h,fun _ _ _ _ _ _ _ r h=>by simp[slices_partialInsertionSortOrdered_rune.l3] at h,fun _ _ _ _ _ _ _ r h=>by simp[slices_partialInsertionSortOrdered_rune.l4] at h,fun _ _ _ _ _ _ _ r h=>by simp[slices_partialInsertionSortOrdered_rune.l5] at h⟩
 |k+1=>by
  obtain⟨ih0,ih1,ih2,ih3,ih4,ih5⟩:=slices_partialInsertionSortOrdered_rune.mono_l k
  refine⟨?_,?_,?_,?_,?_,?_⟩
  ·intro y0 y1 y2 y3 y4 y5
   unfold slices_partialInsertionSortOrdered_rune.l0
   with_reducible repeat' first|exact ih0 _ _ _ _ _ _|exact ih1 _ _ _ _ _ _|exact ih2 _ _ _ _ _ _ _|exact ih3 _ _ _ _ _ _ _|exact ih4 _ _ _ _ _ _ _|exact ih5 _ _ _ _ _ _ _|exact LeO.refl _|exact LeO.none _|refine LeO.ite ?_ ?_|refine LeO.bind ?_ (fun _=>?_)
  ·intro y0 y1 y2 y3 y4 y5
   unfold slices_partialInsertionSortOrdered_rune.l1
   with_reducible repeat' first|exact ih0 _ _ _ _ _ _|exact ih1 _ _ _ _ _ _|exact ih2 _ _ _ _ _ _ _|exact ih3 _ _ _ _ _ _ _|exact ih4 _ _ _ _ _ _ _|exact ih5 _ _ _ _ _ _ _|exact LeO.refl _|exact LeO.none _|refine LeO.ite ?_ ?_|refine LeO.bind ?_ (fun _=>?_)
  ·intro y0 y1 y2 y3 y4 y5 y6
   unfold slices_partialInsertionSortOrdered_rune.l2
   with_reducible repeat' first|exact ih0 _ _ _ _ _ _|exact ih1 _ _ _ _ _ _|exact ih2 _ _ _ _ _ _ _|exact ih3 _ _ _ _ _ _ _|exact ih4 _ _ _ _ _ _ _|exact ih5 _ _ _ _ _ _ _|exact LeO.refl _|exact LeO.none _|refine LeO.ite ?_ ?_|refine LeO.bind ?_ (fun _=>?_)
  ·intro y0 y1 y2 y3 y4 y5 y6
   unfold slices_partialInsertionSortOrdered_rune.l3
   with_reducible repeat' first|exact ih0 _ _ _ _ _ _|exact ih1 _ _ _ _ _ _|exact ih2 _ _ _ _ _ _ _|exact ih3 _ _ _ _ _ _ _|exact ih4 _ _ _ _ _ _ _|exact ih5 _ _ _ _ _ _ _|exact LeO.refl _|exact LeO.none _|refine LeO.ite ?_ ?_|refine LeO.bind ?_ (fun _=>?_)
  ·intro y0 y1 y2 y3 y4 y5 y6
   unfold slices_partialInsertionSortOrdered_rune.l4
   with_reducible repeat' first|exact ih0 _ _ _ _ _ _|exact ih1 _ _ _ _ _ _|exact ih2 _ _ _ _ _ _ _|exact ih3 _ _ _ _ _ _ _|exact ih4 _ _ _ _ _ _ _|exact ih5 _ _ _ _ _ _ _|exact LeO.refl _|exact LeO.none _|refine LeO.ite ?_ ?_|refine LeO.bind ?_ (fun _=>?_)
  intro y0 y1 y2 y3 y4 y5 y6
  unfold slices_partialInsertionSortOrdered_rune.l5
  with_reducible repeat' first|exact ih0 _ _ _ _ _ _|exact ih1 _ _ _ _ _ _|exact ih2 _ _ _ _ _ _ _|exact ih3 _ _ _ _ _ _ _|exact ih4 _ _ _ _ _ _ _|exact ih5 _ _ _ _ _ _ _|exact LeO.refl _|exact LeO.none _|refine LeO.ite ?_ ?_|refine LeO.bind ?_ (fun _=>?_)
theorem slices_partialInsertionSortOrdered_rune.mono:∀ a0_ a1_ a2_ k,LeO (slices_partialInsertionSortOrdered_rune.f k a0_ a1_ a2_) (slices_partialInsertionSortOrdered_rune.f (k+1) a0_ a1_ a2_):=by
 intro a0_ a1_ a2_ k
 obtain⟨ih0,ih1,ih2,ih3,ih4,ih5⟩:=slices_partialInsertionSortOrdered_rune.mono_l k
 unfold slices_partialInsertionSortOrdered_rune.f
 with_reducible repeat' first|exact ih0 _ _ _ _ _ _|exact ih1 _ _ _ _ _ _|exact ih2 _ _ _ _ _ _ _|exact ih3 _ _ _ _ _ _ _|exact ih4 _ _ _ _ _ _ _|exact ih5 _ _ _ _ _ _ _|exact LeO.refl _|exact LeO.none _|refine LeO.ite ?_ ?_|refine LeO.bind ?_ (fun _=>?_)
theorem slices_partialInsertionSortOrdered_rune.calls (k:Nat) (B_:Nat) (A0:Option Addr) (c0:Nat) (l0:List Int) (a1:Int) (a2:Int) (r1:Bool) (r2:List Int) (w:World) (hB0:B_≤w.heap.size) (hn0:Kd.N (Kd.int .i32) 21 w B_ (fun k_=>some k_=((.slice A0 l0.length c0):Value).ownBlock) (.slice A0 l0.length c0) l0) (h:slices_partialInsertionSortOrdered_rune.f k l0 a1 a2=some (r1,r2)):
  Calls Try.prog 41 #[(.slice A0 l0.length c0),.int .i64 a1,.int .i64 a2] w (fun e w'=>e=.returned (.bool r1)∧Kd.N (Kd.int .i32) 21 w' B_ (fun k_=>some k_=((.slice A0 l0.length c0):Value).ownBlock∨w.heap.size≤k_) (.slice A0 l0.length c0) r2∧(∀ k_:Nat,some k_≠((.slice A0 l0.length c0):Value).ownBlock→k_<w.heap.size→w'.heap[k_]? =w.heap[k_]?)∧Below B_ w w'):=by
 unfold slices_partialInsertionSortOrdered_rune.f at h
 have HH:=za h
 clear h
 obtain⟨P0_,HPO⟩:∃ P0_:Nat→Prop,P0_=(fun k_=>some k_≠((.slice A0 l0.length c0):Value).ownBlock):=⟨_,rfl⟩
 have HFfr:=za (MB.frK_new w (fun k_ hk_=>by rw[HPO] at hk_;exact⟨trivial,hk_⟩):Kd.F (MB.frK w P0_) w (fun k_=>True∧some k_≠((.slice A0 l0.length c0):Value).ownBlock) (some ⟨0,0,none⟩) [()].length [()])
 replace HPO:=za HPO
 have hB_:=za hB0
 have HN0:=za (Kd.N_mono hn0 (fun k_ hk_=>⟨trivial,.inl hk_⟩):Kd.N (Kd.int .i32) 21 w B_ (fun k_=>True∧(some k_=((.slice A0 l0.length c0):Value).ownBlock∨w.heap.size≤k_)) (.slice A0 l0.length c0) l0)
 clear hn0
 have HB:=za (Below.refl B_ w)
 go_enter Try.func41,Try.ntmps41
 go_wp2
 go_loopg [7,8] k (fun kq u7 u8 w'=>∃ (x1:Int) (x2:Int) (x3:List Int),u7=.int .i64 x1∧u8=.int .i64 x2∧Aside0 ((slices_partialInsertionSortOrdered_rune.l0 kq x1 x2 x3 a1 a2 l0)=some (r1,r2))∧Aside0 (kq≤k)∧Aside0 (Kd.F (MB.frK w P0_) w' (fun k_=>True∧some k_≠((.slice A0 l0.length c0):Value).ownBlock) (some ⟨0,0,none⟩) [()].length [()])∧Aside0 (Kd.N (Kd.int .i32) 21 w' B_ (fun k_=>True∧(some k_=((.slice A0 l0.length c0):Value).ownBlock∨w.heap.size≤k_)) (.slice A0 l0.length c0) x3)∧Aside0 (Below B_ w w'))
 case atStart=>exact⟨wrap64 (a1+1),0,l0,(by first|rfl|(simp;done)|(simp[*];done)),(by first|rfl|(simp;done)|(simp[*];done)),HH,⟨Nat.le_refl _⟩,⟨HFfr.out⟩,⟨(Kd.N_mono (ok:=(fun k_=>True∧(some k_=((.slice A0 l0.length c0):Value).ownBlock∨w.heap.size≤k_))) HN0.out (fun k_ hk_=>hk_))⟩,⟨HB.out⟩⟩
 case round=>
  clear HH
  clear HFfr HN0 HB
  obtain⟨x1,x2,x3,rfl,rfl,HA,HK0,HFfr,HN0,HB⟩:=hrel
  obtain⟨w5,rfl⟩:∃ wo_:World,wo_=wr:=⟨_,rfl⟩
  cases gk with
  |zero=>exact absurd HA.out (by simp[slices_partialInsertionSortOrdered_rune.l0])
  |succ k4=>
   have H:=HA.out
   clear HA
   simp only[slices_partialInsertionSortOrdered_rune.l0] at H
   have HH:=za H
   clear H
   replace HH:=zqt HH
   rcases HH with⟨HH,hk7,hk8⟩|⟨HH,hk255,hk256⟩
   ·go_wp2
    go_loopg [7] k4 (fun kq u7 w'=>∃ (x9:Int),u7=.int .i64 x9∧Aside0 ((slices_partialInsertionSortOrdered_rune.l1 kq x9 a1 a2 l0 x2 x3)=some (r1,r2))∧Aside0 (kq≤k4)∧Aside0 (Kd.F (MB.frK w P0_) w' (fun k_=>True∧some k_≠((.slice A0 l0.length c0):Value).ownBlock) (some ⟨0,0,none⟩) [()].length [()])∧Aside0 (Kd.N (Kd.int .i32) 21 w' B_ (fun k_=>True∧(some k_=((.slice A0 l0.length c0):Value).ownBlock∨w.heap.size≤k_)) (.slice A0 l0.length c0) x3)∧Aside0 (Below B_ w w'))
    case atStart=>exact⟨x1,(by first|rfl|(simp;done)|(simp[*];done)),HH,⟨Nat.le_refl _⟩,⟨HFfr.out⟩,⟨(Kd.N_mono (ok:=(fun k_=>True∧(some k_=((.slice A0 l0.length c0):Value).ownBlock∨w.heap.size≤k_))) HN0.out (fun k_ hk_=>hk_))⟩,⟨HB.out⟩⟩
    case round=>
     clear hk7
     clear hk8
     clear HH
     clear HFfr HN0 HB
     obtain⟨x9,rfl,HA,HK1,HFfr,HN0,HB⟩:=hrel
     obtain⟨w11,rfl⟩:∃ wo_:World,wo_=wr:=⟨_,rfl⟩
     cases gk with
     |zero=>exact absurd HA.out (by simp[slices_partialInsertionSortOrdered_rune.l1])
     |succ k10=>
      have H:=HA.out
      clear HA
      simp only[slices_partialInsertionSortOrdered_rune.l1] at H
      have HH:=za H
      clear H
      replace HH:=zd HH
      obtain⟨b12,At13,HH⟩:=HH
      go_wp2
      obtain⟨R_,hR_⟩:∃ R_:Act→World→Prop,R_=(fun a_ w_=>∃ u17 u18 u19 u20 u21 u22 u23 u24 u25 u26 u27 u28 u29 u30 u31:Value,a_=(⟨[(.slice A0 l0.length c0),(.int .i64 a1),(.int .i64 a2),undef,undef,undef,u6,(.int .i64 x9),(.int .i64 x2),u9,u10,(.int .i64 a1),(.int .i64 (wrap64 (a1+1))),(.int .i64 x2),(.bool true),u15,u16,u17,u18,u19,u20,u21,u22,u23,u24,u25,u26,u27,u28,u29,u30,u31,.bool b12,u33,u34,u35,u36,u37,u38,u39,u40,u41,u42,u43,u44,u45,u46,u47,u48,u49,u50,u51,u52,u53,u54,u55,u56,u57,u58,u59,u60,u61,u62,u63,u64,u65,u66,u67,u68,u69,u70,u71,u72,u73,u74,u75,u76,u77,u78,u79,u80,u81,u82,u83,u84,u85,u86,u87,u88,u89,u90,u91,u92,u93,u94,u95,u96,u97,u98,u99,u100,u101,u102,u103,u104,u105,u106,u107,u108,u109,u110,u111,u112,u113,u114,u115,u116,u117,u118,u119,u120,u121,u122,u123,u124,u125,u126,u127,u128,u129,u130,u131,u132].toArray,[]⟩:Act)∧Drawn0 w11 w_):=⟨_,rfl⟩
      replace hR_:=za hR_
      refine MS.join R_ ?_ ?_
      ·clear HH
       have HH:=At13
       clear At13
       replace HH:=zqt HH
       rcases HH with⟨HH,hk16,hk17⟩|⟨HH,hk38,hk39⟩
       ·replace HH:=zqdo HH
        obtain⟨HH,hk19⟩:=HH
        replace HH:=zqto HH
        obtain⟨HH,hk21,hk22⟩:=HH
        have p23:0≤(x9:Int):=of_decide_eq_true (by first|(with_reducible assumption)|assumption)
        have q23:x9<(l0.length:Int):=of_decide_eq_true (by first|(with_reducible assumption)|assumption)
        obtain⟨ad23,e23,hx23_0⟩:=Kd.at_int (Kd.F_now (Kd.N_F HN0.out)) x9 p23 q23
        cases e23
        replace p23:=eq_true p23
        replace q23:=eq_true q23
        replace HH:=zqdo HH
        obtain⟨HH,hk25⟩:=HH
        replace HH:=zqto HH
        obtain⟨HH,hk27,hk28⟩:=HH
        have p29:0≤((wrap64 (x9 - 1)):Int):=of_decide_eq_true (by first|(with_reducible assumption)|assumption)
        have q29:(wrap64 (x9 - 1))<(l0.length:Int):=of_decide_eq_true (by first|(with_reducible assumption)|assumption)
        obtain⟨ad29,e29,hx29_0⟩:=Kd.at_int (Kd.F_now (Kd.N_F HN0.out)) (wrap64 (x9 - 1)) p29 q29
        cases e29
        replace p29:=eq_true p29
        replace q29:=eq_true q29
        replace HH:=zd HH
        obtain⟨t30,At31,HH⟩:=HH
        go_wp2
        go_quiet ((first|(go_at_call 42;first|exact Calls.quiet_of (MW.drawn (cmp_Less_rune.calls  (rd x3 x9) (rd x3 (wrap64 (x9 - 1))) t30 _  At31.out))|exact MW.quiet_far (MW.drawn (cmp_Less_rune.calls  (rd x3 x9) (rd x3 (wrap64 (x9 - 1))) t30 _  At31.out)))))
        obtain rfl:=Option.some.inj HH.out
        go_wp2
        refine MS.Joined.mk ?_
        rw[hR_.out]
        exact⟨_,_,_,_,_,_,_,_,_,_,_,_,_,_,_,rfl,by repeat(first|exact Drawn0.refl _|apply Drawn0.step)⟩
       go_wp2
       go_quiet ((first|(go_at_call 42;first|exact Calls.quiet_of (MW.drawn (cmp_Less_rune.calls  (rd x3 x9) (rd x3 (wrap64 (x9 - 1))) t30 _  At31.out))|exact MW.quiet_far (MW.drawn (cmp_Less_rune.calls  (rd x3 x9) (rd x3 (wrap64 (x9 - 1))) t30 _  At31.out)))))
       obtain rfl:=Option.some.inj HH.out
       go_wp2
       refine MS.Joined.mk ?_
       rw[hR_.out]
       exact⟨_,_,_,_,_,_,_,_,_,_,_,_,_,_,_,rfl,by repeat(first|exact Drawn0.refl _|apply Drawn0.step)⟩
      intro a_ w14 hd_
      rw[hR_.out] at hd_
      obtain⟨u17,u18,u19,u20,u21,u22,u23,u24,u25,u26,u27,u28,u29,u30,u31,rfl,hd_⟩:=hd_
      have hb:=MS.drawn_below hd_
      clear At13 hd_ hR_ R_
      replace HFfr:=zfb HFfr.out hb
      replace HN0:=znb HN0.out hb
      replace HB:=za (MB.below_stepB hB_.out HB.out hb)
      clear hb
      by_cases c40:b12=true
      ·replace HH:=MW.hpos HH c40
       subst c40
       go_wp2
       go_roundg k10
       case measure=>have:=HK0.out;have:=HK1.out;omega
       case rel=>exact⟨wrap64 (x9+1),(by first|rfl|(simp;done)|(simp[*];done)),HH,⟨by have:=HK0.out;have:=HK1.out;omega⟩,⟨HFfr.out⟩,⟨(Kd.N_mono (ok:=(fun k_=>True∧(some k_=((.slice A0 l0.length c0):Value).ownBlock∨w.heap.size≤k_))) HN0.out (fun k_ hk_=>hk_))⟩,⟨HB.out⟩⟩
      replace HH:=MW.hneg HH c40
      replace c40:=Bool.eq_false_iff.mpr c40
      subst c40
      replace HH:=zqe HH
      rcases HH with⟨HH,hk42,hk43⟩|⟨HH,hk44,hk45⟩
      ·have H:=HH.out
       simp only[Option.some.injEq,Prod.mk.injEq] at H
       obtain⟨rfl,rfl⟩:=H
       clear HH
       go_wp2
       go_ret
       exact⟨by first|rfl|(simp;done)|(simp[*];done),(Kd.N_mono (ok:=(fun k_=>True∧(some k_=((.slice A0 l0.length c0):Value).ownBlock∨w.heap.size≤k_))) HN0.out (fun k_ hk_=>hk_.2)),(fun k_ hv_ hlt_=>MB.frK_out HFfr.out k_ (by rw[HPO.out];exact hv_) hlt_),HB.out⟩
      replace HH:=zqt HH
      rcases HH with⟨HH,hk47,hk48⟩|⟨HH,hk49,hk50⟩
      ·have H:=HH.out
       simp only[Option.some.injEq,Prod.mk.injEq] at H
       obtain⟨rfl,rfl⟩:=H
       clear HH
       go_wp2
       go_ret
       exact⟨by first|rfl|(simp;done)|(simp[*];done),(Kd.N_mono (ok:=(fun k_=>True∧(some k_=((.slice A0 l0.length c0):Value).ownBlock∨w.heap.size≤k_))) HN0.out (fun k_ hk_=>hk_.2)),(fun k_ hv_ hlt_=>MB.frK_out HFfr.out k_ (by rw[HPO.out];exact hv_) hlt_),HB.out⟩
      go_wp2
      have hwr_:∀ n_:Int,IntKind.i64.wrap n_=wrap64 n_:=fun n_=>IntWalk.i64_left n_
      refine wp_region_any (by kernel_rfl) ?_
      change wpAny _ _ _ _ 18 #[false,false,false,false,false,false,false,false,false,false,false,false,false,false,false,false,false,false] _ w14.drew
      obtain⟨w51,hw_⟩:∃ w_:World,w_=w14.drew:=⟨_,rfl⟩
      rw[← hw_]
      have hb:Below w14.heap.size w14 w51:=by rw[hw_];exact below_drew1 (Below.refl _ _)
      clear hw_
      replace HFfr:=zfb HFfr.out hb
      replace HN0:=znb HN0.out hb
      replace HB:=za (MB.below_stepB hB_.out HB.out hb)
      clear hb
      refine zt 0 ((.slice A0 l0.length c0)) #[_,_,_,_,_,_,_,_,_,_,_,_,_,_,_,_,_,_] ⟨[_,_,_,_,_,_,_,_,_,_,_,_,_,_,_,_,_,_,_,_,_,_,_,_,_,_,_,_,_,_,_,_,_,_,_,_,_,_,_,_,_,_,_,_,_,_,_,_,_,_,_,_,_,_,_,_,_,_,_,_,_,_,_,_,_,_,_,_,_,_,_,_,_,_,_,_,_,_,_,_,_,_,_,_,_,_,_,_,_,_,_,_,_,_,_,_,_,_,_,_,_,_,_,_,_,_,_,_,_,_,_,_,_,_,_,_,_,_,_,_,_,_,_,_,_,_,_,_,_,_,_,_,_].toArray,[]⟩ (h:=?_)
      refine zt 1 (.int .i64 x9) #[_,_,_,_,_,_,_,_,_,_,_,_,_,_,_,_,_,_] ⟨[_,_,_,_,_,_,_,_,_,_,_,_,_,_,_,_,_,_,_,_,_,_,_,_,_,_,_,_,_,_,_,_,_,_,_,_,_,_,_,_,_,_,_,_,_,_,_,_,_,_,_,_,_,_,_,_,_,_,_,_,_,_,_,_,_,_,_,_,_,_,_,_,_,_,_,_,_,_,_,_,_,_,_,_,_,_,_,_,_,_,_,_,_,_,_,_,_,_,_,_,_,_,_,_,_,_,_,_,_,_,_,_,_,_,_,_,_,_,_,_,_,_,_,_,_,_,_,_,_,_,_,_,_].toArray,[]⟩ (h:=?_)
      refine zt 2 ((.slice A0 l0.length c0)) #[_,_,_,_,_,_,_,_,_,_,_,_,_,_,_,_,_,_] ⟨[_,_,_,_,_,_,_,_,_,_,_,_,_,_,_,_,_,_,_,_,_,_,_,_,_,_,_,_,_,_,_,_,_,_,_,_,_,_,_,_,_,_,_,_,_,_,_,_,_,_,_,_,_,_,_,_,_,_,_,_,_,_,_,_,_,_,_,_,_,_,_,_,_,_,_,_,_,_,_,_,_,_,_,_,_,_,_,_,_,_,_,_,_,_,_,_,_,_,_,_,_,_,_,_,_,_,_,_,_,_,_,_,_,_,_,_,_,_,_,_,_,_,_,_,_,_,_,_,_,_,_,_,_].toArray,[]⟩ (h:=?_)
      refine zt 3 (.int .i64 x9) #[_,_,_,_,_,_,_,_,_,_,_,_,_,_,_,_,_,_] ⟨[_,_,_,_,_,_,_,_,_,_,_,_,_,_,_,_,_,_,_,_,_,_,_,_,_,_,_,_,_,_,_,_,_,_,_,_,_,_,_,_,_,_,_,_,_,_,_,_,_,_,_,_,_,_,_,_,_,_,_,_,_,_,_,_,_,_,_,_,_,_,_,_,_,_,_,_,_,_,_,_,_,_,_,_,_,_,_,_,_,_,_,_,_,_,_,_,_,_,_,_,_,_,_,_,_,_,_,_,_,_,_,_,_,_,_,_,_,_,_,_,_,_,_,_,_,_,_,_,_,_,_,_,_].toArray,[]⟩ (h:=?_)
      refine zt 4 (.int .i64 (wrap64 (x9 - 1))) #[_,_,_,_,_,_,_,_,_,_,_,_,_,_,_,_,_,_] ⟨[_,_,_,_,_,_,_,_,_,_,_,_,_,_,_,_,_,_,_,_,_,_,_,_,_,_,_,_,_,_,_,_,_,_,_,_,_,_,_,_,_,_,_,_,_,_,_,_,_,_,_,_,_,_,_,_,_,_,_,_,_,_,_,_,_,_,_,_,_,_,_,_,_,_,_,_,_,_,_,_,_,_,_,_,_,_,_,_,_,_,_,_,_,_,_,_,_,_,_,_,_,_,_,_,_,_,_,_,_,_,_,_,_,_,_,_,_,_,_,_,_,_,_,_,_,_,_,_,_,_,_,_,_].toArray,[]⟩ (h:=?_)
      refine zt 5 ((.slice A0 l0.length c0)) #[_,_,_,_,_,_,_,_,_,_,_,_,_,_,_,_,_,_] ⟨[_,_,_,_,_,_,_,_,_,_,_,_,_,_,_,_,_,_,_,_,_,_,_,_,_,_,_,_,_,_,_,_,_,_,_,_,_,_,_,_,_,_,_,_,_,_,_,_,_,_,_,_,_,_,_,_,_,_,_,_,_,_,_,_,_,_,_,_,_,_,_,_,_,_,_,_,_,_,_,_,_,_,_,_,_,_,_,_,_,_,_,_,_,_,_,_,_,_,_,_,_,_,_,_,_,_,_,_,_,_,_,_,_,_,_,_,_,_,_,_,_,_,_,_,_,_,_,_,_,_,_,_,_].toArray,[]⟩ (h:=?_)
      refine zt 6 (.int .i64 x9) #[_,_,_,_,_,_,_,_,_,_,_,_,_,_,_,_,_,_] ⟨[_,_,_,_,_,_,_,_,_,_,_,_,_,_,_,_,_,_,_,_,_,_,_,_,_,_,_,_,_,_,_,_,_,_,_,_,_,_,_,_,_,_,_,_,_,_,_,_,_,_,_,_,_,_,_,_,_,_,_,_,_,_,_,_,_,_,_,_,_,_,_,_,_,_,_,_,_,_,_,_,_,_,_,_,_,_,_,_,_,_,_,_,_,_,_,_,_,_,_,_,_,_,_,_,_,_,_,_,_,_,_,_,_,_,_,_,_,_,_,_,_,_,_,_,_,_,_,_,_,_,_,_,_].toArray,[]⟩ (h:=?_)
      refine zt 7 (.int .i64 (wrap64 (x9 - 1))) #[_,_,_,_,_,_,_,_,_,_,_,_,_,_,_,_,_,_] ⟨[_,_,_,_,_,_,_,_,_,_,_,_,_,_,_,_,_,_,_,_,_,_,_,_,_,_,_,_,_,_,_,_,_,_,_,_,_,_,_,_,_,_,_,_,_,_,_,_,_,_,_,_,_,_,_,_,_,_,_,_,_,_,_,_,_,_,_,_,_,_,_,_,_,_,_,_,_,_,_,_,_,_,_,_,_,_,_,_,_,_,_,_,_,_,_,_,_,_,_,_,_,_,_,_,_,_,_,_,_,_,_,_,_,_,_,_,_,_,_,_,_,_,_,_,_,_,_,_,_,_,_,_,_].toArray,[]⟩ (h:=?_)
      replace HH:=zqdo HH
      obtain⟨HH,hk53⟩:=HH
      (try simp only[hk53,Bool.not_true,Bool.not_false])
      replace HH:=zqto HH
      obtain⟨HH,hk55,hk56⟩:=HH
      (try simp only[hk55,Bool.not_true,Bool.not_false])
      (try simp only[hk56,Bool.not_true,Bool.not_false])
      have p57:0≤((wrap64 (x9 - 1)):Int):=of_decide_eq_true (by first|(with_reducible assumption)|assumption)
      have q57:(wrap64 (x9 - 1))<(l0.length:Int):=of_decide_eq_true (by first|(with_reducible assumption)|assumption)
      obtain⟨ad57,e57,hx57_0⟩:=Kd.at_int (Kd.F_now (Kd.N_F HN0.out)) (wrap64 (x9 - 1)) p57 q57
      cases e57
      replace p57:=eq_true p57
      replace q57:=eq_true q57
      refine zt 8 (.pointer (some (ad57.add ((wrap64 (x9 - 1)).toNat)))) #[_,_,_,_,_,_,_,_,_,_,_,_,_,_,_,_,_,_] ⟨[_,_,_,_,_,_,_,_,_,_,_,_,_,_,_,_,_,_,_,_,_,_,_,_,_,_,_,_,_,_,_,_,_,_,_,_,_,_,_,_,_,_,_,_,_,_,_,_,_,_,_,_,_,_,_,_,_,_,_,_,_,_,_,_,_,_,_,_,_,_,_,_,_,_,_,_,_,_,_,_,_,_,_,_,_,_,_,_,_,_,_,_,_,_,_,_,_,_,_,_,_,_,_,_,_,_,_,_,_,_,_,_,_,_,_,_,_,_,_,_,_,_,_,_,_,_,_,_,_,_,_,_,_].toArray,[]⟩ (h:=?_)
      refine zt 10 ((.slice (some ad57) l0.length c0)) #[_,_,_,_,_,_,_,_,_,_,_,_,_,_,_,_,_,_] ⟨[_,_,_,_,_,_,_,_,_,_,_,_,_,_,_,_,_,_,_,_,_,_,_,_,_,_,_,_,_,_,_,_,_,_,_,_,_,_,_,_,_,_,_,_,_,_,_,_,_,_,_,_,_,_,_,_,_,_,_,_,_,_,_,_,_,_,_,_,_,_,_,_,_,_,_,_,_,_,_,_,_,_,_,_,_,_,_,_,_,_,_,_,_,_,_,_,_,_,_,_,_,_,_,_,_,_,_,_,_,_,_,_,_,_,_,_,_,_,_,_,_,_,_,_,_,_,_,_,_,_,_,_,_].toArray,[]⟩ (h:=?_)
      refine zt 11 (.int .i64 x9) #[_,_,_,_,_,_,_,_,_,_,_,_,_,_,_,_,_,_] ⟨[_,_,_,_,_,_,_,_,_,_,_,_,_,_,_,_,_,_,_,_,_,_,_,_,_,_,_,_,_,_,_,_,_,_,_,_,_,_,_,_,_,_,_,_,_,_,_,_,_,_,_,_,_,_,_,_,_,_,_,_,_,_,_,_,_,_,_,_,_,_,_,_,_,_,_,_,_,_,_,_,_,_,_,_,_,_,_,_,_,_,_,_,_,_,_,_,_,_,_,_,_,_,_,_,_,_,_,_,_,_,_,_,_,_,_,_,_,_,_,_,_,_,_,_,_,_,_,_,_,_,_,_,_].toArray,[]⟩ (h:=?_)
      replace HH:=zqdo HH
      obtain⟨HH,hk59⟩:=HH
      (try simp only[hk59,Bool.not_true,Bool.not_false])
      replace HH:=zqto HH
      obtain⟨HH,hk61,hk62⟩:=HH
      (try simp only[hk61,Bool.not_true,Bool.not_false])
      (try simp only[hk62,Bool.not_true,Bool.not_false])
      have p63:0≤(x9:Int):=of_decide_eq_true (by first|(with_reducible assumption)|assumption)
      have q63:x9<(l0.length:Int):=of_decide_eq_true (by first|(with_reducible assumption)|assumption)
      obtain⟨ad63,e63,hx63_0⟩:=Kd.at_int (Kd.F_now (Kd.N_F HN0.out)) x9 p63 q63
      cases e63
      replace p63:=eq_true p63
      replace q63:=eq_true q63
      refine zt 12 (.pointer (some (ad57.add (x9.toNat)))) #[_,_,_,_,_,_,_,_,_,_,_,_,_,_,_,_,_,_] ⟨[_,_,_,_,_,_,_,_,_,_,_,_,_,_,_,_,_,_,_,_,_,_,_,_,_,_,_,_,_,_,_,_,_,_,_,_,_,_,_,_,_,_,_,_,_,_,_,_,_,_,_,_,_,_,_,_,_,_,_,_,_,_,_,_,_,_,_,_,_,_,_,_,_,_,_,_,_,_,_,_,_,_,_,_,_,_,_,_,_,_,_,_,_,_,_,_,_,_,_,_,_,_,_,_,_,_,_,_,_,_,_,_,_,_,_,_,_,_,_,_,_,_,_,_,_,_,_,_,_,_,_,_,_].toArray,[]⟩ (h:=?_)
      refine MW.any_two (i:=9) (j:=13) (vi:=.int .i32 (rd x3 (wrap64 (x9 - 1)))) (vj:=.int .i32 (rd x3 x9)) #[true,true,true,true,true,true,true,true,true,true,true,true,true,true,false,false,false,false] ⟨[(.slice (some ad57) l0.length c0),(.int .i64 a1),(.int .i64 a2),undef,undef,undef,u6,(.int .i64 x9),(.int .i64 x2),u9,u10,(.int .i64 a1),(.int .i64 (wrap64 (a1+1))),(.int .i64 x2),(.bool true),u15,u16,u17,u18,u19,u20,u21,u22,u23,u24,u25,u26,u27,u28,u29,u30,u31,(.bool false),u33,u34,(.int .i64 x9),(.int .i64 a2),(.bool false),(.int .i64 a2),(.int .i64 a1),(.int .i64 (wrap64 (a2 - a1))),(.bool false),(.slice (some ad57) l0.length c0),(.int .i64 x9),(.slice (some ad57) l0.length c0),(.int .i64 x9),(.int .i64 (wrap64 (x9 - 1))),(.slice (some ad57) l0.length c0),(.int .i64 x9),(.int .i64 (wrap64 (x9 - 1))),(.pointer (some (ad57.add ((wrap64 (x9 - 1)).toNat)))),(.int .i32 (rd x3 (wrap64 (x9 - 1)))),(.slice (some ad57) l0.length c0),(.int .i64 x9),(.pointer (some (ad57.add (x9.toNat)))),(.int .i32 (rd x3 x9)),u56,u57,u58,u59,u60,u61,u62,u63,u64,u65,u66,u67,u68,u69,u70,u71,u72,u73,u74,u75,u76,u77,u78,u79,u80,u81,u82,u83,u84,u85,u86,u87,u88,u89,u90,u91,u92,u93,u94,u95,u96,u97,u98,u99,u100,u101,u102,u103,u104,u105,u106,u107,u108,u109,u110,u111,u112,u113,u114,u115,u116,u117,u118,u119,u120,u121,u122,u123,u124,u125,u126,u127,u128,u129,u130,u131,u132].toArray,[]⟩ (by decide) rfl rfl (by kernel_rfl) (by kernel_rfl) (by kernel_rfl) (by kernel_rfl) (by kernel_rfl) (by first|rfl|(go_simp;done)|(go_simp;rfl)) (by first|rfl|(go_simp;done)|(go_simp;rfl)) (by first|rfl|(go_simp;done)|(go_simp;rfl)) (by first|rfl|(go_simp;done)|(go_simp;rfl)) (by kernel_rfl) (by kernel_rfl) (by kernel_rfl) (by kernel_rfl) (by kernel_rfl) (by kernel_rfl) ?_
      refine zt 14 (.pointer (some (ad57.add (x9.toNat)))) #[_,_,_,_,_,_,_,_,_,_,_,_,_,_,_,_,_,_] ⟨[_,_,_,_,_,_,_,_,_,_,_,_,_,_,_,_,_,_,_,_,_,_,_,_,_,_,_,_,_,_,_,_,_,_,_,_,_,_,_,_,_,_,_,_,_,_,_,_,_,_,_,_,_,_,_,_,_,_,_,_,_,_,_,_,_,_,_,_,_,_,_,_,_,_,_,_,_,_,_,_,_,_,_,_,_,_,_,_,_,_,_,_,_,_,_,_,_,_,_,_,_,_,_,_,_,_,_,_,_,_,_,_,_,_,_,_,_,_,_,_,_,_,_,_,_,_,_,_,_,_,_,_,_].toArray,[]⟩ (h:=?_)
      refine MW.any_seq 15 3 rfl (by kernel_rfl) ?_
      simp only[List.drop_succ_cons,List.drop_zero]
      clear hwr_
      obtain⟨y64,hy64⟩:∃ y_:List Int,y_=(List.set x3 x9.toNat (rd x3 (wrap64 (x9 - 1)))):=⟨_,rfl⟩
      have H:((some (List.set y64 (wrap64 (x9 - 1)).toNat (rd x3 x9):List Int)).bind fun y68=>(if (wrap64 (x9 - a1))≥2 then((slices_partialInsertionSortOrdered_rune.l2 k10 (wrap64 (x9 - 1)) y68 a1 a2 l0 x2 x9)) else(if (wrap64 (a2 - x9))≥2 then((slices_partialInsertionSortOrdered_rune.l5 k10 (wrap64 (x9+1)) y68 a1 a2 l0 x2 x9)) else((slices_partialInsertionSortOrdered_rune.l0 k10 x9 (wrap64 (x2+1)) y68 a1 a2 l0)))))=some (r1,r2):=by rw[hy64];exact HH.out
      replace HH:=za H
      clear H
      have NYy64:=za hy64
      clear hy64
      go_wp2_with (((with_reducible refine gate_store (t:=21) (p:=56) rfl ?_);(try(refine gate_guard (by rfl) ?_;dsimp only));refine MW.ev_set1 (n:=l0.length) B_ rfl rfl _ _ _ rfl 21 x9 x3 (rd x3 (wrap64 (x9 - 1))) (fun k_=>True∧(some k_=((.slice (some ad57) l0.length c0):Value).ownBlock∨w.heap.size≤k_)) (by rfl) (by rfl) (by kernel_rfl) HN0.out (of_decide_eq_true (by first|(with_reducible assumption)|assumption)) (of_decide_eq_true (by first|(with_reducible assumption)|assumption)) HB.out ?_;intro w65 hn1 hb1 hg1);refine stop_ ?_)
      refine zg ?_
      replace HFfr:=za (Kd.F_grown (ok:=(fun k_=>True∧some k_≠((.slice (some ad57) l0.length c0):Value).ownBlock)) HFfr.out hg1 (fun k_ hk_=>hk_.2))
      replace HB:=za hb1
      clear HN0
      have HN66:=za (by rw[NYy64.out];exact hn1:Kd.N (Kd.int .i32) 21 w65 B_ (fun k_=>True∧(some k_=((.slice (some ad57) l0.length c0):Value).ownBlock∨w.heap.size≤k_)) (.slice (some ad57) l0.length c0) y64)
      clear hn1 hb1 hg1
      clear hx57_0 p57 q57 hx63_0 p63 q63
      have p67:0≤((wrap64 (x9 - 1)):Int):=of_decide_eq_true (by first|(with_reducible assumption)|assumption)
      have q67:(wrap64 (x9 - 1))<(l0.length:Int):=of_decide_eq_true (by first|(with_reducible assumption)|assumption)
      obtain⟨ad67,e67,hx67_0⟩:=Kd.at_int (Kd.F_now (Kd.N_F HN66.out)) (wrap64 (x9 - 1)) p67 q67
      cases e67
      replace p67:=eq_true p67
      replace q67:=eq_true q67
      obtain⟨y68,hy68⟩:∃ y_:List Int,y_=(List.set y64 (wrap64 (x9 - 1)).toNat (rd x3 x9)):=⟨_,rfl⟩
      have H:(if (wrap64 (x9 - a1))≥2 then((slices_partialInsertionSortOrdered_rune.l2 k10 (wrap64 (x9 - 1)) y68 a1 a2 l0 x2 x9)) else(if (wrap64 (a2 - x9))≥2 then((slices_partialInsertionSortOrdered_rune.l5 k10 (wrap64 (x9+1)) y68 a1 a2 l0 x2 x9)) else((slices_partialInsertionSortOrdered_rune.l0 k10 x9 (wrap64 (x2+1)) y68 a1 a2 l0))))=some (r1,r2):=by rw[hy68];exact HH.out
      replace HH:=za H
      clear H
      have NYy68:=za hy68
      clear hy68
      go_wp2_with (((with_reducible refine gate_store (t:=21) (p:=57) rfl ?_);(try(refine gate_guard (by rfl) ?_;dsimp only));refine MW.ev_set1 (n:=l0.length) B_ rfl rfl _ _ _ rfl 21 (wrap64 (x9 - 1)) y64 (rd x3 x9) (fun k_=>True∧(some k_=((.slice (some ad57) l0.length c0):Value).ownBlock∨w.heap.size≤k_)) (by rfl) (by rfl) (by kernel_rfl) HN66.out (of_decide_eq_true (by first|(with_reducible assumption)|assumption)) (of_decide_eq_true (by first|(with_reducible assumption)|assumption)) HB.out ?_;intro w69 hn1 hb1 hg1);refine stop_ ?_)
      refine zg ?_
      replace HFfr:=za (Kd.F_grown (ok:=(fun k_=>True∧some k_≠((.slice (some ad57) l0.length c0):Value).ownBlock)) HFfr.out hg1 (fun k_ hk_=>hk_.2))
      replace HB:=za hb1
      clear HN66
      have HN70:=za (by rw[NYy68.out];exact hn1:Kd.N (Kd.int .i32) 21 w69 B_ (fun k_=>True∧(some k_=((.slice (some ad57) l0.length c0):Value).ownBlock∨w.heap.size≤k_)) (.slice (some ad57) l0.length c0) y68)
      clear hn1 hb1 hg1
      clear hx67_0 p67 q67
      replace HH:=zqG HH
      rcases HH with⟨HH,hk72⟩|⟨HH,hk203⟩
      ·go_wp2
       go_loopg [9] k10 (fun kq u9 w'=>∃ (x73:Int) (x74:List Int),u9=.int .i64 x73∧Aside0 ((slices_partialInsertionSortOrdered_rune.l2 kq x73 x74 a1 a2 l0 x2 x9)=some (r1,r2))∧Aside0 (kq≤k10)∧Aside0 (Kd.F (MB.frK w P0_) w' (fun k_=>True∧some k_≠((.slice (some ad57) l0.length c0):Value).ownBlock) (some ⟨0,0,none⟩) [()].length [()])∧Aside0 (Kd.N (Kd.int .i32) 21 w' B_ (fun k_=>True∧(some k_=((.slice (some ad57) l0.length c0):Value).ownBlock∨w.heap.size≤k_)) (.slice (some ad57) l0.length c0) x74)∧Aside0 (Below B_ w w'))
       case atStart=>exact⟨wrap64 (x9 - 1),y68,(by first|rfl|(simp;done)|(simp[*];done)),HH,⟨Nat.le_refl _⟩,⟨HFfr.out⟩,⟨(Kd.N_mono (ok:=(fun k_=>True∧(some k_=((.slice (some ad57) l0.length c0):Value).ownBlock∨w.heap.size≤k_))) HN70.out (fun k_ hk_=>hk_))⟩,⟨HB.out⟩⟩
       case round=>
        clear hk44
        clear hk45
        clear hk49
        clear hk50
        clear hk53
        clear hk55
        clear hk56
        clear hk59
        clear hk61
        clear hk62
        clear hk72
        clear HH
        clear HFfr HN70 HB
        obtain⟨x73,x74,rfl,HA,HK2,HFfr,HN70,HB⟩:=hrel
        obtain⟨w76,rfl⟩:∃ wo_:World,wo_=wr:=⟨_,rfl⟩
        cases gk with
        |zero=>exact absurd HA.out (by simp[slices_partialInsertionSortOrdered_rune.l2])
        |succ k75=>
         have H:=HA.out
         clear HA
         simp only[slices_partialInsertionSortOrdered_rune.l2] at H
         have HH:=za H
         clear H
         replace HH:=zqG HH
         rcases HH with⟨HH,hk78⟩|⟨HH,hk157⟩
         ·replace HH:=zqdo HH
          obtain⟨HH,hk80⟩:=HH
          replace HH:=zqto HH
          obtain⟨HH,hk82,hk83⟩:=HH
          have p84:0≤(x73:Int):=of_decide_eq_true (by first|(with_reducible assumption)|assumption)
          have q84:x73<(l0.length:Int):=of_decide_eq_true (by first|(with_reducible assumption)|assumption)
          obtain⟨ad84,e84,hx84_0⟩:=Kd.at_int (Kd.F_now (Kd.N_F HN70.out)) x73 p84 q84
          cases e84
          replace p84:=eq_true p84
          replace q84:=eq_true q84
          replace HH:=zqdo HH
          obtain⟨HH,hk86⟩:=HH
          replace HH:=zqto HH
          obtain⟨HH,hk88,hk89⟩:=HH
          have p90:0≤((wrap64 (x73 - 1)):Int):=of_decide_eq_true (by first|(with_reducible assumption)|assumption)
          have q90:(wrap64 (x73 - 1))<(l0.length:Int):=of_decide_eq_true (by first|(with_reducible assumption)|assumption)
          obtain⟨ad90,e90,hx90_0⟩:=Kd.at_int (Kd.F_now (Kd.N_F HN70.out)) (wrap64 (x73 - 1)) p90 q90
          cases e90
          replace p90:=eq_true p90
          replace q90:=eq_true q90
          replace HH:=zd HH
          obtain⟨t91,At92,HH⟩:=HH
          by_cases c93:t91=true
          ·replace HH:=MW.hpos HH c93
           subst c93
           go_wp2
           go_quiet ((first|(go_at_call 42;first|exact Calls.quiet_of (MW.drawn (cmp_Less_rune.calls  (rd x74 x73) (rd x74 (wrap64 (x73 - 1))) true _  At92.out))|exact MW.quiet_far (MW.drawn (cmp_Less_rune.calls  (rd x74 x73) (rd x74 (wrap64 (x73 - 1))) true _  At92.out)))))
           go_wp2
           refine MW.name_world (W0:=w76) (by repeat(first|exact Drawn0.refl _|apply Drawn0.step)) ?_
           intro w94 hb
           replace HFfr:=zfb HFfr.out hb
           replace HN70:=znb HN70.out hb
           replace HB:=za (MB.below_stepB hB_.out HB.out hb)
           clear hb
           clear hx84_0 p84 q84 hx90_0 p90 q90
           go_wp2
           have hwr_:∀ n_:Int,IntKind.i64.wrap n_=wrap64 n_:=fun n_=>IntWalk.i64_left n_
           refine wp_region_any (by kernel_rfl) ?_
           change wpAny _ _ _ _ 18 #[false,false,false,false,false,false,false,false,false,false,false,false,false,false,false,false,false,false] _ w94.drew
           obtain⟨w95,hw_⟩:∃ w_:World,w_=w94.drew:=⟨_,rfl⟩
           rw[← hw_]
           have hb:Below w94.heap.size w94 w95:=by rw[hw_];exact below_drew1 (Below.refl _ _)
           clear hw_
           replace HFfr:=zfb HFfr.out hb
           replace HN70:=znb HN70.out hb
           replace HB:=za (MB.below_stepB hB_.out HB.out hb)
           clear hb
           refine zt 0 ((.slice (some ad57) l0.length c0)) #[_,_,_,_,_,_,_,_,_,_,_,_,_,_,_,_,_,_] ⟨[_,_,_,_,_,_,_,_,_,_,_,_,_,_,_,_,_,_,_,_,_,_,_,_,_,_,_,_,_,_,_,_,_,_,_,_,_,_,_,_,_,_,_,_,_,_,_,_,_,_,_,_,_,_,_,_,_,_,_,_,_,_,_,_,_,_,_,_,_,_,_,_,_,_,_,_,_,_,_,_,_,_,_,_,_,_,_,_,_,_,_,_,_,_,_,_,_,_,_,_,_,_,_,_,_,_,_,_,_,_,_,_,_,_,_,_,_,_,_,_,_,_,_,_,_,_,_,_,_,_,_,_,_].toArray,[]⟩ (h:=?_)
           refine zt 1 (.int .i64 x73) #[_,_,_,_,_,_,_,_,_,_,_,_,_,_,_,_,_,_] ⟨[_,_,_,_,_,_,_,_,_,_,_,_,_,_,_,_,_,_,_,_,_,_,_,_,_,_,_,_,_,_,_,_,_,_,_,_,_,_,_,_,_,_,_,_,_,_,_,_,_,_,_,_,_,_,_,_,_,_,_,_,_,_,_,_,_,_,_,_,_,_,_,_,_,_,_,_,_,_,_,_,_,_,_,_,_,_,_,_,_,_,_,_,_,_,_,_,_,_,_,_,_,_,_,_,_,_,_,_,_,_,_,_,_,_,_,_,_,_,_,_,_,_,_,_,_,_,_,_,_,_,_,_,_].toArray,[]⟩ (h:=?_)
           refine zt 2 ((.slice (some ad57) l0.length c0)) #[_,_,_,_,_,_,_,_,_,_,_,_,_,_,_,_,_,_] ⟨[_,_,_,_,_,_,_,_,_,_,_,_,_,_,_,_,_,_,_,_,_,_,_,_,_,_,_,_,_,_,_,_,_,_,_,_,_,_,_,_,_,_,_,_,_,_,_,_,_,_,_,_,_,_,_,_,_,_,_,_,_,_,_,_,_,_,_,_,_,_,_,_,_,_,_,_,_,_,_,_,_,_,_,_,_,_,_,_,_,_,_,_,_,_,_,_,_,_,_,_,_,_,_,_,_,_,_,_,_,_,_,_,_,_,_,_,_,_,_,_,_,_,_,_,_,_,_,_,_,_,_,_,_].toArray,[]⟩ (h:=?_)
           refine zt 3 (.int .i64 x73) #[_,_,_,_,_,_,_,_,_,_,_,_,_,_,_,_,_,_] ⟨[_,_,_,_,_,_,_,_,_,_,_,_,_,_,_,_,_,_,_,_,_,_,_,_,_,_,_,_,_,_,_,_,_,_,_,_,_,_,_,_,_,_,_,_,_,_,_,_,_,_,_,_,_,_,_,_,_,_,_,_,_,_,_,_,_,_,_,_,_,_,_,_,_,_,_,_,_,_,_,_,_,_,_,_,_,_,_,_,_,_,_,_,_,_,_,_,_,_,_,_,_,_,_,_,_,_,_,_,_,_,_,_,_,_,_,_,_,_,_,_,_,_,_,_,_,_,_,_,_,_,_,_,_].toArray,[]⟩ (h:=?_)
           refine zt 4 (.int .i64 (wrap64 (x73 - 1))) #[_,_,_,_,_,_,_,_,_,_,_,_,_,_,_,_,_,_] ⟨[_,_,_,_,_,_,_,_,_,_,_,_,_,_,_,_,_,_,_,_,_,_,_,_,_,_,_,_,_,_,_,_,_,_,_,_,_,_,_,_,_,_,_,_,_,_,_,_,_,_,_,_,_,_,_,_,_,_,_,_,_,_,_,_,_,_,_,_,_,_,_,_,_,_,_,_,_,_,_,_,_,_,_,_,_,_,_,_,_,_,_,_,_,_,_,_,_,_,_,_,_,_,_,_,_,_,_,_,_,_,_,_,_,_,_,_,_,_,_,_,_,_,_,_,_,_,_,_,_,_,_,_,_].toArray,[]⟩ (h:=?_)
           refine zt 5 ((.slice (some ad57) l0.length c0)) #[_,_,_,_,_,_,_,_,_,_,_,_,_,_,_,_,_,_] ⟨[_,_,_,_,_,_,_,_,_,_,_,_,_,_,_,_,_,_,_,_,_,_,_,_,_,_,_,_,_,_,_,_,_,_,_,_,_,_,_,_,_,_,_,_,_,_,_,_,_,_,_,_,_,_,_,_,_,_,_,_,_,_,_,_,_,_,_,_,_,_,_,_,_,_,_,_,_,_,_,_,_,_,_,_,_,_,_,_,_,_,_,_,_,_,_,_,_,_,_,_,_,_,_,_,_,_,_,_,_,_,_,_,_,_,_,_,_,_,_,_,_,_,_,_,_,_,_,_,_,_,_,_,_].toArray,[]⟩ (h:=?_)
           refine zt 6 (.int .i64 x73) #[_,_,_,_,_,_,_,_,_,_,_,_,_,_,_,_,_,_] ⟨[_,_,_,_,_,_,_,_,_,_,_,_,_,_,_,_,_,_,_,_,_,_,_,_,_,_,_,_,_,_,_,_,_,_,_,_,_,_,_,_,_,_,_,_,_,_,_,_,_,_,_,_,_,_,_,_,_,_,_,_,_,_,_,_,_,_,_,_,_,_,_,_,_,_,_,_,_,_,_,_,_,_,_,_,_,_,_,_,_,_,_,_,_,_,_,_,_,_,_,_,_,_,_,_,_,_,_,_,_,_,_,_,_,_,_,_,_,_,_,_,_,_,_,_,_,_,_,_,_,_,_,_,_].toArray,[]⟩ (h:=?_)
           refine zt 7 (.int .i64 (wrap64 (x73 - 1))) #[_,_,_,_,_,_,_,_,_,_,_,_,_,_,_,_,_,_] ⟨[_,_,_,_,_,_,_,_,_,_,_,_,_,_,_,_,_,_,_,_,_,_,_,_,_,_,_,_,_,_,_,_,_,_,_,_,_,_,_,_,_,_,_,_,_,_,_,_,_,_,_,_,_,_,_,_,_,_,_,_,_,_,_,_,_,_,_,_,_,_,_,_,_,_,_,_,_,_,_,_,_,_,_,_,_,_,_,_,_,_,_,_,_,_,_,_,_,_,_,_,_,_,_,_,_,_,_,_,_,_,_,_,_,_,_,_,_,_,_,_,_,_,_,_,_,_,_,_,_,_,_,_,_].toArray,[]⟩ (h:=?_)
           have p96:0≤((wrap64 (x73 - 1)):Int):=of_decide_eq_true (by first|(with_reducible assumption)|assumption)
           have q96:(wrap64 (x73 - 1))<(l0.length:Int):=of_decide_eq_true (by first|(with_reducible assumption)|assumption)
           obtain⟨ad96,e96,hx96_0⟩:=Kd.at_int (Kd.F_now (Kd.N_F HN70.out)) (wrap64 (x73 - 1)) p96 q96
           cases e96
           replace p96:=eq_true p96
           replace q96:=eq_true q96
           refine zt 8 (.pointer (some (ad57.add ((wrap64 (x73 - 1)).toNat)))) #[_,_,_,_,_,_,_,_,_,_,_,_,_,_,_,_,_,_] ⟨[_,_,_,_,_,_,_,_,_,_,_,_,_,_,_,_,_,_,_,_,_,_,_,_,_,_,_,_,_,_,_,_,_,_,_,_,_,_,_,_,_,_,_,_,_,_,_,_,_,_,_,_,_,_,_,_,_,_,_,_,_,_,_,_,_,_,_,_,_,_,_,_,_,_,_,_,_,_,_,_,_,_,_,_,_,_,_,_,_,_,_,_,_,_,_,_,_,_,_,_,_,_,_,_,_,_,_,_,_,_,_,_,_,_,_,_,_,_,_,_,_,_,_,_,_,_,_,_,_,_,_,_,_].toArray,[]⟩ (h:=?_)
           refine zt 10 ((.slice (some ad57) l0.length c0)) #[_,_,_,_,_,_,_,_,_,_,_,_,_,_,_,_,_,_] ⟨[_,_,_,_,_,_,_,_,_,_,_,_,_,_,_,_,_,_,_,_,_,_,_,_,_,_,_,_,_,_,_,_,_,_,_,_,_,_,_,_,_,_,_,_,_,_,_,_,_,_,_,_,_,_,_,_,_,_,_,_,_,_,_,_,_,_,_,_,_,_,_,_,_,_,_,_,_,_,_,_,_,_,_,_,_,_,_,_,_,_,_,_,_,_,_,_,_,_,_,_,_,_,_,_,_,_,_,_,_,_,_,_,_,_,_,_,_,_,_,_,_,_,_,_,_,_,_,_,_,_,_,_,_].toArray,[]⟩ (h:=?_)
           refine zt 11 (.int .i64 x73) #[_,_,_,_,_,_,_,_,_,_,_,_,_,_,_,_,_,_] ⟨[_,_,_,_,_,_,_,_,_,_,_,_,_,_,_,_,_,_,_,_,_,_,_,_,_,_,_,_,_,_,_,_,_,_,_,_,_,_,_,_,_,_,_,_,_,_,_,_,_,_,_,_,_,_,_,_,_,_,_,_,_,_,_,_,_,_,_,_,_,_,_,_,_,_,_,_,_,_,_,_,_,_,_,_,_,_,_,_,_,_,_,_,_,_,_,_,_,_,_,_,_,_,_,_,_,_,_,_,_,_,_,_,_,_,_,_,_,_,_,_,_,_,_,_,_,_,_,_,_,_,_,_,_].toArray,[]⟩ (h:=?_)
           have p97:0≤(x73:Int):=of_decide_eq_true (by first|(with_reducible assumption)|assumption)
           have q97:x73<(l0.length:Int):=of_decide_eq_true (by first|(with_reducible assumption)|assumption)
           obtain⟨ad97,e97,hx97_0⟩:=Kd.at_int (Kd.F_now (Kd.N_F HN70.out)) x73 p97 q97
           cases e97
           replace p97:=eq_true p97
           replace q97:=eq_true q97
           refine zt 12 (.pointer (some (ad57.add (x73.toNat)))) #[_,_,_,_,_,_,_,_,_,_,_,_,_,_,_,_,_,_] ⟨[_,_,_,_,_,_,_,_,_,_,_,_,_,_,_,_,_,_,_,_,_,_,_,_,_,_,_,_,_,_,_,_,_,_,_,_,_,_,_,_,_,_,_,_,_,_,_,_,_,_,_,_,_,_,_,_,_,_,_,_,_,_,_,_,_,_,_,_,_,_,_,_,_,_,_,_,_,_,_,_,_,_,_,_,_,_,_,_,_,_,_,_,_,_,_,_,_,_,_,_,_,_,_,_,_,_,_,_,_,_,_,_,_,_,_,_,_,_,_,_,_,_,_,_,_,_,_,_,_,_,_,_,_].toArray,[]⟩ (h:=?_)
           refine MW.any_two (i:=9) (j:=13) (vi:=.int .i32 (rd x74 (wrap64 (x73 - 1)))) (vj:=.int .i32 (rd x74 x73)) #[true,true,true,true,true,true,true,true,true,true,true,true,true,true,false,false,false,false] ⟨[(.slice (some ad57) l0.length c0),(.int .i64 a1),(.int .i64 a2),undef,undef,undef,u6,(.int .i64 x9),(.int .i64 x2),(.int .i64 x73),u10,(.int .i64 a1),(.int .i64 (wrap64 (a1+1))),(.int .i64 x2),(.bool true),u15,u16,u17,u18,u19,u20,u21,u22,u23,u24,u25,u26,u27,u28,u29,u30,u31,(.bool false),u33,u34,(.int .i64 x9),(.int .i64 a2),(.bool false),(.int .i64 a2),(.int .i64 a1),(.int .i64 (wrap64 (a2 - a1))),(.bool false),(.slice (some ad57) l0.length c0),(.int .i64 x9),(.slice (some ad57) l0.length c0),(.int .i64 x9),(.int .i64 (wrap64 (x9 - 1))),(.slice (some ad57) l0.length c0),(.int .i64 x9),(.int .i64 (wrap64 (x9 - 1))),(.pointer (some (ad57.add ((wrap64 (x9 - 1)).toNat)))),(.int .i32 (rd x3 (wrap64 (x9 - 1)))),(.slice (some ad57) l0.length c0),(.int .i64 x9),(.pointer (some (ad57.add (x9.toNat)))),(.int .i32 (rd x3 x9)),(.pointer (some (ad57.add (x9.toNat)))),(.pointer (some (ad57.add ((wrap64 (x9 - 1)).toNat)))),(.int .i64 x9),(.int .i64 a1),(.int .i64 (wrap64 (x9 - a1))),(.bool true),(.int .i64 x9),(.int .i64 (wrap64 (x9 - 1))),(.int .i64 x73),(.bool true),u66,u67,(.slice (some ad57) l0.length c0),(.int .i64 x73),(.pointer (some (ad57.add (x73.toNat)))),(.int .i32 (rd x74 x73)),(.slice (some ad57) l0.length c0),(.int .i64 x73),(.int .i64 (wrap64 (x73 - 1))),(.pointer (some (ad57.add ((wrap64 (x73 - 1)).toNat)))),(.int .i32 (rd x74 (wrap64 (x73 - 1)))),(.bool true),(.bool false),(.slice (some ad57) l0.length c0),(.int .i64 x73),(.slice (some ad57) l0.length c0),(.int .i64 x73),(.int .i64 (wrap64 (x73 - 1))),(.slice (some ad57) l0.length c0),(.int .i64 x73),(.int .i64 (wrap64 (x73 - 1))),(.pointer (some (ad57.add ((wrap64 (x73 - 1)).toNat)))),(.int .i32 (rd x74 (wrap64 (x73 - 1)))),(.slice (some ad57) l0.length c0),(.int .i64 x73),(.pointer (some (ad57.add (x73.toNat)))),(.int .i32 (rd x74 x73)),u93,u94,u95,u96,u97,u98,u99,u100,u101,u102,u103,u104,u105,u106,u107,u108,u109,u110,u111,u112,u113,u114,u115,u116,u117,u118,u119,u120,u121,u122,u123,u124,u125,u126,u127,u128,u129,u130,u131,u132].toArray,[]⟩ (by decide) rfl rfl (by kernel_rfl) (by kernel_rfl) (by kernel_rfl) (by kernel_rfl) (by kernel_rfl) (by first|rfl|(go_simp;done)|(go_simp;rfl)) (by first|rfl|(go_simp;done)|(go_simp;rfl)) (by first|rfl|(go_simp;done)|(go_simp;rfl)) (by first|rfl|(go_simp;done)|(go_simp;rfl)) (by kernel_rfl) (by kernel_rfl) (by kernel_rfl) (by kernel_rfl) (by kernel_rfl) (by kernel_rfl) ?_
           refine zt 14 (.pointer (some (ad57.add (x73.toNat)))) #[_,_,_,_,_,_,_,_,_,_,_,_,_,_,_,_,_,_] ⟨[_,_,_,_,_,_,_,_,_,_,_,_,_,_,_,_,_,_,_,_,_,_,_,_,_,_,_,_,_,_,_,_,_,_,_,_,_,_,_,_,_,_,_,_,_,_,_,_,_,_,_,_,_,_,_,_,_,_,_,_,_,_,_,_,_,_,_,_,_,_,_,_,_,_,_,_,_,_,_,_,_,_,_,_,_,_,_,_,_,_,_,_,_,_,_,_,_,_,_,_,_,_,_,_,_,_,_,_,_,_,_,_,_,_,_,_,_,_,_,_,_,_,_,_,_,_,_,_,_,_,_,_,_].toArray,[]⟩ (h:=?_)
           refine MW.any_seq 15 3 rfl (by kernel_rfl) ?_
           simp only[List.drop_succ_cons,List.drop_zero]
           clear hwr_
           obtain⟨y98,hy98⟩:∃ y_:List Int,y_=(List.set x74 x73.toNat (rd x74 (wrap64 (x73 - 1)))):=⟨_,rfl⟩
           have H:((some (List.set y98 (wrap64 (x73 - 1)).toNat (rd x74 x73):List Int)).bind fun y102=>((slices_partialInsertionSortOrdered_rune.l2 k75 (wrap64 (x73 - 1)) y102 a1 a2 l0 x2 x9)))=some (r1,r2):=by rw[hy98];exact HH.out
           replace HH:=za H
           clear H
           have NYy98:=za hy98
           clear hy98
           go_wp2_with (((with_reducible refine gate_store (t:=21) (p:=93) rfl ?_);(try(refine gate_guard (by rfl) ?_;dsimp only));refine MW.ev_set1 (n:=l0.length) B_ rfl rfl _ _ _ rfl 21 x73 x74 (rd x74 (wrap64 (x73 - 1))) (fun k_=>True∧(some k_=((.slice (some ad57) l0.length c0):Value).ownBlock∨w.heap.size≤k_)) (by rfl) (by rfl) (by kernel_rfl) HN70.out (of_decide_eq_true (by first|(with_reducible assumption)|assumption)) (of_decide_eq_true (by first|(with_reducible assumption)|assumption)) HB.out ?_;intro w99 hn1 hb1 hg1);refine stop_ ?_)
           refine zg ?_
           replace HFfr:=za (Kd.F_grown (ok:=(fun k_=>True∧some k_≠((.slice (some ad57) l0.length c0):Value).ownBlock)) HFfr.out hg1 (fun k_ hk_=>hk_.2))
           replace HB:=za hb1
           clear HN70
           have HN100:=za (by rw[NYy98.out];exact hn1:Kd.N (Kd.int .i32) 21 w99 B_ (fun k_=>True∧(some k_=((.slice (some ad57) l0.length c0):Value).ownBlock∨w.heap.size≤k_)) (.slice (some ad57) l0.length c0) y98)
           clear hn1 hb1 hg1
           clear hx96_0 p96 q96 hx97_0 p97 q97
           have p101:0≤((wrap64 (x73 - 1)):Int):=of_decide_eq_true (by first|(with_reducible assumption)|assumption)
           have q101:(wrap64 (x73 - 1))<(l0.length:Int):=of_decide_eq_true (by first|(with_reducible assumption)|assumption)
           obtain⟨ad101,e101,hx101_0⟩:=Kd.at_int (Kd.F_now (Kd.N_F HN100.out)) (wrap64 (x73 - 1)) p101 q101
           cases e101
           replace p101:=eq_true p101
           replace q101:=eq_true q101
           obtain⟨y102,hy102⟩:∃ y_:List Int,y_=(List.set y98 (wrap64 (x73 - 1)).toNat (rd x74 x73)):=⟨_,rfl⟩
           have H:((slices_partialInsertionSortOrdered_rune.l2 k75 (wrap64 (x73 - 1)) y102 a1 a2 l0 x2 x9))=some (r1,r2):=by rw[hy102];exact HH.out
           replace HH:=za H
           clear H
           have NYy102:=za hy102
           clear hy102
           go_wp2_with (((with_reducible refine gate_store (t:=21) (p:=94) rfl ?_);(try(refine gate_guard (by rfl) ?_;dsimp only));refine MW.ev_set1 (n:=l0.length) B_ rfl rfl _ _ _ rfl 21 (wrap64 (x73 - 1)) y98 (rd x74 x73) (fun k_=>True∧(some k_=((.slice (some ad57) l0.length c0):Value).ownBlock∨w.heap.size≤k_)) (by rfl) (by rfl) (by kernel_rfl) HN100.out (of_decide_eq_true (by first|(with_reducible assumption)|assumption)) (of_decide_eq_true (by first|(with_reducible assumption)|assumption)) HB.out ?_;intro w103 hn1 hb1 hg1);refine stop_ ?_)
           refine zg ?_
           replace HFfr:=za (Kd.F_grown (ok:=(fun k_=>True∧some k_≠((.slice (some ad57) l0.length c0):Value).ownBlock)) HFfr.out hg1 (fun k_ hk_=>hk_.2))
           replace HB:=za hb1
           clear HN100
           have HN104:=za (by rw[NYy102.out];exact hn1:Kd.N (Kd.int .i32) 21 w103 B_ (fun k_=>True∧(some k_=((.slice (some ad57) l0.length c0):Value).ownBlock∨w.heap.size≤k_)) (.slice (some ad57) l0.length c0) y102)
           clear hn1 hb1 hg1
           clear hx101_0 p101 q101
           go_wp2
           go_roundg k75
           case measure=>have:=HK0.out;have:=HK1.out;have:=HK2.out;omega
           case rel=>exact⟨wrap64 (x73 - 1),y102,(by first|rfl|(simp;done)|(simp[*];done)),HH,⟨by have:=HK0.out;have:=HK1.out;have:=HK2.out;omega⟩,⟨HFfr.out⟩,⟨(Kd.N_mono (ok:=(fun k_=>True∧(some k_=((.slice (some ad57) l0.length c0):Value).ownBlock∨w.heap.size≤k_))) HN104.out (fun k_ hk_=>hk_))⟩,⟨HB.out⟩⟩
          replace HH:=MW.hneg HH c93
          replace c93:=Bool.eq_false_iff.mpr c93
          subst c93
          go_wp2
          go_quiet ((first|(go_at_call 42;first|exact Calls.quiet_of (MW.drawn (cmp_Less_rune.calls  (rd x74 x73) (rd x74 (wrap64 (x73 - 1))) false _  At92.out))|exact MW.quiet_far (MW.drawn (cmp_Less_rune.calls  (rd x74 x73) (rd x74 (wrap64 (x73 - 1))) false _  At92.out)))))
          repeat(first|(refine MQ.code_stop (id:=18) ?_)|go_values|go_skip|go_guarded|go_step|go_upon)
          refine zg ?_
          refine MW.name_world (W0:=w76) (by repeat(first|exact Drawn0.refl _|apply Drawn0.step)) ?_
          intro w105 hb
          replace HFfr:=zfb HFfr.out hb
          replace HN70:=znb HN70.out hb
          replace HB:=za (MB.below_stepB hB_.out HB.out hb)
          clear hb
          clear hx84_0 p84 q84 hx90_0 p90 q90
          replace HH:=zqG HH
          rcases HH with⟨HH,hk107⟩|⟨HH,hk150⟩
          ·go_wp2
           go_loopg [10] k75 (fun kq u10 w'=>∃ (x108:Int) (x109:List Int),u10=.int .i64 x108∧Aside0 ((slices_partialInsertionSortOrdered_rune.l3 kq x108 x109 a1 a2 l0 x2 x9)=some (r1,r2))∧Aside0 (kq≤k75)∧Aside0 (Kd.F (MB.frK w P0_) w' (fun k_=>True∧some k_≠((.slice (some ad57) l0.length c0):Value).ownBlock) (some ⟨0,0,none⟩) [()].length [()])∧Aside0 (Kd.N (Kd.int .i32) 21 w' B_ (fun k_=>True∧(some k_=((.slice (some ad57) l0.length c0):Value).ownBlock∨w.heap.size≤k_)) (.slice (some ad57) l0.length c0) x109)∧Aside0 (Below B_ w w'))
           case atStart=>exact⟨wrap64 (x9+1),x74,(by first|rfl|(simp;done)|(simp[*];done)),HH,⟨Nat.le_refl _⟩,⟨HFfr.out⟩,⟨(Kd.N_mono (ok:=(fun k_=>True∧(some k_=((.slice (some ad57) l0.length c0):Value).ownBlock∨w.heap.size≤k_))) HN70.out (fun k_ hk_=>hk_))⟩,⟨HB.out⟩⟩
           case round=>
            clear hk78
            clear hk80
            clear hk82
            clear hk83
            clear hk86
            clear hk88
            clear hk89
            clear hk107
            clear HH
            clear HFfr HN70 HB
            obtain⟨x108,x109,rfl,HA,HK3,HFfr,HN70,HB⟩:=hrel
            obtain⟨w111,rfl⟩:∃ wo_:World,wo_=wr:=⟨_,rfl⟩
            cases gk with
            |zero=>exact absurd HA.out (by simp[slices_partialInsertionSortOrdered_rune.l3])
            |succ k110=>
             have H:=HA.out
             clear HA
             simp only[slices_partialInsertionSortOrdered_rune.l3] at H
             have HH:=za H
             clear H
             replace HH:=zqt HH
             rcases HH with⟨HH,hk113,hk114⟩|⟨HH,hk148,hk149⟩
             ·replace HH:=zqdo HH
              obtain⟨HH,hk116⟩:=HH
              replace HH:=zqto HH
              obtain⟨HH,hk118,hk119⟩:=HH
              have p120:0≤(x108:Int):=of_decide_eq_true (by first|(with_reducible assumption)|assumption)
              have q120:x108<(l0.length:Int):=of_decide_eq_true (by first|(with_reducible assumption)|assumption)
              obtain⟨ad120,e120,hx120_0⟩:=Kd.at_int (Kd.F_now (Kd.N_F HN70.out)) x108 p120 q120
              cases e120
              replace p120:=eq_true p120
              replace q120:=eq_true q120
              replace HH:=zqdo HH
              obtain⟨HH,hk122⟩:=HH
              replace HH:=zqto HH
              obtain⟨HH,hk124,hk125⟩:=HH
              have p126:0≤((wrap64 (x108 - 1)):Int):=of_decide_eq_true (by first|(with_reducible assumption)|assumption)
              have q126:(wrap64 (x108 - 1))<(l0.length:Int):=of_decide_eq_true (by first|(with_reducible assumption)|assumption)
              obtain⟨ad126,e126,hx126_0⟩:=Kd.at_int (Kd.F_now (Kd.N_F HN70.out)) (wrap64 (x108 - 1)) p126 q126
              cases e126
              replace p126:=eq_true p126
              replace q126:=eq_true q126
              replace HH:=zd HH
              obtain⟨t127,At128,HH⟩:=HH
              by_cases c129:t127=true
              ·replace HH:=MW.hpos HH c129
               subst c129
               go_wp2
               go_quiet ((first|(go_at_call 42;first|exact Calls.quiet_of (MW.drawn (cmp_Less_rune.calls  (rd x109 x108) (rd x109 (wrap64 (x108 - 1))) true _  At128.out))|exact MW.quiet_far (MW.drawn (cmp_Less_rune.calls  (rd x109 x108) (rd x109 (wrap64 (x108 - 1))) true _  At128.out)))))
               go_wp2
               refine MW.name_world (W0:=w111) (by repeat(first|exact Drawn0.refl _|apply Drawn0.step)) ?_
               intro w130 hb
               replace HFfr:=zfb HFfr.out hb
               replace HN70:=znb HN70.out hb
               replace HB:=za (MB.below_stepB hB_.out HB.out hb)
               clear hb
               clear hx120_0 p120 q120 hx126_0 p126 q126
               go_wp2
               have hwr_:∀ n_:Int,IntKind.i64.wrap n_=wrap64 n_:=fun n_=>IntWalk.i64_left n_
               refine wp_region_any (by kernel_rfl) ?_
               change wpAny _ _ _ _ 18 #[false,false,false,false,false,false,false,false,false,false,false,false,false,false,false,false,false,false] _ w130.drew
               obtain⟨w131,hw_⟩:∃ w_:World,w_=w130.drew:=⟨_,rfl⟩
               rw[← hw_]
               have hb:Below w130.heap.size w130 w131:=by rw[hw_];exact below_drew1 (Below.refl _ _)
               clear hw_
               replace HFfr:=zfb HFfr.out hb
               replace HN70:=znb HN70.out hb
               replace HB:=za (MB.below_stepB hB_.out HB.out hb)
               clear hb
               refine zt 0 ((.slice (some ad57) l0.length c0)) #[_,_,_,_,_,_,_,_,_,_,_,_,_,_,_,_,_,_] ⟨[_,_,_,_,_,_,_,_,_,_,_,_,_,_,_,_,_,_,_,_,_,_,_,_,_,_,_,_,_,_,_,_,_,_,_,_,_,_,_,_,_,_,_,_,_,_,_,_,_,_,_,_,_,_,_,_,_,_,_,_,_,_,_,_,_,_,_,_,_,_,_,_,_,_,_,_,_,_,_,_,_,_,_,_,_,_,_,_,_,_,_,_,_,_,_,_,_,_,_,_,_,_,_,_,_,_,_,_,_,_,_,_,_,_,_,_,_,_,_,_,_,_,_,_,_,_,_,_,_,_,_,_,_].toArray,[]⟩ (h:=?_)
               refine zt 1 (.int .i64 x108) #[_,_,_,_,_,_,_,_,_,_,_,_,_,_,_,_,_,_] ⟨[_,_,_,_,_,_,_,_,_,_,_,_,_,_,_,_,_,_,_,_,_,_,_,_,_,_,_,_,_,_,_,_,_,_,_,_,_,_,_,_,_,_,_,_,_,_,_,_,_,_,_,_,_,_,_,_,_,_,_,_,_,_,_,_,_,_,_,_,_,_,_,_,_,_,_,_,_,_,_,_,_,_,_,_,_,_,_,_,_,_,_,_,_,_,_,_,_,_,_,_,_,_,_,_,_,_,_,_,_,_,_,_,_,_,_,_,_,_,_,_,_,_,_,_,_,_,_,_,_,_,_,_,_].toArray,[]⟩ (h:=?_)
               refine zt 2 ((.slice (some ad57) l0.length c0)) #[_,_,_,_,_,_,_,_,_,_,_,_,_,_,_,_,_,_] ⟨[_,_,_,_,_,_,_,_,_,_,_,_,_,_,_,_,_,_,_,_,_,_,_,_,_,_,_,_,_,_,_,_,_,_,_,_,_,_,_,_,_,_,_,_,_,_,_,_,_,_,_,_,_,_,_,_,_,_,_,_,_,_,_,_,_,_,_,_,_,_,_,_,_,_,_,_,_,_,_,_,_,_,_,_,_,_,_,_,_,_,_,_,_,_,_,_,_,_,_,_,_,_,_,_,_,_,_,_,_,_,_,_,_,_,_,_,_,_,_,_,_,_,_,_,_,_,_,_,_,_,_,_,_].toArray,[]⟩ (h:=?_)
               refine zt 3 (.int .i64 x108) #[_,_,_,_,_,_,_,_,_,_,_,_,_,_,_,_,_,_] ⟨[_,_,_,_,_,_,_,_,_,_,_,_,_,_,_,_,_,_,_,_,_,_,_,_,_,_,_,_,_,_,_,_,_,_,_,_,_,_,_,_,_,_,_,_,_,_,_,_,_,_,_,_,_,_,_,_,_,_,_,_,_,_,_,_,_,_,_,_,_,_,_,_,_,_,_,_,_,_,_,_,_,_,_,_,_,_,_,_,_,_,_,_,_,_,_,_,_,_,_,_,_,_,_,_,_,_,_,_,_,_,_,_,_,_,_,_,_,_,_,_,_,_,_,_,_,_,_,_,_,_,_,_,_].toArray,[]⟩ (h:=?_)
               refine zt 4 (.int .i64 (wrap64 (x108 - 1))) #[_,_,_,_,_,_,_,_,_,_,_,_,_,_,_,_,_,_] ⟨[_,_,_,_,_,_,_,_,_,_,_,_,_,_,_,_,_,_,_,_,_,_,_,_,_,_,_,_,_,_,_,_,_,_,_,_,_,_,_,_,_,_,_,_,_,_,_,_,_,_,_,_,_,_,_,_,_,_,_,_,_,_,_,_,_,_,_,_,_,_,_,_,_,_,_,_,_,_,_,_,_,_,_,_,_,_,_,_,_,_,_,_,_,_,_,_,_,_,_,_,_,_,_,_,_,_,_,_,_,_,_,_,_,_,_,_,_,_,_,_,_,_,_,_,_,_,_,_,_,_,_,_,_].toArray,[]⟩ (h:=?_)
               refine zt 5 ((.slice (some ad57) l0.length c0)) #[_,_,_,_,_,_,_,_,_,_,_,_,_,_,_,_,_,_] ⟨[_,_,_,_,_,_,_,_,_,_,_,_,_,_,_,_,_,_,_,_,_,_,_,_,_,_,_,_,_,_,_,_,_,_,_,_,_,_,_,_,_,_,_,_,_,_,_,_,_,_,_,_,_,_,_,_,_,_,_,_,_,_,_,_,_,_,_,_,_,_,_,_,_,_,_,_,_,_,_,_,_,_,_,_,_,_,_,_,_,_,_,_,_,_,_,_,_,_,_,_,_,_,_,_,_,_,_,_,_,_,_,_,_,_,_,_,_,_,_,_,_,_,_,_,_,_,_,_,_,_,_,_,_].toArray,[]⟩ (h:=?_)
               refine zt 6 (.int .i64 x108) #[_,_,_,_,_,_,_,_,_,_,_,_,_,_,_,_,_,_] ⟨[_,_,_,_,_,_,_,_,_,_,_,_,_,_,_,_,_,_,_,_,_,_,_,_,_,_,_,_,_,_,_,_,_,_,_,_,_,_,_,_,_,_,_,_,_,_,_,_,_,_,_,_,_,_,_,_,_,_,_,_,_,_,_,_,_,_,_,_,_,_,_,_,_,_,_,_,_,_,_,_,_,_,_,_,_,_,_,_,_,_,_,_,_,_,_,_,_,_,_,_,_,_,_,_,_,_,_,_,_,_,_,_,_,_,_,_,_,_,_,_,_,_,_,_,_,_,_,_,_,_,_,_,_].toArray,[]⟩ (h:=?_)
               refine zt 7 (.int .i64 (wrap64 (x108 - 1))) #[_,_,_,_,_,_,_,_,_,_,_,_,_,_,_,_,_,_] ⟨[_,_,_,_,_,_,_,_,_,_,_,_,_,_,_,_,_,_,_,_,_,_,_,_,_,_,_,_,_,_,_,_,_,_,_,_,_,_,_,_,_,_,_,_,_,_,_,_,_,_,_,_,_,_,_,_,_,_,_,_,_,_,_,_,_,_,_,_,_,_,_,_,_,_,_,_,_,_,_,_,_,_,_,_,_,_,_,_,_,_,_,_,_,_,_,_,_,_,_,_,_,_,_,_,_,_,_,_,_,_,_,_,_,_,_,_,_,_,_,_,_,_,_,_,_,_,_,_,_,_,_,_,_].toArray,[]⟩ (h:=?_)
               have p132:0≤((wrap64 (x108 - 1)):Int):=of_decide_eq_true (by first|(with_reducible assumption)|assumption)
               have q132:(wrap64 (x108 - 1))<(l0.length:Int):=of_decide_eq_true (by first|(with_reducible assumption)|assumption)
               obtain⟨ad132,e132,hx132_0⟩:=Kd.at_int (Kd.F_now (Kd.N_F HN70.out)) (wrap64 (x108 - 1)) p132 q132
               cases e132
               replace p132:=eq_true p132
               replace q132:=eq_true q132
               refine zt 8 (.pointer (some (ad57.add ((wrap64 (x108 - 1)).toNat)))) #[_,_,_,_,_,_,_,_,_,_,_,_,_,_,_,_,_,_] ⟨[_,_,_,_,_,_,_,_,_,_,_,_,_,_,_,_,_,_,_,_,_,_,_,_,_,_,_,_,_,_,_,_,_,_,_,_,_,_,_,_,_,_,_,_,_,_,_,_,_,_,_,_,_,_,_,_,_,_,_,_,_,_,_,_,_,_,_,_,_,_,_,_,_,_,_,_,_,_,_,_,_,_,_,_,_,_,_,_,_,_,_,_,_,_,_,_,_,_,_,_,_,_,_,_,_,_,_,_,_,_,_,_,_,_,_,_,_,_,_,_,_,_,_,_,_,_,_,_,_,_,_,_,_].toArray,[]⟩ (h:=?_)
               refine zt 10 ((.slice (some ad57) l0.length c0)) #[_,_,_,_,_,_,_,_,_,_,_,_,_,_,_,_,_,_] ⟨[_,_,_,_,_,_,_,_,_,_,_,_,_,_,_,_,_,_,_,_,_,_,_,_,_,_,_,_,_,_,_,_,_,_,_,_,_,_,_,_,_,_,_,_,_,_,_,_,_,_,_,_,_,_,_,_,_,_,_,_,_,_,_,_,_,_,_,_,_,_,_,_,_,_,_,_,_,_,_,_,_,_,_,_,_,_,_,_,_,_,_,_,_,_,_,_,_,_,_,_,_,_,_,_,_,_,_,_,_,_,_,_,_,_,_,_,_,_,_,_,_,_,_,_,_,_,_,_,_,_,_,_,_].toArray,[]⟩ (h:=?_)
               refine zt 11 (.int .i64 x108) #[_,_,_,_,_,_,_,_,_,_,_,_,_,_,_,_,_,_] ⟨[_,_,_,_,_,_,_,_,_,_,_,_,_,_,_,_,_,_,_,_,_,_,_,_,_,_,_,_,_,_,_,_,_,_,_,_,_,_,_,_,_,_,_,_,_,_,_,_,_,_,_,_,_,_,_,_,_,_,_,_,_,_,_,_,_,_,_,_,_,_,_,_,_,_,_,_,_,_,_,_,_,_,_,_,_,_,_,_,_,_,_,_,_,_,_,_,_,_,_,_,_,_,_,_,_,_,_,_,_,_,_,_,_,_,_,_,_,_,_,_,_,_,_,_,_,_,_,_,_,_,_,_,_].toArray,[]⟩ (h:=?_)
               have p133:0≤(x108:Int):=of_decide_eq_true (by first|(with_reducible assumption)|assumption)
               have q133:x108<(l0.length:Int):=of_decide_eq_true (by first|(with_reducible assumption)|assumption)
               obtain⟨ad133,e133,hx133_0⟩:=Kd.at_int (Kd.F_now (Kd.N_F HN70.out)) x108 p133 q133
               cases e133
               replace p133:=eq_true p133
               replace q133:=eq_true q133
               refine zt 12 (.pointer (some (ad57.add (x108.toNat)))) #[_,_,_,_,_,_,_,_,_,_,_,_,_,_,_,_,_,_] ⟨[_,_,_,_,_,_,_,_,_,_,_,_,_,_,_,_,_,_,_,_,_,_,_,_,_,_,_,_,_,_,_,_,_,_,_,_,_,_,_,_,_,_,_,_,_,_,_,_,_,_,_,_,_,_,_,_,_,_,_,_,_,_,_,_,_,_,_,_,_,_,_,_,_,_,_,_,_,_,_,_,_,_,_,_,_,_,_,_,_,_,_,_,_,_,_,_,_,_,_,_,_,_,_,_,_,_,_,_,_,_,_,_,_,_,_,_,_,_,_,_,_,_,_,_,_,_,_,_,_,_,_,_,_].toArray,[]⟩ (h:=?_)
               refine MW.any_two (i:=9) (j:=13) (vi:=.int .i32 (rd x109 (wrap64 (x108 - 1)))) (vj:=.int .i32 (rd x109 x108)) #[true,true,true,true,true,true,true,true,true,true,true,true,true,true,false,false,false,false] ⟨[(.slice (some ad57) l0.length c0),(.int .i64 a1),(.int .i64 a2),undef,undef,undef,u6,(.int .i64 x9),(.int .i64 x2),(.int .i64 x73),(.int .i64 x108),(.int .i64 a1),(.int .i64 (wrap64 (a1+1))),(.int .i64 x2),(.bool true),u15,u16,u17,u18,u19,u20,u21,u22,u23,u24,u25,u26,u27,u28,u29,u30,u31,(.bool false),u33,u34,(.int .i64 x9),(.int .i64 a2),(.bool false),(.int .i64 a2),(.int .i64 a1),(.int .i64 (wrap64 (a2 - a1))),(.bool false),(.slice (some ad57) l0.length c0),(.int .i64 x9),(.slice (some ad57) l0.length c0),(.int .i64 x9),(.int .i64 (wrap64 (x9 - 1))),(.slice (some ad57) l0.length c0),(.int .i64 x9),(.int .i64 (wrap64 (x9 - 1))),(.pointer (some (ad57.add ((wrap64 (x9 - 1)).toNat)))),(.int .i32 (rd x3 (wrap64 (x9 - 1)))),(.slice (some ad57) l0.length c0),(.int .i64 x9),(.pointer (some (ad57.add (x9.toNat)))),(.int .i32 (rd x3 x9)),(.pointer (some (ad57.add (x9.toNat)))),(.pointer (some (ad57.add ((wrap64 (x9 - 1)).toNat)))),(.int .i64 x9),(.int .i64 a1),(.int .i64 (wrap64 (x9 - a1))),(.bool true),(.int .i64 x9),(.int .i64 (wrap64 (x9 - 1))),(.int .i64 x73),(.bool true),u66,u67,(.slice (some ad57) l0.length c0),(.int .i64 x73),(.pointer (some (ad57.add (x73.toNat)))),(.int .i32 (rd x74 x73)),(.slice (some ad57) l0.length c0),(.int .i64 x73),(.int .i64 (wrap64 (x73 - 1))),(.pointer (some (ad57.add ((wrap64 (x73 - 1)).toNat)))),(.int .i32 (rd x74 (wrap64 (x73 - 1)))),(.bool false),(.bool true),u79,u80,u81,u82,u83,u84,u85,u86,u87,u88,u89,u90,u91,u92,u93,u94,(.int .i64 a2),(.int .i64 x9),(.int .i64 (wrap64 (a2 - x9))),(.bool true),(.int .i64 x9),(.int .i64 (wrap64 (x9+1))),(.int .i64 x108),(.int .i64 a2),(.bool true),u104,u105,(.slice (some ad57) l0.length c0),(.int .i64 x108),(.pointer (some (ad57.add (x108.toNat)))),(.int .i32 (rd x109 x108)),(.slice (some ad57) l0.length c0),(.int .i64 x108),(.int .i64 (wrap64 (x108 - 1))),(.pointer (some (ad57.add ((wrap64 (x108 - 1)).toNat)))),(.int .i32 (rd x109 (wrap64 (x108 - 1)))),(.bool true),(.bool false),(.slice (some ad57) l0.length c0),(.int .i64 x108),(.slice (some ad57) l0.length c0),(.int .i64 x108),(.int .i64 (wrap64 (x108 - 1))),(.slice (some ad57) l0.length c0),(.int .i64 x108),(.int .i64 (wrap64 (x108 - 1))),(.pointer (some (ad57.add ((wrap64 (x108 - 1)).toNat)))),(.int .i32 (rd x109 (wrap64 (x108 - 1)))),(.slice (some ad57) l0.length c0),(.int .i64 x108),(.pointer (some (ad57.add (x108.toNat)))),(.int .i32 (rd x109 x108)),u131,u132].toArray,[]⟩ (by decide) rfl rfl (by kernel_rfl) (by kernel_rfl) (by kernel_rfl) (by kernel_rfl) (by kernel_rfl) (by first|rfl|(go_simp;done)|(go_simp;rfl)) (by first|rfl|(go_simp;done)|(go_simp;rfl)) (by first|rfl|(go_simp;done)|(go_simp;rfl)) (by first|rfl|(go_simp;done)|(go_simp;rfl)) (by kernel_rfl) (by kernel_rfl) (by kernel_rfl) (by kernel_rfl) (by kernel_rfl) (by kernel_rfl) ?_
               refine zt 14 (.pointer (some (ad57.add (x108.toNat)))) #[_,_,_,_,_,_,_,_,_,_,_,_,_,_,_,_,_,_] ⟨[_,_,_,_,_,_,_,_,_,_,_,_,_,_,_,_,_,_,_,_,_,_,_,_,_,_,_,_,_,_,_,_,_,_,_,_,_,_,_,_,_,_,_,_,_,_,_,_,_,_,_,_,_,_,_,_,_,_,_,_,_,_,_,_,_,_,_,_,_,_,_,_,_,_,_,_,_,_,_,_,_,_,_,_,_,_,_,_,_,_,_,_,_,_,_,_,_,_,_,_,_,_,_,_,_,_,_,_,_,_,_,_,_,_,_,_,_,_,_,_,_,_,_,_,_,_,_,_,_,_,_,_,_].toArray,[]⟩ (h:=?_)
               refine MW.any_seq 15 3 rfl (by kernel_rfl) ?_
               simp only[List.drop_succ_cons,List.drop_zero]
               clear hwr_
               obtain⟨y134,hy134⟩:∃ y_:List Int,y_=(List.set x109 x108.toNat (rd x109 (wrap64 (x108 - 1)))):=⟨_,rfl⟩
               have H:((some (List.set y134 (wrap64 (x108 - 1)).toNat (rd x109 x108):List Int)).bind fun y138=>((slices_partialInsertionSortOrdered_rune.l3 k110 (wrap64 (x108+1)) y138 a1 a2 l0 x2 x9)))=some (r1,r2):=by rw[hy134];exact HH.out
               replace HH:=za H
               clear H
               have NYy134:=za hy134
               clear hy134
               go_wp2_with (((with_reducible refine gate_store (t:=21) (p:=131) rfl ?_);(try(refine gate_guard (by rfl) ?_;dsimp only));refine MW.ev_set1 (n:=l0.length) B_ rfl rfl _ _ _ rfl 21 x108 x109 (rd x109 (wrap64 (x108 - 1))) (fun k_=>True∧(some k_=((.slice (some ad57) l0.length c0):Value).ownBlock∨w.heap.size≤k_)) (by rfl) (by rfl) (by kernel_rfl) HN70.out (of_decide_eq_true (by first|(with_reducible assumption)|assumption)) (of_decide_eq_true (by first|(with_reducible assumption)|assumption)) HB.out ?_;intro w135 hn1 hb1 hg1);refine stop_ ?_)
               refine zg ?_
               replace HFfr:=za (Kd.F_grown (ok:=(fun k_=>True∧some k_≠((.slice (some ad57) l0.length c0):Value).ownBlock)) HFfr.out hg1 (fun k_ hk_=>hk_.2))
               replace HB:=za hb1
               clear HN70
               have HN136:=za (by rw[NYy134.out];exact hn1:Kd.N (Kd.int .i32) 21 w135 B_ (fun k_=>True∧(some k_=((.slice (some ad57) l0.length c0):Value).ownBlock∨w.heap.size≤k_)) (.slice (some ad57) l0.length c0) y134)
               clear hn1 hb1 hg1
               clear hx132_0 p132 q132 hx133_0 p133 q133
               have p137:0≤((wrap64 (x108 - 1)):Int):=of_decide_eq_true (by first|(with_reducible assumption)|assumption)
               have q137:(wrap64 (x108 - 1))<(l0.length:Int):=of_decide_eq_true (by first|(with_reducible assumption)|assumption)
               obtain⟨ad137,e137,hx137_0⟩:=Kd.at_int (Kd.F_now (Kd.N_F HN136.out)) (wrap64 (x108 - 1)) p137 q137
               cases e137
               replace p137:=eq_true p137
               replace q137:=eq_true q137
               obtain⟨y138,hy138⟩:∃ y_:List Int,y_=(List.set y134 (wrap64 (x108 - 1)).toNat (rd x109 x108)):=⟨_,rfl⟩
               have H:((slices_partialInsertionSortOrdered_rune.l3 k110 (wrap64 (x108+1)) y138 a1 a2 l0 x2 x9))=some (r1,r2):=by rw[hy138];exact HH.out
               replace HH:=za H
               clear H
               have NYy138:=za hy138
               clear hy138
               go_wp2_with (((with_reducible refine gate_store (t:=21) (p:=132) rfl ?_);(try(refine gate_guard (by rfl) ?_;dsimp only));refine MW.ev_set1 (n:=l0.length) B_ rfl rfl _ _ _ rfl 21 (wrap64 (x108 - 1)) y134 (rd x109 x108) (fun k_=>True∧(some k_=((.slice (some ad57) l0.length c0):Value).ownBlock∨w.heap.size≤k_)) (by rfl) (by rfl) (by kernel_rfl) HN136.out (of_decide_eq_true (by first|(with_reducible assumption)|assumption)) (of_decide_eq_true (by first|(with_reducible assumption)|assumption)) HB.out ?_;intro w139 hn1 hb1 hg1);refine stop_ ?_)
               refine zg ?_
               replace HFfr:=za (Kd.F_grown (ok:=(fun k_=>True∧some k_≠((.slice (some ad57) l0.length c0):Value).ownBlock)) HFfr.out hg1 (fun k_ hk_=>hk_.2))
               replace HB:=za hb1
               clear HN136
               have HN140:=za (by rw[NYy138.out];exact hn1:Kd.N (Kd.int .i32) 21 w139 B_ (fun k_=>True∧(some k_=((.slice (some ad57) l0.length c0):Value).ownBlock∨w.heap.size≤k_)) (.slice (some ad57) l0.length c0) y138)
               clear hn1 hb1 hg1
               clear hx137_0 p137 q137
               go_wp2
               go_roundg k110
               case measure=>have:=HK0.out;have:=HK1.out;have:=HK2.out;have:=HK3.out;omega
               case rel=>exact⟨wrap64 (x108+1),y138,(by first|rfl|(simp;done)|(simp[*];done)),HH,⟨by have:=HK0.out;have:=HK1.out;have:=HK2.out;have:=HK3.out;omega⟩,⟨HFfr.out⟩,⟨(Kd.N_mono (ok:=(fun k_=>True∧(some k_=((.slice (some ad57) l0.length c0):Value).ownBlock∨w.heap.size≤k_))) HN140.out (fun k_ hk_=>hk_))⟩,⟨HB.out⟩⟩
              replace HH:=MW.hneg HH c129
              replace c129:=Bool.eq_false_iff.mpr c129
              subst c129
              go_wp2
              go_quiet ((first|(go_at_call 42;first|exact Calls.quiet_of (MW.drawn (cmp_Less_rune.calls  (rd x109 x108) (rd x109 (wrap64 (x108 - 1))) false _  At128.out))|exact MW.quiet_far (MW.drawn (cmp_Less_rune.calls  (rd x109 x108) (rd x109 (wrap64 (x108 - 1))) false _  At128.out)))))
              repeat(first|(refine MQ.code_stop (id:=4) ?_)|go_values|go_skip|go_guarded|go_step|go_upon)
              refine zg ?_
              refine MW.name_world (W0:=w111) (by repeat(first|exact Drawn0.refl _|apply Drawn0.step)) ?_
              intro w141 hb
              replace HFfr:=zfb HFfr.out hb
              replace HN70:=znb HN70.out hb
              replace HB:=za (MB.below_stepB hB_.out HB.out hb)
              clear hb
              clear hx120_0 p120 q120 hx126_0 p126 q126
              go_wp2
              go_roundg k110
              case measure=>have:=HK0.out;have:=HK1.out;have:=HK2.out;have:=HK3.out;omega
              case rel=>exact⟨x9,wrap64 (x2+1),x109,(by first|rfl|(simp;done)|(simp[*];done)),(by first|rfl|(simp;done)|(simp[*];done)),HH,⟨by have:=HK0.out;have:=HK1.out;have:=HK2.out;have:=HK3.out;omega⟩,⟨HFfr.out⟩,⟨(Kd.N_mono (ok:=(fun k_=>True∧(some k_=((.slice (some ad57) l0.length c0):Value).ownBlock∨w.heap.size≤k_))) HN70.out (fun k_ hk_=>hk_))⟩,⟨HB.out⟩⟩
             go_wp2
             go_roundg k110
             case measure=>have:=HK0.out;have:=HK1.out;have:=HK2.out;have:=HK3.out;omega
             case rel=>exact⟨x9,wrap64 (x2+1),x109,(by first|rfl|(simp;done)|(simp[*];done)),(by first|rfl|(simp;done)|(simp[*];done)),HH,⟨by have:=HK0.out;have:=HK1.out;have:=HK2.out;have:=HK3.out;omega⟩,⟨HFfr.out⟩,⟨(Kd.N_mono (ok:=(fun k_=>True∧(some k_=((.slice (some ad57) l0.length c0):Value).ownBlock∨w.heap.size≤k_))) HN70.out (fun k_ hk_=>hk_))⟩,⟨HB.out⟩⟩
          go_wp2
          go_roundg k75
          case measure=>have:=HK0.out;have:=HK1.out;have:=HK2.out;omega
          case rel=>exact⟨x9,wrap64 (x2+1),x74,(by first|rfl|(simp;done)|(simp[*];done)),(by first|rfl|(simp;done)|(simp[*];done)),HH,⟨by have:=HK0.out;have:=HK1.out;have:=HK2.out;omega⟩,⟨HFfr.out⟩,⟨(Kd.N_mono (ok:=(fun k_=>True∧(some k_=((.slice (some ad57) l0.length c0):Value).ownBlock∨w.heap.size≤k_))) HN70.out (fun k_ hk_=>hk_))⟩,⟨HB.out⟩⟩
         replace HH:=zqG HH
         rcases HH with⟨HH,hk159⟩|⟨HH,hk202⟩
         ·go_wp2
          go_loopg [10] k75 (fun kq u10 w'=>∃ (x160:Int) (x161:List Int),u10=.int .i64 x160∧Aside0 ((slices_partialInsertionSortOrdered_rune.l4 kq x160 x161 a1 a2 l0 x2 x9)=some (r1,r2))∧Aside0 (kq≤k75)∧Aside0 (Kd.F (MB.frK w P0_) w' (fun k_=>True∧some k_≠((.slice (some ad57) l0.length c0):Value).ownBlock) (some ⟨0,0,none⟩) [()].length [()])∧Aside0 (Kd.N (Kd.int .i32) 21 w' B_ (fun k_=>True∧(some k_=((.slice (some ad57) l0.length c0):Value).ownBlock∨w.heap.size≤k_)) (.slice (some ad57) l0.length c0) x161)∧Aside0 (Below B_ w w'))
          case atStart=>exact⟨wrap64 (x9+1),x74,(by first|rfl|(simp;done)|(simp[*];done)),HH,⟨Nat.le_refl _⟩,⟨HFfr.out⟩,⟨(Kd.N_mono (ok:=(fun k_=>True∧(some k_=((.slice (some ad57) l0.length c0):Value).ownBlock∨w.heap.size≤k_))) HN70.out (fun k_ hk_=>hk_))⟩,⟨HB.out⟩⟩
          case round=>
           clear hk157
           clear hk159
           clear HH
           clear HFfr HN70 HB
           obtain⟨x160,x161,rfl,HA,HK4,HFfr,HN70,HB⟩:=hrel
           obtain⟨w163,rfl⟩:∃ wo_:World,wo_=wr:=⟨_,rfl⟩
           cases gk with
           |zero=>exact absurd HA.out (by simp[slices_partialInsertionSortOrdered_rune.l4])
           |succ k162=>
            have H:=HA.out
            clear HA
            simp only[slices_partialInsertionSortOrdered_rune.l4] at H
            have HH:=za H
            clear H
            replace HH:=zqt HH
            rcases HH with⟨HH,hk165,hk166⟩|⟨HH,hk200,hk201⟩
            ·replace HH:=zqdo HH
             obtain⟨HH,hk168⟩:=HH
             replace HH:=zqto HH
             obtain⟨HH,hk170,hk171⟩:=HH
             have p172:0≤(x160:Int):=of_decide_eq_true (by first|(with_reducible assumption)|assumption)
             have q172:x160<(l0.length:Int):=of_decide_eq_true (by first|(with_reducible assumption)|assumption)
             obtain⟨ad172,e172,hx172_0⟩:=Kd.at_int (Kd.F_now (Kd.N_F HN70.out)) x160 p172 q172
             cases e172
             replace p172:=eq_true p172
             replace q172:=eq_true q172
             replace HH:=zqdo HH
             obtain⟨HH,hk174⟩:=HH
             replace HH:=zqto HH
             obtain⟨HH,hk176,hk177⟩:=HH
             have p178:0≤((wrap64 (x160 - 1)):Int):=of_decide_eq_true (by first|(with_reducible assumption)|assumption)
             have q178:(wrap64 (x160 - 1))<(l0.length:Int):=of_decide_eq_true (by first|(with_reducible assumption)|assumption)
             obtain⟨ad178,e178,hx178_0⟩:=Kd.at_int (Kd.F_now (Kd.N_F HN70.out)) (wrap64 (x160 - 1)) p178 q178
             cases e178
             replace p178:=eq_true p178
             replace q178:=eq_true q178
             replace HH:=zd HH
             obtain⟨t179,At180,HH⟩:=HH
             by_cases c181:t179=true
             ·replace HH:=MW.hpos HH c181
              subst c181
              go_wp2
              go_quiet ((first|(go_at_call 42;first|exact Calls.quiet_of (MW.drawn (cmp_Less_rune.calls  (rd x161 x160) (rd x161 (wrap64 (x160 - 1))) true _  At180.out))|exact MW.quiet_far (MW.drawn (cmp_Less_rune.calls  (rd x161 x160) (rd x161 (wrap64 (x160 - 1))) true _  At180.out)))))
              go_wp2
              refine MW.name_world (W0:=w163) (by repeat(first|exact Drawn0.refl _|apply Drawn0.step)) ?_
              intro w182 hb
              replace HFfr:=zfb HFfr.out hb
              replace HN70:=znb HN70.out hb
              replace HB:=za (MB.below_stepB hB_.out HB.out hb)
              clear hb
              clear hx172_0 p172 q172 hx178_0 p178 q178
              go_wp2
              have hwr_:∀ n_:Int,IntKind.i64.wrap n_=wrap64 n_:=fun n_=>IntWalk.i64_left n_
              refine wp_region_any (by kernel_rfl) ?_
              change wpAny _ _ _ _ 18 #[false,false,false,false,false,false,false,false,false,false,false,false,false,false,false,false,false,false] _ w182.drew
              obtain⟨w183,hw_⟩:∃ w_:World,w_=w182.drew:=⟨_,rfl⟩
              rw[← hw_]
              have hb:Below w182.heap.size w182 w183:=by rw[hw_];exact below_drew1 (Below.refl _ _)
              clear hw_
              replace HFfr:=zfb HFfr.out hb
              replace HN70:=znb HN70.out hb
              replace HB:=za (MB.below_stepB hB_.out HB.out hb)
              clear hb
              refine zt 0 ((.slice (some ad57) l0.length c0)) #[_,_,_,_,_,_,_,_,_,_,_,_,_,_,_,_,_,_] ⟨[_,_,_,_,_,_,_,_,_,_,_,_,_,_,_,_,_,_,_,_,_,_,_,_,_,_,_,_,_,_,_,_,_,_,_,_,_,_,_,_,_,_,_,_,_,_,_,_,_,_,_,_,_,_,_,_,_,_,_,_,_,_,_,_,_,_,_,_,_,_,_,_,_,_,_,_,_,_,_,_,_,_,_,_,_,_,_,_,_,_,_,_,_,_,_,_,_,_,_,_,_,_,_,_,_,_,_,_,_,_,_,_,_,_,_,_,_,_,_,_,_,_,_,_,_,_,_,_,_,_,_,_,_].toArray,[]⟩ (h:=?_)
              refine zt 1 (.int .i64 x160) #[_,_,_,_,_,_,_,_,_,_,_,_,_,_,_,_,_,_] ⟨[_,_,_,_,_,_,_,_,_,_,_,_,_,_,_,_,_,_,_,_,_,_,_,_,_,_,_,_,_,_,_,_,_,_,_,_,_,_,_,_,_,_,_,_,_,_,_,_,_,_,_,_,_,_,_,_,_,_,_,_,_,_,_,_,_,_,_,_,_,_,_,_,_,_,_,_,_,_,_,_,_,_,_,_,_,_,_,_,_,_,_,_,_,_,_,_,_,_,_,_,_,_,_,_,_,_,_,_,_,_,_,_,_,_,_,_,_,_,_,_,_,_,_,_,_,_,_,_,_,_,_,_,_].toArray,[]⟩ (h:=?_)
              refine zt 2 ((.slice (some ad57) l0.length c0)) #[_,_,_,_,_,_,_,_,_,_,_,_,_,_,_,_,_,_] ⟨[_,_,_,_,_,_,_,_,_,_,_,_,_,_,_,_,_,_,_,_,_,_,_,_,_,_,_,_,_,_,_,_,_,_,_,_,_,_,_,_,_,_,_,_,_,_,_,_,_,_,_,_,_,_,_,_,_,_,_,_,_,_,_,_,_,_,_,_,_,_,_,_,_,_,_,_,_,_,_,_,_,_,_,_,_,_,_,_,_,_,_,_,_,_,_,_,_,_,_,_,_,_,_,_,_,_,_,_,_,_,_,_,_,_,_,_,_,_,_,_,_,_,_,_,_,_,_,_,_,_,_,_,_].toArray,[]⟩ (h:=?_)
              refine zt 3 (.int .i64 x160) #[_,_,_,_,_,_,_,_,_,_,_,_,_,_,_,_,_,_] ⟨[_,_,_,_,_,_,_,_,_,_,_,_,_,_,_,_,_,_,_,_,_,_,_,_,_,_,_,_,_,_,_,_,_,_,_,_,_,_,_,_,_,_,_,_,_,_,_,_,_,_,_,_,_,_,_,_,_,_,_,_,_,_,_,_,_,_,_,_,_,_,_,_,_,_,_,_,_,_,_,_,_,_,_,_,_,_,_,_,_,_,_,_,_,_,_,_,_,_,_,_,_,_,_,_,_,_,_,_,_,_,_,_,_,_,_,_,_,_,_,_,_,_,_,_,_,_,_,_,_,_,_,_,_].toArray,[]⟩ (h:=?_)
              refine zt 4 (.int .i64 (wrap64 (x160 - 1))) #[_,_,_,_,_,_,_,_,_,_,_,_,_,_,_,_,_,_] ⟨[_,_,_,_,_,_,_,_,_,_,_,_,_,_,_,_,_,_,_,_,_,_,_,_,_,_,_,_,_,_,_,_,_,_,_,_,_,_,_,_,_,_,_,_,_,_,_,_,_,_,_,_,_,_,_,_,_,_,_,_,_,_,_,_,_,_,_,_,_,_,_,_,_,_,_,_,_,_,_,_,_,_,_,_,_,_,_,_,_,_,_,_,_,_,_,_,_,_,_,_,_,_,_,_,_,_,_,_,_,_,_,_,_,_,_,_,_,_,_,_,_,_,_,_,_,_,_,_,_,_,_,_,_].toArray,[]⟩ (h:=?_)
              refine zt 5 ((.slice (some ad57) l0.length c0)) #[_,_,_,_,_,_,_,_,_,_,_,_,_,_,_,_,_,_] ⟨[_,_,_,_,_,_,_,_,_,_,_,_,_,_,_,_,_,_,_,_,_,_,_,_,_,_,_,_,_,_,_,_,_,_,_,_,_,_,_,_,_,_,_,_,_,_,_,_,_,_,_,_,_,_,_,_,_,_,_,_,_,_,_,_,_,_,_,_,_,_,_,_,_,_,_,_,_,_,_,_,_,_,_,_,_,_,_,_,_,_,_,_,_,_,_,_,_,_,_,_,_,_,_,_,_,_,_,_,_,_,_,_,_,_,_,_,_,_,_,_,_,_,_,_,_,_,_,_,_,_,_,_,_].toArray,[]⟩ (h:=?_)
              refine zt 6 (.int .i64 x160) #[_,_,_,_,_,_,_,_,_,_,_,_,_,_,_,_,_,_] ⟨[_,_,_,_,_,_,_,_,_,_,_,_,_,_,_,_,_,_,_,_,_,_,_,_,_,_,_,_,_,_,_,_,_,_,_,_,_,_,_,_,_,_,_,_,_,_,_,_,_,_,_,_,_,_,_,_,_,_,_,_,_,_,_,_,_,_,_,_,_,_,_,_,_,_,_,_,_,_,_,_,_,_,_,_,_,_,_,_,_,_,_,_,_,_,_,_,_,_,_,_,_,_,_,_,_,_,_,_,_,_,_,_,_,_,_,_,_,_,_,_,_,_,_,_,_,_,_,_,_,_,_,_,_].toArray,[]⟩ (h:=?_)
              refine zt 7 (.int .i64 (wrap64 (x160 - 1))) #[_,_,_,_,_,_,_,_,_,_,_,_,_,_,_,_,_,_] ⟨[_,_,_,_,_,_,_,_,_,_,_,_,_,_,_,_,_,_,_,_,_,_,_,_,_,_,_,_,_,_,_,_,_,_,_,_,_,_,_,_,_,_,_,_,_,_,_,_,_,_,_,_,_,_,_,_,_,_,_,_,_,_,_,_,_,_,_,_,_,_,_,_,_,_,_,_,_,_,_,_,_,_,_,_,_,_,_,_,_,_,_,_,_,_,_,_,_,_,_,_,_,_,_,_,_,_,_,_,_,_,_,_,_,_,_,_,_,_,_,_,_,_,_,_,_,_,_,_,_,_,_,_,_].toArray,[]⟩ (h:=?_)
              have p184:0≤((wrap64 (x160 - 1)):Int):=of_decide_eq_true (by first|(with_reducible assumption)|assumption)
              have q184:(wrap64 (x160 - 1))<(l0.length:Int):=of_decide_eq_true (by first|(with_reducible assumption)|assumption)
              obtain⟨ad184,e184,hx184_0⟩:=Kd.at_int (Kd.F_now (Kd.N_F HN70.out)) (wrap64 (x160 - 1)) p184 q184
              cases e184
              replace p184:=eq_true p184
              replace q184:=eq_true q184
              refine zt 8 (.pointer (some (ad57.add ((wrap64 (x160 - 1)).toNat)))) #[_,_,_,_,_,_,_,_,_,_,_,_,_,_,_,_,_,_] ⟨[_,_,_,_,_,_,_,_,_,_,_,_,_,_,_,_,_,_,_,_,_,_,_,_,_,_,_,_,_,_,_,_,_,_,_,_,_,_,_,_,_,_,_,_,_,_,_,_,_,_,_,_,_,_,_,_,_,_,_,_,_,_,_,_,_,_,_,_,_,_,_,_,_,_,_,_,_,_,_,_,_,_,_,_,_,_,_,_,_,_,_,_,_,_,_,_,_,_,_,_,_,_,_,_,_,_,_,_,_,_,_,_,_,_,_,_,_,_,_,_,_,_,_,_,_,_,_,_,_,_,_,_,_].toArray,[]⟩ (h:=?_)
              refine zt 10 ((.slice (some ad57) l0.length c0)) #[_,_,_,_,_,_,_,_,_,_,_,_,_,_,_,_,_,_] ⟨[_,_,_,_,_,_,_,_,_,_,_,_,_,_,_,_,_,_,_,_,_,_,_,_,_,_,_,_,_,_,_,_,_,_,_,_,_,_,_,_,_,_,_,_,_,_,_,_,_,_,_,_,_,_,_,_,_,_,_,_,_,_,_,_,_,_,_,_,_,_,_,_,_,_,_,_,_,_,_,_,_,_,_,_,_,_,_,_,_,_,_,_,_,_,_,_,_,_,_,_,_,_,_,_,_,_,_,_,_,_,_,_,_,_,_,_,_,_,_,_,_,_,_,_,_,_,_,_,_,_,_,_,_].toArray,[]⟩ (h:=?_)
              refine zt 11 (.int .i64 x160) #[_,_,_,_,_,_,_,_,_,_,_,_,_,_,_,_,_,_] ⟨[_,_,_,_,_,_,_,_,_,_,_,_,_,_,_,_,_,_,_,_,_,_,_,_,_,_,_,_,_,_,_,_,_,_,_,_,_,_,_,_,_,_,_,_,_,_,_,_,_,_,_,_,_,_,_,_,_,_,_,_,_,_,_,_,_,_,_,_,_,_,_,_,_,_,_,_,_,_,_,_,_,_,_,_,_,_,_,_,_,_,_,_,_,_,_,_,_,_,_,_,_,_,_,_,_,_,_,_,_,_,_,_,_,_,_,_,_,_,_,_,_,_,_,_,_,_,_,_,_,_,_,_,_].toArray,[]⟩ (h:=?_)
              have p185:0≤(x160:Int):=of_decide_eq_true (by first|(with_reducible assumption)|assumption)
              have q185:x160<(l0.length:Int):=of_decide_eq_true (by first|(with_reducible assumption)|assumption)
              obtain⟨ad185,e185,hx185_0⟩:=Kd.at_int (Kd.F_now (Kd.N_F HN70.out)) x160 p185 q185
              cases e185
              replace p185:=eq_true p185
              replace q185:=eq_true q185
              refine zt 12 (.pointer (some (ad57.add (x160.toNat)))) #[_,_,_,_,_,_,_,_,_,_,_,_,_,_,_,_,_,_] ⟨[_,_,_,_,_,_,_,_,_,_,_,_,_,_,_,_,_,_,_,_,_,_,_,_,_,_,_,_,_,_,_,_,_,_,_,_,_,_,_,_,_,_,_,_,_,_,_,_,_,_,_,_,_,_,_,_,_,_,_,_,_,_,_,_,_,_,_,_,_,_,_,_,_,_,_,_,_,_,_,_,_,_,_,_,_,_,_,_,_,_,_,_,_,_,_,_,_,_,_,_,_,_,_,_,_,_,_,_,_,_,_,_,_,_,_,_,_,_,_,_,_,_,_,_,_,_,_,_,_,_,_,_,_].toArray,[]⟩ (h:=?_)
              refine MW.any_two (i:=9) (j:=13) (vi:=.int .i32 (rd x161 (wrap64 (x160 - 1)))) (vj:=.int .i32 (rd x161 x160)) #[true,true,true,true,true,true,true,true,true,true,true,true,true,true,false,false,false,false] ⟨[(.slice (some ad57) l0.length c0),(.int .i64 a1),(.int .i64 a2),undef,undef,undef,u6,(.int .i64 x9),(.int .i64 x2),(.int .i64 x73),(.int .i64 x160),(.int .i64 a1),(.int .i64 (wrap64 (a1+1))),(.int .i64 x2),(.bool true),u15,u16,u17,u18,u19,u20,u21,u22,u23,u24,u25,u26,u27,u28,u29,u30,u31,(.bool false),u33,u34,(.int .i64 x9),(.int .i64 a2),(.bool false),(.int .i64 a2),(.int .i64 a1),(.int .i64 (wrap64 (a2 - a1))),(.bool false),(.slice (some ad57) l0.length c0),(.int .i64 x9),(.slice (some ad57) l0.length c0),(.int .i64 x9),(.int .i64 (wrap64 (x9 - 1))),(.slice (some ad57) l0.length c0),(.int .i64 x9),(.int .i64 (wrap64 (x9 - 1))),(.pointer (some (ad57.add ((wrap64 (x9 - 1)).toNat)))),(.int .i32 (rd x3 (wrap64 (x9 - 1)))),(.slice (some ad57) l0.length c0),(.int .i64 x9),(.pointer (some (ad57.add (x9.toNat)))),(.int .i32 (rd x3 x9)),(.pointer (some (ad57.add (x9.toNat)))),(.pointer (some (ad57.add ((wrap64 (x9 - 1)).toNat)))),(.int .i64 x9),(.int .i64 a1),(.int .i64 (wrap64 (x9 - a1))),(.bool true),(.int .i64 x9),(.int .i64 (wrap64 (x9 - 1))),(.int .i64 x73),(.bool false),u66,u67,u68,u69,u70,u71,u72,u73,u74,u75,u76,u77,u78,u79,u80,u81,u82,u83,u84,u85,u86,u87,u88,u89,u90,u91,u92,u93,u94,(.int .i64 a2),(.int .i64 x9),(.int .i64 (wrap64 (a2 - x9))),(.bool true),(.int .i64 x9),(.int .i64 (wrap64 (x9+1))),(.int .i64 x160),(.int .i64 a2),(.bool true),u104,u105,(.slice (some ad57) l0.length c0),(.int .i64 x160),(.pointer (some (ad57.add (x160.toNat)))),(.int .i32 (rd x161 x160)),(.slice (some ad57) l0.length c0),(.int .i64 x160),(.int .i64 (wrap64 (x160 - 1))),(.pointer (some (ad57.add ((wrap64 (x160 - 1)).toNat)))),(.int .i32 (rd x161 (wrap64 (x160 - 1)))),(.bool true),(.bool false),(.slice (some ad57) l0.length c0),(.int .i64 x160),(.slice (some ad57) l0.length c0),(.int .i64 x160),(.int .i64 (wrap64 (x160 - 1))),(.slice (some ad57) l0.length c0),(.int .i64 x160),(.int .i64 (wrap64 (x160 - 1))),(.pointer (some (ad57.add ((wrap64 (x160 - 1)).toNat)))),(.int .i32 (rd x161 (wrap64 (x160 - 1)))),(.slice (some ad57) l0.length c0),(.int .i64 x160),(.pointer (some (ad57.add (x160.toNat)))),(.int .i32 (rd x161 x160)),u131,u132].toArray,[]⟩ (by decide) rfl rfl (by kernel_rfl) (by kernel_rfl) (by kernel_rfl) (by kernel_rfl) (by kernel_rfl) (by first|rfl|(go_simp;done)|(go_simp;rfl)) (by first|rfl|(go_simp;done)|(go_simp;rfl)) (by first|rfl|(go_simp;done)|(go_simp;rfl)) (by first|rfl|(go_simp;done)|(go_simp;rfl)) (by kernel_rfl) (by kernel_rfl) (by kernel_rfl) (by kernel_rfl) (by kernel_rfl) (by kernel_rfl) ?_
              refine zt 14 (.pointer (some (ad57.add (x160.toNat)))) #[_,_,_,_,_,_,_,_,_,_,_,_,_,_,_,_,_,_] ⟨[_,_,_,_,_,_,_,_,_,_,_,_,_,_,_,_,_,_,_,_,_,_,_,_,_,_,_,_,_,_,_,_,_,_,_,_,_,_,_,_,_,_,_,_,_,_,_,_,_,_,_,_,_,_,_,_,_,_,_,_,_,_,_,_,_,_,_,_,_,_,_,_,_,_,_,_,_,_,_,_,_,_,_,_,_,_,_,_,_,_,_,_,_,_,_,_,_,_,_,_,_,_,_,_,_,_,_,_,_,_,_,_,_,_,_,_,_,_,_,_,_,_,_,_,_,_,_,_,_,_,_,_,_].toArray,[]⟩ (h:=?_)
              refine MW.any_seq 15 3 rfl (by kernel_rfl) ?_
              simp only[List.drop_succ_cons,List.drop_zero]
              clear hwr_
              obtain⟨y186,hy186⟩:∃ y_:List Int,y_=(List.set x161 x160.toNat (rd x161 (wrap64 (x160 - 1)))):=⟨_,rfl⟩
              have H:((some (List.set y186 (wrap64 (x160 - 1)).toNat (rd x161 x160):List Int)).bind fun y190=>((slices_partialInsertionSortOrdered_rune.l4 k162 (wrap64 (x160+1)) y190 a1 a2 l0 x2 x9)))=some (r1,r2):=by rw[hy186];exact HH.out
              replace HH:=za H
              clear H
              have NYy186:=za hy186
              clear hy186
              go_wp2_with (((with_reducible refine gate_store (t:=21) (p:=131) rfl ?_);(try(refine gate_guard (by rfl) ?_;dsimp only));refine MW.ev_set1 (n:=l0.length) B_ rfl rfl _ _ _ rfl 21 x160 x161 (rd x161 (wrap64 (x160 - 1))) (fun k_=>True∧(some k_=((.slice (some ad57) l0.length c0):Value).ownBlock∨w.heap.size≤k_)) (by rfl) (by rfl) (by kernel_rfl) HN70.out (of_decide_eq_true (by first|(with_reducible assumption)|assumption)) (of_decide_eq_true (by first|(with_reducible assumption)|assumption)) HB.out ?_;intro w187 hn1 hb1 hg1);refine stop_ ?_)
              refine zg ?_
              replace HFfr:=za (Kd.F_grown (ok:=(fun k_=>True∧some k_≠((.slice (some ad57) l0.length c0):Value).ownBlock)) HFfr.out hg1 (fun k_ hk_=>hk_.2))
              replace HB:=za hb1
              clear HN70
              have HN188:=za (by rw[NYy186.out];exact hn1:Kd.N (Kd.int .i32) 21 w187 B_ (fun k_=>True∧(some k_=((.slice (some ad57) l0.length c0):Value).ownBlock∨w.heap.size≤k_)) (.slice (some ad57) l0.length c0) y186)
              clear hn1 hb1 hg1
              clear hx184_0 p184 q184 hx185_0 p185 q185
              have p189:0≤((wrap64 (x160 - 1)):Int):=of_decide_eq_true (by first|(with_reducible assumption)|assumption)
              have q189:(wrap64 (x160 - 1))<(l0.length:Int):=of_decide_eq_true (by first|(with_reducible assumption)|assumption)
              obtain⟨ad189,e189,hx189_0⟩:=Kd.at_int (Kd.F_now (Kd.N_F HN188.out)) (wrap64 (x160 - 1)) p189 q189
              cases e189
              replace p189:=eq_true p189
              replace q189:=eq_true q189
              obtain⟨y190,hy190⟩:∃ y_:List Int,y_=(List.set y186 (wrap64 (x160 - 1)).toNat (rd x161 x160)):=⟨_,rfl⟩
              have H:((slices_partialInsertionSortOrdered_rune.l4 k162 (wrap64 (x160+1)) y190 a1 a2 l0 x2 x9))=some (r1,r2):=by rw[hy190];exact HH.out
              replace HH:=za H
              clear H
              have NYy190:=za hy190
              clear hy190
              go_wp2_with (((with_reducible refine gate_store (t:=21) (p:=132) rfl ?_);(try(refine gate_guard (by rfl) ?_;dsimp only));refine MW.ev_set1 (n:=l0.length) B_ rfl rfl _ _ _ rfl 21 (wrap64 (x160 - 1)) y186 (rd x161 x160) (fun k_=>True∧(some k_=((.slice (some ad57) l0.length c0):Value).ownBlock∨w.heap.size≤k_)) (by rfl) (by rfl) (by kernel_rfl) HN188.out (of_decide_eq_true (by first|(with_reducible assumption)|assumption)) (of_decide_eq_true (by first|(with_reducible assumption)|assumption)) HB.out ?_;intro w191 hn1 hb1 hg1);refine stop_ ?_)
              refine zg ?_
              replace HFfr:=za (Kd.F_grown (ok:=(fun k_=>True∧some k_≠((.slice (some ad57) l0.length c0):Value).ownBlock)) HFfr.out hg1 (fun k_ hk_=>hk_.2))
              replace HB:=za hb1
              clear HN188
              have HN192:=za (by rw[NYy190.out];exact hn1:Kd.N (Kd.int .i32) 21 w191 B_ (fun k_=>True∧(some k_=((.slice (some ad57) l0.length c0):Value).ownBlock∨w.heap.size≤k_)) (.slice (some ad57) l0.length c0) y190)
              clear hn1 hb1 hg1
              clear hx189_0 p189 q189
              go_wp2
              go_roundg k162
              case measure=>have:=HK0.out;have:=HK1.out;have:=HK2.out;have:=HK4.out;omega
              case rel=>exact⟨wrap64 (x160+1),y190,(by first|rfl|(simp;done)|(simp[*];done)),HH,⟨by have:=HK0.out;have:=HK1.out;have:=HK2.out;have:=HK4.out;omega⟩,⟨HFfr.out⟩,⟨(Kd.N_mono (ok:=(fun k_=>True∧(some k_=((.slice (some ad57) l0.length c0):Value).ownBlock∨w.heap.size≤k_))) HN192.out (fun k_ hk_=>hk_))⟩,⟨HB.out⟩⟩
             replace HH:=MW.hneg HH c181
             replace c181:=Bool.eq_false_iff.mpr c181
             subst c181
             go_wp2
             go_quiet ((first|(go_at_call 42;first|exact Calls.quiet_of (MW.drawn (cmp_Less_rune.calls  (rd x161 x160) (rd x161 (wrap64 (x160 - 1))) false _  At180.out))|exact MW.quiet_far (MW.drawn (cmp_Less_rune.calls  (rd x161 x160) (rd x161 (wrap64 (x160 - 1))) false _  At180.out)))))
             repeat(first|(refine MQ.code_stop (id:=4) ?_)|go_values|go_skip|go_guarded|go_step|go_upon)
             refine zg ?_
             refine MW.name_world (W0:=w163) (by repeat(first|exact Drawn0.refl _|apply Drawn0.step)) ?_
             intro w193 hb
             replace HFfr:=zfb HFfr.out hb
             replace HN70:=znb HN70.out hb
             replace HB:=za (MB.below_stepB hB_.out HB.out hb)
             clear hb
             clear hx172_0 p172 q172 hx178_0 p178 q178
             go_wp2
             go_roundg k162
             case measure=>have:=HK0.out;have:=HK1.out;have:=HK2.out;have:=HK4.out;omega
             case rel=>exact⟨x9,wrap64 (x2+1),x161,(by first|rfl|(simp;done)|(simp[*];done)),(by first|rfl|(simp;done)|(simp[*];done)),HH,⟨by have:=HK0.out;have:=HK1.out;have:=HK2.out;have:=HK4.out;omega⟩,⟨HFfr.out⟩,⟨(Kd.N_mono (ok:=(fun k_=>True∧(some k_=((.slice (some ad57) l0.length c0):Value).ownBlock∨w.heap.size≤k_))) HN70.out (fun k_ hk_=>hk_))⟩,⟨HB.out⟩⟩
            go_wp2
            go_roundg k162
            case measure=>have:=HK0.out;have:=HK1.out;have:=HK2.out;have:=HK4.out;omega
            case rel=>exact⟨x9,wrap64 (x2+1),x161,(by first|rfl|(simp;done)|(simp[*];done)),(by first|rfl|(simp;done)|(simp[*];done)),HH,⟨by have:=HK0.out;have:=HK1.out;have:=HK2.out;have:=HK4.out;omega⟩,⟨HFfr.out⟩,⟨(Kd.N_mono (ok:=(fun k_=>True∧(some k_=((.slice (some ad57) l0.length c0):Value).ownBlock∨w.heap.size≤k_))) HN70.out (fun k_ hk_=>hk_))⟩,⟨HB.out⟩⟩
         go_wp2
         go_roundg k75
         case measure=>have:=HK0.out;have:=HK1.out;have:=HK2.out;omega
         case rel=>exact⟨x9,wrap64 (x2+1),x74,(by first|rfl|(simp;done)|(simp[*];done)),(by first|rfl|(simp;done)|(simp[*];done)),HH,⟨by have:=HK0.out;have:=HK1.out;have:=HK2.out;omega⟩,⟨HFfr.out⟩,⟨(Kd.N_mono (ok:=(fun k_=>True∧(some k_=((.slice (some ad57) l0.length c0):Value).ownBlock∨w.heap.size≤k_))) HN70.out (fun k_ hk_=>hk_))⟩,⟨HB.out⟩⟩
      replace HH:=zqG HH
      rcases HH with⟨HH,hk205⟩|⟨HH,hk248⟩
      ·go_wp2
       go_loopg [10] k10 (fun kq u10 w'=>∃ (x206:Int) (x207:List Int),u10=.int .i64 x206∧Aside0 ((slices_partialInsertionSortOrdered_rune.l5 kq x206 x207 a1 a2 l0 x2 x9)=some (r1,r2))∧Aside0 (kq≤k10)∧Aside0 (Kd.F (MB.frK w P0_) w' (fun k_=>True∧some k_≠((.slice (some ad57) l0.length c0):Value).ownBlock) (some ⟨0,0,none⟩) [()].length [()])∧Aside0 (Kd.N (Kd.int .i32) 21 w' B_ (fun k_=>True∧(some k_=((.slice (some ad57) l0.length c0):Value).ownBlock∨w.heap.size≤k_)) (.slice (some ad57) l0.length c0) x207)∧Aside0 (Below B_ w w'))
       case atStart=>exact⟨wrap64 (x9+1),y68,(by first|rfl|(simp;done)|(simp[*];done)),HH,⟨Nat.le_refl _⟩,⟨HFfr.out⟩,⟨(Kd.N_mono (ok:=(fun k_=>True∧(some k_=((.slice (some ad57) l0.length c0):Value).ownBlock∨w.heap.size≤k_))) HN70.out (fun k_ hk_=>hk_))⟩,⟨HB.out⟩⟩
       case round=>
        clear hk44
        clear hk45
        clear hk49
        clear hk50
        clear hk53
        clear hk55
        clear hk56
        clear hk59
        clear hk61
        clear hk62
        clear hk203
        clear hk205
        clear HH
        clear HFfr HN70 HB
        obtain⟨x206,x207,rfl,HA,HK5,HFfr,HN70,HB⟩:=hrel
        obtain⟨w209,rfl⟩:∃ wo_:World,wo_=wr:=⟨_,rfl⟩
        cases gk with
        |zero=>exact absurd HA.out (by simp[slices_partialInsertionSortOrdered_rune.l5])
        |succ k208=>
         have H:=HA.out
         clear HA
         simp only[slices_partialInsertionSortOrdered_rune.l5] at H
         have HH:=za H
         clear H
         replace HH:=zqt HH
         rcases HH with⟨HH,hk211,hk212⟩|⟨HH,hk246,hk247⟩
         ·replace HH:=zqdo HH
          obtain⟨HH,hk214⟩:=HH
          replace HH:=zqto HH
          obtain⟨HH,hk216,hk217⟩:=HH
          have p218:0≤(x206:Int):=of_decide_eq_true (by first|(with_reducible assumption)|assumption)
          have q218:x206<(l0.length:Int):=of_decide_eq_true (by first|(with_reducible assumption)|assumption)
          obtain⟨ad218,e218,hx218_0⟩:=Kd.at_int (Kd.F_now (Kd.N_F HN70.out)) x206 p218 q218
          cases e218
          replace p218:=eq_true p218
          replace q218:=eq_true q218
          replace HH:=zqdo HH
          obtain⟨HH,hk220⟩:=HH
          replace HH:=zqto HH
          obtain⟨HH,hk222,hk223⟩:=HH
          have p224:0≤((wrap64 (x206 - 1)):Int):=of_decide_eq_true (by first|(with_reducible assumption)|assumption)
          have q224:(wrap64 (x206 - 1))<(l0.length:Int):=of_decide_eq_true (by first|(with_reducible assumption)|assumption)
          obtain⟨ad224,e224,hx224_0⟩:=Kd.at_int (Kd.F_now (Kd.N_F HN70.out)) (wrap64 (x206 - 1)) p224 q224
          cases e224
          replace p224:=eq_true p224
          replace q224:=eq_true q224
          replace HH:=zd HH
          obtain⟨t225,At226,HH⟩:=HH
          by_cases c227:t225=true
          ·replace HH:=MW.hpos HH c227
           subst c227
           go_wp2
           go_quiet ((first|(go_at_call 42;first|exact Calls.quiet_of (MW.drawn (cmp_Less_rune.calls  (rd x207 x206) (rd x207 (wrap64 (x206 - 1))) true _  At226.out))|exact MW.quiet_far (MW.drawn (cmp_Less_rune.calls  (rd x207 x206) (rd x207 (wrap64 (x206 - 1))) true _  At226.out)))))
           go_wp2
           refine MW.name_world (W0:=w209) (by repeat(first|exact Drawn0.refl _|apply Drawn0.step)) ?_
           intro w228 hb
           replace HFfr:=zfb HFfr.out hb
           replace HN70:=znb HN70.out hb
           replace HB:=za (MB.below_stepB hB_.out HB.out hb)
           clear hb
           clear hx218_0 p218 q218 hx224_0 p224 q224
           go_wp2
           have hwr_:∀ n_:Int,IntKind.i64.wrap n_=wrap64 n_:=fun n_=>IntWalk.i64_left n_
           refine wp_region_any (by kernel_rfl) ?_
           change wpAny _ _ _ _ 18 #[false,false,false,false,false,false,false,false,false,false,false,false,false,false,false,false,false,false] _ w228.drew
           obtain⟨w229,hw_⟩:∃ w_:World,w_=w228.drew:=⟨_,rfl⟩
           rw[← hw_]
           have hb:Below w228.heap.size w228 w229:=by rw[hw_];exact below_drew1 (Below.refl _ _)
           clear hw_
           replace HFfr:=zfb HFfr.out hb
           replace HN70:=znb HN70.out hb
           replace HB:=za (MB.below_stepB hB_.out HB.out hb)
           clear hb
           refine zt 0 ((.slice (some ad57) l0.length c0)) #[_,_,_,_,_,_,_,_,_,_,_,_,_,_,_,_,_,_] ⟨[_,_,_,_,_,_,_,_,_,_,_,_,_,_,_,_,_,_,_,_,_,_,_,_,_,_,_,_,_,_,_,_,_,_,_,_,_,_,_,_,_,_,_,_,_,_,_,_,_,_,_,_,_,_,_,_,_,_,_,_,_,_,_,_,_,_,_,_,_,_,_,_,_,_,_,_,_,_,_,_,_,_,_,_,_,_,_,_,_,_,_,_,_,_,_,_,_,_,_,_,_,_,_,_,_,_,_,_,_,_,_,_,_,_,_,_,_,_,_,_,_,_,_,_,_,_,_,_,_,_,_,_,_].toArray,[]⟩ (h:=?_)
           refine zt 1 (.int .i64 x206) #[_,_,_,_,_,_,_,_,_,_,_,_,_,_,_,_,_,_] ⟨[_,_,_,_,_,_,_,_,_,_,_,_,_,_,_,_,_,_,_,_,_,_,_,_,_,_,_,_,_,_,_,_,_,_,_,_,_,_,_,_,_,_,_,_,_,_,_,_,_,_,_,_,_,_,_,_,_,_,_,_,_,_,_,_,_,_,_,_,_,_,_,_,_,_,_,_,_,_,_,_,_,_,_,_,_,_,_,_,_,_,_,_,_,_,_,_,_,_,_,_,_,_,_,_,_,_,_,_,_,_,_,_,_,_,_,_,_,_,_,_,_,_,_,_,_,_,_,_,_,_,_,_,_].toArray,[]⟩ (h:=?_)
           refine zt 2 ((.slice (some ad57) l0.length c0)) #[_,_,_,_,_,_,_,_,_,_,_,_,_,_,_,_,_,_] ⟨[_,_,_,_,_,_,_,_,_,_,_,_,_,_,_,_,_,_,_,_,_,_,_,_,_,_,_,_,_,_,_,_,_,_,_,_,_,_,_,_,_,_,_,_,_,_,_,_,_,_,_,_,_,_,_,_,_,_,_,_,_,_,_,_,_,_,_,_,_,_,_,_,_,_,_,_,_,_,_,_,_,_,_,_,_,_,_,_,_,_,_,_,_,_,_,_,_,_,_,_,_,_,_,_,_,_,_,_,_,_,_,_,_,_,_,_,_,_,_,_,_,_,_,_,_,_,_,_,_,_,_,_,_].toArray,[]⟩ (h:=?_)
           refine zt 3 (.int .i64 x206) #[_,_,_,_,_,_,_,_,_,_,_,_,_,_,_,_,_,_] ⟨[_,_,_,_,_,_,_,_,_,_,_,_,_,_,_,_,_,_,_,_,_,_,_,_,_,_,_,_,_,_,_,_,_,_,_,_,_,_,_,_,_,_,_,_,_,_,_,_,_,_,_,_,_,_,_,_,_,_,_,_,_,_,_,_,_,_,_,_,_,_,_,_,_,_,_,_,_,_,_,_,_,_,_,_,_,_,_,_,_,_,_,_,_,_,_,_,_,_,_,_,_,_,_,_,_,_,_,_,_,_,_,_,_,_,_,_,_,_,_,_,_,_,_,_,_,_,_,_,_,_,_,_,_].toArray,[]⟩ (h:=?_)
           refine zt 4 (.int .i64 (wrap64 (x206 - 1))) #[_,_,_,_,_,_,_,_,_,_,_,_,_,_,_,_,_,_] ⟨[_,_,_,_,_,_,_,_,_,_,_,_,_,_,_,_,_,_,_,_,_,_,_,_,_,_,_,_,_,_,_,_,_,_,_,_,_,_,_,_,_,_,_,_,_,_,_,_,_,_,_,_,_,_,_,_,_,_,_,_,_,_,_,_,_,_,_,_,_,_,_,_,_,_,_,_,_,_,_,_,_,_,_,_,_,_,_,_,_,_,_,_,_,_,_,_,_,_,_,_,_,_,_,_,_,_,_,_,_,_,_,_,_,_,_,_,_,_,_,_,_,_,_,_,_,_,_,_,_,_,_,_,_].toArray,[]⟩ (h:=?_)
           refine zt 5 ((.slice (some ad57) l0.length c0)) #[_,_,_,_,_,_,_,_,_,_,_,_,_,_,_,_,_,_] ⟨[_,_,_,_,_,_,_,_,_,_,_,_,_,_,_,_,_,_,_,_,_,_,_,_,_,_,_,_,_,_,_,_,_,_,_,_,_,_,_,_,_,_,_,_,_,_,_,_,_,_,_,_,_,_,_,_,_,_,_,_,_,_,_,_,_,_,_,_,_,_,_,_,_,_,_,_,_,_,_,_,_,_,_,_,_,_,_,_,_,_,_,_,_,_,_,_,_,_,_,_,_,_,_,_,_,_,_,_,_,_,_,_,_,_,_,_,_,_,_,_,_,_,_,_,_,_,_,_,_,_,_,_,_].toArray,[]⟩ (h:=?_)
           refine zt 6 (.int .i64 x206) #[_,_,_,_,_,_,_,_,_,_,_,_,_,_,_,_,_,_] ⟨[_,_,_,_,_,_,_,_,_,_,_,_,_,_,_,_,_,_,_,_,_,_,_,_,_,_,_,_,_,_,_,_,_,_,_,_,_,_,_,_,_,_,_,_,_,_,_,_,_,_,_,_,_,_,_,_,_,_,_,_,_,_,_,_,_,_,_,_,_,_,_,_,_,_,_,_,_,_,_,_,_,_,_,_,_,_,_,_,_,_,_,_,_,_,_,_,_,_,_,_,_,_,_,_,_,_,_,_,_,_,_,_,_,_,_,_,_,_,_,_,_,_,_,_,_,_,_,_,_,_,_,_,_].toArray,[]⟩ (h:=?_)
           refine zt 7 (.int .i64 (wrap64 (x206 - 1))) #[_,_,_,_,_,_,_,_,_,_,_,_,_,_,_,_,_,_] ⟨[_,_,_,_,_,_,_,_,_,_,_,_,_,_,_,_,_,_,_,_,_,_,_,_,_,_,_,_,_,_,_,_,_,_,_,_,_,_,_,_,_,_,_,_,_,_,_,_,_,_,_,_,_,_,_,_,_,_,_,_,_,_,_,_,_,_,_,_,_,_,_,_,_,_,_,_,_,_,_,_,_,_,_,_,_,_,_,_,_,_,_,_,_,_,_,_,_,_,_,_,_,_,_,_,_,_,_,_,_,_,_,_,_,_,_,_,_,_,_,_,_,_,_,_,_,_,_,_,_,_,_,_,_].toArray,[]⟩ (h:=?_)
           have p230:0≤((wrap64 (x206 - 1)):Int):=of_decide_eq_true (by first|(with_reducible assumption)|assumption)
           have q230:(wrap64 (x206 - 1))<(l0.length:Int):=of_decide_eq_true (by first|(with_reducible assumption)|assumption)
           obtain⟨ad230,e230,hx230_0⟩:=Kd.at_int (Kd.F_now (Kd.N_F HN70.out)) (wrap64 (x206 - 1)) p230 q230
           cases e230
           replace p230:=eq_true p230
           replace q230:=eq_true q230
           refine zt 8 (.pointer (some (ad57.add ((wrap64 (x206 - 1)).toNat)))) #[_,_,_,_,_,_,_,_,_,_,_,_,_,_,_,_,_,_] ⟨[_,_,_,_,_,_,_,_,_,_,_,_,_,_,_,_,_,_,_,_,_,_,_,_,_,_,_,_,_,_,_,_,_,_,_,_,_,_,_,_,_,_,_,_,_,_,_,_,_,_,_,_,_,_,_,_,_,_,_,_,_,_,_,_,_,_,_,_,_,_,_,_,_,_,_,_,_,_,_,_,_,_,_,_,_,_,_,_,_,_,_,_,_,_,_,_,_,_,_,_,_,_,_,_,_,_,_,_,_,_,_,_,_,_,_,_,_,_,_,_,_,_,_,_,_,_,_,_,_,_,_,_,_].toArray,[]⟩ (h:=?_)
           refine zt 10 ((.slice (some ad57) l0.length c0)) #[_,_,_,_,_,_,_,_,_,_,_,_,_,_,_,_,_,_] ⟨[_,_,_,_,_,_,_,_,_,_,_,_,_,_,_,_,_,_,_,_,_,_,_,_,_,_,_,_,_,_,_,_,_,_,_,_,_,_,_,_,_,_,_,_,_,_,_,_,_,_,_,_,_,_,_,_,_,_,_,_,_,_,_,_,_,_,_,_,_,_,_,_,_,_,_,_,_,_,_,_,_,_,_,_,_,_,_,_,_,_,_,_,_,_,_,_,_,_,_,_,_,_,_,_,_,_,_,_,_,_,_,_,_,_,_,_,_,_,_,_,_,_,_,_,_,_,_,_,_,_,_,_,_].toArray,[]⟩ (h:=?_)
           refine zt 11 (.int .i64 x206) #[_,_,_,_,_,_,_,_,_,_,_,_,_,_,_,_,_,_] ⟨[_,_,_,_,_,_,_,_,_,_,_,_,_,_,_,_,_,_,_,_,_,_,_,_,_,_,_,_,_,_,_,_,_,_,_,_,_,_,_,_,_,_,_,_,_,_,_,_,_,_,_,_,_,_,_,_,_,_,_,_,_,_,_,_,_,_,_,_,_,_,_,_,_,_,_,_,_,_,_,_,_,_,_,_,_,_,_,_,_,_,_,_,_,_,_,_,_,_,_,_,_,_,_,_,_,_,_,_,_,_,_,_,_,_,_,_,_,_,_,_,_,_,_,_,_,_,_,_,_,_,_,_,_].toArray,[]⟩ (h:=?_)
           have p231:0≤(x206:Int):=of_decide_eq_true (by first|(with_reducible assumption)|assumption)
           have q231:x206<(l0.length:Int):=of_decide_eq_true (by first|(with_reducible assumption)|assumption)
           obtain⟨ad231,e231,hx231_0⟩:=Kd.at_int (Kd.F_now (Kd.N_F HN70.out)) x206 p231 q231
           cases e231
           replace p231:=eq_true p231
           replace q231:=eq_true q231
           refine zt 12 (.pointer (some (ad57.add (x206.toNat)))) #[_,_,_,_,_,_,_,_,_,_,_,_,_,_,_,_,_,_] ⟨[_,_,_,_,_,_,_,_,_,_,_,_,_,_,_,_,_,_,_,_,_,_,_,_,_,_,_,_,_,_,_,_,_,_,_,_,_,_,_,_,_,_,_,_,_,_,_,_,_,_,_,_,_,_,_,_,_,_,_,_,_,_,_,_,_,_,_,_,_,_,_,_,_,_,_,_,_,_,_,_,_,_,_,_,_,_,_,_,_,_,_,_,_,_,_,_,_,_,_,_,_,_,_,_,_,_,_,_,_,_,_,_,_,_,_,_,_,_,_,_,_,_,_,_,_,_,_,_,_,_,_,_,_].toArray,[]⟩ (h:=?_)
           refine MW.any_two (i:=9) (j:=13) (vi:=.int .i32 (rd x207 (wrap64 (x206 - 1)))) (vj:=.int .i32 (rd x207 x206)) #[true,true,true,true,true,true,true,true,true,true,true,true,true,true,false,false,false,false] ⟨[(.slice (some ad57) l0.length c0),(.int .i64 a1),(.int .i64 a2),undef,undef,undef,u6,(.int .i64 x9),(.int .i64 x2),u9,(.int .i64 x206),(.int .i64 a1),(.int .i64 (wrap64 (a1+1))),(.int .i64 x2),(.bool true),u15,u16,u17,u18,u19,u20,u21,u22,u23,u24,u25,u26,u27,u28,u29,u30,u31,(.bool false),u33,u34,(.int .i64 x9),(.int .i64 a2),(.bool false),(.int .i64 a2),(.int .i64 a1),(.int .i64 (wrap64 (a2 - a1))),(.bool false),(.slice (some ad57) l0.length c0),(.int .i64 x9),(.slice (some ad57) l0.length c0),(.int .i64 x9),(.int .i64 (wrap64 (x9 - 1))),(.slice (some ad57) l0.length c0),(.int .i64 x9),(.int .i64 (wrap64 (x9 - 1))),(.pointer (some (ad57.add ((wrap64 (x9 - 1)).toNat)))),(.int .i32 (rd x3 (wrap64 (x9 - 1)))),(.slice (some ad57) l0.length c0),(.int .i64 x9),(.pointer (some (ad57.add (x9.toNat)))),(.int .i32 (rd x3 x9)),(.pointer (some (ad57.add (x9.toNat)))),(.pointer (some (ad57.add ((wrap64 (x9 - 1)).toNat)))),(.int .i64 x9),(.int .i64 a1),(.int .i64 (wrap64 (x9 - a1))),(.bool false),u62,u63,u64,u65,u66,u67,u68,u69,u70,u71,u72,u73,u74,u75,u76,u77,u78,u79,u80,u81,u82,u83,u84,u85,u86,u87,u88,u89,u90,u91,u92,u93,u94,(.int .i64 a2),(.int .i64 x9),(.int .i64 (wrap64 (a2 - x9))),(.bool true),(.int .i64 x9),(.int .i64 (wrap64 (x9+1))),(.int .i64 x206),(.int .i64 a2),(.bool true),u104,u105,(.slice (some ad57) l0.length c0),(.int .i64 x206),(.pointer (some (ad57.add (x206.toNat)))),(.int .i32 (rd x207 x206)),(.slice (some ad57) l0.length c0),(.int .i64 x206),(.int .i64 (wrap64 (x206 - 1))),(.pointer (some (ad57.add ((wrap64 (x206 - 1)).toNat)))),(.int .i32 (rd x207 (wrap64 (x206 - 1)))),(.bool true),(.bool false),(.slice (some ad57) l0.length c0),(.int .i64 x206),(.slice (some ad57) l0.length c0),(.int .i64 x206),(.int .i64 (wrap64 (x206 - 1))),(.slice (some ad57) l0.length c0),(.int .i64 x206),(.int .i64 (wrap64 (x206 - 1))),(.pointer (some (ad57.add ((wrap64 (x206 - 1)).toNat)))),(.int .i32 (rd x207 (wrap64 (x206 - 1)))),(.slice (some ad57) l0.length c0),(.int .i64 x206),(.pointer (some (ad57.add (x206.toNat)))),(.int .i32 (rd x207 x206)),u131,u132].toArray,[]⟩ (by decide) rfl rfl (by kernel_rfl) (by kernel_rfl) (by kernel_rfl) (by kernel_rfl) (by kernel_rfl) (by first|rfl|(go_simp;done)|(go_simp;rfl)) (by first|rfl|(go_simp;done)|(go_simp;rfl)) (by first|rfl|(go_simp;done)|(go_simp;rfl)) (by first|rfl|(go_simp;done)|(go_simp;rfl)) (by kernel_rfl) (by kernel_rfl) (by kernel_rfl) (by kernel_rfl) (by kernel_rfl) (by kernel_rfl) ?_
           refine zt 14 (.pointer (some (ad57.add (x206.toNat)))) #[_,_,_,_,_,_,_,_,_,_,_,_,_,_,_,_,_,_] ⟨[_,_,_,_,_,_,_,_,_,_,_,_,_,_,_,_,_,_,_,_,_,_,_,_,_,_,_,_,_,_,_,_,_,_,_,_,_,_,_,_,_,_,_,_,_,_,_,_,_,_,_,_,_,_,_,_,_,_,_,_,_,_,_,_,_,_,_,_,_,_,_,_,_,_,_,_,_,_,_,_,_,_,_,_,_,_,_,_,_,_,_,_,_,_,_,_,_,_,_,_,_,_,_,_,_,_,_,_,_,_,_,_,_,_,_,_,_,_,_,_,_,_,_,_,_,_,_,_,_,_,_,_,_].toArray,[]⟩ (h:=?_)
           refine MW.any_seq 15 3 rfl (by kernel_rfl) ?_
           simp only[List.drop_succ_cons,List.drop_zero]
           clear hwr_
           obtain⟨y232,hy232⟩:∃ y_:List Int,y_=(List.set x207 x206.toNat (rd x207 (wrap64 (x206 - 1)))):=⟨_,rfl⟩
           have H:((some (List.set y232 (wrap64 (x206 - 1)).toNat (rd x207 x206):List Int)).bind fun y236=>((slices_partialInsertionSortOrdered_rune.l5 k208 (wrap64 (x206+1)) y236 a1 a2 l0 x2 x9)))=some (r1,r2):=by rw[hy232];exact HH.out
           replace HH:=za H
           clear H
           have NYy232:=za hy232
           clear hy232
           go_wp2_with (((with_reducible refine gate_store (t:=21) (p:=131) rfl ?_);(try(refine gate_guard (by rfl) ?_;dsimp only));refine MW.ev_set1 (n:=l0.length) B_ rfl rfl _ _ _ rfl 21 x206 x207 (rd x207 (wrap64 (x206 - 1))) (fun k_=>True∧(some k_=((.slice (some ad57) l0.length c0):Value).ownBlock∨w.heap.size≤k_)) (by rfl) (by rfl) (by kernel_rfl) HN70.out (of_decide_eq_true (by first|(with_reducible assumption)|assumption)) (of_decide_eq_true (by first|(with_reducible assumption)|assumption)) HB.out ?_;intro w233 hn1 hb1 hg1);refine stop_ ?_)
           refine zg ?_
           replace HFfr:=za (Kd.F_grown (ok:=(fun k_=>True∧some k_≠((.slice (some ad57) l0.length c0):Value).ownBlock)) HFfr.out hg1 (fun k_ hk_=>hk_.2))
           replace HB:=za hb1
           clear HN70
           have HN234:=za (by rw[NYy232.out];exact hn1:Kd.N (Kd.int .i32) 21 w233 B_ (fun k_=>True∧(some k_=((.slice (some ad57) l0.length c0):Value).ownBlock∨w.heap.size≤k_)) (.slice (some ad57) l0.length c0) y232)
           clear hn1 hb1 hg1
           clear hx230_0 p230 q230 hx231_0 p231 q231
           have p235:0≤((wrap64 (x206 - 1)):Int):=of_decide_eq_true (by first|(with_reducible assumption)|assumption)
           have q235:(wrap64 (x206 - 1))<(l0.length:Int):=of_decide_eq_true (by first|(with_reducible assumption)|assumption)
           obtain⟨ad235,e235,hx235_0⟩:=Kd.at_int (Kd.F_now (Kd.N_F HN234.out)) (wrap64 (x206 - 1)) p235 q235
           cases e235
           replace p235:=eq_true p235
           replace q235:=eq_true q235
           obtain⟨y236,hy236⟩:∃ y_:List Int,y_=(List.set y232 (wrap64 (x206 - 1)).toNat (rd x207 x206)):=⟨_,rfl⟩
           have H:((slices_partialInsertionSortOrdered_rune.l5 k208 (wrap64 (x206+1)) y236 a1 a2 l0 x2 x9))=some (r1,r2):=by rw[hy236];exact HH.out
           replace HH:=za H
           clear H
           have NYy236:=za hy236
           clear hy236
           go_wp2_with (((with_reducible refine gate_store (t:=21) (p:=132) rfl ?_);(try(refine gate_guard (by rfl) ?_;dsimp only));refine MW.ev_set1 (n:=l0.length) B_ rfl rfl _ _ _ rfl 21 (wrap64 (x206 - 1)) y232 (rd x207 x206) (fun k_=>True∧(some k_=((.slice (some ad57) l0.length c0):Value).ownBlock∨w.heap.size≤k_)) (by rfl) (by rfl) (by kernel_rfl) HN234.out (of_decide_eq_true (by first|(with_reducible assumption)|assumption)) (of_decide_eq_true (by first|(with_reducible assumption)|assumption)) HB.out ?_;intro w237 hn1 hb1 hg1);refine stop_ ?_)
           refine zg ?_
           replace HFfr:=za (Kd.F_grown (ok:=(fun k_=>True∧some k_≠((.slice (some ad57) l0.length c0):Value).ownBlock)) HFfr.out hg1 (fun k_ hk_=>hk_.2))
           replace HB:=za hb1
           clear HN234
           have HN238:=za (by rw[NYy236.out];exact hn1:Kd.N (Kd.int .i32) 21 w237 B_ (fun k_=>True∧(some k_=((.slice (some ad57) l0.length c0):Value).ownBlock∨w.heap.size≤k_)) (.slice (some ad57) l0.length c0) y236)
           clear hn1 hb1 hg1
           clear hx235_0 p235 q235
           go_wp2
           go_roundg k208
           case measure=>have:=HK0.out;have:=HK1.out;have:=HK5.out;omega
           case rel=>exact⟨wrap64 (x206+1),y236,(by first|rfl|(simp;done)|(simp[*];done)),HH,⟨by have:=HK0.out;have:=HK1.out;have:=HK5.out;omega⟩,⟨HFfr.out⟩,⟨(Kd.N_mono (ok:=(fun k_=>True∧(some k_=((.slice (some ad57) l0.length c0):Value).ownBlock∨w.heap.size≤k_))) HN238.out (fun k_ hk_=>hk_))⟩,⟨HB.out⟩⟩
          replace HH:=MW.hneg HH c227
          replace c227:=Bool.eq_false_iff.mpr c227
          subst c227
          go_wp2
          go_quiet ((first|(go_at_call 42;first|exact Calls.quiet_of (MW.drawn (cmp_Less_rune.calls  (rd x207 x206) (rd x207 (wrap64 (x206 - 1))) false _  At226.out))|exact MW.quiet_far (MW.drawn (cmp_Less_rune.calls  (rd x207 x206) (rd x207 (wrap64 (x206 - 1))) false _  At226.out)))))
          repeat(first|(refine MQ.code_stop (id:=4) ?_)|go_values|go_skip|go_guarded|go_step|go_upon)
          refine zg ?_
          refine MW.name_world (W0:=w209) (by repeat(first|exact Drawn0.refl _|apply Drawn0.step)) ?_
          intro w239 hb
          replace HFfr:=zfb HFfr.out hb
          replace HN70:=znb HN70.out hb
          replace HB:=za (MB.below_stepB hB_.out HB.out hb)
          clear hb
          clear hx218_0 p218 q218 hx224_0 p224 q224
          go_wp2
          go_roundg k208
          case measure=>have:=HK0.out;have:=HK1.out;have:=HK5.out;omega
          case rel=>exact⟨x9,wrap64 (x2+1),x207,(by first|rfl|(simp;done)|(simp[*];done)),(by first|rfl|(simp;done)|(simp[*];done)),HH,⟨by have:=HK0.out;have:=HK1.out;have:=HK5.out;omega⟩,⟨HFfr.out⟩,⟨(Kd.N_mono (ok:=(fun k_=>True∧(some k_=((.slice (some ad57) l0.length c0):Value).ownBlock∨w.heap.size≤k_))) HN70.out (fun k_ hk_=>hk_))⟩,⟨HB.out⟩⟩
         go_wp2
         go_roundg k208
         case measure=>have:=HK0.out;have:=HK1.out;have:=HK5.out;omega
         case rel=>exact⟨x9,wrap64 (x2+1),x207,(by first|rfl|(simp;done)|(simp[*];done)),(by first|rfl|(simp;done)|(simp[*];done)),HH,⟨by have:=HK0.out;have:=HK1.out;have:=HK5.out;omega⟩,⟨HFfr.out⟩,⟨(Kd.N_mono (ok:=(fun k_=>True∧(some k_=((.slice (some ad57) l0.length c0):Value).ownBlock∨w.heap.size≤k_))) HN70.out (fun k_ hk_=>hk_))⟩,⟨HB.out⟩⟩
      go_wp2
      go_roundg k10
      case measure=>have:=HK0.out;have:=HK1.out;omega
      case rel=>exact⟨x9,wrap64 (x2+1),y68,(by first|rfl|(simp;done)|(simp[*];done)),(by first|rfl|(simp;done)|(simp[*];done)),HH,⟨by have:=HK0.out;have:=HK1.out;omega⟩,⟨HFfr.out⟩,⟨(Kd.N_mono (ok:=(fun k_=>True∧(some k_=((.slice (some ad57) l0.length c0):Value).ownBlock∨w.heap.size≤k_))) HN70.out (fun k_ hk_=>hk_))⟩,⟨HB.out⟩⟩
   have H:=HH.out
   simp only[Option.some.injEq,Prod.mk.injEq] at H
   obtain⟨rfl,rfl⟩:=H
   clear HH
   go_wp2
   go_ret
   exact⟨by first|rfl|(simp;done)|(simp[*];done),(Kd.N_mono (ok:=(fun k_=>True∧(some k_=((.slice A0 l0.length c0):Value).ownBlock∨w.heap.size≤k_))) HN0.out (fun k_ hk_=>hk_.2)),(fun k_ hv_ hlt_=>MB.frK_out HFfr.out k_ (by rw[HPO.out];exact hv_) hlt_),HB.out⟩
end Go.Proofs.Ytcokpnajkkjclaa.GA
