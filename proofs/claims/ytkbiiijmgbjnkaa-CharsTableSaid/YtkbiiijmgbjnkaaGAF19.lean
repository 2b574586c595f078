import Derived.Test.YtkbiiijmgbjnkaaGA0
import Derived.Test.YtkbiiijmgbjnkaaGAF35
import Derived.Test.YtkbiiijmgbjnkaaGM1
import Derived.Test.YtkbiiijmgbjnkaaMX
namespace Go.Proofs.Ytkbiiijmgbjnkaa.GA
open Go.RowKit Go.Proofs.Ytkbiiijmgbjnkaa Go.Proofs.Ytkbiiijmgbjnkaa.MW Go.Proofs.YtkbiiijmgbjnkaaW.PrintWords Go.Proofs.YtkbiiijmgbjnkaaW.PrintLast Go.Proofs.YtkbiiijmgbjnkaaW.PrintMore
attribute [local go_sem] max2_int min2_int max_two min_two
set_option maxHeartbeats 8000000
set_option maxRecDepth 100000
set_option linter.unusedVariables false
set_option linter.unusedSimpArgs false
mutual
def chars_Table.l0:Nat→(List (S38))→Int→Option ((List (S38)))
 |0,_,_=>none
 |k+1,x1,x4=>if x4≤7 then((chars_ends.f x4).bind fun t9=>((chars_Table.l1 k x1 0 t9 x4))) else((chars_Table.l2 k x1 0))
def chars_Table.l1:Nat→(List (S38))→Int→(List Int)→Int→Option ((List (S38)))
 |0,_,_,_,_=>none
 |k+1,x13,x16,t9,x4=>if (wrap64 (x16+1))<(t9.length:Int) then(if 0≤x16 then(if x16<(t9.length:Int) then(if 0≤(wrap64 (x16+1)) then(if x13.length+[(⟨rd t9 x16,rd t9 (wrap64 (x16+1)),x4⟩:S38)].length<8796093022208 then((some (x13++[(⟨rd t9 x16,rd t9 (wrap64 (x16+1)),x4⟩:S38)]:List (S38))).bind fun y42=>((chars_Table.l1 k y42 (wrap64 (x16+2)) t9 x4))) else(none)) else(none)) else(none)) else(none)) else((chars_Table.l0 k x13 (wrap64 (x4+1))))
def chars_Table.l2:Nat→(List (S38))→Int→Option ((List (S38)))
 |0,_,_=>none
 |k+1,x53,x56=>if x56<16 then(if x53.length<8796093022208 then((some (x53++[(⟨wrap32 ((wrap32 ((wrap32 ((wrap32 (wrap64 (x56+2)))*65536)) - 1)) - 1),wrap32 ((wrap32 ((wrap32 (wrap64 (x56+2)))*65536)) - 1),7⟩:S38)]:List (S38))).bind fun y63=>((chars_Table.l2 k y63 (wrap64 (x56+1))))) else(none)) else((span_Build.f k x53).bind fun bt73=>(some bt73.1))
end
def chars_Table.f (k:Nat)  :Option ((List (S38))):=(chars_Table.l0 k ([]:List (S38)) 1)
theorem chars_Table.mono_l:∀ k,(∀ y0 y1,LeO (chars_Table.l0 k y0 y1) (chars_Table.l0 (k+1) y0 y1))∧(∀ y0 y1 y2 y3,LeO (chars_Table.l1 k y0 y1 y2 y3) (chars_Table.l1 (k+1) y0 y1 y2 y3))∧(∀ y0 y1,LeO (chars_Table.l2 k y0 y1) (chars_Table.l2 (k+1) y0 y1))
 |0=>⟨fun _ _ r h=>by simp[chars_Table.l0] at h,fun _ _ _ _ r h=>by simp[chars_Table.l1] at h,fun _ _ r h=>by simp[chars_Table.l2] at h⟩
 |k+1=>by
  obtain⟨ih0,ih1,ih2⟩:=chars_Table.mono_l k
  refine⟨?_,?_,?_⟩
  ·intro y0 y1
   unfold chars_Table.l0
   with_reducible repeat' first|exact ih0 _ _|exact ih1 _ _ _ _|exact ih2 _ _|exact span_Build.mono _ _|exact LeO.refl _|exact LeO.none _|refine LeO.ite ?_ ?_|refine LeO.bind ?_ (fun _=>?_)
  ·intro y0 y1 y2 y3
   unfold chars_Table.l1
   with_reducible repeat' first|exact ih0 _ _|exact ih1 _ _ _ _|exact ih2 _ _|exact span_Build.mono _ _|exact LeO.refl _|exact LeO.none _|refine LeO.ite ?_ ?_|refine LeO.bind ?_ (fun _=>?_)
  intro y0 y1
  unfold chars_Table.l2
  with_reducible repeat' first|exact ih0 _ _|exact ih1 _ _ _ _|exact ih2 _ _|exact span_Build.mono _ _|exact LeO.refl _|exact LeO.none _|refine LeO.ite ?_ ?_|refine LeO.bind ?_ (fun _=>?_)
theorem chars_Table.mono:∀ k,LeO (chars_Table.f k) (chars_Table.f (k+1)):=by
 intro  k
 obtain⟨ih0,ih1,ih2⟩:=chars_Table.mono_l k
 unfold chars_Table.f
 with_reducible repeat' first|exact ih0 _ _|exact ih1 _ _ _ _|exact ih2 _ _|exact span_Build.mono _ _|exact LeO.refl _|exact LeO.none _|refine LeO.ite ?_ ?_|refine LeO.bind ?_ (fun _=>?_)
theorem chars_Table.calls (k:Nat) (r:List (S38)) (w:World) (h:chars_Table.f k  =some r):
  Calls Try.prog 19 #[] w (fun e w'=>∃ v0_:Value,e=.returned (v0_)∧Kd.N k38 38 w' w.heap.size (fun k_=>w.heap.size≤k_) v0_ r∧Below w.heap.size w w'):=by
 unfold chars_Table.f at h
 have HH:=za h
 clear h
 have HB:=za (Below.refl w.heap.size w)
 have hu38:=Try.underlying38
 go_enter Try.func19,Try.ntmps19
 go_wp2
 go_loopg [1,2] k (fun kq u1 u2 w'=>∃ (x1:List (S38)) (x4:Int),u2=.int .i64 x4∧Aside0 ((chars_Table.l0 kq x1 x4)=some r)∧Aside0 (kq≤k)∧Aside0 (Kd.N k38 38 w' w.heap.size (fun k_=>(w.heap.size≤k_)) u1 x1)∧Aside0 (Below w.heap.size w w'))
 case atStart=>exact⟨([]:List (S38)),1,(by first|rfl|(simp;done)|(simp[*];done)),HH,⟨Nat.le_refl _⟩,⟨Kd.N_nil _ _ _ _ _⟩,⟨HB.out⟩⟩
 case round=>
  clear HH
  clear HB
  obtain⟨x1,x4,rfl,HA,HK0,HN3,HB⟩:=hrel
  obtain⟨v2,rfl⟩:∃ z_:Value,z_=u1:=⟨_,rfl⟩
  obtain⟨w6,rfl⟩:∃ wo_:World,wo_=wr:=⟨_,rfl⟩
  cases gk with
  |zero=>exact absurd HA.out (by simp[chars_Table.l0])
  |succ k5=>
   have H:=HA.out
   clear HA
   simp only[chars_Table.l0] at H
   have HH:=za H
   clear H
   replace HH:=zqd HH
   rcases HH with⟨HH,hk8⟩|⟨HH,hk52⟩
   ·replace HH:=zd HH
    obtain⟨t9,At10,HH⟩:=HH
    go_wp2_with ((with_reducible refine gc 34 rfl ?_);refine zc 34 (some 14) Try.func34 #[.int .i64 x4] (h:=?_);(with_reducible refine(chars_ends.calls  x4 t9 _  At10.out).mono ?_);rintro e w11 ⟨v12,rfl,hn12,hb⟩;refine⟨_,rfl,?_⟩)
    refine zg ?_
    have hba:=Kd.N_base hn12
    have HN12:=znl (ok2:=(fun k_=>(w.heap.size≤k_)∧some k_≠(v2:Value).ownBlock)) hn12 (below_size HB.out) (fun k_ h_=>⟨(Nat.le_trans (below_size HB.out) h_),Kd.fresh' (Kd.N_lt HN3.out) k_ h_⟩)
    replace HN3:=znr (u:=v12) HN3.out hba hb
    replace HB:=zhb HB.out hb
    clear hn12 hba hb
    go_wp2
    go_loopg [1,4] k5 (fun kq u1 u4 w'=>∃ (x13:List (S38)) (x16:Int),u4=.int .i64 x16∧Aside0 ((chars_Table.l1 kq x13 x16 t9 x4)=some r)∧Aside0 (kq≤k5)∧Aside0 (Kd.N (Kd.int .i32) 21 w' w.heap.size (fun k_=>(w.heap.size≤k_)∧some k_≠(u1:Value).ownBlock) v12 t9)∧Aside0 (Kd.N k38 38 w' w.heap.size (fun k_=>(w.heap.size≤k_)∧some k_≠(v12:Value).ownBlock) u1 x13)∧Aside0 (Below w.heap.size w w'))
    case atStart=>exact⟨x1,0,(by first|rfl|(simp;done)|(simp[*];done)),HH,⟨Nat.le_refl _⟩,⟨(Kd.N_mono (ok:=(fun k_=>(w.heap.size≤k_)∧some k_≠(v2:Value).ownBlock)) HN12.out (fun k_ hk_=>hk_))⟩,⟨(Kd.N_mono (ok:=(fun k_=>(w.heap.size≤k_)∧some k_≠(v12:Value).ownBlock)) HN3.out (fun k_ hk_=>hk_))⟩,⟨HB.out⟩⟩
    case round=>
     clear hk8
     clear HH
     clear HN3 HN12 HB
     obtain⟨x13,x16,rfl,HA,HK1,HN12,HN15,HB⟩:=hrel
     obtain⟨v14,rfl⟩:∃ z_:Value,z_=u1:=⟨_,rfl⟩
     obtain⟨w18,rfl⟩:∃ wo_:World,wo_=wr:=⟨_,rfl⟩
     cases gk with
     |zero=>exact absurd HA.out (by simp[chars_Table.l1])
     |succ k17=>
      have H:=HA.out
      clear HA
      simp only[chars_Table.l1] at H
      have HH:=za H
      clear H
      obtain⟨A19,cp20,he_⟩:=Kd.N_slice HN12.out
      subst he_
      replace HH:=zqt HH
      rcases HH with⟨HH,hk22,hk23⟩|⟨HH,hk50,hk51⟩
      ·go_wp2
       have hwr_:∀ n_:Int,IntKind.i64.wrap n_=wrap64 n_:=fun n_=>IntWalk.i64_left n_
       refine wp_region_any (by kernel_rfl) ?_
       change wpAny _ _ _ _ 15 #[false,false,false,false,false,false,false,false,false,false,false,false,false,false,false] _ w18.drew
       obtain⟨w24,hw_⟩:∃ w_:World,w_=w18.drew:=⟨_,rfl⟩
       rw[← hw_]
       have hb:Below w18.heap.size w18 w24:=by rw[hw_];exact below_drew1 (Below.refl _ _)
       clear hw_
       replace HN12:=znb HN12.out hb
       replace HN15:=znb HN15.out hb
       replace HB:=zhb HB.out hb
       clear hb
       replace HH:=zqdo HH
       obtain⟨HH,hk26⟩:=HH
       replace HH:=zqto HH
       obtain⟨HH,hk28,hk29⟩:=HH
       have p30:0≤(x16:Int):=of_decide_eq_true (by first|(with_reducible assumption)|assumption)
       have q30:x16<(t9.length:Int):=of_decide_eq_true (by first|(with_reducible assumption)|assumption)
       obtain⟨ad30,e30,hx30_0⟩:=Kd.at_int (Kd.F_now (Kd.N_F HN12.out)) x16 p30 q30
       cases e30
       replace p30:=eq_true p30
       replace q30:=eq_true q30
       replace HH:=zqdo HH
       obtain⟨HH,hk32⟩:=HH
       have p33:0≤((wrap64 (x16+1)):Int):=of_decide_eq_true (by first|(with_reducible assumption)|assumption)
       have q33:(wrap64 (x16+1))<(t9.length:Int):=of_decide_eq_true (by first|(with_reducible assumption)|assumption)
       obtain⟨ad33,e33,hx33_0⟩:=Kd.at_int (Kd.F_now (Kd.N_F HN12.out)) (wrap64 (x16+1)) p33 q33
       cases e33
       replace p33:=eq_true p33
       replace q33:=eq_true q33
       refine MW.last_in (ds:=[12,13]) (zk hx33_0 (zk hx30_0 z0)) ?_
       refine zlp 0 (v14) #[_,_,_,_,_,_,_,_,_,_,_,_,_,_,_] ⟨[_,_,_,_,_,_,_,_,_,_,_,_,_,_,_,_,_,_,_,_,_,_,_,_,_,_,_,_,_,_,_,_,_,_,_,_,_,_,_,_,_,_,_,_,_,_,_,_,_,_,_,_,_,_,_,_,_,_].toArray,[]⟩ (h:=?_)
       refine zlp 1 ((.slice (some ad30) t9.length cp20)) #[_,_,_,_,_,_,_,_,_,_,_,_,_,_,_] ⟨[_,_,_,_,_,_,_,_,_,_,_,_,_,_,_,_,_,_,_,_,_,_,_,_,_,_,_,_,_,_,_,_,_,_,_,_,_,_,_,_,_,_,_,_,_,_,_,_,_,_,_,_,_,_,_,_,_,_].toArray,[]⟩ (h:=?_)
       refine zlp 2 (.int .i64 x16) #[_,_,_,_,_,_,_,_,_,_,_,_,_,_,_] ⟨[_,_,_,_,_,_,_,_,_,_,_,_,_,_,_,_,_,_,_,_,_,_,_,_,_,_,_,_,_,_,_,_,_,_,_,_,_,_,_,_,_,_,_,_,_,_,_,_,_,_,_,_,_,_,_,_,_,_].toArray,[]⟩ (h:=?_)
       refine zlp 3 (.pointer (some (ad30.add (x16.toNat)))) #[_,_,_,_,_,_,_,_,_,_,_,_,_,_,_] ⟨[_,_,_,_,_,_,_,_,_,_,_,_,_,_,_,_,_,_,_,_,_,_,_,_,_,_,_,_,_,_,_,_,_,_,_,_,_,_,_,_,_,_,_,_,_,_,_,_,_,_,_,_,_,_,_,_,_,_].toArray,[]⟩ (h:=?_)
       refine zlp 5 ((.slice (some ad30) t9.length cp20)) #[_,_,_,_,_,_,_,_,_,_,_,_,_,_,_] ⟨[_,_,_,_,_,_,_,_,_,_,_,_,_,_,_,_,_,_,_,_,_,_,_,_,_,_,_,_,_,_,_,_,_,_,_,_,_,_,_,_,_,_,_,_,_,_,_,_,_,_,_,_,_,_,_,_,_,_].toArray,[]⟩ (h:=?_)
       refine zlp 6 (.int .i64 x16) #[_,_,_,_,_,_,_,_,_,_,_,_,_,_,_] ⟨[_,_,_,_,_,_,_,_,_,_,_,_,_,_,_,_,_,_,_,_,_,_,_,_,_,_,_,_,_,_,_,_,_,_,_,_,_,_,_,_,_,_,_,_,_,_,_,_,_,_,_,_,_,_,_,_,_,_].toArray,[]⟩ (h:=?_)
       refine zlp 7 (.int .i64 (wrap64 (x16+1))) #[_,_,_,_,_,_,_,_,_,_,_,_,_,_,_] ⟨[_,_,_,_,_,_,_,_,_,_,_,_,_,_,_,_,_,_,_,_,_,_,_,_,_,_,_,_,_,_,_,_,_,_,_,_,_,_,_,_,_,_,_,_,_,_,_,_,_,_,_,_,_,_,_,_,_,_].toArray,[]⟩ (h:=?_)
       refine zlp 8 (.pointer (some (ad30.add ((wrap64 (x16+1)).toNat)))) #[_,_,_,_,_,_,_,_,_,_,_,_,_,_,_] ⟨[_,_,_,_,_,_,_,_,_,_,_,_,_,_,_,_,_,_,_,_,_,_,_,_,_,_,_,_,_,_,_,_,_,_,_,_,_,_,_,_,_,_,_,_,_,_,_,_,_,_,_,_,_,_,_,_,_,_].toArray,[]⟩ (h:=?_)
       refine zlp 10 (.int .i64 x4) #[_,_,_,_,_,_,_,_,_,_,_,_,_,_,_] ⟨[_,_,_,_,_,_,_,_,_,_,_,_,_,_,_,_,_,_,_,_,_,_,_,_,_,_,_,_,_,_,_,_,_,_,_,_,_,_,_,_,_,_,_,_,_,_,_,_,_,_,_,_,_,_,_,_,_,_].toArray,[]⟩ (h:=?_)
       refine MW.last_take (i:=4) (v:=.int .i32 (rd t9 x16)) (listed':= #[_,_,_,_,_,_,_,_,_,_,_,_,_,_,_]) (a':=⟨[_,_,_,_,_,_,_,_,_,_,_,_,_,_,_,_,_,_,_,_,_,_,_,_,_,_,_,_,_,_,_,_,_,_,_,_,_,_,_,_,_,_,_,_,_,_,_,_,_,_,_,_,_,_,_,_,_,_].toArray,[]⟩) rfl (by kernel_rfl) (by kernel_rfl) (by kernel_rfl) (by kernel_rfl) (by kernel_rfl) (fun _ _ _ h_=>h_) (by kernel_rfl) (fun w_ hS_=>?go) (zk hx33_0 (zk hx30_0 z0)) rfl rfl ?_
       case go=>obtain⟨_,hs1_,_⟩:=hS_;first|(go_simp;done)|(go_simp;rfl)
       refine MW.last_take (i:=9) (v:=.int .i32 (rd t9 (wrap64 (x16+1)))) (listed':= #[_,_,_,_,_,_,_,_,_,_,_,_,_,_,_]) (a':=⟨[_,_,_,_,_,_,_,_,_,_,_,_,_,_,_,_,_,_,_,_,_,_,_,_,_,_,_,_,_,_,_,_,_,_,_,_,_,_,_,_,_,_,_,_,_,_,_,_,_,_,_,_,_,_,_,_,_,_].toArray,[]⟩) rfl (by kernel_rfl) (by kernel_rfl) (by kernel_rfl) (by kernel_rfl) (by kernel_rfl) (fun _ _ _ h_=>h_) (by kernel_rfl) (fun w_ hS_=>?go) (zk hx33_0 (zk hx30_0 z0)) rfl rfl ?_
       case go=>obtain⟨hs0_,_,_⟩:=hS_;first|(go_simp;done)|(go_simp;rfl)
       refine zlp 11 (.agg #[.int .i32 (rd t9 x16),.int .i32 (rd t9 (wrap64 (x16+1))),.int .i64 x4]) #[_,_,_,_,_,_,_,_,_,_,_,_,_,_,_] ⟨[_,_,_,_,_,_,_,_,_,_,_,_,_,_,_,_,_,_,_,_,_,_,_,_,_,_,_,_,_,_,_,_,_,_,_,_,_,_,_,_,_,_,_,_,_,_,_,_,_,_,_,_,_,_,_,_,_,_].toArray,[]⟩ (h:=?_)
       refine MW.last_fin (i:=12) (listed':= #[true,true,true,true,true,true,true,true,true,true,true,true,true,false,false]) rfl (by kernel_rfl) (by kernel_rfl) (by kernel_rfl) ?_
       go_wp2_with (((with_reducible refine gate_dst (N:=34) rfl ?_);(try(refine gate_guard (by rfl) ?_;dsimp only));refine Kd.N_lit k38 w.heap.size 38 rfl (N':=34) rfl (xs:=[(⟨rd t9 x16,rd t9 (wrap64 (x16+1)),x4⟩:S38)]) (inner:=[.int .i32 (rd t9 x16),.int .i32 (rd t9 (wrap64 (x16+1))),.int .i64 x4]) (ok:=(fun k_=>((w.heap.size≤k_)∧some k_≠((.slice (some ad30) t9.length cp20):Value).ownBlock)∧some k_≠(v14:Value).ownBlock)) (okp:=(fun k_=>((w.heap.size≤k_)∧some k_≠((.slice (some ad30) t9.length cp20):Value).ownBlock)∧some k_≠(v14:Value).ownBlock)) ?hr ?hp (fun _ hk_=>hk_) ?hf HB.out (below_size HB.out) (by first|simp|decide) ?_;(case hr=>first|(go_simp;done)|(go_simp;rfl));(case hp=>exact(Reps.c3 (k38_mkF _ _ (⟨rd t9 x16,rd t9 (wrap64 (x16+1)),x4⟩:S38)) (Reps.none _ _)));(case hf=>exact(show ∀ k_,w24.heap.size≤k_→(fun k_=>((w.heap.size≤k_)∧some k_≠((.slice (some ad30) t9.length cp20):Value).ownBlock)∧some k_≠(v14:Value).ownBlock) k_ from fun k_ h_=>⟨⟨(Nat.le_trans (below_size HB.out) h_),Kd.fresh' (Kd.N_lt HN12.out) k_ h_⟩,Kd.fresh' (Kd.N_lt HN15.out) k_ h_⟩) _ (Nat.le_refl _));intro v34 w35 hn1 hb1 hg1 hat1);replace hat1:=za hat1;refine stop_ ?_)
       refine zg ?_
       replace hat1:=hat1.out
       have hbe:=MW.grown_below hg1
       have hba:=MW.base_of hat1
       replace HN12:=za (Kd.N_mono (Kd.N_elder' (ok:=(fun k_=>(w.heap.size≤k_)∧some k_≠(v14:Value).ownBlock)) HN12.out hba hbe) (fun k_ hk_=>hk_):Kd.N (Kd.int .i32) _ _ _ (fun k_=>((w.heap.size≤k_)∧some k_≠(v14:Value).ownBlock)∧some k_≠(v34:Value).ownBlock) _ _)
       replace HN15:=za (Kd.N_mono (Kd.N_elder' (ok:=(fun k_=>(w.heap.size≤k_)∧some k_≠((.slice (some ad30) t9.length cp20):Value).ownBlock)) HN15.out hba hbe) (fun k_ hk_=>hk_):Kd.N k38 _ _ _ (fun k_=>((w.heap.size≤k_)∧some k_≠((.slice (some ad30) t9.length cp20):Value).ownBlock)∧some k_≠(v34:Value).ownBlock) _ _)
       replace HB:=za hb1
       have HN36:=za hn1
       clear hn1 hb1 hg1 hat1 hbe hba
       clear hx30_0 p30 q30 hx33_0 p33 q33
       refine wpList_nil ?_
       change wpAnyLast _ _ _ _ _ _ 2 #[true,true,true,true,true,true,true,true,true,true,true,true,true,false,false] ⟨[_,_,_,_,_,_,_,_,_,_,_,_,_,_,_,_,_,_,_,_,_,_,_,_,_,_,_,_,_,_,_,_,_,_,_,_,_,_,_,_,_,_,_,_,_,_,_,_,_,_,_,_,_,_,_,_,_,_].toArray,[]⟩ _
       refine MW.last_fin (i:=13) (listed':= #[true,true,true,true,true,true,true,true,true,true,true,true,true,true,false]) rfl (by kernel_rfl) (by kernel_rfl) (by kernel_rfl) ?_
       obtain⟨A37,cp38,he_⟩:=Kd.N_slice HN36.out
       subst he_
       have HF39:=za (Kd.N_F HN36.out)
       clear HN36
       replace HN12:=za (Kd.N_mono (ok:=(fun k_=>((w.heap.size≤k_)∧some k_≠(v14:Value).ownBlock)∧some k_≠((.slice A37 [(⟨rd t9 x16,rd t9 (wrap64 (x16+1)),x4⟩:S38)].length cp38):Value).ownBlock)) HN12.out (fun k_ hk_=>hk_.1):Kd.N (Kd.int .i32) _ _ _ (fun k_=>(w.heap.size≤k_)∧some k_≠(v14:Value).ownBlock) _ _)
       replace HN15:=za (Kd.N_mono (ok:=(fun k_=>((w.heap.size≤k_)∧some k_≠((.slice (some ad30) t9.length cp20):Value).ownBlock)∧some k_≠((.slice A37 [(⟨rd t9 x16,rd t9 (wrap64 (x16+1)),x4⟩:S38)].length cp38):Value).ownBlock)) HN15.out (fun k_ hk_=>hk_.1):Kd.N k38 _ _ _ (fun k_=>(w.heap.size≤k_)∧some k_≠((.slice (some ad30) t9.length cp20):Value).ownBlock) _ _)
       obtain⟨HH,LMc41⟩:=zlm HH
       obtain⟨y42,hy42⟩:∃ y_:List (S38),y_=(x13++[(⟨rd t9 x16,rd t9 (wrap64 (x16+1)),x4⟩:S38)]):=⟨_,rfl⟩
       have H:((chars_Table.l1 k17 y42 (wrap64 (x16+2)) t9 x4))=some r:=by rw[hy42];exact HH.out
       replace HH:=za H
       clear H
       have NYy42:=za hy42
       clear hy42
       go_wp2_with (((with_reducible refine gate_dst (N:=35) rfl ?_);(try(refine gate_guard (by rfl) ?_;dsimp only));refine Kd.N_append_rows k38 w.heap.size rfl _ _ 33 38 (.agg #[(.int .i32 0),(.int .i32 0),(.int .i64 0)]) 16 rfl Try.underlying33 info38 rfl (by decide) (by decide) (v14) x13 [(⟨rd t9 x16,rd t9 (wrap64 (x16+1)),x4⟩:S38)] _ _ _ (fun k_=>(w.heap.size≤k_)∧some k_≠((.slice (some ad30) t9.length cp20):Value).ownBlock) (fun k_=>(fun k_=>(w.heap.size≤k_)∧some k_≠((.slice (some ad30) t9.length cp20):Value).ownBlock) k_∧some k_≠(v14:Value).ownBlock) rfl rfl HN15.out (Kd.F_mono (ok:=(fun k_=>((w.heap.size≤k_)∧some k_≠((.slice (some ad30) t9.length cp20):Value).ownBlock)∧some k_≠(v14:Value).ownBlock)) HF39.out (fun k_ hk_=>⟨hk_.1,hk_.2⟩)) (fun _ hk_=>hk_) (fun k_ h_=>⟨(Nat.le_trans (below_size HB.out) h_),Kd.fresh' (Kd.N_lt HN12.out) k_ h_⟩) HB.out (below_size HB.out) (by first|(have:=LMc41.out;simp only[List.length_nil] at *;omega)|(have:=LMc41.out;simp at *;omega)) ?_;intro v43 w44 hn1 hb1 hg1 hat1);replace hat1:=za hat1;refine stop_ ?_)
       refine zg ?_
       replace hat1:=hat1.out
       replace HN12:=za (Kd.N_mono (Kd.N_after (u:=v14) (ok:=(fun k_=>(w.heap.size≤k_))) (Kd.N_mono (ok:=(fun k_=>(w.heap.size≤k_)∧some k_≠(v14:Value).ownBlock)) HN12.out (fun k_ hk_=>⟨hk_.1,hk_.2⟩)) hg1 hat1) (fun k_ hk_=>hk_):Kd.N (Kd.int .i32) _ _ _ (fun k_=>(w.heap.size≤k_)∧some k_≠(v43:Value).ownBlock) _ _)
       replace HB:=za hb1
       clear HN15
       have HN45:=za hn1
       clear hn1 hb1 hg1 hat1
       replace HN45:=za (by rw[NYy42.out];exact HN45.out:Kd.N k38 38 w44 w.heap.size (fun k_=>(w.heap.size≤k_)∧some k_≠((.slice (some ad30) t9.length cp20):Value).ownBlock) v43 y42)
       refine wpList_nil ?_
       change wpAnyLast _ _ _ _ _ _ 1 #[true,true,true,true,true,true,true,true,true,true,true,true,true,true,false] ⟨[_,_,_,_,_,_,_,_,_,_,_,_,_,_,_,_,_,_,_,_,_,_,_,_,_,_,_,_,_,_,_,_,_,_,_,_,_,_,_,_,_,_,_,_,_,_,_,_,_,_,_,_,_,_,_,_,_,_].toArray,[]⟩ _
       refine zlp 14 (v43) #[_,_,_,_,_,_,_,_,_,_,_,_,_,_,_] ⟨[_,_,_,_,_,_,_,_,_,_,_,_,_,_,_,_,_,_,_,_,_,_,_,_,_,_,_,_,_,_,_,_,_,_,_,_,_,_,_,_,_,_,_,_,_,_,_,_,_,_,_,_,_,_,_,_,_,_].toArray,[]⟩ (h:=?_)
       refine MW.last_done (by kernel_rfl) ?_ _
       clear hwr_
       go_wp2
       go_roundg k17
       case measure=>have:=HK0.out;have:=HK1.out;omega
       case rel=>exact⟨y42,wrap64 (x16+2),(by first|rfl|(simp;done)|(simp[*];done)),HH,⟨by have:=HK0.out;have:=HK1.out;omega⟩,⟨(Kd.N_mono (ok:=(fun k_=>(w.heap.size≤k_)∧some k_≠(v43:Value).ownBlock)) HN12.out (fun k_ hk_=>hk_))⟩,⟨(Kd.N_mono (ok:=(fun k_=>(w.heap.size≤k_)∧some k_≠((.slice (some ad30) t9.length cp20):Value).ownBlock)) HN45.out (fun k_ hk_=>hk_))⟩,⟨HB.out⟩⟩
      go_wp2
      go_roundg k17
      case measure=>have:=HK0.out;have:=HK1.out;omega
      case rel=>exact⟨x13,wrap64 (x4+1),(by first|rfl|(simp;done)|(simp[*];done)),HH,⟨by have:=HK0.out;have:=HK1.out;omega⟩,⟨(Kd.N_mono (ok:=(fun k_=>(w.heap.size≤k_)∧some k_≠((.slice A19 t9.length cp20):Value).ownBlock)) HN15.out (fun k_ hk_=>hk_.1))⟩,⟨HB.out⟩⟩
   go_wp2
   go_loopg [1,36] k5 (fun kq u1 u36 w'=>∃ (x53:List (S38)) (x56:Int),u36=.int .i64 x56∧Aside0 ((chars_Table.l2 kq x53 x56)=some r)∧Aside0 (kq≤k5)∧Aside0 (Kd.N k38 38 w' w.heap.size (fun k_=>(w.heap.size≤k_)) u1 x53)∧Aside0 (Below w.heap.size w w'))
   case atStart=>exact⟨x1,0,(by first|rfl|(simp;done)|(simp[*];done)),HH,⟨Nat.le_refl _⟩,⟨(Kd.N_mono (ok:=(fun k_=>(w.heap.size≤k_))) HN3.out (fun k_ hk_=>hk_))⟩,⟨HB.out⟩⟩
   case round=>
    clear hk52
    clear HH
    clear HN3 HB
    obtain⟨x53,x56,rfl,HA,HK2,HN55,HB⟩:=hrel
    obtain⟨v54,rfl⟩:∃ z_:Value,z_=u1:=⟨_,rfl⟩
    obtain⟨w58,rfl⟩:∃ wo_:World,wo_=wr:=⟨_,rfl⟩
    cases gk with
    |zero=>exact absurd HA.out (by simp[chars_Table.l2])
    |succ k57=>
     have H:=HA.out
     clear HA
     simp only[chars_Table.l2] at H
     have HH:=za H
     clear H
     replace HH:=zqt HH
     rcases HH with⟨HH,hk60,hk61⟩|⟨HH,hk67,hk68⟩
     ·obtain⟨HH,LMc62⟩:=zlm HH
      obtain⟨y63,hy63⟩:∃ y_:List (S38),y_=(x53++[(⟨wrap32 ((wrap32 ((wrap32 ((wrap32 (wrap64 (x56+2)))*65536)) - 1)) - 1),wrap32 ((wrap32 ((wrap32 (wrap64 (x56+2)))*65536)) - 1),7⟩:S38)]):=⟨_,rfl⟩
      have H:((chars_Table.l2 k57 y63 (wrap64 (x56+1))))=some r:=by rw[hy63];exact HH.out
      replace HH:=za H
      clear H
      have NYy63:=za hy63
      clear hy63
      go_wp2_with (((with_reducible refine gate_dst (N:=50) rfl ?_);(try(refine gate_guard (by rfl) ?_;dsimp only));refine Kd.N_append k38 w.heap.size rfl _ _ 33 38 (.agg #[(.int .i32 0),(.int .i32 0),(.int .i64 0)]) 16 rfl Try.underlying33 info38 rfl (by decide) (by decide) (v54) x53 (⟨wrap32 ((wrap32 ((wrap32 ((wrap32 (wrap64 (x56+2)))*65536)) - 1)) - 1),wrap32 ((wrap32 ((wrap32 (wrap64 (x56+2)))*65536)) - 1),7⟩:S38) [.int .i32 (wrap32 ((wrap32 ((wrap32 ((wrap32 (wrap64 (x56+2)))*65536)) - 1)) - 1)),.int .i32 (wrap32 ((wrap32 ((wrap32 (wrap64 (x56+2)))*65536)) - 1)),.int .i64 7] (fun k_=>(w.heap.size≤k_)) (fun k_=>(fun k_=>(w.heap.size≤k_)) k_∧some k_≠(v54:Value).ownBlock) rfl rfl (k38_mkF _ _ (⟨wrap32 ((wrap32 ((wrap32 ((wrap32 (wrap64 (x56+2)))*65536)) - 1)) - 1),wrap32 ((wrap32 ((wrap32 (wrap64 (x56+2)))*65536)) - 1),7⟩:S38)) (fun _ hk_=>hk_) (fun k_ h_=>(Nat.le_trans (below_size (by repeat(first|(with_reducible first|exact HB.out|apply below_alloc|apply pw_below_drewN|apply below_drew1)|exact HB.out))) h_)) (by(with_reducible repeat(first|apply Kd.N_alloc|apply Kd.N_drewN|apply Kd.N_drew));exact HN55.out) (by repeat(first|(with_reducible first|exact HB.out|apply below_alloc|apply pw_below_drewN|apply below_drew1)|exact HB.out)) (below_size (by repeat(first|(with_reducible first|exact HB.out|apply below_alloc|apply pw_below_drewN|apply below_drew1)|exact HB.out))) (by first|(have:=LMc62.out;omega)|(have:=LMc62.out;simp at *;omega)) ?_;intro v64 w65 hn1 hb1 hg1 hat1);replace hat1:=za hat1;refine stop_ ?_)
      refine zg ?_
      replace hat1:=hat1.out
      replace HB:=za hb1
      clear HN55
      have HN66:=za hn1
      clear hn1 hb1 hg1 hat1
      replace HN66:=za (by rw[NYy63.out];exact HN66.out:Kd.N k38 38 w65 w.heap.size (fun k_=>(w.heap.size≤k_)) v64 y63)
      go_wp2
      go_roundg k57
      case measure=>have:=HK0.out;have:=HK2.out;omega
      case rel=>exact⟨y63,wrap64 (x56+1),(by first|rfl|(simp;done)|(simp[*];done)),HH,⟨by have:=HK0.out;have:=HK2.out;omega⟩,⟨(Kd.N_mono (ok:=(fun k_=>(w.heap.size≤k_))) HN66.out (fun k_ hk_=>hk_))⟩,⟨HB.out⟩⟩
     obtain⟨A69,cp70,he_⟩:=Kd.N_slice HN55.out
     subst he_
     have HL72:=za (Kd.N_reads' HN55.out).2.1
     have HF71:=za (Kd.N_F HN55.out)
     clear HN55
     replace HH:=zd HH
     obtain⟨⟨t73,t74⟩,At75,HH⟩:=HH
     dsimp only at HH
     go_wp2_with ((with_reducible refine gc 35 rfl ?_);refine zc 35 (some 54) Try.func35 #[.slice A69 x53.length cp70] (h:=?_);(with_reducible refine(span_Build.calls k57 (fun k_=>(w.heap.size≤k_)) _ _ x53 t73 t74 _ HF71.out HL72.out At75.out).mono ?_);rintro e w76 ⟨v77,rfl,hn77,hb⟩;refine⟨_,rfl,?_⟩)
     refine zg ?_
     have hba:=Kd.N_base hn77
     have HN77:=znl (ok2:=(fun k_=>(w.heap.size≤k_))) hn77 (below_size HB.out) (fun k_ hk_=>hk_.elim (fun h_=>h_) (fun h_=>(Nat.le_trans (below_size HB.out) h_)))
     replace HB:=zhb HB.out hb
     clear hn77 hba hb
     obtain rfl:=Option.some.inj HH.out
     clear HH
     go_wp2
     go_ret
     exact⟨_,by first|rfl|(simp;done)|(simp[*];done),(Kd.N_mono (ok:=(fun k_=>(w.heap.size≤k_))) HN77.out (fun k_ hk_=>hk_)),HB.out⟩
end Go.Proofs.Ytkbiiijmgbjnkaa.GA
