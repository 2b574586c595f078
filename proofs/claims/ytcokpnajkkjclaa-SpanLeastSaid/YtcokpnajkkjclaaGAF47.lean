import Derived.Test.YtcokpnajkkjclaaGA0
import Derived.Test.YtcokpnajkkjclaaGM1
import Derived.Test.YtcokpnajkkjclaaMS
namespace Go.Proofs.Ytcokpnajkkjclaa.GA
open Go.RowKit Go.Proofs.Ytcokpnajkkjclaa Go.Proofs.Ytcokpnajkkjclaa.MW Go.Proofs.YtcokpnajkkjclaaW.PrintWords Go.Proofs.YtcokpnajkkjclaaW.PrintLast Go.Proofs.YtcokpnajkkjclaaW.PrintMore
attribute [local go_sem] max2_int min2_int max_two min_two
set_option maxHeartbeats 8000000
set_option maxRecDepth 100000
set_option linter.unusedVariables false
set_option linter.unusedSimpArgs false
def slices_siftDownOrdered_rune.l0:Nat→Int→(List Int)→Int→Int→(List Int)→Option (List Int)
 |0,_,_,_,_,_=>none
 |k+1,x1,x2,a2,a3,l0=>if (wrap64 ((wrap64 (2*x1))+1))≥a2 then(some x2) else((if (wrap64 ((wrap64 ((wrap64 (2*x1))+1))+1))<a2 then(if 0≤(wrap64 (a3+(wrap64 ((wrap64 (2*x1))+1)))) then(if (wrap64 (a3+(wrap64 ((wrap64 (2*x1))+1))))<(l0.length:Int) then(if 0≤(wrap64 ((wrap64 (a3+(wrap64 ((wrap64 (2*x1))+1))))+1)) then(if (wrap64 ((wrap64 (a3+(wrap64 ((wrap64 (2*x1))+1))))+1))<(l0.length:Int) then((cmp_Less_rune.f (rd x2 (wrap64 (a3+(wrap64 ((wrap64 (2*x1))+1))))) (rd x2 (wrap64 ((wrap64 (a3+(wrap64 ((wrap64 (2*x1))+1))))+1)))).bind fun t26=>(some (t26))) else(none)) else(none)) else(none)) else(none)) else(some (false))).bind fun b8=>(if b8=true then(if 0≤(wrap64 (a3+x1)) then(if (wrap64 (a3+x1))<(l0.length:Int) then(if 0≤(wrap64 (a3+(wrap64 ((wrap64 ((wrap64 (2*x1))+1))+1)))) then(if (wrap64 (a3+(wrap64 ((wrap64 ((wrap64 (2*x1))+1))+1))))<(l0.length:Int) then((cmp_Less_rune.f (rd x2 (wrap64 (a3+x1))) (rd x2 (wrap64 (a3+(wrap64 ((wrap64 ((wrap64 (2*x1))+1))+1)))))).bind fun t49=>(if t49=true then((some (List.set x2 (wrap64 (a3+x1)).toNat (rd x2 (wrap64 (a3+(wrap64 ((wrap64 ((wrap64 (2*x1))+1))+1))))):List Int)).bind fun y56=>((some (List.set y56 (wrap64 (a3+(wrap64 ((wrap64 ((wrap64 (2*x1))+1))+1)))).toNat (rd x2 (wrap64 (a3+x1))):List Int)).bind fun y60=>((slices_siftDownOrdered_rune.l0 k (wrap64 ((wrap64 ((wrap64 (2*x1))+1))+1)) y60 a2 a3 l0)))) else(some x2))) else(none)) else(none)) else(none)) else(none)) else(if 0≤(wrap64 (a3+x1)) then(if (wrap64 (a3+x1))<(l0.length:Int) then(if 0≤(wrap64 (a3+(wrap64 ((wrap64 (2*x1))+1)))) then(if (wrap64 (a3+(wrap64 ((wrap64 (2*x1))+1))))<(l0.length:Int) then((cmp_Less_rune.f (rd x2 (wrap64 (a3+x1))) (rd x2 (wrap64 (a3+(wrap64 ((wrap64 (2*x1))+1)))))).bind fun t81=>(if t81=true then((some (List.set x2 (wrap64 (a3+x1)).toNat (rd x2 (wrap64 (a3+(wrap64 ((wrap64 (2*x1))+1))))):List Int)).bind fun y88=>((some (List.set y88 (wrap64 (a3+(wrap64 ((wrap64 (2*x1))+1)))).toNat (rd x2 (wrap64 (a3+x1))):List Int)).bind fun y92=>((slices_siftDownOrdered_rune.l0 k (wrap64 ((wrap64 (2*x1))+1)) y92 a2 a3 l0)))) else(some x2))) else(none)) else(none)) else(none)) else(none))))
def slices_siftDownOrdered_rune.f (k:Nat) (l0:List Int) (a1:Int) (a2:Int) (a3:Int):Option (List Int):=(slices_siftDownOrdered_rune.l0 k a1 l0 a2 a3 l0)
theorem slices_siftDownOrdered_rune.mono_l:∀ k,(∀ y0 y1 y2 y3 y4,LeO (slices_siftDownOrdered_rune.l0 k y0 y1 y2 y3 y4) (slices_siftDownOrdered_rune.l0 (k+1) y0 y1 y2 y3 y4))
 |0=>fun _ _ _ _ _ r h=>by simp[slices_siftDownOrdered_rune.l0] at h
 |k+1=>by
  have ih0:=slices_siftDownOrdered_rune.mono_l k
  ·intro y0 y1 y2 y3 y4
   unfold slices_siftDownOrdered_rune.l0
   with_reducible repeat' first|exact ih0 _ _ _ _ _|exact LeO.refl _|exact LeO.none _|refine LeO.ite ?_ ?_|refine LeO.bind ?_ (fun _=>?_)
theorem slices_siftDownOrdered_rune.mono:∀ a0_ a1_ a2_ a3_ k,LeO (slices_siftDownOrdered_rune.f k a0_ a1_ a2_ a3_) (slices_siftDownOrdered_rune.f (k+1) a0_ a1_ a2_ a3_):=by
 intro a0_ a1_ a2_ a3_ k
 have ih0:=slices_siftDownOrdered_rune.mono_l k
 unfold slices_siftDownOrdered_rune.f
 with_reducible repeat' first|exact ih0 _ _ _ _ _|exact LeO.refl _|exact LeO.none _|refine LeO.ite ?_ ?_|refine LeO.bind ?_ (fun _=>?_)
theorem slices_siftDownOrdered_rune.calls (k:Nat) (B_:Nat) (A0:Option Addr) (c0:Nat) (l0:List Int) (a1:Int) (a2:Int) (a3:Int) (r:List Int) (w:World) (hB0:B_≤w.heap.size) (hn0:Kd.N (Kd.int .i32) 21 w B_ (fun k_=>some k_=((.slice A0 l0.length c0):Value).ownBlock) (.slice A0 l0.length c0) l0) (h:slices_siftDownOrdered_rune.f k l0 a1 a2 a3=some r):
  Calls Try.prog 47 #[(.slice A0 l0.length c0),.int .i64 a1,.int .i64 a2,.int .i64 a3] w (fun e w'=>e=.returned (.tuple #[])∧Kd.N (Kd.int .i32) 21 w' B_ (fun k_=>some k_=((.slice A0 l0.length c0):Value).ownBlock∨w.heap.size≤k_) (.slice A0 l0.length c0) r∧(∀ k_:Nat,some k_≠((.slice A0 l0.length c0):Value).ownBlock→k_<w.heap.size→w'.heap[k_]? =w.heap[k_]?)∧Below B_ w w'):=by
 unfold slices_siftDownOrdered_rune.f at h
 have HH:=za h
 clear h
 obtain⟨P0_,HPO⟩:∃ P0_:Nat→Prop,P0_=(fun k_=>some k_≠((.slice A0 l0.length c0):Value).ownBlock):=⟨_,rfl⟩
 have HFfr:=za (MB.frK_new w (fun k_ hk_=>by rw[HPO] at hk_;exact⟨trivial,hk_⟩):Kd.F (MB.frK w P0_) w (fun k_=>True∧some k_≠((.slice A0 l0.length c0):Value).ownBlock) (some ⟨0,0,none⟩) [()].length [()])
 replace HPO:=za HPO
 have hB_:=za hB0
 have HN0:=za (Kd.N_mono hn0 (fun k_ hk_=>⟨trivial,.inl hk_⟩):Kd.N (Kd.int .i32) 21 w B_ (fun k_=>True∧(some k_=((.slice A0 l0.length c0):Value).ownBlock∨w.heap.size≤k_)) (.slice A0 l0.length c0) l0)
 clear hn0
 have HB:=za (Below.refl B_ w)
 go_enter Try.func47,Try.ntmps47
 go_wp2
 go_loopg [8] k (fun kq u8 w'=>∃ (x1:Int) (x2:List Int),u8=.int .i64 x1∧Aside0 ((slices_siftDownOrdered_rune.l0 kq x1 x2 a2 a3 l0)=some r)∧Aside0 (kq≤k)∧Aside0 (Kd.F (MB.frK w P0_) w' (fun k_=>True∧some k_≠((.slice A0 l0.length c0):Value).ownBlock) (some ⟨0,0,none⟩) [()].length [()])∧Aside0 (Kd.N (Kd.int .i32) 21 w' B_ (fun k_=>True∧(some k_=((.slice A0 l0.length c0):Value).ownBlock∨w.heap.size≤k_)) (.slice A0 l0.length c0) x2)∧Aside0 (Below B_ w w'))
 case atStart=>exact⟨a1,l0,(by first|rfl|(simp;done)|(simp[*];done)),HH,⟨Nat.le_refl _⟩,⟨HFfr.out⟩,⟨(Kd.N_mono (ok:=(fun k_=>True∧(some k_=((.slice A0 l0.length c0):Value).ownBlock∨w.heap.size≤k_))) HN0.out (fun k_ hk_=>hk_))⟩,⟨HB.out⟩⟩
 case round=>
  clear HH
  clear HFfr HN0 HB
  obtain⟨x1,x2,rfl,HA,HK0,HFfr,HN0,HB⟩:=hrel
  obtain⟨w4,rfl⟩:∃ wo_:World,wo_=wr:=⟨_,rfl⟩
  cases gk with
  |zero=>exact absurd HA.out (by simp[slices_siftDownOrdered_rune.l0])
  |succ k3=>
   have H:=HA.out
   clear HA
   simp only[slices_siftDownOrdered_rune.l0] at H
   have HH:=za H
   clear H
   replace HH:=zqG HH
   rcases HH with⟨HH,hk6⟩|⟨HH,hk7⟩
   ·obtain rfl:=Option.some.inj HH.out
    clear HH
    go_wp2
    (first|go_end0|((try simp only[Exit.inBlock,Exit.then]);refine bodyPost_ret (results_none rfl _ _ _) rfl ?_))
    exact⟨by first|rfl|(simp;done)|(simp[*];done),(Kd.N_mono (ok:=(fun k_=>True∧(some k_=((.slice A0 l0.length c0):Value).ownBlock∨w.heap.size≤k_))) HN0.out (fun k_ hk_=>hk_.2)),(fun k_ hv_ hlt_=>MB.frK_out HFfr.out k_ (by rw[HPO.out];exact hv_) hlt_),HB.out⟩
   replace HH:=zd HH
   obtain⟨b8,At9,HH⟩:=HH
   go_wp2
   obtain⟨R_,hR_⟩:∃ R_:Act→World→Prop,R_=(fun a_ w_=>∃ u17 u18 u19 u20 u21 u22 u23 u24 u25 u26 u27 u28 u29 u30 u31 u32 u33 u34 u35:Value,a_=(⟨[(.slice A0 l0.length c0),(.int .i64 a1),(.int .i64 a2),(.int .i64 a3),undef,undef,undef,undef,(.int .i64 x1),(.int .i64 (wrap64 ((wrap64 (2*x1))+1))),(.int .i64 a1),(.int .i64 x1),(.int .i64 (wrap64 (2*x1))),(.int .i64 (wrap64 ((wrap64 (2*x1))+1))),(.int .i64 (wrap64 ((wrap64 (2*x1))+1))),(.int .i64 a2),(.bool false),u17,u18,u19,u20,u21,u22,u23,u24,u25,u26,u27,u28,u29,u30,u31,u32,u33,u34,u35,.bool b8,u37,u38,u39,u40,u41,u42,u43,u44,u45,u46,u47,u48,u49,u50,u51,u52,u53,u54,u55,u56,u57,u58,u59,u60,u61,u62,u63,u64,u65,u66,u67,u68,u69,u70,u71,u72,u73,u74,u75].toArray,[]⟩:Act)∧Drawn0 w4 w_):=⟨_,rfl⟩
   replace hR_:=za hR_
   refine MS.join R_ ?_ ?_
   ·clear HH
    have HH:=At9
    clear At9
    replace HH:=zqt HH
    rcases HH with⟨HH,hk12,hk13⟩|⟨HH,hk34,hk35⟩
    ·replace HH:=zqdo HH
     obtain⟨HH,hk15⟩:=HH
     replace HH:=zqto HH
     obtain⟨HH,hk17,hk18⟩:=HH
     have p19:0≤((wrap64 (a3+(wrap64 ((wrap64 (2*x1))+1)))):Int):=of_decide_eq_true (by first|(with_reducible assumption)|assumption)
     have q19:(wrap64 (a3+(wrap64 ((wrap64 (2*x1))+1))))<(l0.length:Int):=of_decide_eq_true (by first|(with_reducible assumption)|assumption)
     obtain⟨ad19,e19,hx19_0⟩:=Kd.at_int (Kd.F_now (Kd.N_F HN0.out)) (wrap64 (a3+(wrap64 ((wrap64 (2*x1))+1)))) p19 q19
     cases e19
     replace p19:=eq_true p19
     replace q19:=eq_true q19
     replace HH:=zqdo HH
     obtain⟨HH,hk21⟩:=HH
     replace HH:=zqto HH
     obtain⟨HH,hk23,hk24⟩:=HH
     have p25:0≤((wrap64 ((wrap64 (a3+(wrap64 ((wrap64 (2*x1))+1))))+1)):Int):=of_decide_eq_true (by first|(with_reducible assumption)|assumption)
     have q25:(wrap64 ((wrap64 (a3+(wrap64 ((wrap64 (2*x1))+1))))+1))<(l0.length:Int):=of_decide_eq_true (by first|(with_reducible assumption)|assumption)
     obtain⟨ad25,e25,hx25_0⟩:=Kd.at_int (Kd.F_now (Kd.N_F HN0.out)) (wrap64 ((wrap64 (a3+(wrap64 ((wrap64 (2*x1))+1))))+1)) p25 q25
     cases e25
     replace p25:=eq_true p25
     replace q25:=eq_true q25
     replace HH:=zd HH
     obtain⟨t26,At27,HH⟩:=HH
     go_wp2
     go_quiet ((first|(go_at_call 42;first|exact Calls.quiet_of (MW.drawn (cmp_Less_rune.calls  (rd x2 (wrap64 (a3+(wrap64 ((wrap64 (2*x1))+1))))) (rd x2 (wrap64 ((wrap64 (a3+(wrap64 ((wrap64 (2*x1))+1))))+1))) t26 _  At27.out))|exact MW.quiet_far (MW.drawn (cmp_Less_rune.calls  (rd x2 (wrap64 (a3+(wrap64 ((wrap64 (2*x1))+1))))) (rd x2 (wrap64 ((wrap64 (a3+(wrap64 ((wrap64 (2*x1))+1))))+1))) t26 _  At27.out)))))
     obtain rfl:=Option.some.inj HH.out
     go_wp2
     refine MS.Joined.mk ?_
     rw[hR_.out]
     exact⟨_,_,_,_,_,_,_,_,_,_,_,_,_,_,_,_,_,_,_,rfl,by repeat(first|exact Drawn0.refl _|apply Drawn0.step)⟩
    go_wp2
    go_quiet ((first|(go_at_call 42;first|exact Calls.quiet_of (MW.drawn (cmp_Less_rune.calls  (rd x2 (wrap64 (a3+(wrap64 ((wrap64 (2*x1))+1))))) (rd x2 (wrap64 ((wrap64 (a3+(wrap64 ((wrap64 (2*x1))+1))))+1))) t26 _  At27.out))|exact MW.quiet_far (MW.drawn (cmp_Less_rune.calls  (rd x2 (wrap64 (a3+(wrap64 ((wrap64 (2*x1))+1))))) (rd x2 (wrap64 ((wrap64 (a3+(wrap64 ((wrap64 (2*x1))+1))))+1))) t26 _  At27.out)))))
    obtain rfl:=Option.some.inj HH.out
    go_wp2
    refine MS.Joined.mk ?_
    rw[hR_.out]
    exact⟨_,_,_,_,_,_,_,_,_,_,_,_,_,_,_,_,_,_,_,rfl,by repeat(first|exact Drawn0.refl _|apply Drawn0.step)⟩
   intro a_ w10 hd_
   rw[hR_.out] at hd_
   obtain⟨u17,u18,u19,u20,u21,u22,u23,u24,u25,u26,u27,u28,u29,u30,u31,u32,u33,u34,u35,rfl,hd_⟩:=hd_
   have hb:=MS.drawn_below hd_
   clear At9 hd_ hR_ R_
   replace HFfr:=zfb HFfr.out hb
   replace HN0:=znb HN0.out hb
   replace HB:=za (MB.below_stepB hB_.out HB.out hb)
   clear hb
   by_cases c36:b8=true
   ·replace HH:=MW.hpos HH c36
    subst c36
    replace HH:=zqdo HH
    obtain⟨HH,hk38⟩:=HH
    replace HH:=zqto HH
    obtain⟨HH,hk40,hk41⟩:=HH
    have p42:0≤((wrap64 (a3+x1)):Int):=of_decide_eq_true (by first|(with_reducible assumption)|assumption)
    have q42:(wrap64 (a3+x1))<(l0.length:Int):=of_decide_eq_true (by first|(with_reducible assumption)|assumption)
    obtain⟨ad42,e42,hx42_0⟩:=Kd.at_int (Kd.F_now (Kd.N_F HN0.out)) (wrap64 (a3+x1)) p42 q42
    cases e42
    replace p42:=eq_true p42
    replace q42:=eq_true q42
    replace HH:=zqdo HH
    obtain⟨HH,hk44⟩:=HH
    replace HH:=zqto HH
    obtain⟨HH,hk46,hk47⟩:=HH
    have p48:0≤((wrap64 (a3+(wrap64 ((wrap64 ((wrap64 (2*x1))+1))+1)))):Int):=of_decide_eq_true (by first|(with_reducible assumption)|assumption)
    have q48:(wrap64 (a3+(wrap64 ((wrap64 ((wrap64 (2*x1))+1))+1))))<(l0.length:Int):=of_decide_eq_true (by first|(with_reducible assumption)|assumption)
    obtain⟨ad48,e48,hx48_0⟩:=Kd.at_int (Kd.F_now (Kd.N_F HN0.out)) (wrap64 (a3+(wrap64 ((wrap64 ((wrap64 (2*x1))+1))+1)))) p48 q48
    cases e48
    replace p48:=eq_true p48
    replace q48:=eq_true q48
    replace HH:=zd HH
    obtain⟨t49,At50,HH⟩:=HH
    by_cases c51:t49=true
    ·replace HH:=MW.hpos HH c51
     subst c51
     go_wp2
     go_quiet ((first|(go_at_call 42;first|exact Calls.quiet_of (MW.drawn (cmp_Less_rune.calls  (rd x2 (wrap64 (a3+x1))) (rd x2 (wrap64 (a3+(wrap64 ((wrap64 ((wrap64 (2*x1))+1))+1))))) true _  At50.out))|exact MW.quiet_far (MW.drawn (cmp_Less_rune.calls  (rd x2 (wrap64 (a3+x1))) (rd x2 (wrap64 (a3+(wrap64 ((wrap64 ((wrap64 (2*x1))+1))+1))))) true _  At50.out)))))
     go_wp2
     refine MW.name_world (W0:=w10) (by repeat(first|exact Drawn0.refl _|apply Drawn0.step)) ?_
     intro w52 hb
     replace HFfr:=zfb HFfr.out hb
     replace HN0:=znb HN0.out hb
     replace HB:=za (MB.below_stepB hB_.out HB.out hb)
     clear hb
     clear hx42_0 p42 q42 hx48_0 p48 q48
     go_wp2
     have hwr_:∀ n_:Int,IntKind.i64.wrap n_=wrap64 n_:=fun n_=>IntWalk.i64_left n_
     refine wp_region_any (by kernel_rfl) ?_
     change wpAny _ _ _ _ 24 #[false,false,false,false,false,false,false,false,false,false,false,false,false,false,false,false,false,false,false,false,false,false,false,false] _ w52.drew
     obtain⟨w53,hw_⟩:∃ w_:World,w_=w52.drew:=⟨_,rfl⟩
     rw[← hw_]
     have hb:Below w52.heap.size w52 w53:=by rw[hw_];exact below_drew1 (Below.refl _ _)
     clear hw_
     replace HFfr:=zfb HFfr.out hb
     replace HN0:=znb HN0.out hb
     replace HB:=za (MB.below_stepB hB_.out HB.out hb)
     clear hb
     refine zt 0 ((.slice (some ad42) l0.length c0)) #[_,_,_,_,_,_,_,_,_,_,_,_,_,_,_,_,_,_,_,_,_,_,_,_] ⟨[_,_,_,_,_,_,_,_,_,_,_,_,_,_,_,_,_,_,_,_,_,_,_,_,_,_,_,_,_,_,_,_,_,_,_,_,_,_,_,_,_,_,_,_,_,_,_,_,_,_,_,_,_,_,_,_,_,_,_,_,_,_,_,_,_,_,_,_,_,_,_,_,_,_,_,_].toArray,[]⟩ (h:=?_)
     refine zt 1 (.int .i64 a3) #[_,_,_,_,_,_,_,_,_,_,_,_,_,_,_,_,_,_,_,_,_,_,_,_] ⟨[_,_,_,_,_,_,_,_,_,_,_,_,_,_,_,_,_,_,_,_,_,_,_,_,_,_,_,_,_,_,_,_,_,_,_,_,_,_,_,_,_,_,_,_,_,_,_,_,_,_,_,_,_,_,_,_,_,_,_,_,_,_,_,_,_,_,_,_,_,_,_,_,_,_,_,_].toArray,[]⟩ (h:=?_)
     refine zt 2 (.int .i64 x1) #[_,_,_,_,_,_,_,_,_,_,_,_,_,_,_,_,_,_,_,_,_,_,_,_] ⟨[_,_,_,_,_,_,_,_,_,_,_,_,_,_,_,_,_,_,_,_,_,_,_,_,_,_,_,_,_,_,_,_,_,_,_,_,_,_,_,_,_,_,_,_,_,_,_,_,_,_,_,_,_,_,_,_,_,_,_,_,_,_,_,_,_,_,_,_,_,_,_,_,_,_,_,_].toArray,[]⟩ (h:=?_)
     refine zt 3 (.int .i64 (wrap64 (a3+x1))) #[_,_,_,_,_,_,_,_,_,_,_,_,_,_,_,_,_,_,_,_,_,_,_,_] ⟨[_,_,_,_,_,_,_,_,_,_,_,_,_,_,_,_,_,_,_,_,_,_,_,_,_,_,_,_,_,_,_,_,_,_,_,_,_,_,_,_,_,_,_,_,_,_,_,_,_,_,_,_,_,_,_,_,_,_,_,_,_,_,_,_,_,_,_,_,_,_,_,_,_,_,_,_].toArray,[]⟩ (h:=?_)
     refine zt 4 ((.slice (some ad42) l0.length c0)) #[_,_,_,_,_,_,_,_,_,_,_,_,_,_,_,_,_,_,_,_,_,_,_,_] ⟨[_,_,_,_,_,_,_,_,_,_,_,_,_,_,_,_,_,_,_,_,_,_,_,_,_,_,_,_,_,_,_,_,_,_,_,_,_,_,_,_,_,_,_,_,_,_,_,_,_,_,_,_,_,_,_,_,_,_,_,_,_,_,_,_,_,_,_,_,_,_,_,_,_,_,_,_].toArray,[]⟩ (h:=?_)
     refine zt 5 (.int .i64 a3) #[_,_,_,_,_,_,_,_,_,_,_,_,_,_,_,_,_,_,_,_,_,_,_,_] ⟨[_,_,_,_,_,_,_,_,_,_,_,_,_,_,_,_,_,_,_,_,_,_,_,_,_,_,_,_,_,_,_,_,_,_,_,_,_,_,_,_,_,_,_,_,_,_,_,_,_,_,_,_,_,_,_,_,_,_,_,_,_,_,_,_,_,_,_,_,_,_,_,_,_,_,_,_].toArray,[]⟩ (h:=?_)
     refine zt 6 (.int .i64 (wrap64 ((wrap64 ((wrap64 (2*x1))+1))+1))) #[_,_,_,_,_,_,_,_,_,_,_,_,_,_,_,_,_,_,_,_,_,_,_,_] ⟨[_,_,_,_,_,_,_,_,_,_,_,_,_,_,_,_,_,_,_,_,_,_,_,_,_,_,_,_,_,_,_,_,_,_,_,_,_,_,_,_,_,_,_,_,_,_,_,_,_,_,_,_,_,_,_,_,_,_,_,_,_,_,_,_,_,_,_,_,_,_,_,_,_,_,_,_].toArray,[]⟩ (h:=?_)
     refine zt 7 (.int .i64 (wrap64 (a3+(wrap64 ((wrap64 ((wrap64 (2*x1))+1))+1))))) #[_,_,_,_,_,_,_,_,_,_,_,_,_,_,_,_,_,_,_,_,_,_,_,_] ⟨[_,_,_,_,_,_,_,_,_,_,_,_,_,_,_,_,_,_,_,_,_,_,_,_,_,_,_,_,_,_,_,_,_,_,_,_,_,_,_,_,_,_,_,_,_,_,_,_,_,_,_,_,_,_,_,_,_,_,_,_,_,_,_,_,_,_,_,_,_,_,_,_,_,_,_,_].toArray,[]⟩ (h:=?_)
     refine zt 8 ((.slice (some ad42) l0.length c0)) #[_,_,_,_,_,_,_,_,_,_,_,_,_,_,_,_,_,_,_,_,_,_,_,_] ⟨[_,_,_,_,_,_,_,_,_,_,_,_,_,_,_,_,_,_,_,_,_,_,_,_,_,_,_,_,_,_,_,_,_,_,_,_,_,_,_,_,_,_,_,_,_,_,_,_,_,_,_,_,_,_,_,_,_,_,_,_,_,_,_,_,_,_,_,_,_,_,_,_,_,_,_,_].toArray,[]⟩ (h:=?_)
     refine zt 9 (.int .i64 a3) #[_,_,_,_,_,_,_,_,_,_,_,_,_,_,_,_,_,_,_,_,_,_,_,_] ⟨[_,_,_,_,_,_,_,_,_,_,_,_,_,_,_,_,_,_,_,_,_,_,_,_,_,_,_,_,_,_,_,_,_,_,_,_,_,_,_,_,_,_,_,_,_,_,_,_,_,_,_,_,_,_,_,_,_,_,_,_,_,_,_,_,_,_,_,_,_,_,_,_,_,_,_,_].toArray,[]⟩ (h:=?_)
     refine zt 10 (.int .i64 (wrap64 ((wrap64 ((wrap64 (2*x1))+1))+1))) #[_,_,_,_,_,_,_,_,_,_,_,_,_,_,_,_,_,_,_,_,_,_,_,_] ⟨[_,_,_,_,_,_,_,_,_,_,_,_,_,_,_,_,_,_,_,_,_,_,_,_,_,_,_,_,_,_,_,_,_,_,_,_,_,_,_,_,_,_,_,_,_,_,_,_,_,_,_,_,_,_,_,_,_,_,_,_,_,_,_,_,_,_,_,_,_,_,_,_,_,_,_,_].toArray,[]⟩ (h:=?_)
     refine zt 11 (.int .i64 (wrap64 (a3+(wrap64 ((wrap64 ((wrap64 (2*x1))+1))+1))))) #[_,_,_,_,_,_,_,_,_,_,_,_,_,_,_,_,_,_,_,_,_,_,_,_] ⟨[_,_,_,_,_,_,_,_,_,_,_,_,_,_,_,_,_,_,_,_,_,_,_,_,_,_,_,_,_,_,_,_,_,_,_,_,_,_,_,_,_,_,_,_,_,_,_,_,_,_,_,_,_,_,_,_,_,_,_,_,_,_,_,_,_,_,_,_,_,_,_,_,_,_,_,_].toArray,[]⟩ (h:=?_)
     have p54:0≤((wrap64 (a3+(wrap64 ((wrap64 ((wrap64 (2*x1))+1))+1)))):Int):=of_decide_eq_true (by first|(with_reducible assumption)|assumption)
     have q54:(wrap64 (a3+(wrap64 ((wrap64 ((wrap64 (2*x1))+1))+1))))<(l0.length:Int):=of_decide_eq_true (by first|(with_reducible assumption)|assumption)
     obtain⟨ad54,e54,hx54_0⟩:=Kd.at_int (Kd.F_now (Kd.N_F HN0.out)) (wrap64 (a3+(wrap64 ((wrap64 ((wrap64 (2*x1))+1))+1)))) p54 q54
     cases e54
     replace p54:=eq_true p54
     replace q54:=eq_true q54
     refine zt 12 (.pointer (some (ad42.add ((wrap64 (a3+(wrap64 ((wrap64 ((wrap64 (2*x1))+1))+1)))).toNat)))) #[_,_,_,_,_,_,_,_,_,_,_,_,_,_,_,_,_,_,_,_,_,_,_,_] ⟨[_,_,_,_,_,_,_,_,_,_,_,_,_,_,_,_,_,_,_,_,_,_,_,_,_,_,_,_,_,_,_,_,_,_,_,_,_,_,_,_,_,_,_,_,_,_,_,_,_,_,_,_,_,_,_,_,_,_,_,_,_,_,_,_,_,_,_,_,_,_,_,_,_,_,_,_].toArray,[]⟩ (h:=?_)
     refine zt 14 ((.slice (some ad42) l0.length c0)) #[_,_,_,_,_,_,_,_,_,_,_,_,_,_,_,_,_,_,_,_,_,_,_,_] ⟨[_,_,_,_,_,_,_,_,_,_,_,_,_,_,_,_,_,_,_,_,_,_,_,_,_,_,_,_,_,_,_,_,_,_,_,_,_,_,_,_,_,_,_,_,_,_,_,_,_,_,_,_,_,_,_,_,_,_,_,_,_,_,_,_,_,_,_,_,_,_,_,_,_,_,_,_].toArray,[]⟩ (h:=?_)
     refine zt 15 (.int .i64 a3) #[_,_,_,_,_,_,_,_,_,_,_,_,_,_,_,_,_,_,_,_,_,_,_,_] ⟨[_,_,_,_,_,_,_,_,_,_,_,_,_,_,_,_,_,_,_,_,_,_,_,_,_,_,_,_,_,_,_,_,_,_,_,_,_,_,_,_,_,_,_,_,_,_,_,_,_,_,_,_,_,_,_,_,_,_,_,_,_,_,_,_,_,_,_,_,_,_,_,_,_,_,_,_].toArray,[]⟩ (h:=?_)
     refine zt 16 (.int .i64 x1) #[_,_,_,_,_,_,_,_,_,_,_,_,_,_,_,_,_,_,_,_,_,_,_,_] ⟨[_,_,_,_,_,_,_,_,_,_,_,_,_,_,_,_,_,_,_,_,_,_,_,_,_,_,_,_,_,_,_,_,_,_,_,_,_,_,_,_,_,_,_,_,_,_,_,_,_,_,_,_,_,_,_,_,_,_,_,_,_,_,_,_,_,_,_,_,_,_,_,_,_,_,_,_].toArray,[]⟩ (h:=?_)
     refine zt 17 (.int .i64 (wrap64 (a3+x1))) #[_,_,_,_,_,_,_,_,_,_,_,_,_,_,_,_,_,_,_,_,_,_,_,_] ⟨[_,_,_,_,_,_,_,_,_,_,_,_,_,_,_,_,_,_,_,_,_,_,_,_,_,_,_,_,_,_,_,_,_,_,_,_,_,_,_,_,_,_,_,_,_,_,_,_,_,_,_,_,_,_,_,_,_,_,_,_,_,_,_,_,_,_,_,_,_,_,_,_,_,_,_,_].toArray,[]⟩ (h:=?_)
     have p55:0≤((wrap64 (a3+x1)):Int):=of_decide_eq_true (by first|(with_reducible assumption)|assumption)
     have q55:(wrap64 (a3+x1))<(l0.length:Int):=of_decide_eq_true (by first|(with_reducible assumption)|assumption)
     obtain⟨ad55,e55,hx55_0⟩:=Kd.at_int (Kd.F_now (Kd.N_F HN0.out)) (wrap64 (a3+x1)) p55 q55
     cases e55
     replace p55:=eq_true p55
     replace q55:=eq_true q55
     refine zt 18 (.pointer (some (ad42.add ((wrap64 (a3+x1)).toNat)))) #[_,_,_,_,_,_,_,_,_,_,_,_,_,_,_,_,_,_,_,_,_,_,_,_] ⟨[_,_,_,_,_,_,_,_,_,_,_,_,_,_,_,_,_,_,_,_,_,_,_,_,_,_,_,_,_,_,_,_,_,_,_,_,_,_,_,_,_,_,_,_,_,_,_,_,_,_,_,_,_,_,_,_,_,_,_,_,_,_,_,_,_,_,_,_,_,_,_,_,_,_,_,_].toArray,[]⟩ (h:=?_)
     refine MW.any_two (i:=13) (j:=19) (vi:=.int .i32 (rd x2 (wrap64 (a3+(wrap64 ((wrap64 ((wrap64 (2*x1))+1))+1)))))) (vj:=.int .i32 (rd x2 (wrap64 (a3+x1)))) #[true,true,true,true,true,true,true,true,true,true,true,true,true,true,true,true,true,true,true,true,false,false,false,false] ⟨[(.slice (some ad42) l0.length c0),(.int .i64 a1),(.int .i64 a2),(.int .i64 a3),undef,undef,undef,undef,(.int .i64 x1),(.int .i64 (wrap64 ((wrap64 ((wrap64 (2*x1))+1))+1))),(.int .i64 a1),(.int .i64 x1),(.int .i64 (wrap64 (2*x1))),(.int .i64 (wrap64 ((wrap64 (2*x1))+1))),(.int .i64 (wrap64 ((wrap64 (2*x1))+1))),(.int .i64 a2),(.bool false),u17,u18,u19,u20,u21,u22,u23,u24,u25,u26,u27,u28,u29,u30,u31,u32,u33,u34,u35,(.bool true),(.int .i64 (wrap64 ((wrap64 (2*x1))+1))),(.int .i64 (wrap64 ((wrap64 ((wrap64 (2*x1))+1))+1))),(.slice (some ad42) l0.length c0),(.int .i64 a3),(.int .i64 x1),(.int .i64 (wrap64 (a3+x1))),(.pointer (some (ad42.add ((wrap64 (a3+x1)).toNat)))),(.int .i32 (rd x2 (wrap64 (a3+x1)))),(.slice (some ad42) l0.length c0),(.int .i64 a3),(.int .i64 (wrap64 ((wrap64 ((wrap64 (2*x1))+1))+1))),(.int .i64 (wrap64 (a3+(wrap64 ((wrap64 ((wrap64 (2*x1))+1))+1))))),(.pointer (some (ad42.add ((wrap64 (a3+(wrap64 ((wrap64 ((wrap64 (2*x1))+1))+1)))).toNat)))),(.int .i32 (rd x2 (wrap64 (a3+(wrap64 ((wrap64 ((wrap64 (2*x1))+1))+1)))))),(.bool true),(.bool false),(.slice (some ad42) l0.length c0),(.int .i64 a3),(.int .i64 x1),(.int .i64 (wrap64 (a3+x1))),(.slice (some ad42) l0.length c0),(.int .i64 a3),(.int .i64 (wrap64 ((wrap64 ((wrap64 (2*x1))+1))+1))),(.int .i64 (wrap64 (a3+(wrap64 ((wrap64 ((wrap64 (2*x1))+1))+1))))),(.slice (some ad42) l0.length c0),(.int .i64 a3),(.int .i64 (wrap64 ((wrap64 ((wrap64 (2*x1))+1))+1))),(.int .i64 (wrap64 (a3+(wrap64 ((wrap64 ((wrap64 (2*x1))+1))+1))))),(.pointer (some (ad42.add ((wrap64 (a3+(wrap64 ((wrap64 ((wrap64 (2*x1))+1))+1)))).toNat)))),(.int .i32 (rd x2 (wrap64 (a3+(wrap64 ((wrap64 ((wrap64 (2*x1))+1))+1)))))),(.slice (some ad42) l0.length c0),(.int .i64 a3),(.int .i64 x1),(.int .i64 (wrap64 (a3+x1))),(.pointer (some (ad42.add ((wrap64 (a3+x1)).toNat)))),(.int .i32 (rd x2 (wrap64 (a3+x1)))),u73,u74,u75].toArray,[]⟩ (by decide) rfl rfl (by kernel_rfl) (by kernel_rfl) (by kernel_rfl) (by kernel_rfl) (by kernel_rfl) (by first|rfl|(go_simp;done)|(go_simp;rfl)) (by first|rfl|(go_simp;done)|(go_simp;rfl)) (by first|rfl|(go_simp;done)|(go_simp;rfl)) (by first|rfl|(go_simp;done)|(go_simp;rfl)) (by kernel_rfl) (by kernel_rfl) (by kernel_rfl) (by kernel_rfl) (by kernel_rfl) (by kernel_rfl) ?_
     refine zt 20 (.pointer (some (ad42.add ((wrap64 (a3+x1)).toNat)))) #[_,_,_,_,_,_,_,_,_,_,_,_,_,_,_,_,_,_,_,_,_,_,_,_] ⟨[_,_,_,_,_,_,_,_,_,_,_,_,_,_,_,_,_,_,_,_,_,_,_,_,_,_,_,_,_,_,_,_,_,_,_,_,_,_,_,_,_,_,_,_,_,_,_,_,_,_,_,_,_,_,_,_,_,_,_,_,_,_,_,_,_,_,_,_,_,_,_,_,_,_,_,_].toArray,[]⟩ (h:=?_)
     refine MW.any_seq 21 3 rfl (by kernel_rfl) ?_
     simp only[List.drop_succ_cons,List.drop_zero]
     clear hwr_
     obtain⟨y56,hy56⟩:∃ y_:List Int,y_=(List.set x2 (wrap64 (a3+x1)).toNat (rd x2 (wrap64 (a3+(wrap64 ((wrap64 ((wrap64 (2*x1))+1))+1)))))):=⟨_,rfl⟩
     have H:((some (List.set y56 (wrap64 (a3+(wrap64 ((wrap64 ((wrap64 (2*x1))+1))+1)))).toNat (rd x2 (wrap64 (a3+x1))):List Int)).bind fun y60=>((slices_siftDownOrdered_rune.l0 k3 (wrap64 ((wrap64 ((wrap64 (2*x1))+1))+1)) y60 a2 a3 l0)))=some r:=by rw[hy56];exact HH.out
     replace HH:=za H
     clear H
     have NYy56:=za hy56
     clear hy56
     go_wp2_with (((with_reducible refine gate_store (t:=21) (p:=73) rfl ?_);(try(refine gate_guard (by rfl) ?_;dsimp only));refine MW.ev_set1 (n:=l0.length) B_ rfl rfl _ _ _ rfl 21 (wrap64 (a3+x1)) x2 (rd x2 (wrap64 (a3+(wrap64 ((wrap64 ((wrap64 (2*x1))+1))+1))))) (fun k_=>True∧(some k_=((.slice (some ad42) l0.length c0):Value).ownBlock∨w.heap.size≤k_)) (by rfl) (by rfl) (by kernel_rfl) HN0.out (of_decide_eq_true (by first|(with_reducible assumption)|assumption)) (of_decide_eq_true (by first|(with_reducible assumption)|assumption)) HB.out ?_;intro w57 hn1 hb1 hg1);refine stop_ ?_)
     refine zg ?_
     replace HFfr:=za (Kd.F_grown (ok:=(fun k_=>True∧some k_≠((.slice (some ad42) l0.length c0):Value).ownBlock)) HFfr.out hg1 (fun k_ hk_=>hk_.2))
     replace HB:=za hb1
     clear HN0
     have HN58:=za (by rw[NYy56.out];exact hn1:Kd.N (Kd.int .i32) 21 w57 B_ (fun k_=>True∧(some k_=((.slice (some ad42) l0.length c0):Value).ownBlock∨w.heap.size≤k_)) (.slice (some ad42) l0.length c0) y56)
     clear hn1 hb1 hg1
     clear hx54_0 p54 q54 hx55_0 p55 q55
     have p59:0≤((wrap64 (a3+(wrap64 ((wrap64 ((wrap64 (2*x1))+1))+1)))):Int):=of_decide_eq_true (by first|(with_reducible assumption)|assumption)
     have q59:(wrap64 (a3+(wrap64 ((wrap64 ((wrap64 (2*x1))+1))+1))))<(l0.length:Int):=of_decide_eq_true (by first|(with_reducible assumption)|assumption)
     obtain⟨ad59,e59,hx59_0⟩:=Kd.at_int (Kd.F_now (Kd.N_F HN58.out)) (wrap64 (a3+(wrap64 ((wrap64 ((wrap64 (2*x1))+1))+1)))) p59 q59
     cases e59
     replace p59:=eq_true p59
     replace q59:=eq_true q59
     obtain⟨y60,hy60⟩:∃ y_:List Int,y_=(List.set y56 (wrap64 (a3+(wrap64 ((wrap64 ((wrap64 (2*x1))+1))+1)))).toNat (rd x2 (wrap64 (a3+x1)))):=⟨_,rfl⟩
     have H:((slices_siftDownOrdered_rune.l0 k3 (wrap64 ((wrap64 ((wrap64 (2*x1))+1))+1)) y60 a2 a3 l0))=some r:=by rw[hy60];exact HH.out
     replace HH:=za H
     clear H
     have NYy60:=za hy60
     clear hy60
     go_wp2_with (((with_reducible refine gate_store (t:=21) (p:=74) rfl ?_);(try(refine gate_guard (by rfl) ?_;dsimp only));refine MW.ev_set1 (n:=l0.length) B_ rfl rfl _ _ _ rfl 21 (wrap64 (a3+(wrap64 ((wrap64 ((wrap64 (2*x1))+1))+1)))) y56 (rd x2 (wrap64 (a3+x1))) (fun k_=>True∧(some k_=((.slice (some ad42) l0.length c0):Value).ownBlock∨w.heap.size≤k_)) (by rfl) (by rfl) (by kernel_rfl) HN58.out (of_decide_eq_true (by first|(with_reducible assumption)|assumption)) (of_decide_eq_true (by first|(with_reducible assumption)|assumption)) HB.out ?_;intro w61 hn1 hb1 hg1);refine stop_ ?_)
     refine zg ?_
     replace HFfr:=za (Kd.F_grown (ok:=(fun k_=>True∧some k_≠((.slice (some ad42) l0.length c0):Value).ownBlock)) HFfr.out hg1 (fun k_ hk_=>hk_.2))
     replace HB:=za hb1
     clear HN58
     have HN62:=za (by rw[NYy60.out];exact hn1:Kd.N (Kd.int .i32) 21 w61 B_ (fun k_=>True∧(some k_=((.slice (some ad42) l0.length c0):Value).ownBlock∨w.heap.size≤k_)) (.slice (some ad42) l0.length c0) y60)
     clear hn1 hb1 hg1
     clear hx59_0 p59 q59
     go_wp2
     go_roundg k3
     case measure=>have:=HK0.out;omega
     case rel=>exact⟨wrap64 ((wrap64 ((wrap64 (2*x1))+1))+1),y60,(by first|rfl|(simp;done)|(simp[*];done)),HH,⟨by have:=HK0.out;omega⟩,⟨HFfr.out⟩,⟨(Kd.N_mono (ok:=(fun k_=>True∧(some k_=((.slice (some ad42) l0.length c0):Value).ownBlock∨w.heap.size≤k_))) HN62.out (fun k_ hk_=>hk_))⟩,⟨HB.out⟩⟩
    replace HH:=MW.hneg HH c51
    replace c51:=Bool.eq_false_iff.mpr c51
    subst c51
    obtain rfl:=Option.some.inj HH.out
    clear HH
    go_wp2
    go_quiet ((first|(go_at_call 42;first|exact Calls.quiet_of (MW.drawn (cmp_Less_rune.calls  (rd x2 (wrap64 (a3+x1))) (rd x2 (wrap64 (a3+(wrap64 ((wrap64 ((wrap64 (2*x1))+1))+1))))) false _  At50.out))|exact MW.quiet_far (MW.drawn (cmp_Less_rune.calls  (rd x2 (wrap64 (a3+x1))) (rd x2 (wrap64 (a3+(wrap64 ((wrap64 ((wrap64 (2*x1))+1))+1))))) false _  At50.out)))))
    go_wp2
    (first|go_end0|((try simp only[Exit.inBlock,Exit.then]);refine bodyPost_ret (results_none rfl _ _ _) rfl ?_))
    exact⟨by first|rfl|(simp;done)|(simp[*];done),(Kd.N_mono (ok:=(fun k_=>True∧(some k_=((.slice (some ad42) l0.length c0):Value).ownBlock∨w.heap.size≤k_))) (by(with_reducible repeat(first|apply Kd.N_alloc|apply Kd.N_drewN|apply Kd.N_drew));exact HN0.out) (fun k_ hk_=>hk_.2)),(fun k_ hv_ hlt_=>MB.frK_out (by(with_reducible repeat(first|apply Kd.F_alloc|apply Kd.F_drewN|apply Kd.F_drew));exact HFfr.out) k_ (by rw[HPO.out];exact hv_) hlt_),(by repeat(first|(with_reducible first|exact HB.out|apply MB.below_allocB hB_.out|apply pw_below_drewN|apply below_drew1)|exact HB.out))⟩
   replace HH:=MW.hneg HH c36
   replace c36:=Bool.eq_false_iff.mpr c36
   subst c36
   replace HH:=zqdo HH
   obtain⟨HH,hk70⟩:=HH
   replace HH:=zqto HH
   obtain⟨HH,hk72,hk73⟩:=HH
   have p74:0≤((wrap64 (a3+x1)):Int):=of_decide_eq_true (by first|(with_reducible assumption)|assumption)
   have q74:(wrap64 (a3+x1))<(l0.length:Int):=of_decide_eq_true (by first|(with_reducible assumption)|assumption)
   obtain⟨ad74,e74,hx74_0⟩:=Kd.at_int (Kd.F_now (Kd.N_F HN0.out)) (wrap64 (a3+x1)) p74 q74
   cases e74
   replace p74:=eq_true p74
   replace q74:=eq_true q74
   replace HH:=zqdo HH
   obtain⟨HH,hk76⟩:=HH
   replace HH:=zqto HH
   obtain⟨HH,hk78,hk79⟩:=HH
   have p80:0≤((wrap64 (a3+(wrap64 ((wrap64 (2*x1))+1)))):Int):=of_decide_eq_true (by first|(with_reducible assumption)|assumption)
   have q80:(wrap64 (a3+(wrap64 ((wrap64 (2*x1))+1))))<(l0.length:Int):=of_decide_eq_true (by first|(with_reducible assumption)|assumption)
   obtain⟨ad80,e80,hx80_0⟩:=Kd.at_int (Kd.F_now (Kd.N_F HN0.out)) (wrap64 (a3+(wrap64 ((wrap64 (2*x1))+1)))) p80 q80
   cases e80
   replace p80:=eq_true p80
   replace q80:=eq_true q80
   replace HH:=zd HH
   obtain⟨t81,At82,HH⟩:=HH
   by_cases c83:t81=true
   ·replace HH:=MW.hpos HH c83
    subst c83
    go_wp2
    go_quiet ((first|(go_at_call 42;first|exact Calls.quiet_of (MW.drawn (cmp_Less_rune.calls  (rd x2 (wrap64 (a3+x1))) (rd x2 (wrap64 (a3+(wrap64 ((wrap64 (2*x1))+1))))) true _  At82.out))|exact MW.quiet_far (MW.drawn (cmp_Less_rune.calls  (rd x2 (wrap64 (a3+x1))) (rd x2 (wrap64 (a3+(wrap64 ((wrap64 (2*x1))+1))))) true _  At82.out)))))
    go_wp2
    refine MW.name_world (W0:=w10) (by repeat(first|exact Drawn0.refl _|apply Drawn0.step)) ?_
    intro w84 hb
    replace HFfr:=zfb HFfr.out hb
    replace HN0:=znb HN0.out hb
    replace HB:=za (MB.below_stepB hB_.out HB.out hb)
    clear hb
    clear hx74_0 p74 q74 hx80_0 p80 q80
    go_wp2
    have hwr_:∀ n_:Int,IntKind.i64.wrap n_=wrap64 n_:=fun n_=>IntWalk.i64_left n_
    refine wp_region_any (by kernel_rfl) ?_
    change wpAny _ _ _ _ 24 #[false,false,false,false,false,false,false,false,false,false,false,false,false,false,false,false,false,false,false,false,false,false,false,false] _ w84.drew
    obtain⟨w85,hw_⟩:∃ w_:World,w_=w84.drew:=⟨_,rfl⟩
    rw[← hw_]
    have hb:Below w84.heap.size w84 w85:=by rw[hw_];exact below_drew1 (Below.refl _ _)
    clear hw_
    replace HFfr:=zfb HFfr.out hb
    replace HN0:=znb HN0.out hb
    replace HB:=za (MB.below_stepB hB_.out HB.out hb)
    clear hb
    refine zt 0 ((.slice (some ad74) l0.length c0)) #[_,_,_,_,_,_,_,_,_,_,_,_,_,_,_,_,_,_,_,_,_,_,_,_] ⟨[_,_,_,_,_,_,_,_,_,_,_,_,_,_,_,_,_,_,_,_,_,_,_,_,_,_,_,_,_,_,_,_,_,_,_,_,_,_,_,_,_,_,_,_,_,_,_,_,_,_,_,_,_,_,_,_,_,_,_,_,_,_,_,_,_,_,_,_,_,_,_,_,_,_,_,_].toArray,[]⟩ (h:=?_)
    refine zt 1 (.int .i64 a3) #[_,_,_,_,_,_,_,_,_,_,_,_,_,_,_,_,_,_,_,_,_,_,_,_] ⟨[_,_,_,_,_,_,_,_,_,_,_,_,_,_,_,_,_,_,_,_,_,_,_,_,_,_,_,_,_,_,_,_,_,_,_,_,_,_,_,_,_,_,_,_,_,_,_,_,_,_,_,_,_,_,_,_,_,_,_,_,_,_,_,_,_,_,_,_,_,_,_,_,_,_,_,_].toArray,[]⟩ (h:=?_)
    refine zt 2 (.int .i64 x1) #[_,_,_,_,_,_,_,_,_,_,_,_,_,_,_,_,_,_,_,_,_,_,_,_] ⟨[_,_,_,_,_,_,_,_,_,_,_,_,_,_,_,_,_,_,_,_,_,_,_,_,_,_,_,_,_,_,_,_,_,_,_,_,_,_,_,_,_,_,_,_,_,_,_,_,_,_,_,_,_,_,_,_,_,_,_,_,_,_,_,_,_,_,_,_,_,_,_,_,_,_,_,_].toArray,[]⟩ (h:=?_)
    refine zt 3 (.int .i64 (wrap64 (a3+x1))) #[_,_,_,_,_,_,_,_,_,_,_,_,_,_,_,_,_,_,_,_,_,_,_,_] ⟨[_,_,_,_,_,_,_,_,_,_,_,_,_,_,_,_,_,_,_,_,_,_,_,_,_,_,_,_,_,_,_,_,_,_,_,_,_,_,_,_,_,_,_,_,_,_,_,_,_,_,_,_,_,_,_,_,_,_,_,_,_,_,_,_,_,_,_,_,_,_,_,_,_,_,_,_].toArray,[]⟩ (h:=?_)
    refine zt 4 ((.slice (some ad74) l0.length c0)) #[_,_,_,_,_,_,_,_,_,_,_,_,_,_,_,_,_,_,_,_,_,_,_,_] ⟨[_,_,_,_,_,_,_,_,_,_,_,_,_,_,_,_,_,_,_,_,_,_,_,_,_,_,_,_,_,_,_,_,_,_,_,_,_,_,_,_,_,_,_,_,_,_,_,_,_,_,_,_,_,_,_,_,_,_,_,_,_,_,_,_,_,_,_,_,_,_,_,_,_,_,_,_].toArray,[]⟩ (h:=?_)
    refine zt 5 (.int .i64 a3) #[_,_,_,_,_,_,_,_,_,_,_,_,_,_,_,_,_,_,_,_,_,_,_,_] ⟨[_,_,_,_,_,_,_,_,_,_,_,_,_,_,_,_,_,_,_,_,_,_,_,_,_,_,_,_,_,_,_,_,_,_,_,_,_,_,_,_,_,_,_,_,_,_,_,_,_,_,_,_,_,_,_,_,_,_,_,_,_,_,_,_,_,_,_,_,_,_,_,_,_,_,_,_].toArray,[]⟩ (h:=?_)
    refine zt 6 (.int .i64 (wrap64 ((wrap64 (2*x1))+1))) #[_,_,_,_,_,_,_,_,_,_,_,_,_,_,_,_,_,_,_,_,_,_,_,_] ⟨[_,_,_,_,_,_,_,_,_,_,_,_,_,_,_,_,_,_,_,_,_,_,_,_,_,_,_,_,_,_,_,_,_,_,_,_,_,_,_,_,_,_,_,_,_,_,_,_,_,_,_,_,_,_,_,_,_,_,_,_,_,_,_,_,_,_,_,_,_,_,_,_,_,_,_,_].toArray,[]⟩ (h:=?_)
    refine zt 7 (.int .i64 (wrap64 (a3+(wrap64 ((wrap64 (2*x1))+1))))) #[_,_,_,_,_,_,_,_,_,_,_,_,_,_,_,_,_,_,_,_,_,_,_,_] ⟨[_,_,_,_,_,_,_,_,_,_,_,_,_,_,_,_,_,_,_,_,_,_,_,_,_,_,_,_,_,_,_,_,_,_,_,_,_,_,_,_,_,_,_,_,_,_,_,_,_,_,_,_,_,_,_,_,_,_,_,_,_,_,_,_,_,_,_,_,_,_,_,_,_,_,_,_].toArray,[]⟩ (h:=?_)
    refine zt 8 ((.slice (some ad74) l0.length c0)) #[_,_,_,_,_,_,_,_,_,_,_,_,_,_,_,_,_,_,_,_,_,_,_,_] ⟨[_,_,_,_,_,_,_,_,_,_,_,_,_,_,_,_,_,_,_,_,_,_,_,_,_,_,_,_,_,_,_,_,_,_,_,_,_,_,_,_,_,_,_,_,_,_,_,_,_,_,_,_,_,_,_,_,_,_,_,_,_,_,_,_,_,_,_,_,_,_,_,_,_,_,_,_].toArray,[]⟩ (h:=?_)
    refine zt 9 (.int .i64 a3) #[_,_,_,_,_,_,_,_,_,_,_,_,_,_,_,_,_,_,_,_,_,_,_,_] ⟨[_,_,_,_,_,_,_,_,_,_,_,_,_,_,_,_,_,_,_,_,_,_,_,_,_,_,_,_,_,_,_,_,_,_,_,_,_,_,_,_,_,_,_,_,_,_,_,_,_,_,_,_,_,_,_,_,_,_,_,_,_,_,_,_,_,_,_,_,_,_,_,_,_,_,_,_].toArray,[]⟩ (h:=?_)
    refine zt 10 (.int .i64 (wrap64 ((wrap64 (2*x1))+1))) #[_,_,_,_,_,_,_,_,_,_,_,_,_,_,_,_,_,_,_,_,_,_,_,_] ⟨[_,_,_,_,_,_,_,_,_,_,_,_,_,_,_,_,_,_,_,_,_,_,_,_,_,_,_,_,_,_,_,_,_,_,_,_,_,_,_,_,_,_,_,_,_,_,_,_,_,_,_,_,_,_,_,_,_,_,_,_,_,_,_,_,_,_,_,_,_,_,_,_,_,_,_,_].toArray,[]⟩ (h:=?_)
    refine zt 11 (.int .i64 (wrap64 (a3+(wrap64 ((wrap64 (2*x1))+1))))) #[_,_,_,_,_,_,_,_,_,_,_,_,_,_,_,_,_,_,_,_,_,_,_,_] ⟨[_,_,_,_,_,_,_,_,_,_,_,_,_,_,_,_,_,_,_,_,_,_,_,_,_,_,_,_,_,_,_,_,_,_,_,_,_,_,_,_,_,_,_,_,_,_,_,_,_,_,_,_,_,_,_,_,_,_,_,_,_,_,_,_,_,_,_,_,_,_,_,_,_,_,_,_].toArray,[]⟩ (h:=?_)
    have p86:0≤((wrap64 (a3+(wrap64 ((wrap64 (2*x1))+1)))):Int):=of_decide_eq_true (by first|(with_reducible assumption)|assumption)
    have q86:(wrap64 (a3+(wrap64 ((wrap64 (2*x1))+1))))<(l0.length:Int):=of_decide_eq_true (by first|(with_reducible assumption)|assumption)
    obtain⟨ad86,e86,hx86_0⟩:=Kd.at_int (Kd.F_now (Kd.N_F HN0.out)) (wrap64 (a3+(wrap64 ((wrap64 (2*x1))+1)))) p86 q86
    cases e86
    replace p86:=eq_true p86
    replace q86:=eq_true q86
    refine zt 12 (.pointer (some (ad74.add ((wrap64 (a3+(wrap64 ((wrap64 (2*x1))+1)))).toNat)))) #[_,_,_,_,_,_,_,_,_,_,_,_,_,_,_,_,_,_,_,_,_,_,_,_] ⟨[_,_,_,_,_,_,_,_,_,_,_,_,_,_,_,_,_,_,_,_,_,_,_,_,_,_,_,_,_,_,_,_,_,_,_,_,_,_,_,_,_,_,_,_,_,_,_,_,_,_,_,_,_,_,_,_,_,_,_,_,_,_,_,_,_,_,_,_,_,_,_,_,_,_,_,_].toArray,[]⟩ (h:=?_)
    refine zt 14 ((.slice (some ad74) l0.length c0)) #[_,_,_,_,_,_,_,_,_,_,_,_,_,_,_,_,_,_,_,_,_,_,_,_] ⟨[_,_,_,_,_,_,_,_,_,_,_,_,_,_,_,_,_,_,_,_,_,_,_,_,_,_,_,_,_,_,_,_,_,_,_,_,_,_,_,_,_,_,_,_,_,_,_,_,_,_,_,_,_,_,_,_,_,_,_,_,_,_,_,_,_,_,_,_,_,_,_,_,_,_,_,_].toArray,[]⟩ (h:=?_)
    refine zt 15 (.int .i64 a3) #[_,_,_,_,_,_,_,_,_,_,_,_,_,_,_,_,_,_,_,_,_,_,_,_] ⟨[_,_,_,_,_,_,_,_,_,_,_,_,_,_,_,_,_,_,_,_,_,_,_,_,_,_,_,_,_,_,_,_,_,_,_,_,_,_,_,_,_,_,_,_,_,_,_,_,_,_,_,_,_,_,_,_,_,_,_,_,_,_,_,_,_,_,_,_,_,_,_,_,_,_,_,_].toArray,[]⟩ (h:=?_)
    refine zt 16 (.int .i64 x1) #[_,_,_,_,_,_,_,_,_,_,_,_,_,_,_,_,_,_,_,_,_,_,_,_] ⟨[_,_,_,_,_,_,_,_,_,_,_,_,_,_,_,_,_,_,_,_,_,_,_,_,_,_,_,_,_,_,_,_,_,_,_,_,_,_,_,_,_,_,_,_,_,_,_,_,_,_,_,_,_,_,_,_,_,_,_,_,_,_,_,_,_,_,_,_,_,_,_,_,_,_,_,_].toArray,[]⟩ (h:=?_)
    refine zt 17 (.int .i64 (wrap64 (a3+x1))) #[_,_,_,_,_,_,_,_,_,_,_,_,_,_,_,_,_,_,_,_,_,_,_,_] ⟨[_,_,_,_,_,_,_,_,_,_,_,_,_,_,_,_,_,_,_,_,_,_,_,_,_,_,_,_,_,_,_,_,_,_,_,_,_,_,_,_,_,_,_,_,_,_,_,_,_,_,_,_,_,_,_,_,_,_,_,_,_,_,_,_,_,_,_,_,_,_,_,_,_,_,_,_].toArray,[]⟩ (h:=?_)
    have p87:0≤((wrap64 (a3+x1)):Int):=of_decide_eq_true (by first|(with_reducible assumption)|assumption)
    have q87:(wrap64 (a3+x1))<(l0.length:Int):=of_decide_eq_true (by first|(with_reducible assumption)|assumption)
    obtain⟨ad87,e87,hx87_0⟩:=Kd.at_int (Kd.F_now (Kd.N_F HN0.out)) (wrap64 (a3+x1)) p87 q87
    cases e87
    replace p87:=eq_true p87
    replace q87:=eq_true q87
    refine zt 18 (.pointer (some (ad74.add ((wrap64 (a3+x1)).toNat)))) #[_,_,_,_,_,_,_,_,_,_,_,_,_,_,_,_,_,_,_,_,_,_,_,_] ⟨[_,_,_,_,_,_,_,_,_,_,_,_,_,_,_,_,_,_,_,_,_,_,_,_,_,_,_,_,_,_,_,_,_,_,_,_,_,_,_,_,_,_,_,_,_,_,_,_,_,_,_,_,_,_,_,_,_,_,_,_,_,_,_,_,_,_,_,_,_,_,_,_,_,_,_,_].toArray,[]⟩ (h:=?_)
    refine MW.any_two (i:=13) (j:=19) (vi:=.int .i32 (rd x2 (wrap64 (a3+(wrap64 ((wrap64 (2*x1))+1)))))) (vj:=.int .i32 (rd x2 (wrap64 (a3+x1)))) #[true,true,true,true,true,true,true,true,true,true,true,true,true,true,true,true,true,true,true,true,false,false,false,false] ⟨[(.slice (some ad74) l0.length c0),(.int .i64 a1),(.int .i64 a2),(.int .i64 a3),undef,undef,undef,undef,(.int .i64 x1),(.int .i64 (wrap64 ((wrap64 (2*x1))+1))),(.int .i64 a1),(.int .i64 x1),(.int .i64 (wrap64 (2*x1))),(.int .i64 (wrap64 ((wrap64 (2*x1))+1))),(.int .i64 (wrap64 ((wrap64 (2*x1))+1))),(.int .i64 a2),(.bool false),u17,u18,u19,u20,u21,u22,u23,u24,u25,u26,u27,u28,u29,u30,u31,u32,u33,u34,u35,(.bool false),u37,u38,(.slice (some ad74) l0.length c0),(.int .i64 a3),(.int .i64 x1),(.int .i64 (wrap64 (a3+x1))),(.pointer (some (ad74.add ((wrap64 (a3+x1)).toNat)))),(.int .i32 (rd x2 (wrap64 (a3+x1)))),(.slice (some ad74) l0.length c0),(.int .i64 a3),(.int .i64 (wrap64 ((wrap64 (2*x1))+1))),(.int .i64 (wrap64 (a3+(wrap64 ((wrap64 (2*x1))+1))))),(.pointer (some (ad74.add ((wrap64 (a3+(wrap64 ((wrap64 (2*x1))+1)))).toNat)))),(.int .i32 (rd x2 (wrap64 (a3+(wrap64 ((wrap64 (2*x1))+1)))))),(.bool true),(.bool false),(.slice (some ad74) l0.length c0),(.int .i64 a3),(.int .i64 x1),(.int .i64 (wrap64 (a3+x1))),(.slice (some ad74) l0.length c0),(.int .i64 a3),(.int .i64 (wrap64 ((wrap64 (2*x1))+1))),(.int .i64 (wrap64 (a3+(wrap64 ((wrap64 (2*x1))+1))))),(.slice (some ad74) l0.length c0),(.int .i64 a3),(.int .i64 (wrap64 ((wrap64 (2*x1))+1))),(.int .i64 (wrap64 (a3+(wrap64 ((wrap64 (2*x1))+1))))),(.pointer (some (ad74.add ((wrap64 (a3+(wrap64 ((wrap64 (2*x1))+1)))).toNat)))),(.int .i32 (rd x2 (wrap64 (a3+(wrap64 ((wrap64 (2*x1))+1)))))),(.slice (some ad74) l0.length c0),(.int .i64 a3),(.int .i64 x1),(.int .i64 (wrap64 (a3+x1))),(.pointer (some (ad74.add ((wrap64 (a3+x1)).toNat)))),(.int .i32 (rd x2 (wrap64 (a3+x1)))),u73,u74,u75].toArray,[]⟩ (by decide) rfl rfl (by kernel_rfl) (by kernel_rfl) (by kernel_rfl) (by kernel_rfl) (by kernel_rfl) (by first|rfl|(go_simp;done)|(go_simp;rfl)) (by first|rfl|(go_simp;done)|(go_simp;rfl)) (by first|rfl|(go_simp;done)|(go_simp;rfl)) (by first|rfl|(go_simp;done)|(go_simp;rfl)) (by kernel_rfl) (by kernel_rfl) (by kernel_rfl) (by kernel_rfl) (by kernel_rfl) (by kernel_rfl) ?_
    refine zt 20 (.pointer (some (ad74.add ((wrap64 (a3+x1)).toNat)))) #[_,_,_,_,_,_,_,_,_,_,_,_,_,_,_,_,_,_,_,_,_,_,_,_] ⟨[_,_,_,_,_,_,_,_,_,_,_,_,_,_,_,_,_,_,_,_,_,_,_,_,_,_,_,_,_,_,_,_,_,_,_,_,_,_,_,_,_,_,_,_,_,_,_,_,_,_,_,_,_,_,_,_,_,_,_,_,_,_,_,_,_,_,_,_,_,_,_,_,_,_,_,_].toArray,[]⟩ (h:=?_)
    refine MW.any_seq 21 3 rfl (by kernel_rfl) ?_
    simp only[List.drop_succ_cons,List.drop_zero]
    clear hwr_
    obtain⟨y88,hy88⟩:∃ y_:List Int,y_=(List.set x2 (wrap64 (a3+x1)).toNat (rd x2 (wrap64 (a3+(wrap64 ((wrap64 (2*x1))+1)))))):=⟨_,rfl⟩
    have H:((some (List.set y88 (wrap64 (a3+(wrap64 ((wrap64 (2*x1))+1)))).toNat (rd x2 (wrap64 (a3+x1))):List Int)).bind fun y92=>((slices_siftDownOrdered_rune.l0 k3 (wrap64 ((wrap64 (2*x1))+1)) y92 a2 a3 l0)))=some r:=by rw[hy88];exact HH.out
    replace HH:=za H
    clear H
    have NYy88:=za hy88
    clear hy88
    go_wp2_with (((with_reducible refine gate_store (t:=21) (p:=73) rfl ?_);(try(refine gate_guard (by rfl) ?_;dsimp only));refine MW.ev_set1 (n:=l0.length) B_ rfl rfl _ _ _ rfl 21 (wrap64 (a3+x1)) x2 (rd x2 (wrap64 (a3+(wrap64 ((wrap64 (2*x1))+1))))) (fun k_=>True∧(some k_=((.slice (some ad74) l0.length c0):Value).ownBlock∨w.heap.size≤k_)) (by rfl) (by rfl) (by kernel_rfl) HN0.out (of_decide_eq_true (by first|(with_reducible assumption)|assumption)) (of_decide_eq_true (by first|(with_reducible assumption)|assumption)) HB.out ?_;intro w89 hn1 hb1 hg1);refine stop_ ?_)
    refine zg ?_
    replace HFfr:=za (Kd.F_grown (ok:=(fun k_=>True∧some k_≠((.slice (some ad74) l0.length c0):Value).ownBlock)) HFfr.out hg1 (fun k_ hk_=>hk_.2))
    replace HB:=za hb1
    clear HN0
    have HN90:=za (by rw[NYy88.out];exact hn1:Kd.N (Kd.int .i32) 21 w89 B_ (fun k_=>True∧(some k_=((.slice (some ad74) l0.length c0):Value).ownBlock∨w.heap.size≤k_)) (.slice (some ad74) l0.length c0) y88)
    clear hn1 hb1 hg1
    clear hx86_0 p86 q86 hx87_0 p87 q87
    have p91:0≤((wrap64 (a3+(wrap64 ((wrap64 (2*x1))+1)))):Int):=of_decide_eq_true (by first|(with_reducible assumption)|assumption)
    have q91:(wrap64 (a3+(wrap64 ((wrap64 (2*x1))+1))))<(l0.length:Int):=of_decide_eq_true (by first|(with_reducible assumption)|assumption)
    obtain⟨ad91,e91,hx91_0⟩:=Kd.at_int (Kd.F_now (Kd.N_F HN90.out)) (wrap64 (a3+(wrap64 ((wrap64 (2*x1))+1)))) p91 q91
    cases e91
    replace p91:=eq_true p91
    replace q91:=eq_true q91
    obtain⟨y92,hy92⟩:∃ y_:List Int,y_=(List.set y88 (wrap64 (a3+(wrap64 ((wrap64 (2*x1))+1)))).toNat (rd x2 (wrap64 (a3+x1)))):=⟨_,rfl⟩
    have H:((slices_siftDownOrdered_rune.l0 k3 (wrap64 ((wrap64 (2*x1))+1)) y92 a2 a3 l0))=some r:=by rw[hy92];exact HH.out
    replace HH:=za H
    clear H
    have NYy92:=za hy92
    clear hy92
    go_wp2_with (((with_reducible refine gate_store (t:=21) (p:=74) rfl ?_);(try(refine gate_guard (by rfl) ?_;dsimp only));refine MW.ev_set1 (n:=l0.length) B_ rfl rfl _ _ _ rfl 21 (wrap64 (a3+(wrap64 ((wrap64 (2*x1))+1)))) y88 (rd x2 (wrap64 (a3+x1))) (fun k_=>True∧(some k_=((.slice (some ad74) l0.length c0):Value).ownBlock∨w.heap.size≤k_)) (by rfl) (by rfl) (by kernel_rfl) HN90.out (of_decide_eq_true (by first|(with_reducible assumption)|assumption)) (of_decide_eq_true (by first|(with_reducible assumption)|assumption)) HB.out ?_;intro w93 hn1 hb1 hg1);refine stop_ ?_)
    refine zg ?_
    replace HFfr:=za (Kd.F_grown (ok:=(fun k_=>True∧some k_≠((.slice (some ad74) l0.length c0):Value).ownBlock)) HFfr.out hg1 (fun k_ hk_=>hk_.2))
    replace HB:=za hb1
    clear HN90
    have HN94:=za (by rw[NYy92.out];exact hn1:Kd.N (Kd.int .i32) 21 w93 B_ (fun k_=>True∧(some k_=((.slice (some ad74) l0.length c0):Value).ownBlock∨w.heap.size≤k_)) (.slice (some ad74) l0.length c0) y92)
    clear hn1 hb1 hg1
    clear hx91_0 p91 q91
    go_wp2
    go_roundg k3
    case measure=>have:=HK0.out;omega
    case rel=>exact⟨wrap64 ((wrap64 (2*x1))+1),y92,(by first|rfl|(simp;done)|(simp[*];done)),HH,⟨by have:=HK0.out;omega⟩,⟨HFfr.out⟩,⟨(Kd.N_mono (ok:=(fun k_=>True∧(some k_=((.slice (some ad74) l0.length c0):Value).ownBlock∨w.heap.size≤k_))) HN94.out (fun k_ hk_=>hk_))⟩,⟨HB.out⟩⟩
   replace HH:=MW.hneg HH c83
   replace c83:=Bool.eq_false_iff.mpr c83
   subst c83
   obtain rfl:=Option.some.inj HH.out
   clear HH
   go_wp2
   go_quiet ((first|(go_at_call 42;first|exact Calls.quiet_of (MW.drawn (cmp_Less_rune.calls  (rd x2 (wrap64 (a3+x1))) (rd x2 (wrap64 (a3+(wrap64 ((wrap64 (2*x1))+1))))) false _  At82.out))|exact MW.quiet_far (MW.drawn (cmp_Less_rune.calls  (rd x2 (wrap64 (a3+x1))) (rd x2 (wrap64 (a3+(wrap64 ((wrap64 (2*x1))+1))))) false _  At82.out)))))
   go_wp2
   (first|go_end0|((try simp only[Exit.inBlock,Exit.then]);refine bodyPost_ret (results_none rfl _ _ _) rfl ?_))
   exact⟨by first|rfl|(simp;done)|(simp[*];done),(Kd.N_mono (ok:=(fun k_=>True∧(some k_=((.slice (some ad74) l0.length c0):Value).ownBlock∨w.heap.size≤k_))) (by(with_reducible repeat(first|apply Kd.N_alloc|apply Kd.N_drewN|apply Kd.N_drew));exact HN0.out) (fun k_ hk_=>hk_.2)),(fun k_ hv_ hlt_=>MB.frK_out (by(with_reducible repeat(first|apply Kd.F_alloc|apply Kd.F_drewN|apply Kd.F_drew));exact HFfr.out) k_ (by rw[HPO.out];exact hv_) hlt_),(by repeat(first|(with_reducible first|exact HB.out|apply MB.below_allocB hB_.out|apply pw_below_drewN|apply below_drew1)|exact HB.out))⟩
end Go.Proofs.Ytcokpnajkkjclaa.GA
