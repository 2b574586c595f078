import Derived.Test.YtcokpnajkkjclaaGA0
import Derived.Test.YtcokpnajkkjclaaGM1
import Derived.Test.YtcokpnajkkjclaaGM3
import Derived.Test.YtcokpnajkkjclaaMS
import Derived.Test.YtcokpnajkkjclaaMX
namespace Go.Proofs.Ytcokpnajkkjclaa.GA
open Go.RowKit Go.Proofs.Ytcokpnajkkjclaa Go.Proofs.Ytcokpnajkkjclaa.MW Go.Proofs.YtcokpnajkkjclaaW.PrintWords Go.Proofs.YtcokpnajkkjclaaW.PrintLast Go.Proofs.YtcokpnajkkjclaaW.PrintMore Go.Proofs.Ytcokpnajkkjclaa.MQ
attribute [local go_sem] max2_int min2_int max_two min_two
set_option maxHeartbeats 8000000
set_option maxRecDepth 100000
set_option linter.unusedVariables false
set_option linter.unusedSimpArgs false
mutual
def span_Build.l0:Nat→Int→(List (S37))→Option ((List (S37)) × Int)
 |0,_,_=>none
 |k+1,x6,l0=>if x6<(l0.length:Int) then(if 0≤x6 then((span_Build_1.f ((rd_T37 l0 x6).f0) ((rd_T37 l0 x6).f1) ((rd_T37 l0 x6).f2)).bind fun t16=>(if t16=true then(some (([]:List (S37)),20)) else((span_Build.l0 k (wrap64 (x6+1)) l0)))) else(none)) else((span_edges.f k l0).bind fun t23=>((span_Build.l1 k ([]:List (S37)) 0 l0 t23)))
def span_Build.l1:Nat→(List (S37))→Int→(List (S37))→(List Int)→Option ((List (S37)) × Int)
 |0,_,_,_,_=>none
 |k+1,x28,x31,l0,t23=>if (wrap64 (x31+1))<(t23.length:Int) then(if 0≤x31 then(if x31<(t23.length:Int) then(if 0≤(wrap64 (x31+1)) then(if l0.length≤9223372036854775807 then(if (back.find l0 (rd t23 x31) 0)=0 then((span_Build.l1 k x28 (wrap64 (x31+1)) l0 t23)) else((if (wrap64 ((x28.length:Int) - 1))≥0 then(if 0≤(wrap64 ((x28.length:Int) - 1)) then(if (wrap64 ((x28.length:Int) - 1))<(x28.length:Int) then(if ((rd_T37 x28 (wrap64 ((x28.length:Int) - 1))).f2)=(back.find l0 (rd t23 x31) 0) then(some (((wrap32 (((rd_T37 x28 (wrap64 ((x28.length:Int) - 1))).f1)+1))==(rd t23 x31)))) else(some (false))) else(none)) else(none)) else(some (false))).bind fun b80=>(if b80=true then(if 0≤(wrap64 ((x28.length:Int) - 1)) then(if (wrap64 ((x28.length:Int) - 1))<(x28.length:Int) then((some (List.set x28 (wrap64 ((x28.length:Int) - 1)).toNat (⟨(rd_T37 x28 (wrap64 ((x28.length:Int) - 1))).f0,(wrap32 ((rd t23 (wrap64 (x31+1))) - 1)),(rd_T37 x28 (wrap64 ((x28.length:Int) - 1))).f2⟩:S37):List (S37))).bind fun y111=>((span_Build.l1 k y111 (wrap64 (x31+1)) l0 t23))) else(none)) else(none)) else(if x28.length<8796093022208 then((some (x28++[(⟨rd t23 x31,wrap32 ((rd t23 (wrap64 (x31+1))) - 1),back.find l0 (rd t23 x31) 0⟩:S37)]:List (S37))).bind fun y122=>((span_Build.l1 k y122 (wrap64 (x31+1)) l0 t23))) else(none))))) else(none)) else(none)) else(none)) else(none)) else(some (x28,0))
end
def span_Build.f (k:Nat) (l0:List (S37)):Option ((List (S37)) × Int):=if (l0.length:Int)>200 then(some (([]:List (S37)),20)) else((span_Build.l0 k 0 l0))
theorem span_Build.mono_l:∀ k,(∀ y0 y1,LeO (span_Build.l0 k y0 y1) (span_Build.l0 (k+1) y0 y1))∧(∀ y0 y1 y2 y3,LeO (span_Build.l1 k y0 y1 y2 y3) (span_Build.l1 (k+1) y0 y1 y2 y3))
 |0=>⟨fun _ _ r h=>by simp[span_Build.l0] at h,fun _ _ _ _ r h=>by simp[span_Build.l1] at h⟩
 |k+1=>by
  obtain⟨ih0,ih1⟩:=span_Build.mono_l k
  refine⟨?_,?_⟩
  ·intro y0 y1
   unfold span_Build.l0
   with_reducible repeat' first|exact ih0 _ _|exact ih1 _ _ _ _|exact span_edges.mono _ _|exact LeO.refl _|exact LeO.none _|refine LeO.ite ?_ ?_|refine LeO.bind ?_ (fun _=>?_)
  intro y0 y1 y2 y3
  unfold span_Build.l1
  with_reducible repeat' first|exact ih0 _ _|exact ih1 _ _ _ _|exact span_edges.mono _ _|exact LeO.refl _|exact LeO.none _|refine LeO.ite ?_ ?_|refine LeO.bind ?_ (fun _=>?_)
theorem span_Build.mono:∀ a0_ k,LeO (span_Build.f k a0_) (span_Build.f (k+1) a0_):=by
 intro a0_ k
 obtain⟨ih0,ih1⟩:=span_Build.mono_l k
 unfold span_Build.f
 with_reducible repeat' first|exact ih0 _ _|exact ih1 _ _ _ _|exact span_edges.mono _ _|exact LeO.refl _|exact LeO.none _|refine LeO.ite ?_ ?_|refine LeO.bind ?_ (fun _=>?_)
theorem span_Build.calls (k:Nat) (P_:Nat→Prop) (A0:Option Addr) (c0:Nat) (l0:List (S37)) (r1:List (S37)) (r2:Int) (w:World) (hs0:Kd.F k37 w P_ A0 l0.length l0) (hc0:l0.length≤c0) (h:span_Build.f k l0=some (r1,r2)):
  Calls Try.prog 15 #[.slice A0 l0.length c0] w (fun e w'=>∃ v0_:Value,e=.returned (.tuple #[v0_,.int .i64 r2])∧Kd.N k37 37 w' w.heap.size (fun k_=>P_ k_∨w.heap.size≤k_) v0_ r1∧Below w.heap.size w w'):=by
 unfold span_Build.f at h
 have HH:=za h
 clear h
 have HF0:=zfp hs0
 have HL0:=za hc0
 clear hs0 hc0
 have HB:=za (Below.refl w.heap.size w)
 have hu37:=Try.underlying37
 refine calls_marks Try.func15 rfl ?_
 simp only[Try.ntmps15,List.size_toArray,List.length_cons,List.length_nil,Nat.reduceAdd,Nat.reduceSub,Array.replicate_succ,Array.replicate_zero,List.push_toArray,List.append_toArray,List.nil_append,List.cons_append]
 replace HH:=zqK 200 HH
 rcases HH with⟨HH,hk2,hk3⟩|⟨HH,hk4,hk5⟩
 ·have H:=HH.out
  simp only[Option.some.injEq,Prod.mk.injEq] at H
  obtain⟨rfl,rfl⟩:=H
  clear HH
  (try go_wp2)
  refine MW.scope_labs ?_
  go_wp2
  (try simp only[MW.backTo_ret,MW.labs_ret])
  refine⟨[],rfl,List.nodup_nil,fun _ h_=>absurd h_ (by simp),fun W9 hk9=>⟨_,results_tmp2 rfl _ _ _,?_⟩⟩
  exact⟨_,by first|rfl|(simp;done)|(simp[*];done),(Kd.N_nil _ _ _ _ _),Below.trans HB.out (hk9.toBelow2 (below_size HB.out) (fun k_ h_ e_=>absurd e_ (by simp)))⟩
 (try go_wp2)
 refine MW.scope_labs ?_
 go_wp2_with (((with_reducible refine gate_callee (f:=22) rfl ?_);(try(refine gate_guard (by rfl) ?_;dsimp only));refine goesL_ (some 16) rfl rfl Try.func22 (by kernel_rfl) rfl #[.slice A0 l0.length c0,.func (.func 23) #[] #[]] rfl (by(try simp only[List.map_toArray,List.map_cons,List.map_nil]);first|done|rfl) ?_);refine stop_ ?_)
 refine zg ?_
 go_enter Try.func22,Try.ntmps22
 go_wp2_with (((with_reducible refine gate_callee (f:=28) rfl ?_);(try(refine gate_guard (by rfl) ?_;dsimp only));refine goesL_ (some 7) rfl rfl Try.func28 (by kernel_rfl) rfl #[.slice A0 l0.length c0,.func (.func 23) #[] #[]] rfl (by(try simp only[List.map_toArray,List.map_cons,List.map_nil]);first|done|rfl) ?_);refine stop_ ?_)
 refine zg ?_
 go_enter Try.func28,Try.ntmps28
 go_wp2
 go_loopg [8] k (fun kq u8 w'=>∃ (x6:Int),u8=.int .i64 x6∧Aside0 ((span_Build.l0 kq x6 l0)=some (r1,r2))∧Aside0 (kq≤k)∧Aside0 (Kd.F k37 w' (fun k_=>(P_ k_∨w.heap.size≤k_)) A0 l0.length l0)∧Aside0 (Below w.heap.size w w'))
 case atStart=>exact⟨0,(by first|rfl|(simp;done)|(simp[*];done)),HH,⟨Nat.le_refl _⟩,⟨HF0.out⟩,⟨HB.out⟩⟩
 case round=>
  clear hk4
  clear hk5
  clear HH
  clear HF0 HB
  obtain⟨x6,rfl,HA,HK0,HF0,HB⟩:=hrel
  obtain⟨w8,rfl⟩:∃ wo_:World,wo_=wr:=⟨_,rfl⟩
  cases gk with
  |zero=>exact absurd HA.out (by simp[span_Build.l0])
  |succ k9=>
   have H:=HA.out
   clear HA
   simp only[span_Build.l0] at H
   have HH:=za H
   clear H
   replace HH:=zqt HH
   rcases HH with⟨HH,hk11,hk12⟩|⟨HH,hk21,hk22⟩
   ·replace HH:=zqdo HH
    obtain⟨HH,hk14⟩:=HH
    have p15:0≤(x6:Int):=of_decide_eq_true (by first|(with_reducible assumption)|assumption)
    have q15:x6<(l0.length:Int):=of_decide_eq_true (by first|(with_reducible assumption)|assumption)
    obtain⟨ad15,e15,hx15_0,hx15_1,hx15_2⟩:=atF_T37 HF0.out x6 p15 q15
    cases e15
    replace p15:=eq_true p15
    replace q15:=eq_true q15
    replace HH:=zd HH
    obtain⟨t16,At17,HH⟩:=HH
    go_wp2_with ((with_reducible refine gd 16 rfl ?_);refine zv 16 Try.func23 #[.agg #[.int .i32 ((rd_T37 l0 x6).f0),.int .i32 ((rd_T37 l0 x6).f1),.int .i64 ((rd_T37 l0 x6).f2)]] #[] (h:=?_);(with_reducible refine(span_Build_1.calls  ((rd_T37 l0 x6).f0) ((rd_T37 l0 x6).f1) ((rd_T37 l0 x6).f2) t16 _  At17.out).mono ?_);rintro e w18 ⟨rfl,hb⟩;refine⟨_,rfl,?_⟩)
    refine zg ?_
    replace HF0:=zfb HF0.out hb
    replace HB:=zhb HB.out hb
    clear hb
    clear hx15_0 hx15_1 hx15_2 p15 q15
    by_cases c19:t16=true
    ·replace HH:=MW.hpos HH c19
     subst c19
     go_wp2
     go_ret
     refine⟨_,rfl,?_⟩
     go_wp2
     go_ret
     refine⟨_,rfl,?_⟩
     have H:=HH.out
     simp only[Option.some.injEq,Prod.mk.injEq] at H
     obtain⟨rfl,rfl⟩:=H
     clear HH
     go_wp2
     (try simp only[MW.backTo_ret,MW.labs_ret])
     refine⟨[],rfl,List.nodup_nil,fun _ h_=>absurd h_ (by simp),fun W9 hk9=>⟨_,results_tmp2 rfl _ _ _,?_⟩⟩
     exact⟨_,by first|rfl|(simp;done)|(simp[*];done),(Kd.N_nil _ _ _ _ _),Below.trans HB.out (hk9.toBelow2 (below_size HB.out) (fun k_ h_ e_=>absurd e_ (by simp)))⟩
    replace HH:=MW.hneg HH c19
    replace c19:=Bool.eq_false_iff.mpr c19
    subst c19
    go_wp2
    go_roundg k9
    case measure=>have:=HK0.out;omega
    case rel=>exact⟨wrap64 (x6+1),(by first|rfl|(simp;done)|(simp[*];done)),HH,⟨by have:=HK0.out;omega⟩,⟨HF0.out⟩,⟨HB.out⟩⟩
   go_wp2
   go_ret
   refine⟨_,rfl,?_⟩
   go_wp2
   go_ret
   refine⟨_,rfl,?_⟩
   replace HH:=zd HH
   obtain⟨t23,At24,HH⟩:=HH
   go_wp2_with ((with_reducible refine gc 24 rfl ?_);refine zc 24 (some 19) Try.func24 #[.slice A0 l0.length c0] (h:=?_);(with_reducible refine(span_edges.calls k9 (fun k_=>(P_ k_∨w.heap.size≤k_)) _ _ l0 t23 _ HF0.out HL0.out At24.out).mono ?_);rintro e w25 ⟨v26,rfl,hn26,hb⟩;refine⟨_,rfl,?_⟩)
   refine zg ?_
   have hba:=Kd.N_base hn26
   have HN26:=znl (ok2:=(fun k_=>(P_ k_∨w.heap.size≤k_))) hn26 (below_size HB.out) (fun k_ hk_=>hk_.elim (fun h_=>h_) (fun h_=>.inr (Nat.le_trans (below_size HB.out) h_)))
   replace HF0:=zfr (v:=v26) HF0.out hba hb
   replace HB:=zhb HB.out hb
   clear hn26 hba hb
   go_wp2
   apply wp_label
   have DS:=za (Ds.nil w.heap.size w25)
   go_wp2
   refine wp_loop_ghost_k (fun kq a_ w'=>∃ (ds27:List Nat) (u5 u6 u7 u9 u10 u20 u21 u22 u23 u24 u25 u26 u27 u28 u29 u30 u31 u32 u33 u34 u35 u36 u37 u38 u39 u42 u43 u44 u45 u46 u47 u48 u49 u50 u51 u52 u53 u54 u55 u56 u57 u58 u59 u60 u61 u62 u63 u64 u65 u66 u67 u68 u69 u70 u71 u72 u73 u74 u75 u76 u77 u78 u79 u80 u81 u82 u83 u84 u85 u86 u87 u88 u89 u90 u91 u92 u93 u94 u95:Value),(∃ (x28:List (S37)) (x31:Int),u6=.int .i64 x31∧Aside0 ((span_Build.l1 kq x28 x31 l0 t23)=some (r1,r2))∧Aside0 (kq≤k9)∧Aside0 (Kd.F k37 w' (fun k_=>((P_ k_∨w.heap.size≤k_)∧some k_≠(v26:Value).ownBlock)∧some k_≠(u5:Value).ownBlock) A0 l0.length l0)∧Aside0 (Kd.N (Kd.int .i32) 21 w' w.heap.size (fun k_=>(P_ k_∨w.heap.size≤k_)∧some k_≠(u5:Value).ownBlock) v26 t23)∧Aside0 (Kd.N k37 37 w' w.heap.size (fun k_=>(P_ k_∨w.heap.size≤k_)∧some k_≠(v26:Value).ownBlock) u5 x28)∧Aside0 (Ds w.heap.size ds27 w')∧Aside0 (Below w.heap.size w w'))∧a_=⟨[(.slice A0 l0.length c0),undef,(.slice none 0 0),(.int .i64 0),v26,u5,u6,u7,undef,u9,u10,(.slice A0 l0.length c0),(.int .i64 (l0.length:Int)),(.bool false),(.bool false),(.slice A0 l0.length c0),(.bool false),(.bool false),(.slice A0 l0.length c0),v26,u20,u21,u22,u23,u24,u25,u26,u27,u28,u29,u30,u31,u32,u33,u34,u35,u36,u37,u38,u39,undef,undef,u42,u43,u44,u45,u46,u47,u48,u49,u50,u51,u52,u53,u54,u55,u56,u57,u58,u59,u60,u61,u62,u63,u64,u65,u66,u67,u68,u69,u70,u71,u72,u73,u74,u75,u76,u77,u78,u79,u80,u81,u82,u83,u84,u85,u86,u87,u88,u89,u90,u91,u92,u93,u94,u95,undef].toArray,List.map markD ds27⟩) k9 ?_ ?_
   ·refine⟨([]:List Nat),?_⟩
    (repeat apply Exists.intro)
    refine⟨?_,rfl⟩
    exact⟨([]:List (S37)),0,(by first|rfl|(simp;done)|(simp[*];done)),HH,⟨Nat.le_refl _⟩,⟨(Kd.F_mono (ok:=(fun k_=>(P_ k_∨w.heap.size≤k_)∧some k_≠(v26:Value).ownBlock)) HF0.out (fun k_ hk_=>⟨⟨hk_.1,hk_.2⟩,(by simp[Value.ownBlock])⟩))⟩,⟨(Kd.N_mono (ok:=(fun k_=>(P_ k_∨w.heap.size≤k_))) HN26.out (fun k_ hk_=>⟨hk_,(by simp[Value.ownBlock])⟩))⟩,⟨Kd.N_nil _ _ _ _ _⟩,DS,⟨HB.out⟩⟩
   intro gk _ wr hinv
   refine MS.ex1 hinv ?_
   clear hinv
   intro ds27 hinv
   refine MS.ex8 hinv ?_
   clear hinv
   intro u5 u6 u7 u9 u10 u20 u21 u22 hinv
   refine MS.ex8 hinv ?_
   clear hinv
   intro u23 u24 u25 u26 u27 u28 u29 u30 hinv
   refine MS.ex8 hinv ?_
   clear hinv
   intro u31 u32 u33 u34 u35 u36 u37 u38 hinv
   refine MS.ex8 hinv ?_
   clear hinv
   intro u39 u42 u43 u44 u45 u46 u47 u48 hinv
   refine MS.ex8 hinv ?_
   clear hinv
   intro u49 u50 u51 u52 u53 u54 u55 u56 hinv
   refine MS.ex8 hinv ?_
   clear hinv
   intro u57 u58 u59 u60 u61 u62 u63 u64 hinv
   refine MS.ex8 hinv ?_
   clear hinv
   intro u65 u66 u67 u68 u69 u70 u71 u72 hinv
   refine MS.ex8 hinv ?_
   clear hinv
   intro u73 u74 u75 u76 u77 u78 u79 u80 hinv
   refine MS.ex8 hinv ?_
   clear hinv
   intro u81 u82 u83 u84 u85 u86 u87 u88 hinv
   refine MS.ex1 hinv ?_
   clear hinv
   intro u89 hinv
   refine MS.ex1 hinv ?_
   clear hinv
   intro u90 hinv
   refine MS.ex1 hinv ?_
   clear hinv
   intro u91 hinv
   refine MS.ex1 hinv ?_
   clear hinv
   intro u92 hinv
   refine MS.ex1 hinv ?_
   clear hinv
   intro u93 hinv
   refine MS.ex1 hinv ?_
   clear hinv
   intro u94 hinv
   refine MS.ex1 hinv ?_
   clear hinv
   intro u95 hinv
   obtain⟨hrel,ha⟩:=hinv
   subst ha
   try dsimp only
   intro _ _ _ _
   clear hk21
   clear hk22
   clear HH
   clear HF0 HN26 DS HB
   obtain⟨x28,x31,rfl,HA,HK1,HF0,HN26,HN30,DS,HB⟩:=hrel
   obtain⟨v29,rfl⟩:∃ z_:Value,z_=u5:=⟨_,rfl⟩
   obtain⟨w33,rfl⟩:∃ wo_:World,wo_=wr:=⟨_,rfl⟩
   cases gk with
   |zero=>exact absurd HA.out (by simp[span_Build.l1])
   |succ k32=>
    have H:=HA.out
    clear HA
    simp only[span_Build.l1] at H
    have HH:=za H
    clear H
    obtain⟨A34,cp35,he_⟩:=Kd.N_slice HN26.out
    subst he_
    replace HH:=zqt HH
    rcases HH with⟨HH,hk37,hk38⟩|⟨HH,hk134,hk135⟩
    ·go_wp2
     have hwr_:∀ n_:Int,IntKind.i64.wrap n_=wrap64 n_:=fun n_=>IntWalk.i64_left n_
     refine wp_region_any (by kernel_rfl) ?_
     change wpAny _ _ _ _ 13 #[false,false,false,false,false,false,false,false,false,false,false,false,false] _ w33.drew
     obtain⟨w39,hw_⟩:∃ w_:World,w_=w33.drew:=⟨_,rfl⟩
     rw[← hw_]
     have hb:Below w33.heap.size w33 w39:=by rw[hw_];exact below_drew1 (Below.refl _ _)
     clear hw_
     replace HF0:=zfb HF0.out hb
     replace HN26:=znb HN26.out hb
     replace HN30:=znb HN30.out hb
     replace DS:=zdb DS hb
     replace HB:=zhb HB.out hb
     clear hb
     replace HH:=zqdo HH
     obtain⟨HH,hk41⟩:=HH
     replace HH:=zqto HH
     obtain⟨HH,hk43,hk44⟩:=HH
     have p45:0≤(x31:Int):=of_decide_eq_true (by first|(with_reducible assumption)|assumption)
     have q45:x31<(t23.length:Int):=of_decide_eq_true (by first|(with_reducible assumption)|assumption)
     obtain⟨ad45,e45,hx45_0⟩:=Kd.at_int (Kd.F_now (Kd.N_F HN26.out)) x31 p45 q45
     cases e45
     replace p45:=eq_true p45
     replace q45:=eq_true q45
     replace HH:=zqdo HH
     obtain⟨HH,hk47⟩:=HH
     have p48:0≤((wrap64 (x31+1)):Int):=of_decide_eq_true (by first|(with_reducible assumption)|assumption)
     have q48:(wrap64 (x31+1))<(t23.length:Int):=of_decide_eq_true (by first|(with_reducible assumption)|assumption)
     obtain⟨ad48,e48,hx48_0⟩:=Kd.at_int (Kd.F_now (Kd.N_F HN26.out)) (wrap64 (x31+1)) p48 q48
     cases e48
     replace p48:=eq_true p48
     replace q48:=eq_true q48
     refine MW.last_in (ds:=[12]) (zk hx48_0 (zk hx45_0 z0)) ?_
     refine MW.last_pure (i:=0) (v:=(.slice (some ad45) t23.length cp35)) (listed':= #[true,false,false,false,false,false,false,false,false,false,false,false,false]) (a':=⟨[_,_,_,_,_,_,_,_,_,_,_,_,_,_,_,_,_,_,_,_,_,_,_,_,_,_,_,_,_,_,_,_,_,_,_,_,_,_,_,_,_,_,_,_,_,_,_,_,_,_,_,_,_,_,_,_,_,_,_,_,_,_,_,_,_,_,_,_,_,_,_,_,_,_,_,_,_,_,_,_,_,_,_,_,_,_,_,_,_,_,_,_,_,_,_,_,_].toArray,List.map markD ds27⟩) rfl (by kernel_rfl) (by kernel_rfl) (by kernel_rfl) (fun _ _ _ h_=>h_) (.inl ⟨(by kernel_rfl),fun _=>(by first|rfl|(go_simp;done)|(go_simp;rfl)|(go_simp;simp only[i32_w];done)|(go_simp;simp only[MW.isEmpty_beq,bne,Bool.not_not];done))⟩) (by kernel_rfl) rfl ?_
     refine MW.last_pure (i:=1) (v:=.int .i64 x31) (listed':= #[true,true,false,false,false,false,false,false,false,false,false,false,false]) (a':=⟨[_,_,_,_,_,_,_,_,_,_,_,_,_,_,_,_,_,_,_,_,_,_,_,_,_,_,_,_,_,_,_,_,_,_,_,_,_,_,_,_,_,_,_,_,_,_,_,_,_,_,_,_,_,_,_,_,_,_,_,_,_,_,_,_,_,_,_,_,_,_,_,_,_,_,_,_,_,_,_,_,_,_,_,_,_,_,_,_,_,_,_,_,_,_,_,_,_].toArray,List.map markD ds27⟩) rfl (by kernel_rfl) (by kernel_rfl) (by kernel_rfl) (fun _ _ _ h_=>h_) (.inl ⟨(by kernel_rfl),fun _=>(by first|rfl|(go_simp;done)|(go_simp;rfl)|(go_simp;simp only[i32_w];done)|(go_simp;simp only[MW.isEmpty_beq,bne,Bool.not_not];done))⟩) (by kernel_rfl) rfl ?_
     refine MW.last_pure (i:=2) (v:=.pointer (some (ad45.add (x31.toNat)))) (listed':= #[true,true,true,false,false,false,false,false,false,false,false,false,false]) (a':=⟨[_,_,_,_,_,_,_,_,_,_,_,_,_,_,_,_,_,_,_,_,_,_,_,_,_,_,_,_,_,_,_,_,_,_,_,_,_,_,_,_,_,_,_,_,_,_,_,_,_,_,_,_,_,_,_,_,_,_,_,_,_,_,_,_,_,_,_,_,_,_,_,_,_,_,_,_,_,_,_,_,_,_,_,_,_,_,_,_,_,_,_,_,_,_,_,_,_].toArray,List.map markD ds27⟩) rfl (by kernel_rfl) (by kernel_rfl) (by kernel_rfl) (fun _ _ _ h_=>h_) (.inl ⟨(by kernel_rfl),fun _=>(by first|rfl|(go_simp;done)|(go_simp;rfl)|(go_simp;simp only[i32_w];done)|(go_simp;simp only[MW.isEmpty_beq,bne,Bool.not_not];done))⟩) (by kernel_rfl) rfl ?_
     refine MW.last_pure (i:=4) (v:=(.slice (some ad45) t23.length cp35)) (listed':= #[true,true,true,false,true,false,false,false,false,false,false,false,false]) (a':=⟨[_,_,_,_,_,_,_,_,_,_,_,_,_,_,_,_,_,_,_,_,_,_,_,_,_,_,_,_,_,_,_,_,_,_,_,_,_,_,_,_,_,_,_,_,_,_,_,_,_,_,_,_,_,_,_,_,_,_,_,_,_,_,_,_,_,_,_,_,_,_,_,_,_,_,_,_,_,_,_,_,_,_,_,_,_,_,_,_,_,_,_,_,_,_,_,_,_].toArray,List.map markD ds27⟩) rfl (by kernel_rfl) (by kernel_rfl) (by kernel_rfl) (fun _ _ _ h_=>h_) (.inl ⟨(by kernel_rfl),fun _=>(by first|rfl|(go_simp;done)|(go_simp;rfl)|(go_simp;simp only[i32_w];done)|(go_simp;simp only[MW.isEmpty_beq,bne,Bool.not_not];done))⟩) (by kernel_rfl) rfl ?_
     refine MW.last_pure (i:=5) (v:=.int .i64 x31) (listed':= #[true,true,true,false,true,true,false,false,false,false,false,false,false]) (a':=⟨[_,_,_,_,_,_,_,_,_,_,_,_,_,_,_,_,_,_,_,_,_,_,_,_,_,_,_,_,_,_,_,_,_,_,_,_,_,_,_,_,_,_,_,_,_,_,_,_,_,_,_,_,_,_,_,_,_,_,_,_,_,_,_,_,_,_,_,_,_,_,_,_,_,_,_,_,_,_,_,_,_,_,_,_,_,_,_,_,_,_,_,_,_,_,_,_,_].toArray,List.map markD ds27⟩) rfl (by kernel_rfl) (by kernel_rfl) (by kernel_rfl) (fun _ _ _ h_=>h_) (.inl ⟨(by kernel_rfl),fun _=>(by first|rfl|(go_simp;done)|(go_simp;rfl)|(go_simp;simp only[i32_w];done)|(go_simp;simp only[MW.isEmpty_beq,bne,Bool.not_not];done))⟩) (by kernel_rfl) rfl ?_
     refine MW.last_pure (i:=6) (v:=.int .i64 (wrap64 (x31+1))) (listed':= #[true,true,true,false,true,true,true,false,false,false,false,false,false]) (a':=⟨[_,_,_,_,_,_,_,_,_,_,_,_,_,_,_,_,_,_,_,_,_,_,_,_,_,_,_,_,_,_,_,_,_,_,_,_,_,_,_,_,_,_,_,_,_,_,_,_,_,_,_,_,_,_,_,_,_,_,_,_,_,_,_,_,_,_,_,_,_,_,_,_,_,_,_,_,_,_,_,_,_,_,_,_,_,_,_,_,_,_,_,_,_,_,_,_,_].toArray,List.map markD ds27⟩) rfl (by kernel_rfl) (by kernel_rfl) (by kernel_rfl) (fun _ _ _ h_=>h_) (.inl ⟨(by kernel_rfl),fun _=>(by first|rfl|(go_simp;done)|(go_simp;rfl)|(go_simp;simp only[i32_w];done)|(go_simp;simp only[MW.isEmpty_beq,bne,Bool.not_not];done))⟩) (by kernel_rfl) rfl ?_
     refine MW.last_pure (i:=7) (v:=.pointer (some (ad45.add ((wrap64 (x31+1)).toNat)))) (listed':= #[true,true,true,false,true,true,true,true,false,false,false,false,false]) (a':=⟨[_,_,_,_,_,_,_,_,_,_,_,_,_,_,_,_,_,_,_,_,_,_,_,_,_,_,_,_,_,_,_,_,_,_,_,_,_,_,_,_,_,_,_,_,_,_,_,_,_,_,_,_,_,_,_,_,_,_,_,_,_,_,_,_,_,_,_,_,_,_,_,_,_,_,_,_,_,_,_,_,_,_,_,_,_,_,_,_,_,_,_,_,_,_,_,_,_].toArray,List.map markD ds27⟩) rfl (by kernel_rfl) (by kernel_rfl) (by kernel_rfl) (fun _ _ _ h_=>h_) (.inl ⟨(by kernel_rfl),fun _=>(by first|rfl|(go_simp;done)|(go_simp;rfl)|(go_simp;simp only[i32_w];done)|(go_simp;simp only[MW.isEmpty_beq,bne,Bool.not_not];done))⟩) (by kernel_rfl) rfl ?_
     refine MW.last_take (i:=3) (v:=.int .i32 (rd t23 x31)) (listed':= #[_,_,_,_,_,_,_,_,_,_,_,_,_]) (a':=⟨[_,_,_,_,_,_,_,_,_,_,_,_,_,_,_,_,_,_,_,_,_,_,_,_,_,_,_,_,_,_,_,_,_,_,_,_,_,_,_,_,_,_,_,_,_,_,_,_,_,_,_,_,_,_,_,_,_,_,_,_,_,_,_,_,_,_,_,_,_,_,_,_,_,_,_,_,_,_,_,_,_,_,_,_,_,_,_,_,_,_,_,_,_,_,_,_,_].toArray,List.map markD ds27⟩) rfl (by kernel_rfl) (by kernel_rfl) (by kernel_rfl) (by kernel_rfl) (by kernel_rfl) (fun _ _ _ h_=>h_) (by kernel_rfl) (fun w_ hS_=>?go) (zk hx48_0 (zk hx45_0 z0)) rfl rfl ?_
     case go=>obtain⟨_,hs1_,_⟩:=hS_;first|(go_simp;done)|(go_simp;rfl)
     refine MW.last_take (i:=8) (v:=.int .i32 (rd t23 (wrap64 (x31+1)))) (listed':= #[_,_,_,_,_,_,_,_,_,_,_,_,_]) (a':=⟨[_,_,_,_,_,_,_,_,_,_,_,_,_,_,_,_,_,_,_,_,_,_,_,_,_,_,_,_,_,_,_,_,_,_,_,_,_,_,_,_,_,_,_,_,_,_,_,_,_,_,_,_,_,_,_,_,_,_,_,_,_,_,_,_,_,_,_,_,_,_,_,_,_,_,_,_,_,_,_,_,_,_,_,_,_,_,_,_,_,_,_,_,_,_,_,_,_].toArray,List.map markD ds27⟩) rfl (by kernel_rfl) (by kernel_rfl) (by kernel_rfl) (by kernel_rfl) (by kernel_rfl) (fun _ _ _ h_=>h_) (by kernel_rfl) (fun w_ hS_=>?go) (zk hx48_0 (zk hx45_0 z0)) rfl rfl ?_
     case go=>obtain⟨hs0_,_,_⟩:=hS_;first|(go_simp;done)|(go_simp;rfl)
     refine MW.last_pure (i:=9) (v:=.int .i32 (wrap32 ((rd t23 (wrap64 (x31+1))) - 1))) (listed':= #[true,true,true,true,true,true,true,true,true,true,false,false,false]) (a':=⟨[_,_,_,_,_,_,_,_,_,_,_,_,_,_,_,_,_,_,_,_,_,_,_,_,_,_,_,_,_,_,_,_,_,_,_,_,_,_,_,_,_,_,_,_,_,_,_,_,_,_,_,_,_,_,_,_,_,_,_,_,_,_,_,_,_,_,_,_,_,_,_,_,_,_,_,_,_,_,_,_,_,_,_,_,_,_,_,_,_,_,_,_,_,_,_,_,_].toArray,List.map markD ds27⟩) rfl (by kernel_rfl) (by kernel_rfl) (by kernel_rfl) (fun _ _ _ h_=>h_) (.inl ⟨(by kernel_rfl),fun _=>(by first|rfl|(go_simp;done)|(go_simp;rfl)|(go_simp;simp only[i32_w];done)|(go_simp;simp only[MW.isEmpty_beq,bne,Bool.not_not];done))⟩) (by kernel_rfl) rfl ?_
     refine MW.last_pure (i:=10) (v:=.agg #[.int .i32 (rd t23 x31),.int .i32 (wrap32 ((rd t23 (wrap64 (x31+1))) - 1)),.int .i64 0]) (listed':= #[true,true,true,true,true,true,true,true,true,true,true,false,false]) (a':=⟨[_,_,_,_,_,_,_,_,_,_,_,_,_,_,_,_,_,_,_,_,_,_,_,_,_,_,_,_,_,_,_,_,_,_,_,_,_,_,_,_,_,_,_,_,_,_,_,_,_,_,_,_,_,_,_,_,_,_,_,_,_,_,_,_,_,_,_,_,_,_,_,_,_,_,_,_,_,_,_,_,_,_,_,_,_,_,_,_,_,_,_,_,_,_,_,_,_].toArray,List.map markD ds27⟩) rfl (by kernel_rfl) (by kernel_rfl) (by kernel_rfl) (fun _ _ _ h_=>h_) (.inl ⟨(by kernel_rfl),fun _=>(by first|rfl|(go_simp;done)|(go_simp;rfl)|(go_simp;simp only[i32_w];done)|(go_simp;simp only[MW.isEmpty_beq,bne,Bool.not_not];done))⟩) (by kernel_rfl) rfl ?_
     refine MW.last_act (i:=11) (listed':= #[true,true,true,true,true,true,true,true,true,true,true,true,false]) rfl (by kernel_rfl) (by kernel_rfl) (by decide) ?_
     go_wp2_with ((with_reducible refine gd 7 rfl ?_);refine zb 7 37 #[.int .i32 0,.int .i32 0,.int .i64 0] (h:=?_);intro g49 hg w50 BKg49 hb)
     refine zg ?_
     have GEg49:=zge hg (below_size HB.out)
     replace HF0:=zfe HF0.out hg hb
     replace HN26:=zne HN26.out hg hb
     replace HN30:=zne HN30.out hg hb
     replace DS:=zdb DS hb
     replace HB:=zhb HB.out hb
     clear hg hb
     clear hx45_0 p45 q45 hx48_0 p48 q48
     replace cBKg49:=MB.lz3 BKg49.out
     have p54:0≤(x31:Int):=of_decide_eq_true (by first|(with_reducible assumption)|assumption)
     have q54:x31<(t23.length:Int):=of_decide_eq_true (by first|(with_reducible assumption)|assumption)
     obtain⟨ad54,e54,hx54_0⟩:=Kd.at_int (Kd.F_now (Kd.N_F HN26.out)) x31 p54 q54
     cases e54
     replace p54:=eq_true p54
     replace q54:=eq_true q54
     have p55:0≤((wrap64 (x31+1)):Int):=of_decide_eq_true (by first|(with_reducible assumption)|assumption)
     have q55:(wrap64 (x31+1))<(t23.length:Int):=of_decide_eq_true (by first|(with_reducible assumption)|assumption)
     obtain⟨ad55,e55,hx55_0⟩:=Kd.at_int (Kd.F_now (Kd.N_F HN26.out)) (wrap64 (x31+1)) p55 q55
     cases e55
     replace p55:=eq_true p55
     replace q55:=eq_true q55
     refine wpList_nil ?_
     change MW.Cells _ _∧wpAnyLast _ _ _ _ _ _ 1 #[true,true,true,true,true,true,true,true,true,true,true,true,false] ⟨[_,_,_,_,_,_,_,_,_,_,_,_,_,_,_,_,_,_,_,_,_,_,_,_,_,_,_,_,_,_,_,_,_,_,_,_,_,_,_,_,_,_,_,_,_,_,_,_,_,_,_,_,_,_,_,_,_,_,_,_,_,_,_,_,_,_,_,_,_,_,_,_,_,_,_,_,_,_,_,_,_,_,_,_,_,_,_,_,_,_,_,_,_,_,_,_,_].toArray,List.map markD ds27⟩ _
     refine⟨(zk hx55_0 (zk hx54_0 z0)),?_⟩
     refine MW.last_fin (i:=12) (listed':= #[true,true,true,true,true,true,true,true,true,true,true,true,true]) rfl (by kernel_rfl) (by kernel_rfl) (by kernel_rfl) ?_
     go_wp2_with ((with_reducible refine gs 37 7 rfl ?_);refine zs 37 7 #[.int .i32 (rd t23 x31),.int .i32 (wrap32 ((rd t23 (wrap64 (x31+1))) - 1)),.int .i64 0] BKg49.out [.int .i32 (rd t23 x31),.int .i32 (wrap32 ((rd t23 (wrap64 (x31+1))) - 1)),.int .i64 0] (h:=?_);intro w56 hbk hg)
     refine zg ?_
     replace HF0:=zfg HF0.out hg fun k_ hk_=>hk_.2
     replace HN26:=zng HN26.out hg fun k_ hk_=>hk_.2
     replace HN30:=zng HN30.out hg fun k_ hk_=>hk_.2
     replace DS:=zdg DS hg BKg49.out
     replace HB:=zhg HB.out hg (below_size HB.out) GEg49
     replace BKg49:=hbk
     clear hg hbk
     clear hx54_0 p54 q54 hx55_0 p55 q55
     replace cBKg49:=MB.lz3 BKg49.out
     refine wpList_nil ?_
     refine⟨(by kernel_rfl),?_⟩
     clear hwr_
     go_wp2_with (((with_reducible refine gate_callee (f:=25) rfl ?_);(try(refine gate_guard (by rfl) ?_;dsimp only));refine goesL_ (some 39) rfl rfl Try.func25 (by kernel_rfl) rfl #[.slice A0 l0.length c0] rfl (by(try simp only[List.map_toArray,List.map_cons,List.map_nil]);first|done|rfl) ?_);refine stop_ ?_)
     refine zg ?_
     go_enter Try.func25,Try.ntmps25
     go_wp2_with ((with_reducible refine gd 1 rfl ?_);refine zb 1 22 #[.slice A0 l0.length c0] (h:=?_);intro g60 hg w61 BKg60 hb)
     refine zg ?_
     have NEg49_g60:=znq hg BKg49.out
     have NEg60_g49:=zsy NEg49_g60
     replace HF0:=zfe HF0.out hg hb
     replace HN26:=zne HN26.out hg hb
     replace HN30:=zne HN30.out hg hb
     replace BKg49:=zbb BKg49.out hb
     replace DS:=zdb DS hb
     replace HB:=zhb HB.out hb
     clear hg hb
     replace cBKg49:=MB.lz3 BKg49.out
     have j13:=MB.lz1 BKg60.out
     go_wp2
     go_ret
     refine⟨_,rfl,?_⟩
     obtain⟨HH,LMc66⟩:=zlm HH
     go_wp2
     refine back.law (t9:=9) (ds:=ds27) (fun k_=>((((P_ k_∨w.heap.size≤k_)∧some k_≠((.slice (some ad45) t23.length cp35):Value).ownBlock)∧some k_≠(v29:Value).ownBlock)∧k_≠g49)∧k_≠g60) g60 A0 c0 l0 BKg60.out HF0.out HL0.out LMc66.out g49 (rd t23 x31) (wrap32 ((rd t23 (wrap64 (x31+1))) - 1)) 0 BKg49.out (fun k_ hk_=>hk_.1.2) NEg49_g60 DS (below_size HB.out) rfl (by decide) (fun _ _ h_=>(by first|exact h_|simpa [Exit.inBlock] using h_)) (by simp) (by simp) (by simp) ?_ ?_ ?_
     ·intro i_ x_ W_ Q_ hq_
      go_wp2_with ((with_reducible refine gd 9 rfl ?_);refine zb 9 37 #[.int .i32 0,.int .i32 0,.int .i64 0] (h:=?_);intro g9_ hg9_ W1_ BK9_ hb1_)
      refine zg ?_
      have c9_:=MB.lz3 BK9_.out
      go_wp2_with ((with_reducible refine gs 37 9 rfl ?_);refine zs 37 9 #[.int .i32 x_.f0,.int .i32 x_.f1,.int .i64 x_.f2] BK9_.out [.int .i32 x_.f0,.int .i32 x_.f1,.int .i64 x_.f2] (h:=?_);intro W2_ hbk_ hg_)
      refine zg ?_
      exact wpList_nil (hq_.out _ _ (Nat.le_of_eq hg9_.out.symm) hbk_.out (back.below hb1_ hg9_.out hg_))
     ·intro i_ x_ g9_ W_ Q_ hx_ h7_ hq_
      have c9_:=MB.lz3 hx_.out
      have c7_:=MB.lz3 h7_.out
      by_cases q1_:x_.f0≤(rd t23 x31)
      ·have q1a_:decide (x_.f0≤(rd t23 x31))=true:=decide_eq_true q1_
       by_cases q2_:(rd t23 x31)≤x_.f1
       ·have q2a_:decide ((rd t23 x31)≤x_.f1)=true:=decide_eq_true q2_
        replace q1_:=eq_true q1_
        replace q2_:=eq_true q2_
        go_wp2
        have e_:back.hit (rd t23 x31) x_=true:=by rw[back.hit,q1a_,q2a_];rfl
        refine hq_.out _ (by rw[e_];try rfl) (fun Q2_ h2_ ht_=>?_)
        go_wp2_with ((with_reducible refine gs 3 56 rfl ?_);refine zs 3 56 #[.int .i32 (rd t23 x31),.int .i32 (wrap32 ((rd t23 (wrap64 (x31+1))) - 1)),.int .i64 x_.f2] h7_.out [.int .i64 x_.f2] (h:=?_);intro W2_ hbk_ hg_)
        refine zg ?_
        exact wpList_nil (h2_.out _ _ hbk_.out hg_)
       have q3_:=q2_
       have q2a_:decide ((rd t23 x31)≤x_.f1)=false:=decide_eq_false q2_
       replace q1_:=eq_true q1_
       replace q2_:=eq_false q2_
       go_wp2
       have e_:back.hit (rd t23 x31) x_=false:=by rw[back.hit,q1a_,q2a_];rfl
       refine hq_.out _ (by rw[e_];try rfl) (fun Q2_ h2_ ht_=>absurd ht_ (by rw[e_];simp))
      have q3_:=q1_
      have q1a_:decide (x_.f0≤(rd t23 x31))=false:=decide_eq_false q1_
      replace q1_:=eq_false q1_
      go_wp2
      have e_:back.hit (rd t23 x31) x_=false:=by rw[back.hit,q1a_];rfl
      refine hq_.out _ (by rw[e_];try rfl) (fun Q2_ h2_ ht_=>absurd ht_ (by rw[e_];simp))
     intro w67 ds68 hbk hkp DSn
     refine zg ?_
     replace HF0:=za (Kd.F_mono (Kd.F_step (Kd.F_bound (ok:=(fun k_=>((((P_ k_∨w.heap.size≤k_)∧some k_≠((.slice (some ad45) t23.length cp35):Value).ownBlock)∧some k_≠(v29:Value).ownBlock)∧k_≠g49)∧k_≠g60)) HF0.out) (fun k_ hk_ _=>hkp.block k_ ⟨hk_.1.1.2,hk_.2⟩ hk_.2)) (fun k_ hk_=>hk_.1))
     replace HN26:=za (Kd.N_mono (Kd.N_step (Kd.N_bound (ok:=(fun k_=>(((P_ k_∨w.heap.size≤k_)∧some k_≠(v29:Value).ownBlock)∧k_≠g49)∧k_≠g60)) HN26.out) (fun k_ hk_ _=>hkp.block k_ ⟨hk_.1.1.2,hk_.2⟩ hk_.2)) (fun k_ hk_=>hk_.1))
     replace HN30:=za (Kd.N_mono (Kd.N_step (Kd.N_bound (ok:=(fun k_=>(((P_ k_∨w.heap.size≤k_)∧some k_≠((.slice (some ad45) t23.length cp35):Value).ownBlock)∧k_≠g49)∧k_≠g60)) HN30.out) (fun k_ hk_ _=>hkp.block k_ ⟨hk_.1.1.2,hk_.2⟩ hk_.2)) (fun k_ hk_=>hk_.1))
     replace BKg60:=za ((hkp.block g60 ⟨NEg60_g49.out,blk_lt BKg60.out⟩ (blk_lt BKg60.out)).trans BKg60.out)
     replace HB:=za (Below.trans HB.out (hkp.toBelow2 HB.out.size (fun k_ h_=>⟨fun e_=>by have:=GEg49.out;omega,Nat.lt_of_lt_of_le h_ HB.out.size⟩)))
     replace BKg49:=hbk
     replace DS:=DSn
     clear hbk hkp DSn
     clear j13
     replace cBKg49:=MB.lz3 BKg49.out
     have j1a:=MB.lz1 BKg60.out
     replace HH:=zqe HH
     rcases HH with⟨HH,hk74,hk75⟩|⟨HH,hk76,hk77⟩
     ·go_wp2
      refine Handed.intro k32 ?measure ?_
      rotate_left
      go_step
      refine⟨ds68,?_⟩
      (repeat apply Exists.intro)
      refine⟨?rel,rfl⟩
      case measure=>have:=HK0.out;have:=HK1.out;omega
      case rel=>exact⟨x28,wrap64 (x31+1),(by first|rfl|(simp;done)|(simp[*];done)),HH,⟨by have:=HK0.out;have:=HK1.out;omega⟩,⟨(Kd.F_mono (ok:=(fun k_=>((((P_ k_∨w.heap.size≤k_)∧some k_≠((.slice (some ad45) t23.length cp35):Value).ownBlock)∧some k_≠(v29:Value).ownBlock)∧k_≠g49)∧k_≠g60)) HF0.out (fun k_ hk_=>⟨⟨hk_.1.1.1.1,hk_.1.1.1.2⟩,hk_.1.1.2⟩))⟩,⟨(Kd.N_mono (ok:=(fun k_=>(((P_ k_∨w.heap.size≤k_)∧some k_≠(v29:Value).ownBlock)∧k_≠g49)∧k_≠g60)) HN26.out (fun k_ hk_=>⟨hk_.1.1.1,hk_.1.1.2⟩))⟩,⟨(Kd.N_mono (ok:=(fun k_=>(((P_ k_∨w.heap.size≤k_)∧some k_≠((.slice (some ad45) t23.length cp35):Value).ownBlock)∧k_≠g49)∧k_≠g60)) HN30.out (fun k_ hk_=>⟨hk_.1.1.1,hk_.1.1.2⟩))⟩,DS,⟨HB.out⟩⟩
     obtain⟨A78,cp79,he_⟩:=Kd.N_slice HN30.out
     subst he_
     replace HH:=zd HH
     obtain⟨b80,At81,HH⟩:=HH
     go_wp2
     obtain⟨R_,hR_⟩:∃ R_:Act→World→Prop,R_=(fun a_ w_=>∃ u63 u64 u65 u66 u67 u68 u69 u70 u71 u72 u73 u74 u75 u76 u77 u78 u79 u80 u81 u82 u83 u84:Value,a_=(⟨[(.slice A0 l0.length c0),undef,(.slice none 0 0),(.int .i64 0),(.slice (some ad45) t23.length cp35),(.slice A78 x28.length cp79),(.int .i64 x31),(.pointer (some ⟨g49,0,none⟩)),undef,u9,(.int .i64 (wrap64 ((x28.length:Int) - 1))),(.slice A0 l0.length c0),(.int .i64 (l0.length:Int)),(.bool false),(.bool false),(.slice A0 l0.length c0),(.bool false),(.bool false),(.slice A0 l0.length c0),(.slice (some ad45) t23.length cp35),(.int .i64 x31),(.int .i64 (wrap64 (x31+1))),(.slice (some ad45) t23.length cp35),(.int .i64 (t23.length:Int)),(.bool true),u25,u26,(.slice (some ad45) t23.length cp35),(.int .i64 x31),(.pointer (some (ad45.add (x31.toNat)))),(.int .i32 (rd t23 x31)),(.slice (some ad45) t23.length cp35),(.int .i64 x31),(.int .i64 (wrap64 (x31+1))),(.pointer (some (ad45.add ((wrap64 (x31+1)).toNat)))),(.int .i32 (rd t23 (wrap64 (x31+1)))),(.int .i32 (wrap32 ((rd t23 (wrap64 (x31+1))) - 1))),(.agg #[.int .i32 (rd t23 x31),.int .i32 (wrap32 ((rd t23 (wrap64 (x31+1))) - 1)),.int .i64 0]),(.slice A0 l0.length c0),(.func (.func 33) #[] #[.pointer (some ⟨g60,0,none⟩)]),undef,undef,u42,u43,u44,u45,u46,u47,u48,u49,u50,u51,u52,u53,u54,u55,u56,(.pointer (some ⟨g49,2,none⟩)),(.int .i64 (back.find l0 (rd t23 x31) 0)),(.bool false),(.slice A78 x28.length cp79),(.int .i64 (x28.length:Int)),(.int .i64 (wrap64 ((x28.length:Int) - 1))),u63,u64,u65,u66,u67,u68,u69,u70,u71,u72,u73,u74,u75,u76,u77,u78,u79,u80,u81,u82,u83,u84,.bool b80,u86,u87,u88,u89,u90,u91,u92,u93,u94,u95,undef].toArray,List.map markD ds68⟩:Act)∧Drawn0 w67 w_):=⟨_,rfl⟩
     replace hR_:=za hR_
     refine MS.join R_ ?_ ?_
     ·clear HH
      have HH:=At81
      clear At81
      replace HH:=zqG HH
      rcases HH with⟨HH,hk84⟩|⟨HH,hk99⟩
      ·replace HH:=zqdo HH
       obtain⟨HH,hk86⟩:=HH
       replace HH:=zqto HH
       obtain⟨HH,hk88,hk89⟩:=HH
       have p90:0≤((wrap64 ((x28.length:Int) - 1)):Int):=of_decide_eq_true (by first|(with_reducible assumption)|assumption)
       have q90:(wrap64 ((x28.length:Int) - 1))<(x28.length:Int):=of_decide_eq_true (by first|(with_reducible assumption)|assumption)
       obtain⟨ad90,e90,hx90_0,hx90_1,hx90_2⟩:=atF_T37 (Kd.N_F HN30.out) (wrap64 ((x28.length:Int) - 1)) p90 q90
       cases e90
       replace p90:=eq_true p90
       replace q90:=eq_true q90
       replace HH:=zqe HH
       rcases HH with⟨HH,hk92,hk93⟩|⟨HH,hk94,hk95⟩
       ·go_wp2
        go_quiet (fail)
        obtain rfl:=Option.some.inj HH.out
        go_wp2
        refine MS.Joined.mk ?_
        rw[hR_.out]
        exact⟨_,_,_,_,_,_,_,_,_,_,_,_,_,_,_,_,_,_,_,_,_,_,rfl,by repeat(first|exact Drawn0.refl _|apply Drawn0.step)⟩
       go_wp2
       go_quiet (fail)
       obtain rfl:=Option.some.inj HH.out
       go_wp2
       refine MS.Joined.mk ?_
       rw[hR_.out]
       exact⟨_,_,_,_,_,_,_,_,_,_,_,_,_,_,_,_,_,_,_,_,_,_,rfl,by repeat(first|exact Drawn0.refl _|apply Drawn0.step)⟩
      go_wp2
      go_quiet (fail)
      obtain rfl:=Option.some.inj HH.out
      go_wp2
      refine MS.Joined.mk ?_
      rw[hR_.out]
      exact⟨_,_,_,_,_,_,_,_,_,_,_,_,_,_,_,_,_,_,_,_,_,_,rfl,by repeat(first|exact Drawn0.refl _|apply Drawn0.step)⟩
     intro a_ w82 hd_
     rw[hR_.out] at hd_
     obtain⟨u63,u64,u65,u66,u67,u68,u69,u70,u71,u72,u73,u74,u75,u76,u77,u78,u79,u80,u81,u82,u83,u84,rfl,hd_⟩:=hd_
     have hb:=MS.drawn_below hd_
     clear At81 hd_ hR_ R_
     replace HF0:=zfb HF0.out hb
     replace HN26:=znb HN26.out hb
     replace HN30:=znb HN30.out hb
     replace BKg49:=zbb BKg49.out hb
     replace BKg60:=zbb BKg60.out hb
     replace DS:=zdb DS hb
     replace HB:=zhb HB.out hb
     clear hb
     clear j1a
     replace cBKg49:=MB.lz3 BKg49.out
     have j1F:=MB.lz1 BKg60.out
     by_cases c104:b80=true
     ·replace HH:=MW.hpos HH c104
      subst c104
      replace HH:=zqdo HH
      obtain⟨HH,hk106⟩:=HH
      replace HH:=zqto HH
      obtain⟨HH,hk108,hk109⟩:=HH
      have p110:0≤((wrap64 ((x28.length:Int) - 1)):Int):=of_decide_eq_true (by first|(with_reducible assumption)|assumption)
      have q110:(wrap64 ((x28.length:Int) - 1))<(x28.length:Int):=of_decide_eq_true (by first|(with_reducible assumption)|assumption)
      obtain⟨ad110,e110,hx110_0,hx110_1,hx110_2⟩:=atF_T37 (Kd.N_F HN30.out) (wrap64 ((x28.length:Int) - 1)) p110 q110
      cases e110
      replace p110:=eq_true p110
      replace q110:=eq_true q110
      obtain⟨y111,hy111⟩:∃ y_:List (S37),y_=(List.set x28 (wrap64 ((x28.length:Int) - 1)).toNat (⟨(rd_T37 x28 (wrap64 ((x28.length:Int) - 1))).f0,(wrap32 ((rd t23 (wrap64 (x31+1))) - 1)),(rd_T37 x28 (wrap64 ((x28.length:Int) - 1))).f2⟩:S37)):=⟨_,rfl⟩
      have H:((span_Build.l1 k32 y111 (wrap64 (x31+1)) l0 t23))=some (r1,r2):=by rw[hy111];exact HH.out
      replace HH:=za H
      clear H
      have NYy111:=za hy111
      clear hy111
      go_wp2_with (((with_reducible refine gate_store (t:=21) (p:=91) rfl ?_);(try(refine gate_guard (by rfl) ?_;dsimp only));refine MS.ev_field k37 (n:=x28.length) w.heap.size rfl rfl _ _ _ rfl 37 (wrap64 ((x28.length:Int) - 1)) 1 x28 z37 (⟨(rd_T37 x28 (wrap64 ((x28.length:Int) - 1))).f0,(wrap32 ((rd t23 (wrap64 (x31+1))) - 1)),(rd_T37 x28 (wrap64 ((x28.length:Int) - 1))).f2⟩:S37) (.int .i32 (wrap32 ((rd t23 (wrap64 (x31+1))) - 1))) (fun k_=>(((P_ k_∨w.heap.size≤k_)∧some k_≠((.slice (some ad45) t23.length cp35):Value).ownBlock)∧k_≠g49)∧k_≠g60) (by rfl) (by rfl) rfl rfl (by kernel_rfl) HN30.out (of_decide_eq_true (by first|(with_reducible assumption)|assumption)) (of_decide_eq_true (by first|(with_reducible assumption)|assumption)) (by decide) (fun c_ h_=>by rw[k37_open (Kd.FK_now h_)];exact k37_mkF _ _ _) HB.out ?_;intro w112 hn1 hb1 hg1);refine stop_ ?_)
      refine zg ?_
      replace HF0:=za (Kd.F_grown (ok:=(fun k_=>((((P_ k_∨w.heap.size≤k_)∧some k_≠((.slice (some ad45) t23.length cp35):Value).ownBlock)∧some k_≠((.slice (some ad110) x28.length cp79):Value).ownBlock)∧k_≠g49)∧k_≠g60)) HF0.out hg1 (fun k_ hk_=>hk_.1.1.2))
      replace HN26:=za (Kd.N_grown (ok:=(fun k_=>(((P_ k_∨w.heap.size≤k_)∧some k_≠((.slice (some ad110) x28.length cp79):Value).ownBlock)∧k_≠g49)∧k_≠g60)) HN26.out hg1 (fun k_ hk_=>hk_.1.1.2))
      replace BKg49:=za (blk_grown (g:=g49) BKg49.out hg1 (Kd.N_away (ok:=(fun k_=>(((P_ k_∨w.heap.size≤k_)∧some k_≠((.slice (some ad45) t23.length cp35):Value).ownBlock)∧k_≠g49)∧k_≠g60)) HN30.out (fun k_ hk_=>hk_.1.2)))
      replace BKg60:=za (blk_grown (g:=g60) BKg60.out hg1 (Kd.N_away (ok:=(fun k_=>(((P_ k_∨w.heap.size≤k_)∧some k_≠((.slice (some ad45) t23.length cp35):Value).ownBlock)∧k_≠g49)∧k_≠g60)) HN30.out (fun k_ hk_=>hk_.2)))
      replace DS:=zdr DS hg1 (fun k_ hk_=>(Kd.N_typed HN30.out k_ hk_).elim (fun c_ hc_=>⟨c_,_,hc_⟩))
      replace HB:=za hb1
      clear HN30
      have HN113:=za (by rw[NYy111.out];exact hn1:Kd.N k37 37 w112 w.heap.size (fun k_=>(((P_ k_∨w.heap.size≤k_)∧some k_≠((.slice (some ad45) t23.length cp35):Value).ownBlock)∧k_≠g49)∧k_≠g60) (.slice (some ad110) x28.length cp79) y111)
      clear hn1 hb1 hg1
      clear j1F hx110_0 hx110_1 hx110_2 p110 q110
      replace cBKg49:=MB.lz3 BKg49.out
      have j1T:=MB.lz1 BKg60.out
      go_wp2
      refine Handed.intro k32 ?measure ?_
      rotate_left
      go_step
      refine⟨ds68,?_⟩
      (repeat apply Exists.intro)
      refine⟨?rel,rfl⟩
      case measure=>have:=HK0.out;have:=HK1.out;omega
      case rel=>exact⟨y111,wrap64 (x31+1),(by first|rfl|(simp;done)|(simp[*];done)),HH,⟨by have:=HK0.out;have:=HK1.out;omega⟩,⟨(Kd.F_mono (ok:=(fun k_=>((((P_ k_∨w.heap.size≤k_)∧some k_≠((.slice (some ad45) t23.length cp35):Value).ownBlock)∧some k_≠((.slice (some ad110) x28.length cp79):Value).ownBlock)∧k_≠g49)∧k_≠g60)) HF0.out (fun k_ hk_=>⟨⟨hk_.1.1.1.1,hk_.1.1.1.2⟩,hk_.1.1.2⟩))⟩,⟨(Kd.N_mono (ok:=(fun k_=>(((P_ k_∨w.heap.size≤k_)∧some k_≠((.slice (some ad110) x28.length cp79):Value).ownBlock)∧k_≠g49)∧k_≠g60)) HN26.out (fun k_ hk_=>⟨hk_.1.1.1,hk_.1.1.2⟩))⟩,⟨(Kd.N_mono (ok:=(fun k_=>(((P_ k_∨w.heap.size≤k_)∧some k_≠((.slice (some ad45) t23.length cp35):Value).ownBlock)∧k_≠g49)∧k_≠g60)) HN113.out (fun k_ hk_=>⟨hk_.1.1.1,hk_.1.1.2⟩))⟩,DS,⟨HB.out⟩⟩
     replace HH:=MW.hneg HH c104
     replace c104:=Bool.eq_false_iff.mpr c104
     subst c104
     obtain⟨HH,LMc121⟩:=zlm HH
     obtain⟨y122,hy122⟩:∃ y_:List (S37),y_=(x28++[(⟨rd t23 x31,wrap32 ((rd t23 (wrap64 (x31+1))) - 1),back.find l0 (rd t23 x31) 0⟩:S37)]):=⟨_,rfl⟩
     have H:((span_Build.l1 k32 y122 (wrap64 (x31+1)) l0 t23))=some (r1,r2):=by rw[hy122];exact HH.out
     replace HH:=za H
     clear H
     have NYy122:=za hy122
     clear hy122
     go_wp2_with (((with_reducible refine gate_dst (N:=95) rfl ?_);(try(refine gate_guard (by rfl) ?_;dsimp only));refine Kd.N_append k37 w.heap.size rfl _ _ 22 37 (.agg #[(.int .i32 0),(.int .i32 0),(.int .i64 0)]) 16 rfl Try.underlying22 info37 rfl (by decide) (by decide) ((.slice A78 x28.length cp79)) x28 (⟨rd t23 x31,wrap32 ((rd t23 (wrap64 (x31+1))) - 1),back.find l0 (rd t23 x31) 0⟩:S37) [.int .i32 (rd t23 x31),.int .i32 (wrap32 ((rd t23 (wrap64 (x31+1))) - 1)),.int .i64 (back.find l0 (rd t23 x31) 0)] (fun k_=>(((P_ k_∨w.heap.size≤k_)∧some k_≠((.slice (some ad45) t23.length cp35):Value).ownBlock)∧k_≠g49)∧k_≠g60) (fun k_=>(fun k_=>(((P_ k_∨w.heap.size≤k_)∧some k_≠((.slice (some ad45) t23.length cp35):Value).ownBlock)∧k_≠g49)∧k_≠g60) k_∧some k_≠((.slice A78 x28.length cp79):Value).ownBlock) rfl rfl (k37_mkF _ _ (⟨rd t23 x31,wrap32 ((rd t23 (wrap64 (x31+1))) - 1),back.find l0 (rd t23 x31) 0⟩:S37)) (fun _ hk_=>hk_) (fun k_ h_=>⟨⟨⟨.inr (Nat.le_trans (below_size (by repeat(first|(with_reducible first|exact HB.out|apply below_alloc|apply pw_below_drewN|apply below_drew1)|exact HB.out))) h_),Kd.fresh' (Kd.N_lt (by(with_reducible repeat(first|apply Kd.N_alloc|apply Kd.N_drewN|apply Kd.N_drew));exact HN26.out)) k_ h_⟩,Kd.freshB (g:=g49) (o:=.cells #[.int .i32 (rd t23 x31),.int .i32 (wrap32 ((rd t23 (wrap64 (x31+1))) - 1)),.int .i64 (back.find l0 (rd t23 x31) 0)] 37 (0,0)) (by(with_reducible repeat(first|refine blk_drewN ?_ _|refine blk_drew ?_|refine blk_alloc ?_ _));exact BKg49.out) k_ h_⟩,Kd.freshB (g:=g60) (o:=.cells #[.slice A0 l0.length c0] 22 (0,0)) (by(with_reducible repeat(first|refine blk_drewN ?_ _|refine blk_drew ?_|refine blk_alloc ?_ _));exact BKg60.out) k_ h_⟩) (by(with_reducible repeat(first|apply Kd.N_alloc|apply Kd.N_drewN|apply Kd.N_drew));exact HN30.out) (by repeat(first|(with_reducible first|exact HB.out|apply below_alloc|apply pw_below_drewN|apply below_drew1)|exact HB.out)) (below_size (by repeat(first|(with_reducible first|exact HB.out|apply below_alloc|apply pw_below_drewN|apply below_drew1)|exact HB.out))) (by first|(have:=LMc121.out;omega)|(have:=LMc121.out;simp at *;omega)) ?_;intro v123 w124 hn1 hb1 hg1 hat1);replace hat1:=za hat1;refine stop_ ?_)
     refine zg ?_
     replace hat1:=hat1.out
     replace HF0:=za (Kd.F_mono (Kd.F_after (v:=(.slice A78 x28.length cp79)) (ok:=(fun k_=>(((P_ k_∨w.heap.size≤k_)∧some k_≠((.slice (some ad45) t23.length cp35):Value).ownBlock)∧k_≠g49)∧k_≠g60)) (Kd.F_mono (ok:=(fun k_=>((((P_ k_∨w.heap.size≤k_)∧some k_≠((.slice (some ad45) t23.length cp35):Value).ownBlock)∧some k_≠((.slice A78 x28.length cp79):Value).ownBlock)∧k_≠g49)∧k_≠g60)) (by(with_reducible repeat(first|apply Kd.F_alloc|apply Kd.F_drewN|apply Kd.F_drew));exact HF0.out) (fun k_ hk_=>⟨⟨⟨⟨hk_.1.1.1.1,hk_.1.1.1.2⟩,hk_.1.2⟩,hk_.2⟩,hk_.1.1.2⟩)) hg1 hat1) (fun k_ hk_=>hk_):Kd.F k37 _ (fun k_=>((((P_ k_∨w.heap.size≤k_)∧some k_≠((.slice (some ad45) t23.length cp35):Value).ownBlock)∧k_≠g49)∧k_≠g60)∧some k_≠(v123:Value).ownBlock) _ _ _)
     replace HN26:=za (Kd.N_mono (Kd.N_after (u:=(.slice A78 x28.length cp79)) (ok:=(fun k_=>((P_ k_∨w.heap.size≤k_)∧k_≠g49)∧k_≠g60)) (Kd.N_mono (ok:=(fun k_=>(((P_ k_∨w.heap.size≤k_)∧some k_≠((.slice A78 x28.length cp79):Value).ownBlock)∧k_≠g49)∧k_≠g60)) (by(with_reducible repeat(first|apply Kd.N_alloc|apply Kd.N_drewN|apply Kd.N_drew));exact HN26.out) (fun k_ hk_=>⟨⟨⟨hk_.1.1.1,hk_.1.2⟩,hk_.2⟩,hk_.1.1.2⟩)) hg1 hat1) (fun k_ hk_=>hk_):Kd.N (Kd.int .i32) _ _ _ (fun k_=>(((P_ k_∨w.heap.size≤k_)∧k_≠g49)∧k_≠g60)∧some k_≠(v123:Value).ownBlock) _ _)
     replace BKg49:=za (blk_grown (g:=g49) (o:=.cells #[.int .i32 (rd t23 x31),.int .i32 (wrap32 ((rd t23 (wrap64 (x31+1))) - 1)),.int .i64 (back.find l0 (rd t23 x31) 0)] 37 (0,0)) (by(with_reducible repeat(first|refine blk_drewN ?_ _|refine blk_drew ?_|refine blk_alloc ?_ _));exact BKg49.out) hg1 (Kd.N_away (ok:=(fun k_=>(((P_ k_∨w.heap.size≤k_)∧some k_≠((.slice (some ad45) t23.length cp35):Value).ownBlock)∧k_≠g49)∧k_≠g60)) HN30.out (fun k_ hk_=>hk_.1.2)))
     replace BKg60:=za (blk_grown (g:=g60) (o:=.cells #[.slice A0 l0.length c0] 22 (0,0)) (by(with_reducible repeat(first|refine blk_drewN ?_ _|refine blk_drew ?_|refine blk_alloc ?_ _));exact BKg60.out) hg1 (Kd.N_away (ok:=(fun k_=>(((P_ k_∨w.heap.size≤k_)∧some k_≠((.slice (some ad45) t23.length cp35):Value).ownBlock)∧k_≠g49)∧k_≠g60)) HN30.out (fun k_ hk_=>hk_.2)))
     replace DS:=zdr DS hg1 (fun k_ hk_=>(Kd.N_typed HN30.out k_ hk_).elim (fun c_ hc_=>⟨c_,_,hc_⟩))
     replace HB:=za hb1
     clear HN30
     have HN125:=za hn1
     clear hn1 hb1 hg1 hat1
     replace HN125:=za (by rw[NYy122.out];exact HN125.out:Kd.N k37 37 w124 w.heap.size (fun k_=>(((P_ k_∨w.heap.size≤k_)∧some k_≠((.slice (some ad45) t23.length cp35):Value).ownBlock)∧k_≠g49)∧k_≠g60) v123 y122)
     clear j1F
     replace cBKg49:=MB.lz3 BKg49.out
     have j25:=MB.lz1 BKg60.out
     go_wp2
     refine Handed.intro k32 ?measure ?_
     rotate_left
     go_step
     refine⟨ds68,?_⟩
     (repeat apply Exists.intro)
     refine⟨?rel,rfl⟩
     case measure=>have:=HK0.out;have:=HK1.out;omega
     case rel=>exact⟨y122,wrap64 (x31+1),(by first|rfl|(simp;done)|(simp[*];done)),HH,⟨by have:=HK0.out;have:=HK1.out;omega⟩,⟨(Kd.F_mono (ok:=(fun k_=>((((P_ k_∨w.heap.size≤k_)∧some k_≠((.slice (some ad45) t23.length cp35):Value).ownBlock)∧k_≠g49)∧k_≠g60)∧some k_≠(v123:Value).ownBlock)) HF0.out (fun k_ hk_=>⟨⟨hk_.1.1.1.1,hk_.1.1.1.2⟩,hk_.2⟩))⟩,⟨(Kd.N_mono (ok:=(fun k_=>(((P_ k_∨w.heap.size≤k_)∧k_≠g49)∧k_≠g60)∧some k_≠(v123:Value).ownBlock)) HN26.out (fun k_ hk_=>⟨hk_.1.1.1,hk_.2⟩))⟩,⟨(Kd.N_mono (ok:=(fun k_=>(((P_ k_∨w.heap.size≤k_)∧some k_≠((.slice (some ad45) t23.length cp35):Value).ownBlock)∧k_≠g49)∧k_≠g60)) HN125.out (fun k_ hk_=>⟨hk_.1.1.1,hk_.1.1.2⟩))⟩,DS,⟨HB.out⟩⟩
    have H:=HH.out
    simp only[Option.some.injEq,Prod.mk.injEq] at H
    obtain⟨rfl,rfl⟩:=H
    clear HH
    go_wp2
    (try simp only[MW.backTo_ret,MW.labs_ret])
    refine⟨ds27,rfl,DS.out.1,fun D_ h_=>(DS.out.2 D_ h_).2,fun W9 hk9=>⟨_,results_tmp2 rfl _ _ _,?_⟩⟩
    exact⟨_,by first|rfl|(simp;done)|(simp[*];done),(back.N_marks (Kd.N_mono (ok:=(fun k_=>(P_ k_∨w.heap.size≤k_)∧some k_≠((.slice A34 t23.length cp35):Value).ownBlock)) HN30.out (fun k_ hk_=>hk_.1)) hk9 (fun D_ h_=>(DS.out.2 D_ h_).2)),Below.trans HB.out (hk9.toBelow2 (below_size HB.out) (fun k_ h_ e_=>by have:=(DS.out.2 k_ e_).1;omega))⟩
end Go.Proofs.Ytcokpnajkkjclaa.GA
