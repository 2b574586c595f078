import Derived.Test.YtcjafemnkhifmaaGA0
import Derived.Test.YtcjafemnkhifmaaGM1
import Derived.Test.YtcjafemnkhifmaaGM2
import Derived.Test.YtcjafemnkhifmaaMX
namespace Go.Proofs.Ytcjafemnkhifmaa.GA
open Go.RowKit Go.Proofs.Ytcjafemnkhifmaa Go.Proofs.Ytcjafemnkhifmaa.MW Go.Proofs.YtcjafemnkhifmaaW.PrintWords Go.Proofs.YtcjafemnkhifmaaW.PrintLast Go.Proofs.YtcjafemnkhifmaaW.PrintMore
attribute [local go_sem] max2_int min2_int max_two min_two
set_option maxHeartbeats 8000000
set_option maxRecDepth 100000
set_option linter.unusedVariables false
set_option linter.unusedSimpArgs false
mutual
def toponymlaw20_AttrsLines.l0:Nat→Int→(List (S26))→Int→(List ByteArray)→Option (Bool)
 |0,_,_,_,_=>none
 |k+1,x61,l0,t11,t5=>if x61<(t5.length:Int) then(if 0≤x61 then((attrs_Find.f k l0 (rdOf ByteArray.empty t5 x61)).bind fun bt76=>(if bt76.2.2.2.2.2.2=true then(if bt76.2.2.1=t11 then(if x61≤(t5.length:Int) then((some (List.drop x61.toNat t5:List ByteArray)).bind fun y139=>((attrs_Line.f k l0 (rdOf ByteArray.empty t5 x61)).bind fun t140=>((toponymref16_SameTexts.f k t140 y139).bind fun t160=>(if t160=true then((toponymlaw20_AttrsLines.l1 k 0 l0 t11 t5 x61)) else(some false))))) else(none)) else(some false)) else(some false))) else(none)) else((toponymlaw20_awake.f k).bind fun t213=>(some t213))
def toponymlaw20_AttrsLines.l1:Nat→Int→(List (S26))→Int→(List ByteArray)→Int→Option (Bool)
 |0,_,_,_,_,_=>none
 |k+1,x164,l0,t11,t5,x61=>if x164<x61 then(if 0≤x164 then(if x164<(t5.length:Int) then(if 0≤x61 then(if x61<(t5.length:Int) then(if (rdOf ByteArray.empty t5 x164).toList=(rdOf ByteArray.empty t5 x61).toList then(some false) else((toponymlaw20_AttrsLines.l1 k (wrap64 (x164+1)) l0 t11 t5 x61))) else(none)) else(none)) else(none)) else(none)) else((toponymlaw20_AttrsLines.l0 k (wrap64 (x61+1)) l0 t11 t5))
def toponymlaw20_AttrsLines.l2:Nat→Int→(List (S26))→Int→(List ByteArray)→Option (Bool)
 |0,_,_,_,_=>none
 |k+1,x232,l0,t11,t5=>if x232<(t5.length:Int) then(if 0≤x232 then((attrs_Find.f k l0 (rdOf ByteArray.empty t5 x232)).bind fun bt247=>(if bt247.2.2.2.2.2.2=true then(if bt247.2.2.1=t11 then(if x232≤(t5.length:Int) then((some (List.drop x232.toNat t5:List ByteArray)).bind fun y310=>((attrs_Line.f k l0 (rdOf ByteArray.empty t5 x232)).bind fun t311=>((toponymref16_SameTexts.f k t311 y310).bind fun t331=>(if t331=true then((toponymlaw20_AttrsLines.l3 k 0 l0 t11 t5 x232)) else(some false))))) else(none)) else(some false)) else(some false))) else(none)) else((toponymlaw20_awake.f k).bind fun t384=>(some t384))
def toponymlaw20_AttrsLines.l3:Nat→Int→(List (S26))→Int→(List ByteArray)→Int→Option (Bool)
 |0,_,_,_,_,_=>none
 |k+1,x335,l0,t11,t5,x232=>if x335<x232 then(if 0≤x335 then(if x335<(t5.length:Int) then(if 0≤x232 then(if x232<(t5.length:Int) then(if (rdOf ByteArray.empty t5 x335).toList=(rdOf ByteArray.empty t5 x232).toList then(some false) else((toponymlaw20_AttrsLines.l3 k (wrap64 (x335+1)) l0 t11 t5 x232))) else(none)) else(none)) else(none)) else(none)) else((toponymlaw20_AttrsLines.l2 k (wrap64 (x232+1)) l0 t11 t5))
end
def toponymlaw20_AttrsLines.f (k:Nat) (l0:List (S26)) (a1:ByteArray):Option (Bool):=(toponymlaw20_Few.f k l0).bind fun t1=>(if t1=true then((attrs_Line.f k l0 a1).bind fun t5=>((attrs_Find.f k l0 a1).bind fun bt9=>(if (bt9.2.2.2.2.2.2 != (decide ((t5.length:Int)>0)))=true then(some false) else(if bt9.2.2.2.2.2.2=true then(if 0<(t5.length:Int) then(if (rdOf ByteArray.empty t5 (0:Int)).toList=a1.toList then((toponymlaw20_AttrsLines.l0 k 0 l0 bt9.2.2.1 t5)) else(some false)) else(none)) else((toponymlaw20_AttrsLines.l2 k 0 l0 bt9.2.2.1 t5)))))) else((toponymlaw20_awake.f k).bind fun t393=>(some t393)))
theorem toponymlaw20_AttrsLines.mono_l:∀ k,(∀ y0 y1 y2 y3,LeO (toponymlaw20_AttrsLines.l0 k y0 y1 y2 y3) (toponymlaw20_AttrsLines.l0 (k+1) y0 y1 y2 y3))∧(∀ y0 y1 y2 y3 y4,LeO (toponymlaw20_AttrsLines.l1 k y0 y1 y2 y3 y4) (toponymlaw20_AttrsLines.l1 (k+1) y0 y1 y2 y3 y4))∧(∀ y0 y1 y2 y3,LeO (toponymlaw20_AttrsLines.l2 k y0 y1 y2 y3) (toponymlaw20_AttrsLines.l2 (k+1) y0 y1 y2 y3))∧(∀ y0 y1 y2 y3 y4,LeO (toponymlaw20_AttrsLines.l3 k y0 y1 y2 y3 y4) (toponymlaw20_AttrsLines.l3 (k+1) y0 y1 y2 y3 y4))
 |0=>⟨fun _ _ _ _ r h=>by simp[toponymlaw20_AttrsLines.l0] at h,fun _ _ _ _ _ r h=>by simp[toponymlaw20_AttrsLines.l1] at h,fun _ _ _ _ r h=>by simp[toponymlaw20_AttrsLines.l2] at h,fun _ _ _ _ _ r h=>by simp[toponymlaw20_AttrsLines.l3] at h⟩
 |k+1=>by
  obtain⟨ih0,ih1,ih2,ih3⟩:=toponymlaw20_AttrsLines.mono_l k
  refine⟨?_,?_,?_,?_⟩
  ·intro y0 y1 y2 y3
   unfold toponymlaw20_AttrsLines.l0
   with_reducible repeat' first|exact ih0 _ _ _ _|exact ih1 _ _ _ _ _|exact ih2 _ _ _ _|exact ih3 _ _ _ _ _|exact attrs_Find.mono _ _ _|exact attrs_Line.mono _ _ _|exact toponymlaw20_Few.mono _ _|exact toponymlaw20_awake.mono _|exact toponymref16_SameTexts.mono _ _ _|exact LeO.refl _|exact LeO.none _|refine LeO.ite ?_ ?_|refine LeO.bind ?_ (fun _=>?_)
  ·intro y0 y1 y2 y3 y4
   unfold toponymlaw20_AttrsLines.l1
   with_reducible repeat' first|exact ih0 _ _ _ _|exact ih1 _ _ _ _ _|exact ih2 _ _ _ _|exact ih3 _ _ _ _ _|exact attrs_Find.mono _ _ _|exact attrs_Line.mono _ _ _|exact toponymlaw20_Few.mono _ _|exact toponymlaw20_awake.mono _|exact toponymref16_SameTexts.mono _ _ _|exact LeO.refl _|exact LeO.none _|refine LeO.ite ?_ ?_|refine LeO.bind ?_ (fun _=>?_)
  ·intro y0 y1 y2 y3
   unfold toponymlaw20_AttrsLines.l2
   with_reducible repeat' first|exact ih0 _ _ _ _|exact ih1 _ _ _ _ _|exact ih2 _ _ _ _|exact ih3 _ _ _ _ _|exact attrs_Find.mono _ _ _|exact attrs_Line.mono _ _ _|exact toponymlaw20_Few.mono _ _|exact toponymlaw20_awake.mono _|exact toponymref16_SameTexts.mono _ _ _|exact LeO.refl _|exact LeO.none _|refine LeO.ite ?_ ?_|refine LeO.bind ?_ (fun _=>?_)
  intro y0 y1 y2 y3 y4
  unfold toponymlaw20_AttrsLines.l3
  with_reducible repeat' first|exact ih0 _ _ _ _|exact ih1 _ _ _ _ _|exact ih2 _ _ _ _|exact ih3 _ _ _ _ _|exact attrs_Find.mono _ _ _|exact attrs_Line.mono _ _ _|exact toponymlaw20_Few.mono _ _|exact toponymlaw20_awake.mono _|exact toponymref16_SameTexts.mono _ _ _|exact LeO.refl _|exact LeO.none _|refine LeO.ite ?_ ?_|refine LeO.bind ?_ (fun _=>?_)
theorem toponymlaw20_AttrsLines.mono:∀ a0_ a1_ k,LeO (toponymlaw20_AttrsLines.f k a0_ a1_) (toponymlaw20_AttrsLines.f (k+1) a0_ a1_):=by
 intro a0_ a1_ k
 obtain⟨ih0,ih1,ih2,ih3⟩:=toponymlaw20_AttrsLines.mono_l k
 unfold toponymlaw20_AttrsLines.f
 with_reducible repeat' first|exact ih0 _ _ _ _|exact ih1 _ _ _ _ _|exact ih2 _ _ _ _|exact ih3 _ _ _ _ _|exact attrs_Find.mono _ _ _|exact attrs_Line.mono _ _ _|exact toponymlaw20_Few.mono _ _|exact toponymlaw20_awake.mono _|exact toponymref16_SameTexts.mono _ _ _|exact LeO.refl _|exact LeO.none _|refine LeO.ite ?_ ?_|refine LeO.bind ?_ (fun _=>?_)
theorem toponymlaw20_AttrsLines.calls (k:Nat) (P_:Nat→Prop) (A0:Option Addr) (c0:Nat) (l0:List (S26)) (a1:ByteArray) (r:Bool) (w:World) (hs0:Kd.F k26 w P_ A0 l0.length l0) (hc0:l0.length≤c0) (h:toponymlaw20_AttrsLines.f k l0 a1=some r):
  Calls Try.prog 5 #[.slice A0 l0.length c0,.string a1] w (fun e w'=>e=.returned (.bool r)∧Below w.heap.size w w'):=by
 unfold toponymlaw20_AttrsLines.f at h
 have HH:=za h
 clear h
 have HF0:=zfp hs0
 have HL0:=za hc0
 clear hs0 hc0
 have HB:=za (Below.refl w.heap.size w)
 have hu26:=Try.underlying26
 go_enter Try.func5,Try.ntmps5
 replace HH:=zd HH
 obtain⟨t1,At2,HH⟩:=HH
 go_wp2_with ((with_reducible refine gc 7 rfl ?_);refine zc 7 (some 13) Try.func7 #[.slice A0 l0.length c0] (h:=?_);(with_reducible refine(toponymlaw20_Few.calls k (fun k_=>(P_ k_∨w.heap.size≤k_)) _ _ l0 t1 _ HF0.out HL0.out At2.out).mono ?_);rintro e w' ⟨rfl,⟨nd,rfl⟩⟩;refine⟨_,rfl,?_⟩)
 refine zg ?_
 by_cases c4:t1=true
 ·replace HH:=MW.hpos HH c4
  subst c4
  replace HH:=zd HH
  obtain⟨t5,At6,HH⟩:=HH
  go_wp2_with ((with_reducible refine gc 19 rfl ?_);refine zc 19 (some 18) Try.func19 #[.slice A0 l0.length c0,.string a1] (h:=?_);(with_reducible refine(attrs_Line.calls k (fun k_=>(P_ k_∨w.heap.size≤k_)) _ _ l0 a1 t5 _ (by(with_reducible repeat(first|apply Kd.F_alloc|apply Kd.F_drewN|apply Kd.F_drew));exact HF0.out) HL0.out At6.out).mono ?_);rintro e w7 ⟨v8,rfl,hn8,hb⟩;refine⟨_,rfl,?_⟩)
  refine zg ?_
  have hba:=Kd.N_base hn8
  have HN8:=znl (ok2:=(fun k_=>(P_ k_∨w.heap.size≤k_))) hn8 (below_size (by repeat(first|(with_reducible first|exact HB.out|apply below_alloc|apply pw_below_drewN|apply below_drew1)|exact HB.out))) (fun k_ hk_=>hk_.elim (fun h_=>h_) (fun h_=>.inr (Nat.le_trans (below_size (by repeat(first|(with_reducible first|exact HB.out|apply below_alloc|apply pw_below_drewN|apply below_drew1)|exact HB.out))) h_)))
  replace HF0:=zfr (v:=v8) (by(with_reducible repeat(first|apply Kd.F_alloc|apply Kd.F_drewN|apply Kd.F_drew));exact HF0.out) hba hb
  replace HB:=zhb (by repeat(first|(with_reducible first|exact HB.out|apply below_alloc|apply pw_below_drewN|apply below_drew1)|exact HB.out)) hb
  clear hn8 hba hb
  replace HH:=zd HH
  obtain⟨⟨t9,t10,t11,t12,t13,t14,t15⟩,At16,HH⟩:=HH
  dsimp only at HH
  go_wp2_with ((with_reducible refine gc 9 rfl ?_);refine zc 9 (some 22) Try.func9 #[.slice A0 l0.length c0,.string a1] (h:=?_);(with_reducible refine(attrs_Find.calls k (fun k_=>(P_ k_∨w.heap.size≤k_)∧some k_≠(v8:Value).ownBlock) _ _ l0 a1 t9 t10 t11 t12 t13 t14 t15 _ HF0.out HL0.out At16.out).mono ?_);rintro e w17 ⟨rfl,hb⟩;refine⟨_,rfl,?_⟩)
  refine zg ?_
  replace HF0:=zfb HF0.out hb
  replace HN8:=znb HN8.out hb
  replace HB:=zhb HB.out hb
  clear hb
  go_wp2_with ((with_reducible refine gd 6 rfl ?_);refine zb 6 26 #[.string (⟨#[]⟩:ByteArray),.string (⟨#[]⟩:ByteArray),.int .i64 0,.int .i64 0,.bool false,.bool false] (h:=?_);intro g18 hg w19 BKg18 hb)
  refine zg ?_
  have GEg18:=zge hg (below_size HB.out)
  replace HF0:=zfe HF0.out hg hb
  replace HN8:=zne HN8.out hg hb
  replace HB:=zhb HB.out hb
  clear hg hb
  replace cBKg18:=MB.lz6 BKg18.out
  go_wp2_with ((with_reducible refine gs 26 6 rfl ?_);refine zs 26 6 #[.string t9,.string t10,.int .i64 t11,.int .i64 t12,.bool t13,.bool t14] BKg18.out [.string t9,.string t10,.int .i64 t11,.int .i64 t12,.bool t13,.bool t14] (h:=?_);intro w26 hbk hg)
  refine zg ?_
  replace HF0:=zfg HF0.out hg fun k_ hk_=>hk_.2
  replace HN8:=zng HN8.out hg fun k_ hk_=>hk_.2
  replace HB:=zhg HB.out hg (below_size HB.out) GEg18
  replace BKg18:=hbk
  clear hg hbk
  replace cBKg18:=MB.lz6 BKg18.out
  obtain⟨A33,cp34,he_⟩:=Kd.N_slice HN8.out
  subst he_
  by_cases c35:(t15 != (decide ((t5.length:Int)>0)))=true
  ·replace HH:=MW.hpos HH c35
   have hk36:(t15 != (decide ((t5.length:Int)>0)))=true:=c35
   try have hk37:decide (t15=(decide ((t5.length:Int)>0)))=false:=by simpa using c35
   try have hk38:(t15==(decide ((t5.length:Int)>0)))=false:=by simpa using c35
   try have hk39: ¬ (t15=(decide ((t5.length:Int)>0))):=by simpa using c35
   try have hk40:(t15 != (decide (0<t5.length)))=true:=by simpa using c35
   try have hk41:(t15==(decide (0<t5.length)))=false:=by simpa using c35
   clear c35
   obtain rfl:=Option.some.inj HH.out
   clear HH
   go_wp2
   go_ret
   exact zfi HB.out
  replace HH:=MW.hneg HH c35
  have hk42:(t15 != (decide ((t5.length:Int)>0)))=false:=by simpa using c35
  try have hk43:decide (t15=(decide ((t5.length:Int)>0)))=true:=by simpa using c35
  try have hk44:(t15==(decide ((t5.length:Int)>0)))=true:=by simpa using c35
  try have hk45:(t15 != (decide (0<t5.length)))=false:=by simpa using c35
  try have hk46:(t15==(decide (0<t5.length)))=true:=by simpa using c35
  clear c35
  by_cases c47:t15=true
  ·replace HH:=MW.hpos HH c47
   subst c47
   replace HH:=zqno 0 HH
   obtain⟨HH,hk49,hk50,hk51,hk52⟩:=HH
   have p53:0≤(0:Int):=by decide
   have q53:(0:Int)<(t5.length:Int):=of_decide_eq_true (by first|(with_reducible assumption)|assumption)
   obtain⟨ad53,e53,hx53_0⟩:=Kd.at_string (Kd.F_now (Kd.N_F HN8.out)) (0:Int) p53 q53
   cases e53
   (try simp only[show((0:Int)).toNat=0 from rfl] at hx53_0)
   (try rw[Addr.add_zero'] at hx53_0)
   replace p53:=eq_true p53
   replace q53:=eq_true q53
   replace HH:=zqe HH
   rcases HH with⟨HH,hk55,hk56⟩|⟨HH,hk222,hk223⟩
   ·have HL60:=za (Kd.N_reads' HN8.out).2.1
    have HF59:=za (Kd.N_F HN8.out)
    clear HN8
    replace HF0:=za (Kd.F_mono (ok:=(fun k_=>((P_ k_∨w.heap.size≤k_)∧some k_≠((.slice (some ad53) t5.length cp34):Value).ownBlock)∧k_≠g18)) HF0.out (fun k_ hk_=>⟨hk_.1.1,hk_.2⟩):Kd.F k26 _ (fun k_=>(P_ k_∨w.heap.size≤k_)∧k_≠g18) _ _ _)
    go_wp2
    go_loopg [8] k (fun kq u8 w'=>∃ (x61:Int),u8=.int .i64 x61∧Aside0 ((toponymlaw20_AttrsLines.l0 kq x61 l0 t11 t5)=some r)∧Aside0 (kq≤k)∧Aside0 (Kd.F k26 w' (fun k_=>(P_ k_∨w.heap.size≤k_)∧k_≠g18) A0 l0.length l0)∧Aside0 (Kd.F Kd.string w' (fun k_=>(P_ k_∨w.heap.size≤k_)∧k_≠g18) (some ad53) t5.length t5)∧Aside0 (w'.heap[g18]? =some (.cells #[.string t9,.string t10,.int .i64 t11,.int .i64 t12,.bool t13,.bool t14] 26 (0,0)))∧Aside0 (Below w.heap.size w w'))
    case atStart=>exact⟨0,(by first|rfl|(simp;done)|(simp[*];done)),HH,⟨Nat.le_refl _⟩,⟨HF0.out⟩,⟨HF59.out⟩,⟨BKg18.out⟩,⟨HB.out⟩⟩
    case round=>
     clear hx53_0 p53 q53
     clear hk42
     try clear hk43
     try clear hk44
     try clear hk45
     try clear hk46
     clear hk49
     clear hk50
     clear hk51
     clear hk52
     clear hk55
     clear hk56
     clear HH
     clear HF0 HF59 BKg18 HB
     obtain⟨x61,rfl,HA,HK0,HF0,HF59,BKg18,HB⟩:=hrel
     obtain⟨w63,rfl⟩:∃ wo_:World,wo_=wr:=⟨_,rfl⟩
     cases gk with
     |zero=>exact absurd HA.out (by simp[toponymlaw20_AttrsLines.l0])
     |succ k62=>
      have H:=HA.out
      clear HA
      simp only[toponymlaw20_AttrsLines.l0] at H
      have HH:=za H
      clear H
      replace cBKg18:=MB.lz6 BKg18.out
      replace HH:=zqt HH
      rcases HH with⟨HH,hk71,hk72⟩|⟨HH,hk211,hk212⟩
      ·replace HH:=zqdo HH
       obtain⟨HH,hk74⟩:=HH
       have p75:0≤(x61:Int):=of_decide_eq_true (by first|(with_reducible assumption)|assumption)
       have q75:x61<(t5.length:Int):=of_decide_eq_true (by first|(with_reducible assumption)|assumption)
       obtain⟨ad75,e75,hx75_0⟩:=Kd.at_string (Kd.F_now HF59.out) x61 p75 q75
       cases e75
       replace p75:=eq_true p75
       replace q75:=eq_true q75
       replace HH:=zd HH
       obtain⟨⟨t76,t77,t78,t79,t80,t81,t82⟩,At83,HH⟩:=HH
       dsimp only at HH
       go_wp2_with ((with_reducible refine gc 9 rfl ?_);refine zc 9 (some 52) Try.func9 #[.slice A0 l0.length c0,.string (rdOf ByteArray.empty t5 x61)] (h:=?_);(with_reducible refine(attrs_Find.calls k62 (fun k_=>(P_ k_∨w.heap.size≤k_)∧k_≠g18) _ _ l0 (rdOf ByteArray.empty t5 x61) t76 t77 t78 t79 t80 t81 t82 _ HF0.out HL0.out At83.out).mono ?_);rintro e w84 ⟨rfl,hb⟩;refine⟨_,rfl,?_⟩)
       refine zg ?_
       replace HF0:=zfb HF0.out hb
       replace HF59:=zfb HF59.out hb
       replace BKg18:=zbb BKg18.out hb
       replace HB:=zhb HB.out hb
       clear hb
       clear hx75_0 p75 q75
       replace cBKg18:=MB.lz6 BKg18.out
       go_wp2_with ((with_reducible refine gd 9 rfl ?_);refine zb 9 26 #[.string (⟨#[]⟩:ByteArray),.string (⟨#[]⟩:ByteArray),.int .i64 0,.int .i64 0,.bool false,.bool false] (h:=?_);intro g91 hg w92 BKg91 hb)
       refine zg ?_
       have GEg91:=zge hg (below_size HB.out)
       have NEg18_g91:=znq hg BKg18.out
       replace HF0:=zfe HF0.out hg hb
       replace HF59:=zfe HF59.out hg hb
       replace BKg18:=zbb BKg18.out hb
       replace HB:=zhb HB.out hb
       clear hg hb
       replace cBKg18:=MB.lz6 BKg18.out
       replace cBKg91:=MB.lz6 BKg91.out
       go_wp2_with ((with_reducible refine gs 26 9 rfl ?_);refine zs 26 9 #[.string t76,.string t77,.int .i64 t78,.int .i64 t79,.bool t80,.bool t81] BKg91.out [.string t76,.string t77,.int .i64 t78,.int .i64 t79,.bool t80,.bool t81] (h:=?_);intro w105 hbk hg)
       refine zg ?_
       replace HF0:=zfg HF0.out hg fun k_ hk_=>hk_.2
       replace HF59:=zfg HF59.out hg fun k_ hk_=>hk_.2
       replace BKg18:=zbg BKg18.out hg NEg18_g91
       replace HB:=zhg HB.out hg (below_size HB.out) GEg91
       replace BKg91:=hbk
       clear hg hbk
       replace cBKg18:=MB.lz6 BKg18.out
       replace cBKg91:=MB.lz6 BKg91.out
       go_wp2
       have hwr_:∀ n_:Int,IntKind.i64.wrap n_=wrap64 n_:=fun n_=>IntWalk.i64_left n_
       refine wp_region_any (by kernel_rfl) ?_
       change wpAny _ _ _ _ 22 #[false,false,false,false,false,false,false,false,false,false,false,false,false,false,false,false,false,false,false,false,false,false] _ w105.drew
       obtain⟨w118,hw_⟩:∃ w_:World,w_=w105.drew:=⟨_,rfl⟩
       rw[← hw_]
       have hb:Below w105.heap.size w105 w118:=by rw[hw_];exact below_drew1 (Below.refl _ _)
       clear hw_
       replace HF0:=zfb HF0.out hb
       replace HF59:=zfb HF59.out hb
       replace BKg18:=zbb BKg18.out hb
       replace BKg91:=zbb BKg91.out hb
       replace HB:=zhb HB.out hb
       clear hb
       obtain⟨j1V,j1W,j1X,j1Y,j1Z,j20⟩:=MB.lz6 BKg18.out
       obtain⟨j21,j22,j23,j24,j25,j26⟩:=MB.lz6 BKg91.out
       have p131:0≤(x61:Int):=of_decide_eq_true (by first|(with_reducible assumption)|assumption)
       have q131:x61<(t5.length:Int):=of_decide_eq_true (by first|(with_reducible assumption)|assumption)
       obtain⟨ad131,e131,hx131_0⟩:=Kd.at_string (Kd.F_now HF59.out) x61 p131 q131
       cases e131
       replace p131:=eq_true p131
       replace q131:=eq_true q131
       refine MW.last_in (ds:=[15,19]) (zk j1X (zk j23 (zk hx131_0 z0))) ?_
       refine zlp 0 (.bool t82) #[_,_,_,_,_,_,_,_,_,_,_,_,_,_,_,_,_,_,_,_,_,_] ⟨[_,_,_,_,_,_,_,_,_,_,_,_,_,_,_,_,_,_,_,_,_,_,_,_,_,_,_,_,_,_,_,_,_,_,_,_,_,_,_,_,_,_,_,_,_,_,_,_,_,_,_,_,_,_,_,_,_,_,_,_,_,_,_,_,_,_,_,_,_,_,_,_,_,_,_,_,_,_,_,_,_,_,_,_,_,_,_,_,_,_,_,_].toArray,[]⟩ (h:=?_)
       refine zlp 1 (.bool (!t82)) #[_,_,_,_,_,_,_,_,_,_,_,_,_,_,_,_,_,_,_,_,_,_] ⟨[_,_,_,_,_,_,_,_,_,_,_,_,_,_,_,_,_,_,_,_,_,_,_,_,_,_,_,_,_,_,_,_,_,_,_,_,_,_,_,_,_,_,_,_,_,_,_,_,_,_,_,_,_,_,_,_,_,_,_,_,_,_,_,_,_,_,_,_,_,_,_,_,_,_,_,_,_,_,_,_,_,_,_,_,_,_,_,_,_,_,_,_].toArray,[]⟩ (h:=?_)
       refine zlp 2 (.bool (!t82)) #[_,_,_,_,_,_,_,_,_,_,_,_,_,_,_,_,_,_,_,_,_,_] ⟨[_,_,_,_,_,_,_,_,_,_,_,_,_,_,_,_,_,_,_,_,_,_,_,_,_,_,_,_,_,_,_,_,_,_,_,_,_,_,_,_,_,_,_,_,_,_,_,_,_,_,_,_,_,_,_,_,_,_,_,_,_,_,_,_,_,_,_,_,_,_,_,_,_,_,_,_,_,_,_,_,_,_,_,_,_,_,_,_,_,_,_,_].toArray,[]⟩ (h:=?_)
       by_cases c132:t82=true
       ·replace HH:=MW.hpos HH c132
        subst c132
        refine zlp 3 (.pointer (some ⟨g91,2,none⟩)) #[_,_,_,_,_,_,_,_,_,_,_,_,_,_,_,_,_,_,_,_,_,_] ⟨[_,_,_,_,_,_,_,_,_,_,_,_,_,_,_,_,_,_,_,_,_,_,_,_,_,_,_,_,_,_,_,_,_,_,_,_,_,_,_,_,_,_,_,_,_,_,_,_,_,_,_,_,_,_,_,_,_,_,_,_,_,_,_,_,_,_,_,_,_,_,_,_,_,_,_,_,_,_,_,_,_,_,_,_,_,_,_,_,_,_,_,_].toArray,[]⟩ (h:=?_)
        refine zlp 5 (.pointer (some ⟨g18,2,none⟩)) #[_,_,_,_,_,_,_,_,_,_,_,_,_,_,_,_,_,_,_,_,_,_] ⟨[_,_,_,_,_,_,_,_,_,_,_,_,_,_,_,_,_,_,_,_,_,_,_,_,_,_,_,_,_,_,_,_,_,_,_,_,_,_,_,_,_,_,_,_,_,_,_,_,_,_,_,_,_,_,_,_,_,_,_,_,_,_,_,_,_,_,_,_,_,_,_,_,_,_,_,_,_,_,_,_,_,_,_,_,_,_,_,_,_,_,_,_].toArray,[]⟩ (h:=?_)
        refine MW.last_take (i:=4) (v:=.int .i64 t78) (listed':= #[_,_,_,_,_,_,_,_,_,_,_,_,_,_,_,_,_,_,_,_,_,_]) (a':=⟨[_,_,_,_,_,_,_,_,_,_,_,_,_,_,_,_,_,_,_,_,_,_,_,_,_,_,_,_,_,_,_,_,_,_,_,_,_,_,_,_,_,_,_,_,_,_,_,_,_,_,_,_,_,_,_,_,_,_,_,_,_,_,_,_,_,_,_,_,_,_,_,_,_,_,_,_,_,_,_,_,_,_,_,_,_,_,_,_,_,_,_,_].toArray,[]⟩) rfl (by kernel_rfl) (by kernel_rfl) (by kernel_rfl) (by kernel_rfl) (by kernel_rfl) (fun _ _ _ h_=>h_) (by kernel_rfl) (fun w_ hS_=>?go) (zk j1X (zk j23 (zk hx131_0 z0))) rfl rfl ?_
        case go=>obtain⟨_,hs1_,_,_⟩:=hS_;first|(go_simp;done)|(go_simp;rfl)
        refine MW.last_take (i:=6) (v:=.int .i64 t11) (listed':= #[_,_,_,_,_,_,_,_,_,_,_,_,_,_,_,_,_,_,_,_,_,_]) (a':=⟨[_,_,_,_,_,_,_,_,_,_,_,_,_,_,_,_,_,_,_,_,_,_,_,_,_,_,_,_,_,_,_,_,_,_,_,_,_,_,_,_,_,_,_,_,_,_,_,_,_,_,_,_,_,_,_,_,_,_,_,_,_,_,_,_,_,_,_,_,_,_,_,_,_,_,_,_,_,_,_,_,_,_,_,_,_,_,_,_,_,_,_,_].toArray,[]⟩) rfl (by kernel_rfl) (by kernel_rfl) (by kernel_rfl) (by kernel_rfl) (by kernel_rfl) (fun _ _ _ h_=>h_) (by kernel_rfl) (fun w_ hS_=>?go) (zk j1X (zk j23 (zk hx131_0 z0))) rfl rfl ?_
        case go=>obtain⟨hs0_,_,_,_⟩:=hS_;first|(go_simp;done)|(go_simp;rfl)
        refine zlp 7 (.bool (t78 != t11)) #[_,_,_,_,_,_,_,_,_,_,_,_,_,_,_,_,_,_,_,_,_,_] ⟨[_,_,_,_,_,_,_,_,_,_,_,_,_,_,_,_,_,_,_,_,_,_,_,_,_,_,_,_,_,_,_,_,_,_,_,_,_,_,_,_,_,_,_,_,_,_,_,_,_,_,_,_,_,_,_,_,_,_,_,_,_,_,_,_,_,_,_,_,_,_,_,_,_,_,_,_,_,_,_,_,_,_,_,_,_,_,_,_,_,_,_,_].toArray,[]⟩ (h:=?_)
        refine zlp 8 (.bool (t78 != t11)) #[_,_,_,_,_,_,_,_,_,_,_,_,_,_,_,_,_,_,_,_,_,_] ⟨[_,_,_,_,_,_,_,_,_,_,_,_,_,_,_,_,_,_,_,_,_,_,_,_,_,_,_,_,_,_,_,_,_,_,_,_,_,_,_,_,_,_,_,_,_,_,_,_,_,_,_,_,_,_,_,_,_,_,_,_,_,_,_,_,_,_,_,_,_,_,_,_,_,_,_,_,_,_,_,_,_,_,_,_,_,_,_,_,_,_,_,_].toArray,[]⟩ (h:=?_)
        refine zlp 9 (.bool (t78 != t11)) #[_,_,_,_,_,_,_,_,_,_,_,_,_,_,_,_,_,_,_,_,_,_] ⟨[_,_,_,_,_,_,_,_,_,_,_,_,_,_,_,_,_,_,_,_,_,_,_,_,_,_,_,_,_,_,_,_,_,_,_,_,_,_,_,_,_,_,_,_,_,_,_,_,_,_,_,_,_,_,_,_,_,_,_,_,_,_,_,_,_,_,_,_,_,_,_,_,_,_,_,_,_,_,_,_,_,_,_,_,_,_,_,_,_,_,_,_].toArray,[]⟩ (h:=?_)
        replace HH:=zqe HH
        rcases HH with⟨HH,hk134,hk135⟩|⟨HH,hk208,hk209⟩
        ·(try simp only[hk134,Bool.not_true,Bool.not_false])
         (try simp only[hk135,Bool.not_true,Bool.not_false])
         refine zlp 10 (.slice A0 l0.length c0) #[_,_,_,_,_,_,_,_,_,_,_,_,_,_,_,_,_,_,_,_,_,_] ⟨[_,_,_,_,_,_,_,_,_,_,_,_,_,_,_,_,_,_,_,_,_,_,_,_,_,_,_,_,_,_,_,_,_,_,_,_,_,_,_,_,_,_,_,_,_,_,_,_,_,_,_,_,_,_,_,_,_,_,_,_,_,_,_,_,_,_,_,_,_,_,_,_,_,_,_,_,_,_,_,_,_,_,_,_,_,_,_,_,_,_,_,_].toArray,[]⟩ (h:=?_)
         refine zlp 11 (.slice (some ad53) t5.length cp34) #[_,_,_,_,_,_,_,_,_,_,_,_,_,_,_,_,_,_,_,_,_,_] ⟨[_,_,_,_,_,_,_,_,_,_,_,_,_,_,_,_,_,_,_,_,_,_,_,_,_,_,_,_,_,_,_,_,_,_,_,_,_,_,_,_,_,_,_,_,_,_,_,_,_,_,_,_,_,_,_,_,_,_,_,_,_,_,_,_,_,_,_,_,_,_,_,_,_,_,_,_,_,_,_,_,_,_,_,_,_,_,_,_,_,_,_,_].toArray,[]⟩ (h:=?_)
         refine zlp 12 (.int .i64 x61) #[_,_,_,_,_,_,_,_,_,_,_,_,_,_,_,_,_,_,_,_,_,_] ⟨[_,_,_,_,_,_,_,_,_,_,_,_,_,_,_,_,_,_,_,_,_,_,_,_,_,_,_,_,_,_,_,_,_,_,_,_,_,_,_,_,_,_,_,_,_,_,_,_,_,_,_,_,_,_,_,_,_,_,_,_,_,_,_,_,_,_,_,_,_,_,_,_,_,_,_,_,_,_,_,_,_,_,_,_,_,_,_,_,_,_,_,_].toArray,[]⟩ (h:=?_)
         refine zlp 13 (.pointer (some (ad53.add (x61.toNat)))) #[_,_,_,_,_,_,_,_,_,_,_,_,_,_,_,_,_,_,_,_,_,_] ⟨[_,_,_,_,_,_,_,_,_,_,_,_,_,_,_,_,_,_,_,_,_,_,_,_,_,_,_,_,_,_,_,_,_,_,_,_,_,_,_,_,_,_,_,_,_,_,_,_,_,_,_,_,_,_,_,_,_,_,_,_,_,_,_,_,_,_,_,_,_,_,_,_,_,_,_,_,_,_,_,_,_,_,_,_,_,_,_,_,_,_,_,_].toArray,[]⟩ (h:=?_)
         refine zlp 16 (.slice (some ad53) t5.length cp34) #[_,_,_,_,_,_,_,_,_,_,_,_,_,_,_,_,_,_,_,_,_,_] ⟨[_,_,_,_,_,_,_,_,_,_,_,_,_,_,_,_,_,_,_,_,_,_,_,_,_,_,_,_,_,_,_,_,_,_,_,_,_,_,_,_,_,_,_,_,_,_,_,_,_,_,_,_,_,_,_,_,_,_,_,_,_,_,_,_,_,_,_,_,_,_,_,_,_,_,_,_,_,_,_,_,_,_,_,_,_,_,_,_,_,_,_,_].toArray,[]⟩ (h:=?_)
         refine zlp 17 (.int .i64 x61) #[_,_,_,_,_,_,_,_,_,_,_,_,_,_,_,_,_,_,_,_,_,_] ⟨[_,_,_,_,_,_,_,_,_,_,_,_,_,_,_,_,_,_,_,_,_,_,_,_,_,_,_,_,_,_,_,_,_,_,_,_,_,_,_,_,_,_,_,_,_,_,_,_,_,_,_,_,_,_,_,_,_,_,_,_,_,_,_,_,_,_,_,_,_,_,_,_,_,_,_,_,_,_,_,_,_,_,_,_,_,_,_,_,_,_,_,_].toArray,[]⟩ (h:=?_)
         replace HH:=zqdo HH
         obtain⟨HH,hk138⟩:=HH
         (try simp only[hk138,Bool.not_true,Bool.not_false])
         obtain⟨i0136,hi0136,_,hsz136,_⟩:=info_parts info9
         have q0136:0≤(x61:Int):=(by first|exact Int.natCast_nonneg _|exact of_decide_eq_true (by first|(with_reducible assumption)|assumption))
         have ql136:(x61:Int)≤((t5.length:Int):Int):=(by first|exact Int.le_refl _|exact of_decide_eq_true (by first|(with_reducible assumption)|assumption)|(simp;done))
         have hcut136:=cut_from (P:=Try.prog) 36 9 .i64 Try.underlying36 hi0136 1 hsz136 (some ad53) t5.length cp34 x61 q0136 ql136
         have hr136:Kd.F Kd.string w118 (fun k_=>((P_ k_∨w.heap.size≤k_)∧k_≠g18)∧k_≠g91) (if cp34=x61.toNat then(some ad53) else((some ad53):Option Addr).map (·.add (x61.toNat*1))) (List.drop x61.toNat t5).length (List.drop x61.toNat t5):=Kd.F_cut (m:=x61.toNat) (c:=cp34) HF59.out (by omega) HL60.out
         have hy136:(List.drop x61.toNat t5).length=t5.length - x61.toNat:=List.length_drop
         have hl136:(List.drop x61.toNat t5).length≤cp34 - x61.toNat:=(by have:=HL60.out;rw[List.length_drop];omega)
         rw[← hy136] at hcut136
         generalize (if cp34=x61.toNat then(some ad53) else((some ad53):Option Addr).map (·.add (x61.toNat*1)))=A136 at hcut136 hr136
         generalize cp34 - x61.toNat=cp136 at hcut136 hl136
         clear hy136 q0136 ql136
         have HF136:=za hr136
         have HL136:=za hl136
         clear hr136 hl136 hi0136 hsz136
         obtain⟨y139,hy139⟩:∃ y_:List ByteArray,y_=List.drop x61.toNat t5:=⟨_,rfl⟩
         rw[← hy139] at hcut136 HL136 HF136
         have H:((attrs_Line.f k62 l0 (rdOf ByteArray.empty t5 x61)).bind fun t140=>((toponymref16_SameTexts.f k62 t140 y139).bind fun t160=>(if t160=true then((toponymlaw20_AttrsLines.l1 k62 0 l0 t11 t5 x61)) else(some false))))=some r:=by rw[hy139];exact HH.out
         replace HH:=za H
         clear H
         clear hy139
         refine zlp 18 (.slice A136 y139.length cp136) #[_,_,_,_,_,_,_,_,_,_,_,_,_,_,_,_,_,_,_,_,_,_] ⟨[_,_,_,_,_,_,_,_,_,_,_,_,_,_,_,_,_,_,_,_,_,_,_,_,_,_,_,_,_,_,_,_,_,_,_,_,_,_,_,_,_,_,_,_,_,_,_,_,_,_,_,_,_,_,_,_,_,_,_,_,_,_,_,_,_,_,_,_,_,_,_,_,_,_,_,_,_,_,_,_,_,_,_,_,_,_,_,_,_,_,_,_].toArray,[]⟩ (h:=?_)
         refine MW.last_take (i:=14) (v:=.string (rdOf ByteArray.empty t5 x61)) (listed':= #[_,_,_,_,_,_,_,_,_,_,_,_,_,_,_,_,_,_,_,_,_,_]) (a':=⟨[_,_,_,_,_,_,_,_,_,_,_,_,_,_,_,_,_,_,_,_,_,_,_,_,_,_,_,_,_,_,_,_,_,_,_,_,_,_,_,_,_,_,_,_,_,_,_,_,_,_,_,_,_,_,_,_,_,_,_,_,_,_,_,_,_,_,_,_,_,_,_,_,_,_,_,_,_,_,_,_,_,_,_,_,_,_,_,_,_,_,_,_].toArray,[]⟩) rfl (by kernel_rfl) (by kernel_rfl) (by kernel_rfl) (by kernel_rfl) (by kernel_rfl) (fun _ _ _ h_=>h_) (by kernel_rfl) (fun w_ hS_=>?go) (zk j1X (zk j23 (zk hx131_0 z0))) rfl rfl ?_
         case go=>obtain⟨_,_,hs2_,_⟩:=hS_;first|(go_simp;done)|(go_simp;rfl)
         refine MW.last_fin (i:=15) (listed':= #[true,true,true,true,true,true,true,true,true,true,true,true,true,true,true,true,true,true,true,false,false,false]) rfl (by kernel_rfl) (by kernel_rfl) (by kernel_rfl) ?_
         replace HH:=zd HH
         obtain⟨t140,At141,HH⟩:=HH
         go_wp2_with ((with_reducible refine gc 19 rfl ?_);refine zc 19 (some 70) Try.func19 #[.slice A0 l0.length c0,.string (rdOf ByteArray.empty t5 x61)] (h:=?_);(with_reducible refine(attrs_Line.calls k62 (fun k_=>((P_ k_∨w.heap.size≤k_)∧k_≠g18)∧k_≠g91) _ _ l0 (rdOf ByteArray.empty t5 x61) t140 _ HF0.out HL0.out At141.out).mono ?_);rintro e w142 ⟨v143,rfl,hn143,hb⟩;refine⟨_,rfl,?_⟩)
         refine zg ?_
         have hba:=Kd.N_base hn143
         have HN143:=znl (ok2:=(fun k_=>((P_ k_∨w.heap.size≤k_)∧k_≠g18)∧k_≠g91)) hn143 (below_size HB.out) (fun k_ hk_=>hk_.elim (fun h_=>h_) (fun h_=>⟨⟨.inr (Nat.le_trans (below_size HB.out) h_),Kd.freshB (g:=g18) BKg18.out k_ h_⟩,Kd.freshB (g:=g91) BKg91.out k_ h_⟩))
         replace HF0:=zfr (v:=v143) HF0.out hba hb
         replace HF59:=zfr (v:=v143) HF59.out hba hb
         replace HF136:=zfr (v:=v143) HF136.out hba hb
         replace BKg18:=zbb BKg18.out hb
         replace BKg91:=zbb BKg91.out hb
         replace HB:=zhb HB.out hb
         clear hn143 hba hb
         clear j1V j1W j1X j1Y j1Z j20 j21 j22 j23 j24 j25 j26 hx131_0 p131 q131 hcut136
         replace cBKg18:=MB.lz6 BKg18.out
         replace cBKg91:=MB.lz6 BKg91.out
         refine wpList_nil ?_
         change wpAnyLast _ _ _ _ _ _ 3 #[true,true,true,true,true,true,true,true,true,true,true,true,true,true,true,true,true,true,true,false,false,false] ⟨[_,_,_,_,_,_,_,_,_,_,_,_,_,_,_,_,_,_,_,_,_,_,_,_,_,_,_,_,_,_,_,_,_,_,_,_,_,_,_,_,_,_,_,_,_,_,_,_,_,_,_,_,_,_,_,_,_,_,_,_,_,_,_,_,_,_,_,_,_,_,_,_,_,_,_,_,_,_,_,_,_,_,_,_,_,_,_,_,_,_,_,_].toArray,[]⟩ _
         refine MW.last_fin (i:=19) (listed':= #[true,true,true,true,true,true,true,true,true,true,true,true,true,true,true,true,true,true,true,true,false,false]) rfl (by kernel_rfl) (by kernel_rfl) (by kernel_rfl) ?_
         obtain⟨A156,cp157,he_⟩:=Kd.N_slice HN143.out
         subst he_
         have HL159:=za (Kd.N_reads' HN143.out).2.1
         have HF158:=za (Kd.N_F HN143.out)
         clear HN143
         replace HF0:=za (Kd.F_mono (ok:=(fun k_=>(((P_ k_∨w.heap.size≤k_)∧k_≠g18)∧k_≠g91)∧some k_≠((.slice A156 t140.length cp157):Value).ownBlock)) HF0.out (fun k_ hk_=>hk_.1):Kd.F k26 _ (fun k_=>((P_ k_∨w.heap.size≤k_)∧k_≠g18)∧k_≠g91) _ _ _)
         replace HF59:=za (Kd.F_mono (ok:=(fun k_=>(((P_ k_∨w.heap.size≤k_)∧k_≠g18)∧k_≠g91)∧some k_≠((.slice A156 t140.length cp157):Value).ownBlock)) HF59.out (fun k_ hk_=>hk_.1):Kd.F Kd.string _ (fun k_=>((P_ k_∨w.heap.size≤k_)∧k_≠g18)∧k_≠g91) _ _ _)
         replace HF136:=za (Kd.F_mono (ok:=(fun k_=>(((P_ k_∨w.heap.size≤k_)∧k_≠g18)∧k_≠g91)∧some k_≠((.slice A156 t140.length cp157):Value).ownBlock)) HF136.out (fun k_ hk_=>hk_.1):Kd.F Kd.string _ (fun k_=>((P_ k_∨w.heap.size≤k_)∧k_≠g18)∧k_≠g91) _ _ _)
         replace HH:=zd HH
         obtain⟨t160,At161,HH⟩:=HH
         go_wp2_with ((with_reducible refine gc 18 rfl ?_);refine zc 18 (some 74) Try.func18 #[.slice A156 t140.length cp157,.slice A136 y139.length cp136] (h:=?_);(with_reducible refine(toponymref16_SameTexts.calls k62 (fun k_=>((P_ k_∨w.heap.size≤k_)∧k_≠g18)∧k_≠g91) _ _ t140 _ _ y139 t160 _ HF158.out HL159.out HF136.out HL136.out At161.out).mono ?_);rintro e w' ⟨rfl,⟨nd,rfl⟩⟩;refine⟨_,rfl,?_⟩)
         refine zg ?_
         refine wpList_nil ?_
         change wpAnyLast _ _ _ _ _ _ 2 #[true,true,true,true,true,true,true,true,true,true,true,true,true,true,true,true,true,true,true,true,false,false] ⟨[_,_,_,_,_,_,_,_,_,_,_,_,_,_,_,_,_,_,_,_,_,_,_,_,_,_,_,_,_,_,_,_,_,_,_,_,_,_,_,_,_,_,_,_,_,_,_,_,_,_,_,_,_,_,_,_,_,_,_,_,_,_,_,_,_,_,_,_,_,_,_,_,_,_,_,_,_,_,_,_,_,_,_,_,_,_,_,_,_,_,_,_].toArray,[]⟩ _
         refine zlp 20 (.bool (!t160)) #[_,_,_,_,_,_,_,_,_,_,_,_,_,_,_,_,_,_,_,_,_,_] ⟨[_,_,_,_,_,_,_,_,_,_,_,_,_,_,_,_,_,_,_,_,_,_,_,_,_,_,_,_,_,_,_,_,_,_,_,_,_,_,_,_,_,_,_,_,_,_,_,_,_,_,_,_,_,_,_,_,_,_,_,_,_,_,_,_,_,_,_,_,_,_,_,_,_,_,_,_,_,_,_,_,_,_,_,_,_,_,_,_,_,_,_,_].toArray,[]⟩ (h:=?_)
         refine zlp 21 (.bool (!t160)) #[_,_,_,_,_,_,_,_,_,_,_,_,_,_,_,_,_,_,_,_,_,_] ⟨[_,_,_,_,_,_,_,_,_,_,_,_,_,_,_,_,_,_,_,_,_,_,_,_,_,_,_,_,_,_,_,_,_,_,_,_,_,_,_,_,_,_,_,_,_,_,_,_,_,_,_,_,_,_,_,_,_,_,_,_,_,_,_,_,_,_,_,_,_,_,_,_,_,_,_,_,_,_,_,_,_,_,_,_,_,_,_,_,_,_,_,_].toArray,[]⟩ (h:=?_)
         refine MW.last_done (by kernel_rfl) ?_ _
         clear hwr_
         by_cases c163:t160=true
         ·replace HH:=MW.hpos HH c163
          subst c163
          go_wp2
          go_loopg [11] k62 (fun kq u11 w'=>∃ (x164:Int),u11=.int .i64 x164∧Aside0 ((toponymlaw20_AttrsLines.l1 kq x164 l0 t11 t5 x61)=some r)∧Aside0 (kq≤k62)∧Aside0 (Kd.F k26 w' (fun k_=>((P_ k_∨w.heap.size≤k_)∧k_≠g18)∧k_≠g91) A0 l0.length l0)∧Aside0 (Kd.F Kd.string w' (fun k_=>((P_ k_∨w.heap.size≤k_)∧k_≠g18)∧k_≠g91) (some ad53) t5.length t5)∧Aside0 (Kd.F Kd.string w' (fun k_=>((P_ k_∨w.heap.size≤k_)∧k_≠g18)∧k_≠g91) A136 y139.length y139)∧Aside0 (Kd.F Kd.string w' (fun k_=>((P_ k_∨w.heap.size≤k_)∧k_≠g18)∧k_≠g91) A156 t140.length t140)∧Aside0 (w'.heap[g18]? =some (.cells #[.string t9,.string t10,.int .i64 t11,.int .i64 t12,.bool t13,.bool t14] 26 (0,0)))∧Aside0 (w'.heap[g91]? =some (.cells #[.string t76,.string t77,.int .i64 t78,.int .i64 t79,.bool t80,.bool t81] 26 (0,0)))∧Aside0 (Below w.heap.size w w'))
          case atStart=>exact⟨0,(by first|rfl|(simp;done)|(simp[*];done)),HH,⟨Nat.le_refl _⟩,⟨(by(with_reducible repeat(first|apply Kd.F_alloc|apply Kd.F_drewN|apply Kd.F_drew));exact HF0.out)⟩,⟨(by(with_reducible repeat(first|apply Kd.F_alloc|apply Kd.F_drewN|apply Kd.F_drew));exact HF59.out)⟩,⟨(by(with_reducible repeat(first|apply Kd.F_alloc|apply Kd.F_drewN|apply Kd.F_drew));exact HF136.out)⟩,⟨(by(with_reducible repeat(first|apply Kd.F_alloc|apply Kd.F_drewN|apply Kd.F_drew));exact HF158.out)⟩,⟨(by(with_reducible repeat(first|refine blk_drewN ?_ _|refine blk_drew ?_|refine blk_alloc ?_ _));exact BKg18.out)⟩,⟨(by(with_reducible repeat(first|refine blk_drewN ?_ _|refine blk_drew ?_|refine blk_alloc ?_ _));exact BKg91.out)⟩,⟨(by repeat(first|(with_reducible first|exact HB.out|apply below_alloc|apply pw_below_drewN|apply below_drew1)|exact HB.out))⟩⟩
          case round=>
           clear hk71
           clear hk72
           clear hk74
           clear hk134
           clear hk135
           clear hk138
           clear HH
           clear HF0 HF59 HF136 HF158 BKg18 BKg91 HB
           obtain⟨x164,rfl,HA,HK1,HF0,HF59,HF136,HF158,BKg18,BKg91,HB⟩:=hrel
           obtain⟨w166,rfl⟩:∃ wo_:World,wo_=wr:=⟨_,rfl⟩
           cases gk with
           |zero=>exact absurd HA.out (by simp[toponymlaw20_AttrsLines.l1])
           |succ k165=>
            have H:=HA.out
            clear HA
            simp only[toponymlaw20_AttrsLines.l1] at H
            have HH:=za H
            clear H
            replace cBKg18:=MB.lz6 BKg18.out
            replace cBKg91:=MB.lz6 BKg91.out
            replace HH:=zqt HH
            rcases HH with⟨HH,hk180,hk181⟩|⟨HH,hk205,hk206⟩
            ·replace HH:=zqdo HH
             obtain⟨HH,hk183⟩:=HH
             replace HH:=zqto HH
             obtain⟨HH,hk185,hk186⟩:=HH
             have p187:0≤(x164:Int):=of_decide_eq_true (by first|(with_reducible assumption)|assumption)
             have q187:x164<(t5.length:Int):=of_decide_eq_true (by first|(with_reducible assumption)|assumption)
             obtain⟨ad187,e187,hx187_0⟩:=Kd.at_string (Kd.F_now HF59.out) x164 p187 q187
             cases e187
             replace p187:=eq_true p187
             replace q187:=eq_true q187
             replace HH:=zqdo HH
             obtain⟨HH,hk189⟩:=HH
             replace HH:=zqto HH
             obtain⟨HH,hk191,hk192⟩:=HH
             have p193:0≤(x61:Int):=of_decide_eq_true (by first|(with_reducible assumption)|assumption)
             have q193:x61<(t5.length:Int):=of_decide_eq_true (by first|(with_reducible assumption)|assumption)
             obtain⟨ad193,e193,hx193_0⟩:=Kd.at_string (Kd.F_now HF59.out) x61 p193 q193
             cases e193
             replace p193:=eq_true p193
             replace q193:=eq_true q193
             replace HH:=zqe HH
             rcases HH with⟨HH,hk195,hk196⟩|⟨HH,hk197,hk198⟩
             ·obtain rfl:=Option.some.inj HH.out
              clear HH
              go_wp2
              go_quiet (fail)
              go_wp2
              go_ret
              exact zfi (by repeat(first|(with_reducible first|exact HB.out|apply below_alloc|apply pw_below_drewN|apply below_drew1)|exact HB.out))
             go_wp2
             go_quiet (fail)
             go_wp2
             go_roundg k165
             case measure=>have:=HK0.out;have:=HK1.out;omega
             case rel=>exact⟨wrap64 (x164+1),(by first|rfl|(simp;done)|(simp[*];done)),HH,⟨by have:=HK0.out;have:=HK1.out;omega⟩,⟨(by(with_reducible repeat(first|apply Kd.F_alloc|apply Kd.F_drewN|apply Kd.F_drew));exact HF0.out)⟩,⟨(by(with_reducible repeat(first|apply Kd.F_alloc|apply Kd.F_drewN|apply Kd.F_drew));exact HF59.out)⟩,⟨(by(with_reducible repeat(first|apply Kd.F_alloc|apply Kd.F_drewN|apply Kd.F_drew));exact HF136.out)⟩,⟨(by(with_reducible repeat(first|apply Kd.F_alloc|apply Kd.F_drewN|apply Kd.F_drew));exact HF158.out)⟩,⟨(by(with_reducible repeat(first|refine blk_drewN ?_ _|refine blk_drew ?_|refine blk_alloc ?_ _));exact BKg18.out)⟩,⟨(by(with_reducible repeat(first|refine blk_drewN ?_ _|refine blk_drew ?_|refine blk_alloc ?_ _));exact BKg91.out)⟩,⟨(by repeat(first|(with_reducible first|exact HB.out|apply below_alloc|apply pw_below_drewN|apply below_drew1)|exact HB.out))⟩⟩
            go_wp2
            go_roundg k165
            case measure=>have:=HK0.out;have:=HK1.out;omega
            case rel=>exact⟨wrap64 (x61+1),(by first|rfl|(simp;done)|(simp[*];done)),HH,⟨by have:=HK0.out;have:=HK1.out;omega⟩,⟨(Kd.F_mono (ok:=(fun k_=>((P_ k_∨w.heap.size≤k_)∧k_≠g18)∧k_≠g91)) HF0.out (fun k_ hk_=>⟨hk_.1.1,hk_.1.2⟩))⟩,⟨(Kd.F_mono (ok:=(fun k_=>((P_ k_∨w.heap.size≤k_)∧k_≠g18)∧k_≠g91)) HF59.out (fun k_ hk_=>⟨hk_.1.1,hk_.1.2⟩))⟩,⟨BKg18.out⟩,⟨HB.out⟩⟩
         replace HH:=MW.hneg HH c163
         replace c163:=Bool.eq_false_iff.mpr c163
         subst c163
         obtain rfl:=Option.some.inj HH.out
         clear HH
         go_wp2
         go_ret
         exact zfi (by repeat(first|(with_reducible first|exact HB.out|apply below_alloc|apply pw_below_drewN|apply below_drew1)|exact HB.out))
        (try simp only[hk208,Bool.not_true,Bool.not_false])
        (try simp only[hk209,Bool.not_true,Bool.not_false])
        refine MW.last_pure (i:=10) (v:=undef) (listed':= #[true,true,true,true,true,true,true,true,true,true,true,false,false,false,false,false,false,false,false,false,false,false]) (a':=⟨[_,_,_,_,_,_,_,_,_,_,_,_,_,_,_,_,_,_,_,_,_,_,_,_,_,_,_,_,_,_,_,_,_,_,_,_,_,_,_,_,_,_,_,_,_,_,_,_,_,_,_,_,_,_,_,_,_,_,_,_,_,_,_,_,_,_,_,_,_,_,_,_,_,_,_,_,_,_,_,_,_,_,_,_,_,_,_,_,_,_,_,_].toArray,[]⟩) rfl (by kernel_rfl) (by kernel_rfl) (by kernel_rfl) (fun _ _ _ h_=>h_) (.inr ⟨(by kernel_rfl),rfl⟩) (by kernel_rfl) rfl ?_
        refine MW.last_pure (i:=11) (v:=undef) (listed':= #[true,true,true,true,true,true,true,true,true,true,true,true,false,false,false,false,false,false,false,false,false,false]) (a':=⟨[_,_,_,_,_,_,_,_,_,_,_,_,_,_,_,_,_,_,_,_,_,_,_,_,_,_,_,_,_,_,_,_,_,_,_,_,_,_,_,_,_,_,_,_,_,_,_,_,_,_,_,_,_,_,_,_,_,_,_,_,_,_,_,_,_,_,_,_,_,_,_,_,_,_,_,_,_,_,_,_,_,_,_,_,_,_,_,_,_,_,_,_].toArray,[]⟩) rfl (by kernel_rfl) (by kernel_rfl) (by kernel_rfl) (fun _ _ _ h_=>h_) (.inr ⟨(by kernel_rfl),rfl⟩) (by kernel_rfl) rfl ?_
        refine MW.last_pure (i:=12) (v:=undef) (listed':= #[true,true,true,true,true,true,true,true,true,true,true,true,true,false,false,false,false,false,false,false,false,false]) (a':=⟨[_,_,_,_,_,_,_,_,_,_,_,_,_,_,_,_,_,_,_,_,_,_,_,_,_,_,_,_,_,_,_,_,_,_,_,_,_,_,_,_,_,_,_,_,_,_,_,_,_,_,_,_,_,_,_,_,_,_,_,_,_,_,_,_,_,_,_,_,_,_,_,_,_,_,_,_,_,_,_,_,_,_,_,_,_,_,_,_,_,_,_,_].toArray,[]⟩) rfl (by kernel_rfl) (by kernel_rfl) (by kernel_rfl) (fun _ _ _ h_=>h_) (.inr ⟨(by kernel_rfl),rfl⟩) (by kernel_rfl) rfl ?_
        refine MW.last_pure (i:=13) (v:=undef) (listed':= #[true,true,true,true,true,true,true,true,true,true,true,true,true,true,false,false,false,false,false,false,false,false]) (a':=⟨[_,_,_,_,_,_,_,_,_,_,_,_,_,_,_,_,_,_,_,_,_,_,_,_,_,_,_,_,_,_,_,_,_,_,_,_,_,_,_,_,_,_,_,_,_,_,_,_,_,_,_,_,_,_,_,_,_,_,_,_,_,_,_,_,_,_,_,_,_,_,_,_,_,_,_,_,_,_,_,_,_,_,_,_,_,_,_,_,_,_,_,_].toArray,[]⟩) rfl (by kernel_rfl) (by kernel_rfl) (by kernel_rfl) (fun _ _ _ h_=>h_) (.inr ⟨(by kernel_rfl),rfl⟩) (by kernel_rfl) rfl ?_
        refine MW.last_pure (i:=14) (v:=undef) (listed':= #[true,true,true,true,true,true,true,true,true,true,true,true,true,true,true,false,false,false,false,false,false,false]) (a':=⟨[_,_,_,_,_,_,_,_,_,_,_,_,_,_,_,_,_,_,_,_,_,_,_,_,_,_,_,_,_,_,_,_,_,_,_,_,_,_,_,_,_,_,_,_,_,_,_,_,_,_,_,_,_,_,_,_,_,_,_,_,_,_,_,_,_,_,_,_,_,_,_,_,_,_,_,_,_,_,_,_,_,_,_,_,_,_,_,_,_,_,_,_].toArray,[]⟩) rfl (by kernel_rfl) (by kernel_rfl) (by kernel_rfl) (fun _ _ _ h_=>h_) (.inr ⟨(by kernel_rfl),rfl⟩) (by kernel_rfl) rfl ?_
        refine MW.last_pure (i:=15) (v:=undef) (listed':= #[true,true,true,true,true,true,true,true,true,true,true,true,true,true,true,true,false,false,false,false,false,false]) (a':=⟨[_,_,_,_,_,_,_,_,_,_,_,_,_,_,_,_,_,_,_,_,_,_,_,_,_,_,_,_,_,_,_,_,_,_,_,_,_,_,_,_,_,_,_,_,_,_,_,_,_,_,_,_,_,_,_,_,_,_,_,_,_,_,_,_,_,_,_,_,_,_,_,_,_,_,_,_,_,_,_,_,_,_,_,_,_,_,_,_,_,_,_,_].toArray,[]⟩) rfl (by kernel_rfl) (by kernel_rfl) (by kernel_rfl) (fun _ _ _ h_=>h_) (.inr ⟨(by kernel_rfl),rfl⟩) (by kernel_rfl) rfl ?_
        refine MW.last_pure (i:=16) (v:=undef) (listed':= #[true,true,true,true,true,true,true,true,true,true,true,true,true,true,true,true,true,false,false,false,false,false]) (a':=⟨[_,_,_,_,_,_,_,_,_,_,_,_,_,_,_,_,_,_,_,_,_,_,_,_,_,_,_,_,_,_,_,_,_,_,_,_,_,_,_,_,_,_,_,_,_,_,_,_,_,_,_,_,_,_,_,_,_,_,_,_,_,_,_,_,_,_,_,_,_,_,_,_,_,_,_,_,_,_,_,_,_,_,_,_,_,_,_,_,_,_,_,_].toArray,[]⟩) rfl (by kernel_rfl) (by kernel_rfl) (by kernel_rfl) (fun _ _ _ h_=>h_) (.inr ⟨(by kernel_rfl),rfl⟩) (by kernel_rfl) rfl ?_
        refine MW.last_pure (i:=17) (v:=undef) (listed':= #[true,true,true,true,true,true,true,true,true,true,true,true,true,true,true,true,true,true,false,false,false,false]) (a':=⟨[_,_,_,_,_,_,_,_,_,_,_,_,_,_,_,_,_,_,_,_,_,_,_,_,_,_,_,_,_,_,_,_,_,_,_,_,_,_,_,_,_,_,_,_,_,_,_,_,_,_,_,_,_,_,_,_,_,_,_,_,_,_,_,_,_,_,_,_,_,_,_,_,_,_,_,_,_,_,_,_,_,_,_,_,_,_,_,_,_,_,_,_].toArray,[]⟩) rfl (by kernel_rfl) (by kernel_rfl) (by kernel_rfl) (fun _ _ _ h_=>h_) (.inr ⟨(by kernel_rfl),rfl⟩) (by kernel_rfl) rfl ?_
        refine MW.last_pure (i:=18) (v:=undef) (listed':= #[true,true,true,true,true,true,true,true,true,true,true,true,true,true,true,true,true,true,true,false,false,false]) (a':=⟨[_,_,_,_,_,_,_,_,_,_,_,_,_,_,_,_,_,_,_,_,_,_,_,_,_,_,_,_,_,_,_,_,_,_,_,_,_,_,_,_,_,_,_,_,_,_,_,_,_,_,_,_,_,_,_,_,_,_,_,_,_,_,_,_,_,_,_,_,_,_,_,_,_,_,_,_,_,_,_,_,_,_,_,_,_,_,_,_,_,_,_,_].toArray,[]⟩) rfl (by kernel_rfl) (by kernel_rfl) (by kernel_rfl) (fun _ _ _ h_=>h_) (.inr ⟨(by kernel_rfl),rfl⟩) (by kernel_rfl) rfl ?_
        refine MW.last_pure (i:=19) (v:=undef) (listed':= #[true,true,true,true,true,true,true,true,true,true,true,true,true,true,true,true,true,true,true,true,false,false]) (a':=⟨[_,_,_,_,_,_,_,_,_,_,_,_,_,_,_,_,_,_,_,_,_,_,_,_,_,_,_,_,_,_,_,_,_,_,_,_,_,_,_,_,_,_,_,_,_,_,_,_,_,_,_,_,_,_,_,_,_,_,_,_,_,_,_,_,_,_,_,_,_,_,_,_,_,_,_,_,_,_,_,_,_,_,_,_,_,_,_,_,_,_,_,_].toArray,[]⟩) rfl (by kernel_rfl) (by kernel_rfl) (by kernel_rfl) (fun _ _ _ h_=>h_) (.inr ⟨(by kernel_rfl),rfl⟩) (by kernel_rfl) rfl ?_
        refine MW.last_pure (i:=20) (v:=undef) (listed':= #[true,true,true,true,true,true,true,true,true,true,true,true,true,true,true,true,true,true,true,true,true,false]) (a':=⟨[_,_,_,_,_,_,_,_,_,_,_,_,_,_,_,_,_,_,_,_,_,_,_,_,_,_,_,_,_,_,_,_,_,_,_,_,_,_,_,_,_,_,_,_,_,_,_,_,_,_,_,_,_,_,_,_,_,_,_,_,_,_,_,_,_,_,_,_,_,_,_,_,_,_,_,_,_,_,_,_,_,_,_,_,_,_,_,_,_,_,_,_].toArray,[]⟩) rfl (by kernel_rfl) (by kernel_rfl) (by kernel_rfl) (fun _ _ _ h_=>h_) (.inr ⟨(by kernel_rfl),rfl⟩) (by kernel_rfl) rfl ?_
        refine zlp 21 (.bool true) #[_,_,_,_,_,_,_,_,_,_,_,_,_,_,_,_,_,_,_,_,_,_] ⟨[_,_,_,_,_,_,_,_,_,_,_,_,_,_,_,_,_,_,_,_,_,_,_,_,_,_,_,_,_,_,_,_,_,_,_,_,_,_,_,_,_,_,_,_,_,_,_,_,_,_,_,_,_,_,_,_,_,_,_,_,_,_,_,_,_,_,_,_,_,_,_,_,_,_,_,_,_,_,_,_,_,_,_,_,_,_,_,_,_,_,_,_].toArray,[]⟩ (h:=?_)
        refine MW.last_done (by kernel_rfl) ?_ _
        clear hwr_
        obtain rfl:=Option.some.inj HH.out
        clear HH
        go_wp2
        go_ret
        exact zfi HB.out
       replace HH:=MW.hneg HH c132
       replace c132:=Bool.eq_false_iff.mpr c132
       subst c132
       refine MW.last_pure (i:=3) (v:=undef) (listed':= #[true,true,true,true,false,false,false,false,false,false,false,false,false,false,false,false,false,false,false,false,false,false]) (a':=⟨[_,_,_,_,_,_,_,_,_,_,_,_,_,_,_,_,_,_,_,_,_,_,_,_,_,_,_,_,_,_,_,_,_,_,_,_,_,_,_,_,_,_,_,_,_,_,_,_,_,_,_,_,_,_,_,_,_,_,_,_,_,_,_,_,_,_,_,_,_,_,_,_,_,_,_,_,_,_,_,_,_,_,_,_,_,_,_,_,_,_,_,_].toArray,[]⟩) rfl (by kernel_rfl) (by kernel_rfl) (by kernel_rfl) (fun _ _ _ h_=>h_) (.inr ⟨(by kernel_rfl),rfl⟩) (by kernel_rfl) rfl ?_
       refine MW.last_pure (i:=4) (v:=undef) (listed':= #[true,true,true,true,true,false,false,false,false,false,false,false,false,false,false,false,false,false,false,false,false,false]) (a':=⟨[_,_,_,_,_,_,_,_,_,_,_,_,_,_,_,_,_,_,_,_,_,_,_,_,_,_,_,_,_,_,_,_,_,_,_,_,_,_,_,_,_,_,_,_,_,_,_,_,_,_,_,_,_,_,_,_,_,_,_,_,_,_,_,_,_,_,_,_,_,_,_,_,_,_,_,_,_,_,_,_,_,_,_,_,_,_,_,_,_,_,_,_].toArray,[]⟩) rfl (by kernel_rfl) (by kernel_rfl) (by kernel_rfl) (fun _ _ _ h_=>h_) (.inr ⟨(by kernel_rfl),rfl⟩) (by kernel_rfl) rfl ?_
       refine MW.last_pure (i:=5) (v:=undef) (listed':= #[true,true,true,true,true,true,false,false,false,false,false,false,false,false,false,false,false,false,false,false,false,false]) (a':=⟨[_,_,_,_,_,_,_,_,_,_,_,_,_,_,_,_,_,_,_,_,_,_,_,_,_,_,_,_,_,_,_,_,_,_,_,_,_,_,_,_,_,_,_,_,_,_,_,_,_,_,_,_,_,_,_,_,_,_,_,_,_,_,_,_,_,_,_,_,_,_,_,_,_,_,_,_,_,_,_,_,_,_,_,_,_,_,_,_,_,_,_,_].toArray,[]⟩) rfl (by kernel_rfl) (by kernel_rfl) (by kernel_rfl) (fun _ _ _ h_=>h_) (.inr ⟨(by kernel_rfl),rfl⟩) (by kernel_rfl) rfl ?_
       refine MW.last_pure (i:=6) (v:=undef) (listed':= #[true,true,true,true,true,true,true,false,false,false,false,false,false,false,false,false,false,false,false,false,false,false]) (a':=⟨[_,_,_,_,_,_,_,_,_,_,_,_,_,_,_,_,_,_,_,_,_,_,_,_,_,_,_,_,_,_,_,_,_,_,_,_,_,_,_,_,_,_,_,_,_,_,_,_,_,_,_,_,_,_,_,_,_,_,_,_,_,_,_,_,_,_,_,_,_,_,_,_,_,_,_,_,_,_,_,_,_,_,_,_,_,_,_,_,_,_,_,_].toArray,[]⟩) rfl (by kernel_rfl) (by kernel_rfl) (by kernel_rfl) (fun _ _ _ h_=>h_) (.inr ⟨(by kernel_rfl),rfl⟩) (by kernel_rfl) rfl ?_
       refine MW.last_pure (i:=7) (v:=undef) (listed':= #[true,true,true,true,true,true,true,true,false,false,false,false,false,false,false,false,false,false,false,false,false,false]) (a':=⟨[_,_,_,_,_,_,_,_,_,_,_,_,_,_,_,_,_,_,_,_,_,_,_,_,_,_,_,_,_,_,_,_,_,_,_,_,_,_,_,_,_,_,_,_,_,_,_,_,_,_,_,_,_,_,_,_,_,_,_,_,_,_,_,_,_,_,_,_,_,_,_,_,_,_,_,_,_,_,_,_,_,_,_,_,_,_,_,_,_,_,_,_].toArray,[]⟩) rfl (by kernel_rfl) (by kernel_rfl) (by kernel_rfl) (fun _ _ _ h_=>h_) (.inr ⟨(by kernel_rfl),rfl⟩) (by kernel_rfl) rfl ?_
       refine zlp 8 (.bool true) #[_,_,_,_,_,_,_,_,_,_,_,_,_,_,_,_,_,_,_,_,_,_] ⟨[_,_,_,_,_,_,_,_,_,_,_,_,_,_,_,_,_,_,_,_,_,_,_,_,_,_,_,_,_,_,_,_,_,_,_,_,_,_,_,_,_,_,_,_,_,_,_,_,_,_,_,_,_,_,_,_,_,_,_,_,_,_,_,_,_,_,_,_,_,_,_,_,_,_,_,_,_,_,_,_,_,_,_,_,_,_,_,_,_,_,_,_].toArray,[]⟩ (h:=?_)
       refine zlp 9 (.bool true) #[_,_,_,_,_,_,_,_,_,_,_,_,_,_,_,_,_,_,_,_,_,_] ⟨[_,_,_,_,_,_,_,_,_,_,_,_,_,_,_,_,_,_,_,_,_,_,_,_,_,_,_,_,_,_,_,_,_,_,_,_,_,_,_,_,_,_,_,_,_,_,_,_,_,_,_,_,_,_,_,_,_,_,_,_,_,_,_,_,_,_,_,_,_,_,_,_,_,_,_,_,_,_,_,_,_,_,_,_,_,_,_,_,_,_,_,_].toArray,[]⟩ (h:=?_)
       refine MW.last_pure (i:=10) (v:=undef) (listed':= #[true,true,true,true,true,true,true,true,true,true,true,false,false,false,false,false,false,false,false,false,false,false]) (a':=⟨[_,_,_,_,_,_,_,_,_,_,_,_,_,_,_,_,_,_,_,_,_,_,_,_,_,_,_,_,_,_,_,_,_,_,_,_,_,_,_,_,_,_,_,_,_,_,_,_,_,_,_,_,_,_,_,_,_,_,_,_,_,_,_,_,_,_,_,_,_,_,_,_,_,_,_,_,_,_,_,_,_,_,_,_,_,_,_,_,_,_,_,_].toArray,[]⟩) rfl (by kernel_rfl) (by kernel_rfl) (by kernel_rfl) (fun _ _ _ h_=>h_) (.inr ⟨(by kernel_rfl),rfl⟩) (by kernel_rfl) rfl ?_
       refine MW.last_pure (i:=11) (v:=undef) (listed':= #[true,true,true,true,true,true,true,true,true,true,true,true,false,false,false,false,false,false,false,false,false,false]) (a':=⟨[_,_,_,_,_,_,_,_,_,_,_,_,_,_,_,_,_,_,_,_,_,_,_,_,_,_,_,_,_,_,_,_,_,_,_,_,_,_,_,_,_,_,_,_,_,_,_,_,_,_,_,_,_,_,_,_,_,_,_,_,_,_,_,_,_,_,_,_,_,_,_,_,_,_,_,_,_,_,_,_,_,_,_,_,_,_,_,_,_,_,_,_].toArray,[]⟩) rfl (by kernel_rfl) (by kernel_rfl) (by kernel_rfl) (fun _ _ _ h_=>h_) (.inr ⟨(by kernel_rfl),rfl⟩) (by kernel_rfl) rfl ?_
       refine MW.last_pure (i:=12) (v:=undef) (listed':= #[true,true,true,true,true,true,true,true,true,true,true,true,true,false,false,false,false,false,false,false,false,false]) (a':=⟨[_,_,_,_,_,_,_,_,_,_,_,_,_,_,_,_,_,_,_,_,_,_,_,_,_,_,_,_,_,_,_,_,_,_,_,_,_,_,_,_,_,_,_,_,_,_,_,_,_,_,_,_,_,_,_,_,_,_,_,_,_,_,_,_,_,_,_,_,_,_,_,_,_,_,_,_,_,_,_,_,_,_,_,_,_,_,_,_,_,_,_,_].toArray,[]⟩) rfl (by kernel_rfl) (by kernel_rfl) (by kernel_rfl) (fun _ _ _ h_=>h_) (.inr ⟨(by kernel_rfl),rfl⟩) (by kernel_rfl) rfl ?_
       refine MW.last_pure (i:=13) (v:=undef) (listed':= #[true,true,true,true,true,true,true,true,true,true,true,true,true,true,false,false,false,false,false,false,false,false]) (a':=⟨[_,_,_,_,_,_,_,_,_,_,_,_,_,_,_,_,_,_,_,_,_,_,_,_,_,_,_,_,_,_,_,_,_,_,_,_,_,_,_,_,_,_,_,_,_,_,_,_,_,_,_,_,_,_,_,_,_,_,_,_,_,_,_,_,_,_,_,_,_,_,_,_,_,_,_,_,_,_,_,_,_,_,_,_,_,_,_,_,_,_,_,_].toArray,[]⟩) rfl (by kernel_rfl) (by kernel_rfl) (by kernel_rfl) (fun _ _ _ h_=>h_) (.inr ⟨(by kernel_rfl),rfl⟩) (by kernel_rfl) rfl ?_
       refine MW.last_pure (i:=14) (v:=undef) (listed':= #[true,true,true,true,true,true,true,true,true,true,true,true,true,true,true,false,false,false,false,false,false,false]) (a':=⟨[_,_,_,_,_,_,_,_,_,_,_,_,_,_,_,_,_,_,_,_,_,_,_,_,_,_,_,_,_,_,_,_,_,_,_,_,_,_,_,_,_,_,_,_,_,_,_,_,_,_,_,_,_,_,_,_,_,_,_,_,_,_,_,_,_,_,_,_,_,_,_,_,_,_,_,_,_,_,_,_,_,_,_,_,_,_,_,_,_,_,_,_].toArray,[]⟩) rfl (by kernel_rfl) (by kernel_rfl) (by kernel_rfl) (fun _ _ _ h_=>h_) (.inr ⟨(by kernel_rfl),rfl⟩) (by kernel_rfl) rfl ?_
       refine MW.last_pure (i:=15) (v:=undef) (listed':= #[true,true,true,true,true,true,true,true,true,true,true,true,true,true,true,true,false,false,false,false,false,false]) (a':=⟨[_,_,_,_,_,_,_,_,_,_,_,_,_,_,_,_,_,_,_,_,_,_,_,_,_,_,_,_,_,_,_,_,_,_,_,_,_,_,_,_,_,_,_,_,_,_,_,_,_,_,_,_,_,_,_,_,_,_,_,_,_,_,_,_,_,_,_,_,_,_,_,_,_,_,_,_,_,_,_,_,_,_,_,_,_,_,_,_,_,_,_,_].toArray,[]⟩) rfl (by kernel_rfl) (by kernel_rfl) (by kernel_rfl) (fun _ _ _ h_=>h_) (.inr ⟨(by kernel_rfl),rfl⟩) (by kernel_rfl) rfl ?_
       refine MW.last_pure (i:=16) (v:=undef) (listed':= #[true,true,true,true,true,true,true,true,true,true,true,true,true,true,true,true,true,false,false,false,false,false]) (a':=⟨[_,_,_,_,_,_,_,_,_,_,_,_,_,_,_,_,_,_,_,_,_,_,_,_,_,_,_,_,_,_,_,_,_,_,_,_,_,_,_,_,_,_,_,_,_,_,_,_,_,_,_,_,_,_,_,_,_,_,_,_,_,_,_,_,_,_,_,_,_,_,_,_,_,_,_,_,_,_,_,_,_,_,_,_,_,_,_,_,_,_,_,_].toArray,[]⟩) rfl (by kernel_rfl) (by kernel_rfl) (by kernel_rfl) (fun _ _ _ h_=>h_) (.inr ⟨(by kernel_rfl),rfl⟩) (by kernel_rfl) rfl ?_
       refine MW.last_pure (i:=17) (v:=undef) (listed':= #[true,true,true,true,true,true,true,true,true,true,true,true,true,true,true,true,true,true,false,false,false,false]) (a':=⟨[_,_,_,_,_,_,_,_,_,_,_,_,_,_,_,_,_,_,_,_,_,_,_,_,_,_,_,_,_,_,_,_,_,_,_,_,_,_,_,_,_,_,_,_,_,_,_,_,_,_,_,_,_,_,_,_,_,_,_,_,_,_,_,_,_,_,_,_,_,_,_,_,_,_,_,_,_,_,_,_,_,_,_,_,_,_,_,_,_,_,_,_].toArray,[]⟩) rfl (by kernel_rfl) (by kernel_rfl) (by kernel_rfl) (fun _ _ _ h_=>h_) (.inr ⟨(by kernel_rfl),rfl⟩) (by kernel_rfl) rfl ?_
       refine MW.last_pure (i:=18) (v:=undef) (listed':= #[true,true,true,true,true,true,true,true,true,true,true,true,true,true,true,true,true,true,true,false,false,false]) (a':=⟨[_,_,_,_,_,_,_,_,_,_,_,_,_,_,_,_,_,_,_,_,_,_,_,_,_,_,_,_,_,_,_,_,_,_,_,_,_,_,_,_,_,_,_,_,_,_,_,_,_,_,_,_,_,_,_,_,_,_,_,_,_,_,_,_,_,_,_,_,_,_,_,_,_,_,_,_,_,_,_,_,_,_,_,_,_,_,_,_,_,_,_,_].toArray,[]⟩) rfl (by kernel_rfl) (by kernel_rfl) (by kernel_rfl) (fun _ _ _ h_=>h_) (.inr ⟨(by kernel_rfl),rfl⟩) (by kernel_rfl) rfl ?_
       refine MW.last_pure (i:=19) (v:=undef) (listed':= #[true,true,true,true,true,true,true,true,true,true,true,true,true,true,true,true,true,true,true,true,false,false]) (a':=⟨[_,_,_,_,_,_,_,_,_,_,_,_,_,_,_,_,_,_,_,_,_,_,_,_,_,_,_,_,_,_,_,_,_,_,_,_,_,_,_,_,_,_,_,_,_,_,_,_,_,_,_,_,_,_,_,_,_,_,_,_,_,_,_,_,_,_,_,_,_,_,_,_,_,_,_,_,_,_,_,_,_,_,_,_,_,_,_,_,_,_,_,_].toArray,[]⟩) rfl (by kernel_rfl) (by kernel_rfl) (by kernel_rfl) (fun _ _ _ h_=>h_) (.inr ⟨(by kernel_rfl),rfl⟩) (by kernel_rfl) rfl ?_
       refine MW.last_pure (i:=20) (v:=undef) (listed':= #[true,true,true,true,true,true,true,true,true,true,true,true,true,true,true,true,true,true,true,true,true,false]) (a':=⟨[_,_,_,_,_,_,_,_,_,_,_,_,_,_,_,_,_,_,_,_,_,_,_,_,_,_,_,_,_,_,_,_,_,_,_,_,_,_,_,_,_,_,_,_,_,_,_,_,_,_,_,_,_,_,_,_,_,_,_,_,_,_,_,_,_,_,_,_,_,_,_,_,_,_,_,_,_,_,_,_,_,_,_,_,_,_,_,_,_,_,_,_].toArray,[]⟩) rfl (by kernel_rfl) (by kernel_rfl) (by kernel_rfl) (fun _ _ _ h_=>h_) (.inr ⟨(by kernel_rfl),rfl⟩) (by kernel_rfl) rfl ?_
       refine zlp 21 (.bool true) #[_,_,_,_,_,_,_,_,_,_,_,_,_,_,_,_,_,_,_,_,_,_] ⟨[_,_,_,_,_,_,_,_,_,_,_,_,_,_,_,_,_,_,_,_,_,_,_,_,_,_,_,_,_,_,_,_,_,_,_,_,_,_,_,_,_,_,_,_,_,_,_,_,_,_,_,_,_,_,_,_,_,_,_,_,_,_,_,_,_,_,_,_,_,_,_,_,_,_,_,_,_,_,_,_,_,_,_,_,_,_,_,_,_,_,_,_].toArray,[]⟩ (h:=?_)
       refine MW.last_done (by kernel_rfl) ?_ _
       clear hwr_
       obtain rfl:=Option.some.inj HH.out
       clear HH
       go_wp2
       go_ret
       exact zfi HB.out
      replace HH:=zd HH
      obtain⟨t213,At214,HH⟩:=HH
      go_wp2_with ((with_reducible refine gc 8 rfl ?_);refine zc 8 (some 91) Try.func8 #[] (h:=?_);(with_reducible refine(toponymlaw20_awake.calls k62  t213 _  At214.out).mono ?_);rintro e w215 ⟨rfl,hb⟩;refine⟨_,rfl,?_⟩)
      refine zg ?_
      replace BKg18:=zbb BKg18.out hb
      replace HB:=zhb HB.out hb
      clear hb
      replace cBKg18:=MB.lz6 BKg18.out
      obtain rfl:=Option.some.inj HH.out
      clear HH
      go_wp2
      go_ret
      exact zfi HB.out
   obtain rfl:=Option.some.inj HH.out
   clear HH
   go_wp2
   go_ret
   exact zfi HB.out
  replace HH:=MW.hneg HH c47
  replace c47:=Bool.eq_false_iff.mpr c47
  subst c47
  have HL231:=za (Kd.N_reads' HN8.out).2.1
  have HF230:=za (Kd.N_F HN8.out)
  clear HN8
  replace HF0:=za (Kd.F_mono (ok:=(fun k_=>((P_ k_∨w.heap.size≤k_)∧some k_≠((.slice A33 t5.length cp34):Value).ownBlock)∧k_≠g18)) HF0.out (fun k_ hk_=>⟨hk_.1.1,hk_.2⟩):Kd.F k26 _ (fun k_=>(P_ k_∨w.heap.size≤k_)∧k_≠g18) _ _ _)
  go_wp2
  go_loopg [8] k (fun kq u8 w'=>∃ (x232:Int),u8=.int .i64 x232∧Aside0 ((toponymlaw20_AttrsLines.l2 kq x232 l0 t11 t5)=some r)∧Aside0 (kq≤k)∧Aside0 (Kd.F k26 w' (fun k_=>(P_ k_∨w.heap.size≤k_)∧k_≠g18) A0 l0.length l0)∧Aside0 (Kd.F Kd.string w' (fun k_=>(P_ k_∨w.heap.size≤k_)∧k_≠g18) A33 t5.length t5)∧Aside0 (w'.heap[g18]? =some (.cells #[.string t9,.string t10,.int .i64 t11,.int .i64 t12,.bool t13,.bool t14] 26 (0,0)))∧Aside0 (Below w.heap.size w w'))
  case atStart=>exact⟨0,(by first|rfl|(simp;done)|(simp[*];done)),HH,⟨Nat.le_refl _⟩,⟨HF0.out⟩,⟨HF230.out⟩,⟨BKg18.out⟩,⟨HB.out⟩⟩
  case round=>
   clear hk42
   try clear hk43
   try clear hk44
   try clear hk45
   try clear hk46
   clear HH
   clear HF0 HF230 BKg18 HB
   obtain⟨x232,rfl,HA,HK2,HF0,HF230,BKg18,HB⟩:=hrel
   obtain⟨w234,rfl⟩:∃ wo_:World,wo_=wr:=⟨_,rfl⟩
   cases gk with
   |zero=>exact absurd HA.out (by simp[toponymlaw20_AttrsLines.l2])
   |succ k233=>
    have H:=HA.out
    clear HA
    simp only[toponymlaw20_AttrsLines.l2] at H
    have HH:=za H
    clear H
    replace cBKg18:=MB.lz6 BKg18.out
    replace HH:=zqt HH
    rcases HH with⟨HH,hk242,hk243⟩|⟨HH,hk382,hk383⟩
    ·replace HH:=zqdo HH
     obtain⟨HH,hk245⟩:=HH
     have p246:0≤(x232:Int):=of_decide_eq_true (by first|(with_reducible assumption)|assumption)
     have q246:x232<(t5.length:Int):=of_decide_eq_true (by first|(with_reducible assumption)|assumption)
     obtain⟨ad246,e246,hx246_0⟩:=Kd.at_string (Kd.F_now HF230.out) x232 p246 q246
     cases e246
     replace p246:=eq_true p246
     replace q246:=eq_true q246
     replace HH:=zd HH
     obtain⟨⟨t247,t248,t249,t250,t251,t252,t253⟩,At254,HH⟩:=HH
     dsimp only at HH
     go_wp2_with ((with_reducible refine gc 9 rfl ?_);refine zc 9 (some 52) Try.func9 #[.slice A0 l0.length c0,.string (rdOf ByteArray.empty t5 x232)] (h:=?_);(with_reducible refine(attrs_Find.calls k233 (fun k_=>(P_ k_∨w.heap.size≤k_)∧k_≠g18) _ _ l0 (rdOf ByteArray.empty t5 x232) t247 t248 t249 t250 t251 t252 t253 _ HF0.out HL0.out At254.out).mono ?_);rintro e w255 ⟨rfl,hb⟩;refine⟨_,rfl,?_⟩)
     refine zg ?_
     replace HF0:=zfb HF0.out hb
     replace HF230:=zfb HF230.out hb
     replace BKg18:=zbb BKg18.out hb
     replace HB:=zhb HB.out hb
     clear hb
     clear hx246_0 p246 q246
     replace cBKg18:=MB.lz6 BKg18.out
     go_wp2_with ((with_reducible refine gd 9 rfl ?_);refine zb 9 26 #[.string (⟨#[]⟩:ByteArray),.string (⟨#[]⟩:ByteArray),.int .i64 0,.int .i64 0,.bool false,.bool false] (h:=?_);intro g262 hg w263 BKg262 hb)
     refine zg ?_
     have GEg262:=zge hg (below_size HB.out)
     have NEg18_g262:=znq hg BKg18.out
     replace HF0:=zfe HF0.out hg hb
     replace HF230:=zfe HF230.out hg hb
     replace BKg18:=zbb BKg18.out hb
     replace HB:=zhb HB.out hb
     clear hg hb
     replace cBKg18:=MB.lz6 BKg18.out
     replace cBKg262:=MB.lz6 BKg262.out
     go_wp2_with ((with_reducible refine gs 26 9 rfl ?_);refine zs 26 9 #[.string t247,.string t248,.int .i64 t249,.int .i64 t250,.bool t251,.bool t252] BKg262.out [.string t247,.string t248,.int .i64 t249,.int .i64 t250,.bool t251,.bool t252] (h:=?_);intro w276 hbk hg)
     refine zg ?_
     replace HF0:=zfg HF0.out hg fun k_ hk_=>hk_.2
     replace HF230:=zfg HF230.out hg fun k_ hk_=>hk_.2
     replace BKg18:=zbg BKg18.out hg NEg18_g262
     replace HB:=zhg HB.out hg (below_size HB.out) GEg262
     replace BKg262:=hbk
     clear hg hbk
     replace cBKg18:=MB.lz6 BKg18.out
     replace cBKg262:=MB.lz6 BKg262.out
     go_wp2
     have hwr_:∀ n_:Int,IntKind.i64.wrap n_=wrap64 n_:=fun n_=>IntWalk.i64_left n_
     refine wp_region_any (by kernel_rfl) ?_
     change wpAny _ _ _ _ 22 #[false,false,false,false,false,false,false,false,false,false,false,false,false,false,false,false,false,false,false,false,false,false] _ w276.drew
     obtain⟨w289,hw_⟩:∃ w_:World,w_=w276.drew:=⟨_,rfl⟩
     rw[← hw_]
     have hb:Below w276.heap.size w276 w289:=by rw[hw_];exact below_drew1 (Below.refl _ _)
     clear hw_
     replace HF0:=zfb HF0.out hb
     replace HF230:=zfb HF230.out hb
     replace BKg18:=zbb BKg18.out hb
     replace BKg262:=zbb BKg262.out hb
     replace HB:=zhb HB.out hb
     clear hb
     obtain⟨j4G,j4H,j4I,j4J,j4K,j4L⟩:=MB.lz6 BKg18.out
     obtain⟨j4M,j4N,j4O,j4P,j4Q,j4R⟩:=MB.lz6 BKg262.out
     have p302:0≤(x232:Int):=of_decide_eq_true (by first|(with_reducible assumption)|assumption)
     have q302:x232<(t5.length:Int):=of_decide_eq_true (by first|(with_reducible assumption)|assumption)
     obtain⟨ad302,e302,hx302_0⟩:=Kd.at_string (Kd.F_now HF230.out) x232 p302 q302
     cases e302
     replace p302:=eq_true p302
     replace q302:=eq_true q302
     refine MW.last_in (ds:=[15,19]) (zk j4I (zk j4O (zk hx302_0 z0))) ?_
     refine zlp 0 (.bool t253) #[_,_,_,_,_,_,_,_,_,_,_,_,_,_,_,_,_,_,_,_,_,_] ⟨[_,_,_,_,_,_,_,_,_,_,_,_,_,_,_,_,_,_,_,_,_,_,_,_,_,_,_,_,_,_,_,_,_,_,_,_,_,_,_,_,_,_,_,_,_,_,_,_,_,_,_,_,_,_,_,_,_,_,_,_,_,_,_,_,_,_,_,_,_,_,_,_,_,_,_,_,_,_,_,_,_,_,_,_,_,_,_,_,_,_,_,_].toArray,[]⟩ (h:=?_)
     refine zlp 1 (.bool (!t253)) #[_,_,_,_,_,_,_,_,_,_,_,_,_,_,_,_,_,_,_,_,_,_] ⟨[_,_,_,_,_,_,_,_,_,_,_,_,_,_,_,_,_,_,_,_,_,_,_,_,_,_,_,_,_,_,_,_,_,_,_,_,_,_,_,_,_,_,_,_,_,_,_,_,_,_,_,_,_,_,_,_,_,_,_,_,_,_,_,_,_,_,_,_,_,_,_,_,_,_,_,_,_,_,_,_,_,_,_,_,_,_,_,_,_,_,_,_].toArray,[]⟩ (h:=?_)
     refine zlp 2 (.bool (!t253)) #[_,_,_,_,_,_,_,_,_,_,_,_,_,_,_,_,_,_,_,_,_,_] ⟨[_,_,_,_,_,_,_,_,_,_,_,_,_,_,_,_,_,_,_,_,_,_,_,_,_,_,_,_,_,_,_,_,_,_,_,_,_,_,_,_,_,_,_,_,_,_,_,_,_,_,_,_,_,_,_,_,_,_,_,_,_,_,_,_,_,_,_,_,_,_,_,_,_,_,_,_,_,_,_,_,_,_,_,_,_,_,_,_,_,_,_,_].toArray,[]⟩ (h:=?_)
     by_cases c303:t253=true
     ·replace HH:=MW.hpos HH c303
      subst c303
      refine zlp 3 (.pointer (some ⟨g262,2,none⟩)) #[_,_,_,_,_,_,_,_,_,_,_,_,_,_,_,_,_,_,_,_,_,_] ⟨[_,_,_,_,_,_,_,_,_,_,_,_,_,_,_,_,_,_,_,_,_,_,_,_,_,_,_,_,_,_,_,_,_,_,_,_,_,_,_,_,_,_,_,_,_,_,_,_,_,_,_,_,_,_,_,_,_,_,_,_,_,_,_,_,_,_,_,_,_,_,_,_,_,_,_,_,_,_,_,_,_,_,_,_,_,_,_,_,_,_,_,_].toArray,[]⟩ (h:=?_)
      refine zlp 5 (.pointer (some ⟨g18,2,none⟩)) #[_,_,_,_,_,_,_,_,_,_,_,_,_,_,_,_,_,_,_,_,_,_] ⟨[_,_,_,_,_,_,_,_,_,_,_,_,_,_,_,_,_,_,_,_,_,_,_,_,_,_,_,_,_,_,_,_,_,_,_,_,_,_,_,_,_,_,_,_,_,_,_,_,_,_,_,_,_,_,_,_,_,_,_,_,_,_,_,_,_,_,_,_,_,_,_,_,_,_,_,_,_,_,_,_,_,_,_,_,_,_,_,_,_,_,_,_].toArray,[]⟩ (h:=?_)
      refine MW.last_take (i:=4) (v:=.int .i64 t249) (listed':= #[_,_,_,_,_,_,_,_,_,_,_,_,_,_,_,_,_,_,_,_,_,_]) (a':=⟨[_,_,_,_,_,_,_,_,_,_,_,_,_,_,_,_,_,_,_,_,_,_,_,_,_,_,_,_,_,_,_,_,_,_,_,_,_,_,_,_,_,_,_,_,_,_,_,_,_,_,_,_,_,_,_,_,_,_,_,_,_,_,_,_,_,_,_,_,_,_,_,_,_,_,_,_,_,_,_,_,_,_,_,_,_,_,_,_,_,_,_,_].toArray,[]⟩) rfl (by kernel_rfl) (by kernel_rfl) (by kernel_rfl) (by kernel_rfl) (by kernel_rfl) (fun _ _ _ h_=>h_) (by kernel_rfl) (fun w_ hS_=>?go) (zk j4I (zk j4O (zk hx302_0 z0))) rfl rfl ?_
      case go=>obtain⟨_,hs1_,_,_⟩:=hS_;first|(go_simp;done)|(go_simp;rfl)
      refine MW.last_take (i:=6) (v:=.int .i64 t11) (listed':= #[_,_,_,_,_,_,_,_,_,_,_,_,_,_,_,_,_,_,_,_,_,_]) (a':=⟨[_,_,_,_,_,_,_,_,_,_,_,_,_,_,_,_,_,_,_,_,_,_,_,_,_,_,_,_,_,_,_,_,_,_,_,_,_,_,_,_,_,_,_,_,_,_,_,_,_,_,_,_,_,_,_,_,_,_,_,_,_,_,_,_,_,_,_,_,_,_,_,_,_,_,_,_,_,_,_,_,_,_,_,_,_,_,_,_,_,_,_,_].toArray,[]⟩) rfl (by kernel_rfl) (by kernel_rfl) (by kernel_rfl) (by kernel_rfl) (by kernel_rfl) (fun _ _ _ h_=>h_) (by kernel_rfl) (fun w_ hS_=>?go) (zk j4I (zk j4O (zk hx302_0 z0))) rfl rfl ?_
      case go=>obtain⟨hs0_,_,_,_⟩:=hS_;first|(go_simp;done)|(go_simp;rfl)
      refine zlp 7 (.bool (t249 != t11)) #[_,_,_,_,_,_,_,_,_,_,_,_,_,_,_,_,_,_,_,_,_,_] ⟨[_,_,_,_,_,_,_,_,_,_,_,_,_,_,_,_,_,_,_,_,_,_,_,_,_,_,_,_,_,_,_,_,_,_,_,_,_,_,_,_,_,_,_,_,_,_,_,_,_,_,_,_,_,_,_,_,_,_,_,_,_,_,_,_,_,_,_,_,_,_,_,_,_,_,_,_,_,_,_,_,_,_,_,_,_,_,_,_,_,_,_,_].toArray,[]⟩ (h:=?_)
      refine zlp 8 (.bool (t249 != t11)) #[_,_,_,_,_,_,_,_,_,_,_,_,_,_,_,_,_,_,_,_,_,_] ⟨[_,_,_,_,_,_,_,_,_,_,_,_,_,_,_,_,_,_,_,_,_,_,_,_,_,_,_,_,_,_,_,_,_,_,_,_,_,_,_,_,_,_,_,_,_,_,_,_,_,_,_,_,_,_,_,_,_,_,_,_,_,_,_,_,_,_,_,_,_,_,_,_,_,_,_,_,_,_,_,_,_,_,_,_,_,_,_,_,_,_,_,_].toArray,[]⟩ (h:=?_)
      refine zlp 9 (.bool (t249 != t11)) #[_,_,_,_,_,_,_,_,_,_,_,_,_,_,_,_,_,_,_,_,_,_] ⟨[_,_,_,_,_,_,_,_,_,_,_,_,_,_,_,_,_,_,_,_,_,_,_,_,_,_,_,_,_,_,_,_,_,_,_,_,_,_,_,_,_,_,_,_,_,_,_,_,_,_,_,_,_,_,_,_,_,_,_,_,_,_,_,_,_,_,_,_,_,_,_,_,_,_,_,_,_,_,_,_,_,_,_,_,_,_,_,_,_,_,_,_].toArray,[]⟩ (h:=?_)
      replace HH:=zqe HH
      rcases HH with⟨HH,hk305,hk306⟩|⟨HH,hk379,hk380⟩
      ·(try simp only[hk305,Bool.not_true,Bool.not_false])
       (try simp only[hk306,Bool.not_true,Bool.not_false])
       refine zlp 10 (.slice A0 l0.length c0) #[_,_,_,_,_,_,_,_,_,_,_,_,_,_,_,_,_,_,_,_,_,_] ⟨[_,_,_,_,_,_,_,_,_,_,_,_,_,_,_,_,_,_,_,_,_,_,_,_,_,_,_,_,_,_,_,_,_,_,_,_,_,_,_,_,_,_,_,_,_,_,_,_,_,_,_,_,_,_,_,_,_,_,_,_,_,_,_,_,_,_,_,_,_,_,_,_,_,_,_,_,_,_,_,_,_,_,_,_,_,_,_,_,_,_,_,_].toArray,[]⟩ (h:=?_)
       refine zlp 11 (.slice (some ad246) t5.length cp34) #[_,_,_,_,_,_,_,_,_,_,_,_,_,_,_,_,_,_,_,_,_,_] ⟨[_,_,_,_,_,_,_,_,_,_,_,_,_,_,_,_,_,_,_,_,_,_,_,_,_,_,_,_,_,_,_,_,_,_,_,_,_,_,_,_,_,_,_,_,_,_,_,_,_,_,_,_,_,_,_,_,_,_,_,_,_,_,_,_,_,_,_,_,_,_,_,_,_,_,_,_,_,_,_,_,_,_,_,_,_,_,_,_,_,_,_,_].toArray,[]⟩ (h:=?_)
       refine zlp 12 (.int .i64 x232) #[_,_,_,_,_,_,_,_,_,_,_,_,_,_,_,_,_,_,_,_,_,_] ⟨[_,_,_,_,_,_,_,_,_,_,_,_,_,_,_,_,_,_,_,_,_,_,_,_,_,_,_,_,_,_,_,_,_,_,_,_,_,_,_,_,_,_,_,_,_,_,_,_,_,_,_,_,_,_,_,_,_,_,_,_,_,_,_,_,_,_,_,_,_,_,_,_,_,_,_,_,_,_,_,_,_,_,_,_,_,_,_,_,_,_,_,_].toArray,[]⟩ (h:=?_)
       refine zlp 13 (.pointer (some (ad246.add (x232.toNat)))) #[_,_,_,_,_,_,_,_,_,_,_,_,_,_,_,_,_,_,_,_,_,_] ⟨[_,_,_,_,_,_,_,_,_,_,_,_,_,_,_,_,_,_,_,_,_,_,_,_,_,_,_,_,_,_,_,_,_,_,_,_,_,_,_,_,_,_,_,_,_,_,_,_,_,_,_,_,_,_,_,_,_,_,_,_,_,_,_,_,_,_,_,_,_,_,_,_,_,_,_,_,_,_,_,_,_,_,_,_,_,_,_,_,_,_,_,_].toArray,[]⟩ (h:=?_)
       refine zlp 16 (.slice (some ad246) t5.length cp34) #[_,_,_,_,_,_,_,_,_,_,_,_,_,_,_,_,_,_,_,_,_,_] ⟨[_,_,_,_,_,_,_,_,_,_,_,_,_,_,_,_,_,_,_,_,_,_,_,_,_,_,_,_,_,_,_,_,_,_,_,_,_,_,_,_,_,_,_,_,_,_,_,_,_,_,_,_,_,_,_,_,_,_,_,_,_,_,_,_,_,_,_,_,_,_,_,_,_,_,_,_,_,_,_,_,_,_,_,_,_,_,_,_,_,_,_,_].toArray,[]⟩ (h:=?_)
       refine zlp 17 (.int .i64 x232) #[_,_,_,_,_,_,_,_,_,_,_,_,_,_,_,_,_,_,_,_,_,_] ⟨[_,_,_,_,_,_,_,_,_,_,_,_,_,_,_,_,_,_,_,_,_,_,_,_,_,_,_,_,_,_,_,_,_,_,_,_,_,_,_,_,_,_,_,_,_,_,_,_,_,_,_,_,_,_,_,_,_,_,_,_,_,_,_,_,_,_,_,_,_,_,_,_,_,_,_,_,_,_,_,_,_,_,_,_,_,_,_,_,_,_,_,_].toArray,[]⟩ (h:=?_)
       replace HH:=zqdo HH
       obtain⟨HH,hk309⟩:=HH
       (try simp only[hk309,Bool.not_true,Bool.not_false])
       obtain⟨i0307,hi0307,_,hsz307,_⟩:=info_parts info9
       have q0307:0≤(x232:Int):=(by first|exact Int.natCast_nonneg _|exact of_decide_eq_true (by first|(with_reducible assumption)|assumption))
       have ql307:(x232:Int)≤((t5.length:Int):Int):=(by first|exact Int.le_refl _|exact of_decide_eq_true (by first|(with_reducible assumption)|assumption)|(simp;done))
       have hcut307:=cut_from (P:=Try.prog) 36 9 .i64 Try.underlying36 hi0307 1 hsz307 (some ad246) t5.length cp34 x232 q0307 ql307
       have hr307:Kd.F Kd.string w289 (fun k_=>((P_ k_∨w.heap.size≤k_)∧k_≠g18)∧k_≠g262) (if cp34=x232.toNat then(some ad246) else((some ad246):Option Addr).map (·.add (x232.toNat*1))) (List.drop x232.toNat t5).length (List.drop x232.toNat t5):=Kd.F_cut (m:=x232.toNat) (c:=cp34) HF230.out (by omega) HL231.out
       have hy307:(List.drop x232.toNat t5).length=t5.length - x232.toNat:=List.length_drop
       have hl307:(List.drop x232.toNat t5).length≤cp34 - x232.toNat:=(by have:=HL231.out;rw[List.length_drop];omega)
       rw[← hy307] at hcut307
       generalize (if cp34=x232.toNat then(some ad246) else((some ad246):Option Addr).map (·.add (x232.toNat*1)))=A307 at hcut307 hr307
       generalize cp34 - x232.toNat=cp307 at hcut307 hl307
       clear hy307 q0307 ql307
       have HF307:=za hr307
       have HL307:=za hl307
       clear hr307 hl307 hi0307 hsz307
       obtain⟨y310,hy310⟩:∃ y_:List ByteArray,y_=List.drop x232.toNat t5:=⟨_,rfl⟩
       rw[← hy310] at hcut307 HL307 HF307
       have H:((attrs_Line.f k233 l0 (rdOf ByteArray.empty t5 x232)).bind fun t311=>((toponymref16_SameTexts.f k233 t311 y310).bind fun t331=>(if t331=true then((toponymlaw20_AttrsLines.l3 k233 0 l0 t11 t5 x232)) else(some false))))=some r:=by rw[hy310];exact HH.out
       replace HH:=za H
       clear H
       clear hy310
       refine zlp 18 (.slice A307 y310.length cp307) #[_,_,_,_,_,_,_,_,_,_,_,_,_,_,_,_,_,_,_,_,_,_] ⟨[_,_,_,_,_,_,_,_,_,_,_,_,_,_,_,_,_,_,_,_,_,_,_,_,_,_,_,_,_,_,_,_,_,_,_,_,_,_,_,_,_,_,_,_,_,_,_,_,_,_,_,_,_,_,_,_,_,_,_,_,_,_,_,_,_,_,_,_,_,_,_,_,_,_,_,_,_,_,_,_,_,_,_,_,_,_,_,_,_,_,_,_].toArray,[]⟩ (h:=?_)
       refine MW.last_take (i:=14) (v:=.string (rdOf ByteArray.empty t5 x232)) (listed':= #[_,_,_,_,_,_,_,_,_,_,_,_,_,_,_,_,_,_,_,_,_,_]) (a':=⟨[_,_,_,_,_,_,_,_,_,_,_,_,_,_,_,_,_,_,_,_,_,_,_,_,_,_,_,_,_,_,_,_,_,_,_,_,_,_,_,_,_,_,_,_,_,_,_,_,_,_,_,_,_,_,_,_,_,_,_,_,_,_,_,_,_,_,_,_,_,_,_,_,_,_,_,_,_,_,_,_,_,_,_,_,_,_,_,_,_,_,_,_].toArray,[]⟩) rfl (by kernel_rfl) (by kernel_rfl) (by kernel_rfl) (by kernel_rfl) (by kernel_rfl) (fun _ _ _ h_=>h_) (by kernel_rfl) (fun w_ hS_=>?go) (zk j4I (zk j4O (zk hx302_0 z0))) rfl rfl ?_
       case go=>obtain⟨_,_,hs2_,_⟩:=hS_;first|(go_simp;done)|(go_simp;rfl)
       refine MW.last_fin (i:=15) (listed':= #[true,true,true,true,true,true,true,true,true,true,true,true,true,true,true,true,true,true,true,false,false,false]) rfl (by kernel_rfl) (by kernel_rfl) (by kernel_rfl) ?_
       replace HH:=zd HH
       obtain⟨t311,At312,HH⟩:=HH
       go_wp2_with ((with_reducible refine gc 19 rfl ?_);refine zc 19 (some 70) Try.func19 #[.slice A0 l0.length c0,.string (rdOf ByteArray.empty t5 x232)] (h:=?_);(with_reducible refine(attrs_Line.calls k233 (fun k_=>((P_ k_∨w.heap.size≤k_)∧k_≠g18)∧k_≠g262) _ _ l0 (rdOf ByteArray.empty t5 x232) t311 _ HF0.out HL0.out At312.out).mono ?_);rintro e w313 ⟨v314,rfl,hn314,hb⟩;refine⟨_,rfl,?_⟩)
       refine zg ?_
       have hba:=Kd.N_base hn314
       have HN314:=znl (ok2:=(fun k_=>((P_ k_∨w.heap.size≤k_)∧k_≠g18)∧k_≠g262)) hn314 (below_size HB.out) (fun k_ hk_=>hk_.elim (fun h_=>h_) (fun h_=>⟨⟨.inr (Nat.le_trans (below_size HB.out) h_),Kd.freshB (g:=g18) BKg18.out k_ h_⟩,Kd.freshB (g:=g262) BKg262.out k_ h_⟩))
       replace HF0:=zfr (v:=v314) HF0.out hba hb
       replace HF230:=zfr (v:=v314) HF230.out hba hb
       replace HF307:=zfr (v:=v314) HF307.out hba hb
       replace BKg18:=zbb BKg18.out hb
       replace BKg262:=zbb BKg262.out hb
       replace HB:=zhb HB.out hb
       clear hn314 hba hb
       clear j4G j4H j4I j4J j4K j4L j4M j4N j4O j4P j4Q j4R hx302_0 p302 q302 hcut307
       replace cBKg18:=MB.lz6 BKg18.out
       replace cBKg262:=MB.lz6 BKg262.out
       refine wpList_nil ?_
       change wpAnyLast _ _ _ _ _ _ 3 #[true,true,true,true,true,true,true,true,true,true,true,true,true,true,true,true,true,true,true,false,false,false] ⟨[_,_,_,_,_,_,_,_,_,_,_,_,_,_,_,_,_,_,_,_,_,_,_,_,_,_,_,_,_,_,_,_,_,_,_,_,_,_,_,_,_,_,_,_,_,_,_,_,_,_,_,_,_,_,_,_,_,_,_,_,_,_,_,_,_,_,_,_,_,_,_,_,_,_,_,_,_,_,_,_,_,_,_,_,_,_,_,_,_,_,_,_].toArray,[]⟩ _
       refine MW.last_fin (i:=19) (listed':= #[true,true,true,true,true,true,true,true,true,true,true,true,true,true,true,true,true,true,true,true,false,false]) rfl (by kernel_rfl) (by kernel_rfl) (by kernel_rfl) ?_
       obtain⟨A327,cp328,he_⟩:=Kd.N_slice HN314.out
       subst he_
       have HL330:=za (Kd.N_reads' HN314.out).2.1
       have HF329:=za (Kd.N_F HN314.out)
       clear HN314
       replace HF0:=za (Kd.F_mono (ok:=(fun k_=>(((P_ k_∨w.heap.size≤k_)∧k_≠g18)∧k_≠g262)∧some k_≠((.slice A327 t311.length cp328):Value).ownBlock)) HF0.out (fun k_ hk_=>hk_.1):Kd.F k26 _ (fun k_=>((P_ k_∨w.heap.size≤k_)∧k_≠g18)∧k_≠g262) _ _ _)
       replace HF230:=za (Kd.F_mono (ok:=(fun k_=>(((P_ k_∨w.heap.size≤k_)∧k_≠g18)∧k_≠g262)∧some k_≠((.slice A327 t311.length cp328):Value).ownBlock)) HF230.out (fun k_ hk_=>hk_.1):Kd.F Kd.string _ (fun k_=>((P_ k_∨w.heap.size≤k_)∧k_≠g18)∧k_≠g262) _ _ _)
       replace HF307:=za (Kd.F_mono (ok:=(fun k_=>(((P_ k_∨w.heap.size≤k_)∧k_≠g18)∧k_≠g262)∧some k_≠((.slice A327 t311.length cp328):Value).ownBlock)) HF307.out (fun k_ hk_=>hk_.1):Kd.F Kd.string _ (fun k_=>((P_ k_∨w.heap.size≤k_)∧k_≠g18)∧k_≠g262) _ _ _)
       replace HH:=zd HH
       obtain⟨t331,At332,HH⟩:=HH
       go_wp2_with ((with_reducible refine gc 18 rfl ?_);refine zc 18 (some 74) Try.func18 #[.slice A327 t311.length cp328,.slice A307 y310.length cp307] (h:=?_);(with_reducible refine(toponymref16_SameTexts.calls k233 (fun k_=>((P_ k_∨w.heap.size≤k_)∧k_≠g18)∧k_≠g262) _ _ t311 _ _ y310 t331 _ HF329.out HL330.out HF307.out HL307.out At332.out).mono ?_);rintro e w' ⟨rfl,⟨nd,rfl⟩⟩;refine⟨_,rfl,?_⟩)
       refine zg ?_
       refine wpList_nil ?_
       change wpAnyLast _ _ _ _ _ _ 2 #[true,true,true,true,true,true,true,true,true,true,true,true,true,true,true,true,true,true,true,true,false,false] ⟨[_,_,_,_,_,_,_,_,_,_,_,_,_,_,_,_,_,_,_,_,_,_,_,_,_,_,_,_,_,_,_,_,_,_,_,_,_,_,_,_,_,_,_,_,_,_,_,_,_,_,_,_,_,_,_,_,_,_,_,_,_,_,_,_,_,_,_,_,_,_,_,_,_,_,_,_,_,_,_,_,_,_,_,_,_,_,_,_,_,_,_,_].toArray,[]⟩ _
       refine zlp 20 (.bool (!t331)) #[_,_,_,_,_,_,_,_,_,_,_,_,_,_,_,_,_,_,_,_,_,_] ⟨[_,_,_,_,_,_,_,_,_,_,_,_,_,_,_,_,_,_,_,_,_,_,_,_,_,_,_,_,_,_,_,_,_,_,_,_,_,_,_,_,_,_,_,_,_,_,_,_,_,_,_,_,_,_,_,_,_,_,_,_,_,_,_,_,_,_,_,_,_,_,_,_,_,_,_,_,_,_,_,_,_,_,_,_,_,_,_,_,_,_,_,_].toArray,[]⟩ (h:=?_)
       refine zlp 21 (.bool (!t331)) #[_,_,_,_,_,_,_,_,_,_,_,_,_,_,_,_,_,_,_,_,_,_] ⟨[_,_,_,_,_,_,_,_,_,_,_,_,_,_,_,_,_,_,_,_,_,_,_,_,_,_,_,_,_,_,_,_,_,_,_,_,_,_,_,_,_,_,_,_,_,_,_,_,_,_,_,_,_,_,_,_,_,_,_,_,_,_,_,_,_,_,_,_,_,_,_,_,_,_,_,_,_,_,_,_,_,_,_,_,_,_,_,_,_,_,_,_].toArray,[]⟩ (h:=?_)
       refine MW.last_done (by kernel_rfl) ?_ _
       clear hwr_
       by_cases c334:t331=true
       ·replace HH:=MW.hpos HH c334
        subst c334
        go_wp2
        go_loopg [11] k233 (fun kq u11 w'=>∃ (x335:Int),u11=.int .i64 x335∧Aside0 ((toponymlaw20_AttrsLines.l3 kq x335 l0 t11 t5 x232)=some r)∧Aside0 (kq≤k233)∧Aside0 (Kd.F k26 w' (fun k_=>((P_ k_∨w.heap.size≤k_)∧k_≠g18)∧k_≠g262) A0 l0.length l0)∧Aside0 (Kd.F Kd.string w' (fun k_=>((P_ k_∨w.heap.size≤k_)∧k_≠g18)∧k_≠g262) (some ad246) t5.length t5)∧Aside0 (Kd.F Kd.string w' (fun k_=>((P_ k_∨w.heap.size≤k_)∧k_≠g18)∧k_≠g262) A307 y310.length y310)∧Aside0 (Kd.F Kd.string w' (fun k_=>((P_ k_∨w.heap.size≤k_)∧k_≠g18)∧k_≠g262) A327 t311.length t311)∧Aside0 (w'.heap[g18]? =some (.cells #[.string t9,.string t10,.int .i64 t11,.int .i64 t12,.bool t13,.bool t14] 26 (0,0)))∧Aside0 (w'.heap[g262]? =some (.cells #[.string t247,.string t248,.int .i64 t249,.int .i64 t250,.bool t251,.bool t252] 26 (0,0)))∧Aside0 (Below w.heap.size w w'))
        case atStart=>exact⟨0,(by first|rfl|(simp;done)|(simp[*];done)),HH,⟨Nat.le_refl _⟩,⟨(by(with_reducible repeat(first|apply Kd.F_alloc|apply Kd.F_drewN|apply Kd.F_drew));exact HF0.out)⟩,⟨(by(with_reducible repeat(first|apply Kd.F_alloc|apply Kd.F_drewN|apply Kd.F_drew));exact HF230.out)⟩,⟨(by(with_reducible repeat(first|apply Kd.F_alloc|apply Kd.F_drewN|apply Kd.F_drew));exact HF307.out)⟩,⟨(by(with_reducible repeat(first|apply Kd.F_alloc|apply Kd.F_drewN|apply Kd.F_drew));exact HF329.out)⟩,⟨(by(with_reducible repeat(first|refine blk_drewN ?_ _|refine blk_drew ?_|refine blk_alloc ?_ _));exact BKg18.out)⟩,⟨(by(with_reducible repeat(first|refine blk_drewN ?_ _|refine blk_drew ?_|refine blk_alloc ?_ _));exact BKg262.out)⟩,⟨(by repeat(first|(with_reducible first|exact HB.out|apply below_alloc|apply pw_below_drewN|apply below_drew1)|exact HB.out))⟩⟩
        case round=>
         clear hk242
         clear hk243
         clear hk245
         clear hk305
         clear hk306
         clear hk309
         clear HH
         clear HF0 HF230 HF307 HF329 BKg18 BKg262 HB
         obtain⟨x335,rfl,HA,HK3,HF0,HF230,HF307,HF329,BKg18,BKg262,HB⟩:=hrel
         obtain⟨w337,rfl⟩:∃ wo_:World,wo_=wr:=⟨_,rfl⟩
         cases gk with
         |zero=>exact absurd HA.out (by simp[toponymlaw20_AttrsLines.l3])
         |succ k336=>
          have H:=HA.out
          clear HA
          simp only[toponymlaw20_AttrsLines.l3] at H
          have HH:=za H
          clear H
          replace cBKg18:=MB.lz6 BKg18.out
          replace cBKg262:=MB.lz6 BKg262.out
          replace HH:=zqt HH
          rcases HH with⟨HH,hk351,hk352⟩|⟨HH,hk376,hk377⟩
          ·replace HH:=zqdo HH
           obtain⟨HH,hk354⟩:=HH
           replace HH:=zqto HH
           obtain⟨HH,hk356,hk357⟩:=HH
           have p358:0≤(x335:Int):=of_decide_eq_true (by first|(with_reducible assumption)|assumption)
           have q358:x335<(t5.length:Int):=of_decide_eq_true (by first|(with_reducible assumption)|assumption)
           obtain⟨ad358,e358,hx358_0⟩:=Kd.at_string (Kd.F_now HF230.out) x335 p358 q358
           cases e358
           replace p358:=eq_true p358
           replace q358:=eq_true q358
           replace HH:=zqdo HH
           obtain⟨HH,hk360⟩:=HH
           replace HH:=zqto HH
           obtain⟨HH,hk362,hk363⟩:=HH
           have p364:0≤(x232:Int):=of_decide_eq_true (by first|(with_reducible assumption)|assumption)
           have q364:x232<(t5.length:Int):=of_decide_eq_true (by first|(with_reducible assumption)|assumption)
           obtain⟨ad364,e364,hx364_0⟩:=Kd.at_string (Kd.F_now HF230.out) x232 p364 q364
           cases e364
           replace p364:=eq_true p364
           replace q364:=eq_true q364
           replace HH:=zqe HH
           rcases HH with⟨HH,hk366,hk367⟩|⟨HH,hk368,hk369⟩
           ·obtain rfl:=Option.some.inj HH.out
            clear HH
            go_wp2
            go_quiet (fail)
            go_wp2
            go_ret
            exact zfi (by repeat(first|(with_reducible first|exact HB.out|apply below_alloc|apply pw_below_drewN|apply below_drew1)|exact HB.out))
           go_wp2
           go_quiet (fail)
           go_wp2
           go_roundg k336
           case measure=>have:=HK2.out;have:=HK3.out;omega
           case rel=>exact⟨wrap64 (x335+1),(by first|rfl|(simp;done)|(simp[*];done)),HH,⟨by have:=HK2.out;have:=HK3.out;omega⟩,⟨(by(with_reducible repeat(first|apply Kd.F_alloc|apply Kd.F_drewN|apply Kd.F_drew));exact HF0.out)⟩,⟨(by(with_reducible repeat(first|apply Kd.F_alloc|apply Kd.F_drewN|apply Kd.F_drew));exact HF230.out)⟩,⟨(by(with_reducible repeat(first|apply Kd.F_alloc|apply Kd.F_drewN|apply Kd.F_drew));exact HF307.out)⟩,⟨(by(with_reducible repeat(first|apply Kd.F_alloc|apply Kd.F_drewN|apply Kd.F_drew));exact HF329.out)⟩,⟨(by(with_reducible repeat(first|refine blk_drewN ?_ _|refine blk_drew ?_|refine blk_alloc ?_ _));exact BKg18.out)⟩,⟨(by(with_reducible repeat(first|refine blk_drewN ?_ _|refine blk_drew ?_|refine blk_alloc ?_ _));exact BKg262.out)⟩,⟨(by repeat(first|(with_reducible first|exact HB.out|apply below_alloc|apply pw_below_drewN|apply below_drew1)|exact HB.out))⟩⟩
          go_wp2
          go_roundg k336
          case measure=>have:=HK2.out;have:=HK3.out;omega
          case rel=>exact⟨wrap64 (x232+1),(by first|rfl|(simp;done)|(simp[*];done)),HH,⟨by have:=HK2.out;have:=HK3.out;omega⟩,⟨(Kd.F_mono (ok:=(fun k_=>((P_ k_∨w.heap.size≤k_)∧k_≠g18)∧k_≠g262)) HF0.out (fun k_ hk_=>⟨hk_.1.1,hk_.1.2⟩))⟩,⟨(Kd.F_mono (ok:=(fun k_=>((P_ k_∨w.heap.size≤k_)∧k_≠g18)∧k_≠g262)) HF230.out (fun k_ hk_=>⟨hk_.1.1,hk_.1.2⟩))⟩,⟨BKg18.out⟩,⟨HB.out⟩⟩
       replace HH:=MW.hneg HH c334
       replace c334:=Bool.eq_false_iff.mpr c334
       subst c334
       obtain rfl:=Option.some.inj HH.out
       clear HH
       go_wp2
       go_ret
       exact zfi (by repeat(first|(with_reducible first|exact HB.out|apply below_alloc|apply pw_below_drewN|apply below_drew1)|exact HB.out))
      (try simp only[hk379,Bool.not_true,Bool.not_false])
      (try simp only[hk380,Bool.not_true,Bool.not_false])
      refine MW.last_pure (i:=10) (v:=undef) (listed':= #[true,true,true,true,true,true,true,true,true,true,true,false,false,false,false,false,false,false,false,false,false,false]) (a':=⟨[_,_,_,_,_,_,_,_,_,_,_,_,_,_,_,_,_,_,_,_,_,_,_,_,_,_,_,_,_,_,_,_,_,_,_,_,_,_,_,_,_,_,_,_,_,_,_,_,_,_,_,_,_,_,_,_,_,_,_,_,_,_,_,_,_,_,_,_,_,_,_,_,_,_,_,_,_,_,_,_,_,_,_,_,_,_,_,_,_,_,_,_].toArray,[]⟩) rfl (by kernel_rfl) (by kernel_rfl) (by kernel_rfl) (fun _ _ _ h_=>h_) (.inr ⟨(by kernel_rfl),rfl⟩) (by kernel_rfl) rfl ?_
      refine MW.last_pure (i:=11) (v:=undef) (listed':= #[true,true,true,true,true,true,true,true,true,true,true,true,false,false,false,false,false,false,false,false,false,false]) (a':=⟨[_,_,_,_,_,_,_,_,_,_,_,_,_,_,_,_,_,_,_,_,_,_,_,_,_,_,_,_,_,_,_,_,_,_,_,_,_,_,_,_,_,_,_,_,_,_,_,_,_,_,_,_,_,_,_,_,_,_,_,_,_,_,_,_,_,_,_,_,_,_,_,_,_,_,_,_,_,_,_,_,_,_,_,_,_,_,_,_,_,_,_,_].toArray,[]⟩) rfl (by kernel_rfl) (by kernel_rfl) (by kernel_rfl) (fun _ _ _ h_=>h_) (.inr ⟨(by kernel_rfl),rfl⟩) (by kernel_rfl) rfl ?_
      refine MW.last_pure (i:=12) (v:=undef) (listed':= #[true,true,true,true,true,true,true,true,true,true,true,true,true,false,false,false,false,false,false,false,false,false]) (a':=⟨[_,_,_,_,_,_,_,_,_,_,_,_,_,_,_,_,_,_,_,_,_,_,_,_,_,_,_,_,_,_,_,_,_,_,_,_,_,_,_,_,_,_,_,_,_,_,_,_,_,_,_,_,_,_,_,_,_,_,_,_,_,_,_,_,_,_,_,_,_,_,_,_,_,_,_,_,_,_,_,_,_,_,_,_,_,_,_,_,_,_,_,_].toArray,[]⟩) rfl (by kernel_rfl) (by kernel_rfl) (by kernel_rfl) (fun _ _ _ h_=>h_) (.inr ⟨(by kernel_rfl),rfl⟩) (by kernel_rfl) rfl ?_
      refine MW.last_pure (i:=13) (v:=undef) (listed':= #[true,true,true,true,true,true,true,true,true,true,true,true,true,true,false,false,false,false,false,false,false,false]) (a':=⟨[_,_,_,_,_,_,_,_,_,_,_,_,_,_,_,_,_,_,_,_,_,_,_,_,_,_,_,_,_,_,_,_,_,_,_,_,_,_,_,_,_,_,_,_,_,_,_,_,_,_,_,_,_,_,_,_,_,_,_,_,_,_,_,_,_,_,_,_,_,_,_,_,_,_,_,_,_,_,_,_,_,_,_,_,_,_,_,_,_,_,_,_].toArray,[]⟩) rfl (by kernel_rfl) (by kernel_rfl) (by kernel_rfl) (fun _ _ _ h_=>h_) (.inr ⟨(by kernel_rfl),rfl⟩) (by kernel_rfl) rfl ?_
      refine MW.last_pure (i:=14) (v:=undef) (listed':= #[true,true,true,true,true,true,true,true,true,true,true,true,true,true,true,false,false,false,false,false,false,false]) (a':=⟨[_,_,_,_,_,_,_,_,_,_,_,_,_,_,_,_,_,_,_,_,_,_,_,_,_,_,_,_,_,_,_,_,_,_,_,_,_,_,_,_,_,_,_,_,_,_,_,_,_,_,_,_,_,_,_,_,_,_,_,_,_,_,_,_,_,_,_,_,_,_,_,_,_,_,_,_,_,_,_,_,_,_,_,_,_,_,_,_,_,_,_,_].toArray,[]⟩) rfl (by kernel_rfl) (by kernel_rfl) (by kernel_rfl) (fun _ _ _ h_=>h_) (.inr ⟨(by kernel_rfl),rfl⟩) (by kernel_rfl) rfl ?_
      refine MW.last_pure (i:=15) (v:=undef) (listed':= #[true,true,true,true,true,true,true,true,true,true,true,true,true,true,true,true,false,false,false,false,false,false]) (a':=⟨[_,_,_,_,_,_,_,_,_,_,_,_,_,_,_,_,_,_,_,_,_,_,_,_,_,_,_,_,_,_,_,_,_,_,_,_,_,_,_,_,_,_,_,_,_,_,_,_,_,_,_,_,_,_,_,_,_,_,_,_,_,_,_,_,_,_,_,_,_,_,_,_,_,_,_,_,_,_,_,_,_,_,_,_,_,_,_,_,_,_,_,_].toArray,[]⟩) rfl (by kernel_rfl) (by kernel_rfl) (by kernel_rfl) (fun _ _ _ h_=>h_) (.inr ⟨(by kernel_rfl),rfl⟩) (by kernel_rfl) rfl ?_
      refine MW.last_pure (i:=16) (v:=undef) (listed':= #[true,true,true,true,true,true,true,true,true,true,true,true,true,true,true,true,true,false,false,false,false,false]) (a':=⟨[_,_,_,_,_,_,_,_,_,_,_,_,_,_,_,_,_,_,_,_,_,_,_,_,_,_,_,_,_,_,_,_,_,_,_,_,_,_,_,_,_,_,_,_,_,_,_,_,_,_,_,_,_,_,_,_,_,_,_,_,_,_,_,_,_,_,_,_,_,_,_,_,_,_,_,_,_,_,_,_,_,_,_,_,_,_,_,_,_,_,_,_].toArray,[]⟩) rfl (by kernel_rfl) (by kernel_rfl) (by kernel_rfl) (fun _ _ _ h_=>h_) (.inr ⟨(by kernel_rfl),rfl⟩) (by kernel_rfl) rfl ?_
      refine MW.last_pure (i:=17) (v:=undef) (listed':= #[true,true,true,true,true,true,true,true,true,true,true,true,true,true,true,true,true,true,false,false,false,false]) (a':=⟨[_,_,_,_,_,_,_,_,_,_,_,_,_,_,_,_,_,_,_,_,_,_,_,_,_,_,_,_,_,_,_,_,_,_,_,_,_,_,_,_,_,_,_,_,_,_,_,_,_,_,_,_,_,_,_,_,_,_,_,_,_,_,_,_,_,_,_,_,_,_,_,_,_,_,_,_,_,_,_,_,_,_,_,_,_,_,_,_,_,_,_,_].toArray,[]⟩) rfl (by kernel_rfl) (by kernel_rfl) (by kernel_rfl) (fun _ _ _ h_=>h_) (.inr ⟨(by kernel_rfl),rfl⟩) (by kernel_rfl) rfl ?_
      refine MW.last_pure (i:=18) (v:=undef) (listed':= #[true,true,true,true,true,true,true,true,true,true,true,true,true,true,true,true,true,true,true,false,false,false]) (a':=⟨[_,_,_,_,_,_,_,_,_,_,_,_,_,_,_,_,_,_,_,_,_,_,_,_,_,_,_,_,_,_,_,_,_,_,_,_,_,_,_,_,_,_,_,_,_,_,_,_,_,_,_,_,_,_,_,_,_,_,_,_,_,_,_,_,_,_,_,_,_,_,_,_,_,_,_,_,_,_,_,_,_,_,_,_,_,_,_,_,_,_,_,_].toArray,[]⟩) rfl (by kernel_rfl) (by kernel_rfl) (by kernel_rfl) (fun _ _ _ h_=>h_) (.inr ⟨(by kernel_rfl),rfl⟩) (by kernel_rfl) rfl ?_
      refine MW.last_pure (i:=19) (v:=undef) (listed':= #[true,true,true,true,true,true,true,true,true,true,true,true,true,true,true,true,true,true,true,true,false,false]) (a':=⟨[_,_,_,_,_,_,_,_,_,_,_,_,_,_,_,_,_,_,_,_,_,_,_,_,_,_,_,_,_,_,_,_,_,_,_,_,_,_,_,_,_,_,_,_,_,_,_,_,_,_,_,_,_,_,_,_,_,_,_,_,_,_,_,_,_,_,_,_,_,_,_,_,_,_,_,_,_,_,_,_,_,_,_,_,_,_,_,_,_,_,_,_].toArray,[]⟩) rfl (by kernel_rfl) (by kernel_rfl) (by kernel_rfl) (fun _ _ _ h_=>h_) (.inr ⟨(by kernel_rfl),rfl⟩) (by kernel_rfl) rfl ?_
      refine MW.last_pure (i:=20) (v:=undef) (listed':= #[true,true,true,true,true,true,true,true,true,true,true,true,true,true,true,true,true,true,true,true,true,false]) (a':=⟨[_,_,_,_,_,_,_,_,_,_,_,_,_,_,_,_,_,_,_,_,_,_,_,_,_,_,_,_,_,_,_,_,_,_,_,_,_,_,_,_,_,_,_,_,_,_,_,_,_,_,_,_,_,_,_,_,_,_,_,_,_,_,_,_,_,_,_,_,_,_,_,_,_,_,_,_,_,_,_,_,_,_,_,_,_,_,_,_,_,_,_,_].toArray,[]⟩) rfl (by kernel_rfl) (by kernel_rfl) (by kernel_rfl) (fun _ _ _ h_=>h_) (.inr ⟨(by kernel_rfl),rfl⟩) (by kernel_rfl) rfl ?_
      refine zlp 21 (.bool true) #[_,_,_,_,_,_,_,_,_,_,_,_,_,_,_,_,_,_,_,_,_,_] ⟨[_,_,_,_,_,_,_,_,_,_,_,_,_,_,_,_,_,_,_,_,_,_,_,_,_,_,_,_,_,_,_,_,_,_,_,_,_,_,_,_,_,_,_,_,_,_,_,_,_,_,_,_,_,_,_,_,_,_,_,_,_,_,_,_,_,_,_,_,_,_,_,_,_,_,_,_,_,_,_,_,_,_,_,_,_,_,_,_,_,_,_,_].toArray,[]⟩ (h:=?_)
      refine MW.last_done (by kernel_rfl) ?_ _
      clear hwr_
      obtain rfl:=Option.some.inj HH.out
      clear HH
      go_wp2
      go_ret
      exact zfi HB.out
     replace HH:=MW.hneg HH c303
     replace c303:=Bool.eq_false_iff.mpr c303
     subst c303
     refine MW.last_pure (i:=3) (v:=undef) (listed':= #[true,true,true,true,false,false,false,false,false,false,false,false,false,false,false,false,false,false,false,false,false,false]) (a':=⟨[_,_,_,_,_,_,_,_,_,_,_,_,_,_,_,_,_,_,_,_,_,_,_,_,_,_,_,_,_,_,_,_,_,_,_,_,_,_,_,_,_,_,_,_,_,_,_,_,_,_,_,_,_,_,_,_,_,_,_,_,_,_,_,_,_,_,_,_,_,_,_,_,_,_,_,_,_,_,_,_,_,_,_,_,_,_,_,_,_,_,_,_].toArray,[]⟩) rfl (by kernel_rfl) (by kernel_rfl) (by kernel_rfl) (fun _ _ _ h_=>h_) (.inr ⟨(by kernel_rfl),rfl⟩) (by kernel_rfl) rfl ?_
     refine MW.last_pure (i:=4) (v:=undef) (listed':= #[true,true,true,true,true,false,false,false,false,false,false,false,false,false,false,false,false,false,false,false,false,false]) (a':=⟨[_,_,_,_,_,_,_,_,_,_,_,_,_,_,_,_,_,_,_,_,_,_,_,_,_,_,_,_,_,_,_,_,_,_,_,_,_,_,_,_,_,_,_,_,_,_,_,_,_,_,_,_,_,_,_,_,_,_,_,_,_,_,_,_,_,_,_,_,_,_,_,_,_,_,_,_,_,_,_,_,_,_,_,_,_,_,_,_,_,_,_,_].toArray,[]⟩) rfl (by kernel_rfl) (by kernel_rfl) (by kernel_rfl) (fun _ _ _ h_=>h_) (.inr ⟨(by kernel_rfl),rfl⟩) (by kernel_rfl) rfl ?_
     refine MW.last_pure (i:=5) (v:=undef) (listed':= #[true,true,true,true,true,true,false,false,false,false,false,false,false,false,false,false,false,false,false,false,false,false]) (a':=⟨[_,_,_,_,_,_,_,_,_,_,_,_,_,_,_,_,_,_,_,_,_,_,_,_,_,_,_,_,_,_,_,_,_,_,_,_,_,_,_,_,_,_,_,_,_,_,_,_,_,_,_,_,_,_,_,_,_,_,_,_,_,_,_,_,_,_,_,_,_,_,_,_,_,_,_,_,_,_,_,_,_,_,_,_,_,_,_,_,_,_,_,_].toArray,[]⟩) rfl (by kernel_rfl) (by kernel_rfl) (by kernel_rfl) (fun _ _ _ h_=>h_) (.inr ⟨(by kernel_rfl),rfl⟩) (by kernel_rfl) rfl ?_
     refine MW.last_pure (i:=6) (v:=undef) (listed':= #[true,true,true,true,true,true,true,false,false,false,false,false,false,false,false,false,false,false,false,false,false,false]) (a':=⟨[_,_,_,_,_,_,_,_,_,_,_,_,_,_,_,_,_,_,_,_,_,_,_,_,_,_,_,_,_,_,_,_,_,_,_,_,_,_,_,_,_,_,_,_,_,_,_,_,_,_,_,_,_,_,_,_,_,_,_,_,_,_,_,_,_,_,_,_,_,_,_,_,_,_,_,_,_,_,_,_,_,_,_,_,_,_,_,_,_,_,_,_].toArray,[]⟩) rfl (by kernel_rfl) (by kernel_rfl) (by kernel_rfl) (fun _ _ _ h_=>h_) (.inr ⟨(by kernel_rfl),rfl⟩) (by kernel_rfl) rfl ?_
     refine MW.last_pure (i:=7) (v:=undef) (listed':= #[true,true,true,true,true,true,true,true,false,false,false,false,false,false,false,false,false,false,false,false,false,false]) (a':=⟨[_,_,_,_,_,_,_,_,_,_,_,_,_,_,_,_,_,_,_,_,_,_,_,_,_,_,_,_,_,_,_,_,_,_,_,_,_,_,_,_,_,_,_,_,_,_,_,_,_,_,_,_,_,_,_,_,_,_,_,_,_,_,_,_,_,_,_,_,_,_,_,_,_,_,_,_,_,_,_,_,_,_,_,_,_,_,_,_,_,_,_,_].toArray,[]⟩) rfl (by kernel_rfl) (by kernel_rfl) (by kernel_rfl) (fun _ _ _ h_=>h_) (.inr ⟨(by kernel_rfl),rfl⟩) (by kernel_rfl) rfl ?_
     refine zlp 8 (.bool true) #[_,_,_,_,_,_,_,_,_,_,_,_,_,_,_,_,_,_,_,_,_,_] ⟨[_,_,_,_,_,_,_,_,_,_,_,_,_,_,_,_,_,_,_,_,_,_,_,_,_,_,_,_,_,_,_,_,_,_,_,_,_,_,_,_,_,_,_,_,_,_,_,_,_,_,_,_,_,_,_,_,_,_,_,_,_,_,_,_,_,_,_,_,_,_,_,_,_,_,_,_,_,_,_,_,_,_,_,_,_,_,_,_,_,_,_,_].toArray,[]⟩ (h:=?_)
     refine zlp 9 (.bool true) #[_,_,_,_,_,_,_,_,_,_,_,_,_,_,_,_,_,_,_,_,_,_] ⟨[_,_,_,_,_,_,_,_,_,_,_,_,_,_,_,_,_,_,_,_,_,_,_,_,_,_,_,_,_,_,_,_,_,_,_,_,_,_,_,_,_,_,_,_,_,_,_,_,_,_,_,_,_,_,_,_,_,_,_,_,_,_,_,_,_,_,_,_,_,_,_,_,_,_,_,_,_,_,_,_,_,_,_,_,_,_,_,_,_,_,_,_].toArray,[]⟩ (h:=?_)
     refine MW.last_pure (i:=10) (v:=undef) (listed':= #[true,true,true,true,true,true,true,true,true,true,true,false,false,false,false,false,false,false,false,false,false,false]) (a':=⟨[_,_,_,_,_,_,_,_,_,_,_,_,_,_,_,_,_,_,_,_,_,_,_,_,_,_,_,_,_,_,_,_,_,_,_,_,_,_,_,_,_,_,_,_,_,_,_,_,_,_,_,_,_,_,_,_,_,_,_,_,_,_,_,_,_,_,_,_,_,_,_,_,_,_,_,_,_,_,_,_,_,_,_,_,_,_,_,_,_,_,_,_].toArray,[]⟩) rfl (by kernel_rfl) (by kernel_rfl) (by kernel_rfl) (fun _ _ _ h_=>h_) (.inr ⟨(by kernel_rfl),rfl⟩) (by kernel_rfl) rfl ?_
     refine MW.last_pure (i:=11) (v:=undef) (listed':= #[true,true,true,true,true,true,true,true,true,true,true,true,false,false,false,false,false,false,false,false,false,false]) (a':=⟨[_,_,_,_,_,_,_,_,_,_,_,_,_,_,_,_,_,_,_,_,_,_,_,_,_,_,_,_,_,_,_,_,_,_,_,_,_,_,_,_,_,_,_,_,_,_,_,_,_,_,_,_,_,_,_,_,_,_,_,_,_,_,_,_,_,_,_,_,_,_,_,_,_,_,_,_,_,_,_,_,_,_,_,_,_,_,_,_,_,_,_,_].toArray,[]⟩) rfl (by kernel_rfl) (by kernel_rfl) (by kernel_rfl) (fun _ _ _ h_=>h_) (.inr ⟨(by kernel_rfl),rfl⟩) (by kernel_rfl) rfl ?_
     refine MW.last_pure (i:=12) (v:=undef) (listed':= #[true,true,true,true,true,true,true,true,true,true,true,true,true,false,false,false,false,false,false,false,false,false]) (a':=⟨[_,_,_,_,_,_,_,_,_,_,_,_,_,_,_,_,_,_,_,_,_,_,_,_,_,_,_,_,_,_,_,_,_,_,_,_,_,_,_,_,_,_,_,_,_,_,_,_,_,_,_,_,_,_,_,_,_,_,_,_,_,_,_,_,_,_,_,_,_,_,_,_,_,_,_,_,_,_,_,_,_,_,_,_,_,_,_,_,_,_,_,_].toArray,[]⟩) rfl (by kernel_rfl) (by kernel_rfl) (by kernel_rfl) (fun _ _ _ h_=>h_) (.inr ⟨(by kernel_rfl),rfl⟩) (by kernel_rfl) rfl ?_
     refine MW.last_pure (i:=13) (v:=undef) (listed':= #[true,true,true,true,true,true,true,true,true,true,true,true,true,true,false,false,false,false,false,false,false,false]) (a':=⟨[_,_,_,_,_,_,_,_,_,_,_,_,_,_,_,_,_,_,_,_,_,_,_,_,_,_,_,_,_,_,_,_,_,_,_,_,_,_,_,_,_,_,_,_,_,_,_,_,_,_,_,_,_,_,_,_,_,_,_,_,_,_,_,_,_,_,_,_,_,_,_,_,_,_,_,_,_,_,_,_,_,_,_,_,_,_,_,_,_,_,_,_].toArray,[]⟩) rfl (by kernel_rfl) (by kernel_rfl) (by kernel_rfl) (fun _ _ _ h_=>h_) (.inr ⟨(by kernel_rfl),rfl⟩) (by kernel_rfl) rfl ?_
     refine MW.last_pure (i:=14) (v:=undef) (listed':= #[true,true,true,true,true,true,true,true,true,true,true,true,true,true,true,false,false,false,false,false,false,false]) (a':=⟨[_,_,_,_,_,_,_,_,_,_,_,_,_,_,_,_,_,_,_,_,_,_,_,_,_,_,_,_,_,_,_,_,_,_,_,_,_,_,_,_,_,_,_,_,_,_,_,_,_,_,_,_,_,_,_,_,_,_,_,_,_,_,_,_,_,_,_,_,_,_,_,_,_,_,_,_,_,_,_,_,_,_,_,_,_,_,_,_,_,_,_,_].toArray,[]⟩) rfl (by kernel_rfl) (by kernel_rfl) (by kernel_rfl) (fun _ _ _ h_=>h_) (.inr ⟨(by kernel_rfl),rfl⟩) (by kernel_rfl) rfl ?_
     refine MW.last_pure (i:=15) (v:=undef) (listed':= #[true,true,true,true,true,true,true,true,true,true,true,true,true,true,true,true,false,false,false,false,false,false]) (a':=⟨[_,_,_,_,_,_,_,_,_,_,_,_,_,_,_,_,_,_,_,_,_,_,_,_,_,_,_,_,_,_,_,_,_,_,_,_,_,_,_,_,_,_,_,_,_,_,_,_,_,_,_,_,_,_,_,_,_,_,_,_,_,_,_,_,_,_,_,_,_,_,_,_,_,_,_,_,_,_,_,_,_,_,_,_,_,_,_,_,_,_,_,_].toArray,[]⟩) rfl (by kernel_rfl) (by kernel_rfl) (by kernel_rfl) (fun _ _ _ h_=>h_) (.inr ⟨(by kernel_rfl),rfl⟩) (by kernel_rfl) rfl ?_
     refine MW.last_pure (i:=16) (v:=undef) (listed':= #[true,true,true,true,true,true,true,true,true,true,true,true,true,true,true,true,true,false,false,false,false,false]) (a':=⟨[_,_,_,_,_,_,_,_,_,_,_,_,_,_,_,_,_,_,_,_,_,_,_,_,_,_,_,_,_,_,_,_,_,_,_,_,_,_,_,_,_,_,_,_,_,_,_,_,_,_,_,_,_,_,_,_,_,_,_,_,_,_,_,_,_,_,_,_,_,_,_,_,_,_,_,_,_,_,_,_,_,_,_,_,_,_,_,_,_,_,_,_].toArray,[]⟩) rfl (by kernel_rfl) (by kernel_rfl) (by kernel_rfl) (fun _ _ _ h_=>h_) (.inr ⟨(by kernel_rfl),rfl⟩) (by kernel_rfl) rfl ?_
     refine MW.last_pure (i:=17) (v:=undef) (listed':= #[true,true,true,true,true,true,true,true,true,true,true,true,true,true,true,true,true,true,false,false,false,false]) (a':=⟨[_,_,_,_,_,_,_,_,_,_,_,_,_,_,_,_,_,_,_,_,_,_,_,_,_,_,_,_,_,_,_,_,_,_,_,_,_,_,_,_,_,_,_,_,_,_,_,_,_,_,_,_,_,_,_,_,_,_,_,_,_,_,_,_,_,_,_,_,_,_,_,_,_,_,_,_,_,_,_,_,_,_,_,_,_,_,_,_,_,_,_,_].toArray,[]⟩) rfl (by kernel_rfl) (by kernel_rfl) (by kernel_rfl) (fun _ _ _ h_=>h_) (.inr ⟨(by kernel_rfl),rfl⟩) (by kernel_rfl) rfl ?_
     refine MW.last_pure (i:=18) (v:=undef) (listed':= #[true,true,true,true,true,true,true,true,true,true,true,true,true,true,true,true,true,true,true,false,false,false]) (a':=⟨[_,_,_,_,_,_,_,_,_,_,_,_,_,_,_,_,_,_,_,_,_,_,_,_,_,_,_,_,_,_,_,_,_,_,_,_,_,_,_,_,_,_,_,_,_,_,_,_,_,_,_,_,_,_,_,_,_,_,_,_,_,_,_,_,_,_,_,_,_,_,_,_,_,_,_,_,_,_,_,_,_,_,_,_,_,_,_,_,_,_,_,_].toArray,[]⟩) rfl (by kernel_rfl) (by kernel_rfl) (by kernel_rfl) (fun _ _ _ h_=>h_) (.inr ⟨(by kernel_rfl),rfl⟩) (by kernel_rfl) rfl ?_
     refine MW.last_pure (i:=19) (v:=undef) (listed':= #[true,true,true,true,true,true,true,true,true,true,true,true,true,true,true,true,true,true,true,true,false,false]) (a':=⟨[_,_,_,_,_,_,_,_,_,_,_,_,_,_,_,_,_,_,_,_,_,_,_,_,_,_,_,_,_,_,_,_,_,_,_,_,_,_,_,_,_,_,_,_,_,_,_,_,_,_,_,_,_,_,_,_,_,_,_,_,_,_,_,_,_,_,_,_,_,_,_,_,_,_,_,_,_,_,_,_,_,_,_,_,_,_,_,_,_,_,_,_].toArray,[]⟩) rfl (by kernel_rfl) (by kernel_rfl) (by kernel_rfl) (fun _ _ _ h_=>h_) (.inr ⟨(by kernel_rfl),rfl⟩) (by kernel_rfl) rfl ?_
     refine MW.last_pure (i:=20) (v:=undef) (listed':= #[true,true,true,true,true,true,true,true,true,true,true,true,true,true,true,true,true,true,true,true,true,false]) (a':=⟨[_,_,_,_,_,_,_,_,_,_,_,_,_,_,_,_,_,_,_,_,_,_,_,_,_,_,_,_,_,_,_,_,_,_,_,_,_,_,_,_,_,_,_,_,_,_,_,_,_,_,_,_,_,_,_,_,_,_,_,_,_,_,_,_,_,_,_,_,_,_,_,_,_,_,_,_,_,_,_,_,_,_,_,_,_,_,_,_,_,_,_,_].toArray,[]⟩) rfl (by kernel_rfl) (by kernel_rfl) (by kernel_rfl) (fun _ _ _ h_=>h_) (.inr ⟨(by kernel_rfl),rfl⟩) (by kernel_rfl) rfl ?_
     refine zlp 21 (.bool true) #[_,_,_,_,_,_,_,_,_,_,_,_,_,_,_,_,_,_,_,_,_,_] ⟨[_,_,_,_,_,_,_,_,_,_,_,_,_,_,_,_,_,_,_,_,_,_,_,_,_,_,_,_,_,_,_,_,_,_,_,_,_,_,_,_,_,_,_,_,_,_,_,_,_,_,_,_,_,_,_,_,_,_,_,_,_,_,_,_,_,_,_,_,_,_,_,_,_,_,_,_,_,_,_,_,_,_,_,_,_,_,_,_,_,_,_,_].toArray,[]⟩ (h:=?_)
     refine MW.last_done (by kernel_rfl) ?_ _
     clear hwr_
     obtain rfl:=Option.some.inj HH.out
     clear HH
     go_wp2
     go_ret
     exact zfi HB.out
    replace HH:=zd HH
    obtain⟨t384,At385,HH⟩:=HH
    go_wp2_with ((with_reducible refine gc 8 rfl ?_);refine zc 8 (some 91) Try.func8 #[] (h:=?_);(with_reducible refine(toponymlaw20_awake.calls k233  t384 _  At385.out).mono ?_);rintro e w386 ⟨rfl,hb⟩;refine⟨_,rfl,?_⟩)
    refine zg ?_
    replace BKg18:=zbb BKg18.out hb
    replace HB:=zhb HB.out hb
    clear hb
    replace cBKg18:=MB.lz6 BKg18.out
    obtain rfl:=Option.some.inj HH.out
    clear HH
    go_wp2
    go_ret
    exact zfi HB.out
 replace HH:=MW.hneg HH c4
 replace c4:=Bool.eq_false_iff.mpr c4
 subst c4
 replace HH:=zd HH
 obtain⟨t393,At394,HH⟩:=HH
 go_wp2_with ((with_reducible refine gc 8 rfl ?_);refine zc 8 (some 15) Try.func8 #[] (h:=?_);(with_reducible refine(toponymlaw20_awake.calls k  t393 _  At394.out).mono ?_);rintro e w395 ⟨rfl,hb⟩;refine⟨_,rfl,?_⟩)
 refine zg ?_
 replace HB:=zhb (by repeat(first|(with_reducible first|exact HB.out|apply below_alloc|apply pw_below_drewN|apply below_drew1)|exact HB.out)) hb
 clear hb
 obtain rfl:=Option.some.inj HH.out
 clear HH
 go_wp2
 go_ret
 exact zfi HB.out
end Go.Proofs.Ytcjafemnkhifmaa.GA
