import Derived.Test.YtapinanmmhdpcaaGA0
import Derived.Test.YtapinanmmhdpcaaGAF36
import Derived.Test.YtapinanmmhdpcaaGM1
namespace Go.Proofs.Ytapinanmmhdpcaa.GA
open Go.RowKit Go.Proofs.Ytapinanmmhdpcaa Go.Proofs.Ytapinanmmhdpcaa.MW Go.Proofs.YtapinanmmhdpcaaW.PrintWords Go.Proofs.YtapinanmmhdpcaaW.PrintLast Go.Proofs.YtapinanmmhdpcaaW.PrintMore
attribute [local go_sem] max2_int min2_int max_two min_two
set_option maxHeartbeats 8000000
set_option maxRecDepth 100000
set_option linter.unusedVariables false
set_option linter.unusedSimpArgs false
mutual
def toponymref18_Parse.l0:Nat→(List (List (S53)))→Int→(List ByteArray)→Option ((List (List (S53))) × Int)
 |0,_,_,_=>none
 |k+1,x15,x18,t11=>if x18<(t11.length:Int) then(if 0≤x18 then((toponymref18_cut.f k (rdOf ByteArray.empty t11 x18) 43).bind fun t29=>((toponymref18_Parse.l1 k ([]:List (S53)) 0 t11 t29 x15 x18))) else(none)) else((toponymref18_Check.f k x15).bind fun t86=>(if t86=0 then(some (x15,0)) else(some (([]:List (List (S53))),220))))
def toponymref18_Parse.l1:Nat→(List (S53))→Int→(List ByteArray)→(List ByteArray)→(List (List (S53)))→Int→Option ((List (List (S53))) × Int)
 |0,_,_,_,_,_,_=>none
 |k+1,x33,x36,t11,t29,x15,x18=>if x36<(t29.length:Int) then(if 0≤x36 then((toponymref18_pair.f k (rdOf ByteArray.empty t29 x36)).bind fun bt47=>(if bt47.2.2=true then(if x33.length<4398046511104 then((some (x33++[(⟨bt47.1,bt47.2.1⟩:S53)]:List (S53))).bind fun y61=>((toponymref18_Parse.l1 k y61 (wrap64 (x36+1)) t11 t29 x15 x18))) else(none)) else(some (([]:List (List (S53))),220)))) else(none)) else(if x15.length<5864062014805 then((some (x15++[x33]:List (List (S53)))).bind fun y75=>((toponymref18_Parse.l0 k y75 (wrap64 (x18+1)) t11))) else(none))
end
def toponymref18_Parse.f (k:Nat) (a0:ByteArray):Option ((List (List (S53))) × Int):=if (a0.size:Int)>3000 then(some (([]:List (List (S53))),3)) else(if a0.toList=([]:List UInt8) then(some (([]:List (List (S53))),0)) else((toponymref18_cut.f k a0 44).bind fun t11=>((toponymref18_Parse.l0 k ([]:List (List (S53))) 0 t11))))
theorem toponymref18_Parse.mono_l:∀ k,(∀ y0 y1 y2,LeO (toponymref18_Parse.l0 k y0 y1 y2) (toponymref18_Parse.l0 (k+1) y0 y1 y2))∧(∀ y0 y1 y2 y3 y4 y5,LeO (toponymref18_Parse.l1 k y0 y1 y2 y3 y4 y5) (toponymref18_Parse.l1 (k+1) y0 y1 y2 y3 y4 y5))
 |0=>⟨fun _ _ _ r h=>by simp[toponymref18_Parse.l0] at h,fun _ _ _ _ _ _ r h=>by simp[toponymref18_Parse.l1] at h⟩
 |k+1=>by
  obtain⟨ih0,ih1⟩:=toponymref18_Parse.mono_l k
  refine⟨?_,?_⟩
  ·intro y0 y1 y2
   unfold toponymref18_Parse.l0
   with_reducible repeat' first|exact ih0 _ _ _|exact ih1 _ _ _ _ _ _|exact toponymref18_Check.mono _ _|exact toponymref18_cut.mono _ _ _|exact toponymref18_pair.mono _ _|exact LeO.refl _|exact LeO.none _|refine LeO.ite ?_ ?_|refine LeO.bind ?_ (fun _=>?_)
  intro y0 y1 y2 y3 y4 y5
  unfold toponymref18_Parse.l1
  with_reducible repeat' first|exact ih0 _ _ _|exact ih1 _ _ _ _ _ _|exact toponymref18_Check.mono _ _|exact toponymref18_cut.mono _ _ _|exact toponymref18_pair.mono _ _|exact LeO.refl _|exact LeO.none _|refine LeO.ite ?_ ?_|refine LeO.bind ?_ (fun _=>?_)
theorem toponymref18_Parse.mono:∀ a0_ k,LeO (toponymref18_Parse.f k a0_) (toponymref18_Parse.f (k+1) a0_):=by
 intro a0_ k
 obtain⟨ih0,ih1⟩:=toponymref18_Parse.mono_l k
 unfold toponymref18_Parse.f
 with_reducible repeat' first|exact ih0 _ _ _|exact ih1 _ _ _ _ _ _|exact toponymref18_Check.mono _ _|exact toponymref18_cut.mono _ _ _|exact toponymref18_pair.mono _ _|exact LeO.refl _|exact LeO.none _|refine LeO.ite ?_ ?_|refine LeO.bind ?_ (fun _=>?_)
theorem toponymref18_Parse.calls (k:Nat) (a0:ByteArray) (r1:List (List (S53))) (r2:Int) (w:World) (h:toponymref18_Parse.f k a0=some (r1,r2)):
  Calls Try.prog 21 #[.string a0] w (fun e w'=>∃ (A0_:Option Addr) (c0_:Nat),e=.returned (.tuple #[.slice A0_ r1.length c0_,.int .i64 r2])∧r1.length≤c0_∧Kd.F (Kd.slice 53 k53) w' (fun k_=>w.heap.size≤k_) A0_ r1.length r1∧Below w.heap.size w w'):=by
 unfold toponymref18_Parse.f at h
 have HH:=za h
 clear h
 have HB:=za (Below.refl w.heap.size w)
 have hu53:=Try.underlying53
 go_enter Try.func21,Try.ntmps21
 replace HH:=zqK 3000 HH
 rcases HH with⟨HH,hk2,hk3⟩|⟨HH,hk4,hk5⟩
 ·have H:=HH.out
  simp only[Option.some.injEq,Prod.mk.injEq] at H
  obtain⟨rfl,rfl⟩:=H
  clear HH
  go_wp2
  go_ret2
  exact⟨none,0,by first|rfl|(simp;done)|(simp[*];done),(Nat.le_refl _),(Kd.F_nil _ _ _),HB.out⟩
 replace HH:=zqe HH
 rcases HH with⟨HH,hk7,hk8⟩|⟨HH,hk9,hk10⟩
 ·have H:=HH.out
  simp only[Option.some.injEq,Prod.mk.injEq] at H
  obtain⟨rfl,rfl⟩:=H
  clear HH
  go_wp2
  go_ret2
  exact⟨none,0,by first|rfl|(simp;done)|(simp[*];done),(Nat.le_refl _),(Kd.F_nil _ _ _),HB.out⟩
 replace HH:=zd HH
 obtain⟨t11,At12,HH⟩:=HH
 go_wp2_with ((with_reducible refine gc 35 rfl ?_);refine zc 35 (some 18) Try.func35 #[.string a0,.int .u8 44] (h:=?_);(with_reducible refine(toponymref18_cut.calls k  a0 44 t11 _  At12.out).mono ?_);rintro e w13 ⟨v14,rfl,hn14,hb⟩;refine⟨_,rfl,?_⟩)
 refine zg ?_
 have hba:=Kd.N_base hn14
 have HN14:=znl (ok2:=(fun k_=>(w.heap.size≤k_))) hn14 (below_size HB.out) (fun k_ h_=>(Nat.le_trans (below_size HB.out) h_))
 replace HB:=zhb HB.out hb
 clear hn14 hba hb
 go_wp2
 go_loopg [4,6] k (fun kq u4 u6 w'=>∃ (x15:List (List (S53))) (x18:Int),u6=.int .i64 x18∧Aside0 ((toponymref18_Parse.l0 kq x15 x18 t11)=some (r1,r2))∧Aside0 (kq≤k)∧Aside0 (Kd.N Kd.string 9 w' w.heap.size (fun k_=>(w.heap.size≤k_)∧some k_≠(u4:Value).ownBlock) v14 t11)∧Aside0 (Kd.N (Kd.slice 53 k53) 39 w' w.heap.size (fun k_=>(w.heap.size≤k_)∧some k_≠(v14:Value).ownBlock) u4 x15)∧Aside0 (Below w.heap.size w w'))
 case atStart=>exact⟨([]:List (List (S53))),0,(by first|rfl|(simp;done)|(simp[*];done)),HH,⟨Nat.le_refl _⟩,⟨(Kd.N_mono (ok:=(fun k_=>(w.heap.size≤k_))) HN14.out (fun k_ hk_=>⟨hk_,(by simp[Value.ownBlock])⟩))⟩,⟨Kd.N_nil _ _ _ _ _⟩,⟨HB.out⟩⟩
 case round=>
  clear hk4
  clear hk5
  clear hk9
  clear hk10
  clear HH
  clear HN14 HB
  obtain⟨x15,x18,rfl,HA,HK0,HN14,HN17,HB⟩:=hrel
  obtain⟨v16,rfl⟩:∃ z_:Value,z_=u4:=⟨_,rfl⟩
  obtain⟨w20,rfl⟩:∃ wo_:World,wo_=wr:=⟨_,rfl⟩
  cases gk with
  |zero=>exact absurd HA.out (by simp[toponymref18_Parse.l0])
  |succ k19=>
   have H:=HA.out
   clear HA
   simp only[toponymref18_Parse.l0] at H
   have HH:=za H
   clear H
   obtain⟨A21,cp22,he_⟩:=Kd.N_slice HN14.out
   subst he_
   replace HH:=zqt HH
   rcases HH with⟨HH,hk24,hk25⟩|⟨HH,hk80,hk81⟩
   ·replace HH:=zqdo HH
    obtain⟨HH,hk27⟩:=HH
    have p28:0≤(x18:Int):=of_decide_eq_true (by first|(with_reducible assumption)|assumption)
    have q28:x18<(t11.length:Int):=of_decide_eq_true (by first|(with_reducible assumption)|assumption)
    obtain⟨ad28,e28,hx28_0⟩:=Kd.at_string (Kd.F_now (Kd.N_F HN14.out)) x18 p28 q28
    cases e28
    replace p28:=eq_true p28
    replace q28:=eq_true q28
    replace HH:=zd HH
    obtain⟨t29,At30,HH⟩:=HH
    go_wp2_with ((with_reducible refine gc 35 rfl ?_);refine zc 35 (some 29) Try.func35 #[.string (rdOf ByteArray.empty t11 x18),.int .u8 43] (h:=?_);(with_reducible refine(toponymref18_cut.calls k19  (rdOf ByteArray.empty t11 x18) 43 t29 _  At30.out).mono ?_);rintro e w31 ⟨v32,rfl,hn32,hb⟩;refine⟨_,rfl,?_⟩)
    refine zg ?_
    have hba:=Kd.N_base hn32
    have HN32:=znl (ok2:=(fun k_=>((w.heap.size≤k_)∧some k_≠((.slice (some ad28) t11.length cp22):Value).ownBlock)∧some k_≠(v16:Value).ownBlock)) hn32 (below_size HB.out) (fun k_ h_=>⟨⟨(Nat.le_trans (below_size HB.out) h_),Kd.fresh' (Kd.N_lt HN14.out) k_ h_⟩,Kd.fresh' (Kd.N_lt HN17.out) k_ h_⟩)
    replace HN14:=znr (u:=v32) HN14.out hba hb
    replace HN17:=znr (u:=v32) HN17.out hba hb
    replace HB:=zhb HB.out hb
    clear hn32 hba hb
    clear hx28_0 p28 q28
    go_wp2
    go_loopg [7,9] k19 (fun kq u7 u9 w'=>∃ (x33:List (S53)) (x36:Int),u9=.int .i64 x36∧Aside0 ((toponymref18_Parse.l1 kq x33 x36 t11 t29 x15 x18)=some (r1,r2))∧Aside0 (kq≤k19)∧Aside0 (Kd.N Kd.string 9 w' w.heap.size (fun k_=>(((w.heap.size≤k_)∧some k_≠(v16:Value).ownBlock)∧some k_≠(v32:Value).ownBlock)∧some k_≠(u7:Value).ownBlock) (.slice (some ad28) t11.length cp22) t11)∧Aside0 (Kd.N (Kd.slice 53 k53) 39 w' w.heap.size (fun k_=>(((w.heap.size≤k_)∧some k_≠((.slice (some ad28) t11.length cp22):Value).ownBlock)∧some k_≠(v32:Value).ownBlock)∧some k_≠(u7:Value).ownBlock) v16 x15)∧Aside0 (Kd.N Kd.string 9 w' w.heap.size (fun k_=>(((w.heap.size≤k_)∧some k_≠((.slice (some ad28) t11.length cp22):Value).ownBlock)∧some k_≠(v16:Value).ownBlock)∧some k_≠(u7:Value).ownBlock) v32 t29)∧Aside0 (Kd.N k53 53 w' w.heap.size (fun k_=>(((w.heap.size≤k_)∧some k_≠((.slice (some ad28) t11.length cp22):Value).ownBlock)∧some k_≠(v16:Value).ownBlock)∧some k_≠(v32:Value).ownBlock) u7 x33)∧Aside0 (Below w.heap.size w w'))
    case atStart=>exact⟨([]:List (S53)),0,(by first|rfl|(simp;done)|(simp[*];done)),HH,⟨Nat.le_refl _⟩,⟨(Kd.N_mono (ok:=(fun k_=>((w.heap.size≤k_)∧some k_≠(v16:Value).ownBlock)∧some k_≠(v32:Value).ownBlock)) HN14.out (fun k_ hk_=>⟨⟨⟨hk_.1.1,hk_.1.2⟩,hk_.2⟩,(by simp[Value.ownBlock])⟩))⟩,⟨(Kd.N_mono (ok:=(fun k_=>((w.heap.size≤k_)∧some k_≠((.slice (some ad28) t11.length cp22):Value).ownBlock)∧some k_≠(v32:Value).ownBlock)) HN17.out (fun k_ hk_=>⟨⟨⟨hk_.1.1,hk_.1.2⟩,hk_.2⟩,(by simp[Value.ownBlock])⟩))⟩,⟨(Kd.N_mono (ok:=(fun k_=>((w.heap.size≤k_)∧some k_≠((.slice (some ad28) t11.length cp22):Value).ownBlock)∧some k_≠(v16:Value).ownBlock)) HN32.out (fun k_ hk_=>⟨⟨⟨hk_.1.1,hk_.1.2⟩,hk_.2⟩,(by simp[Value.ownBlock])⟩))⟩,⟨Kd.N_nil _ _ _ _ _⟩,⟨HB.out⟩⟩
    case round=>
     clear hk24
     clear hk25
     clear hk27
     clear HH
     clear HN14 HN17 HN32 HB
     obtain⟨x33,x36,rfl,HA,HK1,HN14,HN17,HN32,HN35,HB⟩:=hrel
     obtain⟨v34,rfl⟩:∃ z_:Value,z_=u7:=⟨_,rfl⟩
     obtain⟨w38,rfl⟩:∃ wo_:World,wo_=wr:=⟨_,rfl⟩
     cases gk with
     |zero=>exact absurd HA.out (by simp[toponymref18_Parse.l1])
     |succ k37=>
      have H:=HA.out
      clear HA
      simp only[toponymref18_Parse.l1] at H
      have HH:=za H
      clear H
      obtain⟨A39,cp40,he_⟩:=Kd.N_slice HN32.out
      subst he_
      replace HH:=zqt HH
      rcases HH with⟨HH,hk42,hk43⟩|⟨HH,hk68,hk69⟩
      ·replace HH:=zqdo HH
       obtain⟨HH,hk45⟩:=HH
       have p46:0≤(x36:Int):=of_decide_eq_true (by first|(with_reducible assumption)|assumption)
       have q46:x36<(t29.length:Int):=of_decide_eq_true (by first|(with_reducible assumption)|assumption)
       obtain⟨ad46,e46,hx46_0⟩:=Kd.at_string (Kd.F_now (Kd.N_F HN32.out)) x36 p46 q46
       cases e46
       replace p46:=eq_true p46
       replace q46:=eq_true q46
       replace HH:=zd HH
       obtain⟨⟨t47,t48,t49⟩,At50,HH⟩:=HH
       dsimp only at HH
       go_wp2_with ((with_reducible refine gc 36 rfl ?_);refine zc 36 (some 41) Try.func36 #[.string (rdOf ByteArray.empty t29 x36)] (h:=?_);(with_reducible refine(toponymref18_pair.calls k37  (rdOf ByteArray.empty t29 x36) t47 t48 t49 _  At50.out).mono ?_);rintro e w51 ⟨rfl,hb⟩;refine⟨_,rfl,?_⟩)
       refine zg ?_
       replace HN14:=znb HN14.out hb
       replace HN17:=znb HN17.out hb
       replace HN32:=znb HN32.out hb
       replace HN35:=znb HN35.out hb
       replace HB:=zhb HB.out hb
       clear hb
       clear hx46_0 p46 q46
       go_wp2_with ((with_reducible refine gd 10 rfl ?_);refine zb 10 53 #[.string (⟨#[]⟩:ByteArray),.string (⟨#[]⟩:ByteArray)] (h:=?_);intro g52 hg w53 BKg52 hb)
       refine zg ?_
       have GEg52:=zge hg (below_size HB.out)
       replace HN14:=zne HN14.out hg hb
       replace HN17:=zne HN17.out hg hb
       replace HN32:=zne HN32.out hg hb
       replace HN35:=zne HN35.out hg hb
       replace HB:=zhb HB.out hb
       clear hg hb
       replace cBKg52:=MB.lz2 BKg52.out
       go_wp2_with ((with_reducible refine gs 53 10 rfl ?_);refine zs 53 10 #[.string t47,.string t48] BKg52.out [.string t47,.string t48] (h:=?_);intro w56 hbk hg)
       refine zg ?_
       replace HN14:=zng HN14.out hg fun k_ hk_=>hk_.2
       replace HN17:=zng HN17.out hg fun k_ hk_=>hk_.2
       replace HN32:=zng HN32.out hg fun k_ hk_=>hk_.2
       replace HN35:=zng HN35.out hg fun k_ hk_=>hk_.2
       replace HB:=zhg HB.out hg (below_size HB.out) GEg52
       replace BKg52:=hbk
       clear hg hbk
       replace cBKg52:=MB.lz2 BKg52.out
       by_cases c59:t49=true
       ·replace HH:=MW.hpos HH c59
        subst c59
        obtain⟨HH,LMc60⟩:=zlm HH
        obtain⟨y61,hy61⟩:∃ y_:List (S53),y_=(x33++[(⟨t47,t48⟩:S53)]):=⟨_,rfl⟩
        have H:((toponymref18_Parse.l1 k37 y61 (wrap64 (x36+1)) t11 t29 x15 x18))=some (r1,r2):=by rw[hy61];exact HH.out
        replace HH:=za H
        clear H
        have NYy61:=za hy61
        clear hy61
        go_wp2_with (((with_reducible refine gate_dst (N:=49) rfl ?_);(try(refine gate_guard (by rfl) ?_;dsimp only));refine Kd.N_append k53 w.heap.size rfl _ _ 39 53 (.agg #[(.string ⟨#[]⟩),(.string ⟨#[]⟩)]) 32 rfl Try.underlying39 info53 rfl (by decide) (by decide) (v34) x33 (⟨t47,t48⟩:S53) [.string t47,.string t48] (fun k_=>((((w.heap.size≤k_)∧some k_≠((.slice (some ad28) t11.length cp22):Value).ownBlock)∧some k_≠(v16:Value).ownBlock)∧some k_≠((.slice (some ad46) t29.length cp40):Value).ownBlock)∧k_≠g52) (fun k_=>(fun k_=>((((w.heap.size≤k_)∧some k_≠((.slice (some ad28) t11.length cp22):Value).ownBlock)∧some k_≠(v16:Value).ownBlock)∧some k_≠((.slice (some ad46) t29.length cp40):Value).ownBlock)∧k_≠g52) k_∧some k_≠(v34:Value).ownBlock) rfl rfl (k53_mkF _ _ (⟨t47,t48⟩:S53)) (fun _ hk_=>hk_) (fun k_ h_=>⟨⟨⟨⟨(Nat.le_trans (below_size (by repeat(first|(with_reducible first|exact HB.out|apply below_alloc|apply pw_below_drewN|apply below_drew1)|exact HB.out))) h_),Kd.fresh' (Kd.N_lt (by(with_reducible repeat(first|apply Kd.N_alloc|apply Kd.N_drewN|apply Kd.N_drew));exact HN14.out)) k_ h_⟩,Kd.fresh' (Kd.N_lt (by(with_reducible repeat(first|apply Kd.N_alloc|apply Kd.N_drewN|apply Kd.N_drew));exact HN17.out)) k_ h_⟩,Kd.fresh' (Kd.N_lt (by(with_reducible repeat(first|apply Kd.N_alloc|apply Kd.N_drewN|apply Kd.N_drew));exact HN32.out)) k_ h_⟩,Kd.freshB (g:=g52) (o:=.cells #[.string t47,.string t48] 53 (0,0)) (by(with_reducible repeat(first|refine blk_drewN ?_ _|refine blk_drew ?_|refine blk_alloc ?_ _));exact BKg52.out) k_ h_⟩) (by(with_reducible repeat(first|apply Kd.N_alloc|apply Kd.N_drewN|apply Kd.N_drew));exact HN35.out) (by repeat(first|(with_reducible first|exact HB.out|apply below_alloc|apply pw_below_drewN|apply below_drew1)|exact HB.out)) (below_size (by repeat(first|(with_reducible first|exact HB.out|apply below_alloc|apply pw_below_drewN|apply below_drew1)|exact HB.out))) (by first|(have:=LMc60.out;omega)|(have:=LMc60.out;simp at *;omega)) ?_;intro v62 w63 hn1 hb1 hg1 hat1);replace hat1:=za hat1;refine stop_ ?_)
        refine zg ?_
        replace hat1:=hat1.out
        replace HN14:=za (Kd.N_mono (Kd.N_after (u:=v34) (ok:=(fun k_=>(((w.heap.size≤k_)∧some k_≠(v16:Value).ownBlock)∧some k_≠((.slice (some ad46) t29.length cp40):Value).ownBlock)∧k_≠g52)) (Kd.N_mono (ok:=(fun k_=>((((w.heap.size≤k_)∧some k_≠(v16:Value).ownBlock)∧some k_≠((.slice (some ad46) t29.length cp40):Value).ownBlock)∧some k_≠(v34:Value).ownBlock)∧k_≠g52)) (by(with_reducible repeat(first|apply Kd.N_alloc|apply Kd.N_drewN|apply Kd.N_drew));exact HN14.out) (fun k_ hk_=>⟨⟨⟨⟨hk_.1.1.1.1,hk_.1.1.1.2⟩,hk_.1.1.2⟩,hk_.2⟩,hk_.1.2⟩)) hg1 hat1) (fun k_ hk_=>hk_):Kd.N Kd.string _ _ _ (fun k_=>((((w.heap.size≤k_)∧some k_≠(v16:Value).ownBlock)∧some k_≠((.slice (some ad46) t29.length cp40):Value).ownBlock)∧k_≠g52)∧some k_≠(v62:Value).ownBlock) _ _)
        replace HN17:=za (Kd.N_mono (Kd.N_after (u:=v34) (ok:=(fun k_=>(((w.heap.size≤k_)∧some k_≠((.slice (some ad28) t11.length cp22):Value).ownBlock)∧some k_≠((.slice (some ad46) t29.length cp40):Value).ownBlock)∧k_≠g52)) (Kd.N_mono (ok:=(fun k_=>((((w.heap.size≤k_)∧some k_≠((.slice (some ad28) t11.length cp22):Value).ownBlock)∧some k_≠((.slice (some ad46) t29.length cp40):Value).ownBlock)∧some k_≠(v34:Value).ownBlock)∧k_≠g52)) (by(with_reducible repeat(first|apply Kd.N_alloc|apply Kd.N_drewN|apply Kd.N_drew));exact HN17.out) (fun k_ hk_=>⟨⟨⟨⟨hk_.1.1.1.1,hk_.1.1.1.2⟩,hk_.1.1.2⟩,hk_.2⟩,hk_.1.2⟩)) hg1 hat1) (fun k_ hk_=>hk_):Kd.N (Kd.slice 53 k53) _ _ _ (fun k_=>((((w.heap.size≤k_)∧some k_≠((.slice (some ad28) t11.length cp22):Value).ownBlock)∧some k_≠((.slice (some ad46) t29.length cp40):Value).ownBlock)∧k_≠g52)∧some k_≠(v62:Value).ownBlock) _ _)
        replace HN32:=za (Kd.N_mono (Kd.N_after (u:=v34) (ok:=(fun k_=>(((w.heap.size≤k_)∧some k_≠((.slice (some ad28) t11.length cp22):Value).ownBlock)∧some k_≠(v16:Value).ownBlock)∧k_≠g52)) (Kd.N_mono (ok:=(fun k_=>((((w.heap.size≤k_)∧some k_≠((.slice (some ad28) t11.length cp22):Value).ownBlock)∧some k_≠(v16:Value).ownBlock)∧some k_≠(v34:Value).ownBlock)∧k_≠g52)) (by(with_reducible repeat(first|apply Kd.N_alloc|apply Kd.N_drewN|apply Kd.N_drew));exact HN32.out) (fun k_ hk_=>⟨⟨⟨⟨hk_.1.1.1.1,hk_.1.1.1.2⟩,hk_.1.1.2⟩,hk_.2⟩,hk_.1.2⟩)) hg1 hat1) (fun k_ hk_=>hk_):Kd.N Kd.string _ _ _ (fun k_=>((((w.heap.size≤k_)∧some k_≠((.slice (some ad28) t11.length cp22):Value).ownBlock)∧some k_≠(v16:Value).ownBlock)∧k_≠g52)∧some k_≠(v62:Value).ownBlock) _ _)
        replace BKg52:=za (blk_grown (g:=g52) (o:=.cells #[.string t47,.string t48] 53 (0,0)) (by(with_reducible repeat(first|refine blk_drewN ?_ _|refine blk_drew ?_|refine blk_alloc ?_ _));exact BKg52.out) hg1 (Kd.N_away (ok:=(fun k_=>((((w.heap.size≤k_)∧some k_≠((.slice (some ad28) t11.length cp22):Value).ownBlock)∧some k_≠(v16:Value).ownBlock)∧some k_≠((.slice (some ad46) t29.length cp40):Value).ownBlock)∧k_≠g52)) HN35.out (fun k_ hk_=>hk_.2)))
        replace HB:=za hb1
        clear HN35
        have HN64:=za hn1
        clear hn1 hb1 hg1 hat1
        replace HN64:=za (by rw[NYy61.out];exact HN64.out:Kd.N k53 53 w63 w.heap.size (fun k_=>((((w.heap.size≤k_)∧some k_≠((.slice (some ad28) t11.length cp22):Value).ownBlock)∧some k_≠(v16:Value).ownBlock)∧some k_≠((.slice (some ad46) t29.length cp40):Value).ownBlock)∧k_≠g52) v62 y61)
        replace cBKg52:=MB.lz2 BKg52.out
        go_wp2
        go_roundg k37
        case measure=>have:=HK0.out;have:=HK1.out;omega
        case rel=>exact⟨y61,wrap64 (x36+1),(by first|rfl|(simp;done)|(simp[*];done)),HH,⟨by have:=HK0.out;have:=HK1.out;omega⟩,⟨(Kd.N_mono (ok:=(fun k_=>((((w.heap.size≤k_)∧some k_≠(v16:Value).ownBlock)∧some k_≠((.slice (some ad46) t29.length cp40):Value).ownBlock)∧k_≠g52)∧some k_≠(v62:Value).ownBlock)) HN14.out (fun k_ hk_=>⟨⟨⟨hk_.1.1.1.1,hk_.1.1.1.2⟩,hk_.1.1.2⟩,hk_.2⟩))⟩,⟨(Kd.N_mono (ok:=(fun k_=>((((w.heap.size≤k_)∧some k_≠((.slice (some ad28) t11.length cp22):Value).ownBlock)∧some k_≠((.slice (some ad46) t29.length cp40):Value).ownBlock)∧k_≠g52)∧some k_≠(v62:Value).ownBlock)) HN17.out (fun k_ hk_=>⟨⟨⟨hk_.1.1.1.1,hk_.1.1.1.2⟩,hk_.1.1.2⟩,hk_.2⟩))⟩,⟨(Kd.N_mono (ok:=(fun k_=>((((w.heap.size≤k_)∧some k_≠((.slice (some ad28) t11.length cp22):Value).ownBlock)∧some k_≠(v16:Value).ownBlock)∧k_≠g52)∧some k_≠(v62:Value).ownBlock)) HN32.out (fun k_ hk_=>⟨⟨⟨hk_.1.1.1.1,hk_.1.1.1.2⟩,hk_.1.1.2⟩,hk_.2⟩))⟩,⟨(Kd.N_mono (ok:=(fun k_=>((((w.heap.size≤k_)∧some k_≠((.slice (some ad28) t11.length cp22):Value).ownBlock)∧some k_≠(v16:Value).ownBlock)∧some k_≠((.slice (some ad46) t29.length cp40):Value).ownBlock)∧k_≠g52)) HN64.out (fun k_ hk_=>⟨⟨⟨hk_.1.1.1.1,hk_.1.1.1.2⟩,hk_.1.1.2⟩,hk_.1.2⟩))⟩,⟨HB.out⟩⟩
       replace HH:=MW.hneg HH c59
       replace c59:=Bool.eq_false_iff.mpr c59
       subst c59
       have H:=HH.out
       simp only[Option.some.injEq,Prod.mk.injEq] at H
       obtain⟨rfl,rfl⟩:=H
       clear HH
       go_wp2
       go_ret2
       exact⟨none,0,by first|rfl|(simp;done)|(simp[*];done),(Nat.le_refl _),(Kd.F_nil _ _ _),HB.out⟩
      obtain⟨A70,cp71,he_⟩:=Kd.N_slice HN35.out
      subst he_
      have HL73:=za (Kd.N_reads' HN35.out).2.1
      have HF72:=za (Kd.N_F HN35.out)
      clear HN35
      replace HN14:=za (Kd.N_mono (ok:=(fun k_=>(((w.heap.size≤k_)∧some k_≠(v16:Value).ownBlock)∧some k_≠((.slice A39 t29.length cp40):Value).ownBlock)∧some k_≠((.slice A70 x33.length cp71):Value).ownBlock)) HN14.out (fun k_ hk_=>hk_.1):Kd.N Kd.string _ _ _ (fun k_=>((w.heap.size≤k_)∧some k_≠(v16:Value).ownBlock)∧some k_≠((.slice A39 t29.length cp40):Value).ownBlock) _ _)
      replace HN17:=za (Kd.N_mono (ok:=(fun k_=>(((w.heap.size≤k_)∧some k_≠((.slice (some ad28) t11.length cp22):Value).ownBlock)∧some k_≠((.slice A39 t29.length cp40):Value).ownBlock)∧some k_≠((.slice A70 x33.length cp71):Value).ownBlock)) HN17.out (fun k_ hk_=>hk_.1):Kd.N (Kd.slice 53 k53) _ _ _ (fun k_=>((w.heap.size≤k_)∧some k_≠((.slice (some ad28) t11.length cp22):Value).ownBlock)∧some k_≠((.slice A39 t29.length cp40):Value).ownBlock) _ _)
      replace HN32:=za (Kd.N_mono (ok:=(fun k_=>(((w.heap.size≤k_)∧some k_≠((.slice (some ad28) t11.length cp22):Value).ownBlock)∧some k_≠(v16:Value).ownBlock)∧some k_≠((.slice A70 x33.length cp71):Value).ownBlock)) HN32.out (fun k_ hk_=>hk_.1):Kd.N Kd.string _ _ _ (fun k_=>((w.heap.size≤k_)∧some k_≠((.slice (some ad28) t11.length cp22):Value).ownBlock)∧some k_≠(v16:Value).ownBlock) _ _)
      obtain⟨HH,LMc74⟩:=zlm HH
      obtain⟨y75,hy75⟩:∃ y_:List (List (S53)),y_=(x15++[x33]):=⟨_,rfl⟩
      have H:((toponymref18_Parse.l0 k37 y75 (wrap64 (x18+1)) t11))=some (r1,r2):=by rw[hy75];exact HH.out
      replace HH:=za H
      clear H
      have NYy75:=za hy75
      clear hy75
      go_wp2_with (((with_reducible refine gate_dst (N:=53) rfl ?_);(try(refine gate_guard (by rfl) ?_;dsimp only));refine Kd.N_append (Kd.slice 53 k53) w.heap.size rfl _ _ 23 39 (.slice none 0 0) 24 rfl Try.underlying23 info39 rfl (by decide) (by decide) (v16) x15 x33 [.slice A70 x33.length cp71] (fun k_=>((w.heap.size≤k_)∧some k_≠((.slice (some ad28) t11.length cp22):Value).ownBlock)∧some k_≠((.slice A39 t29.length cp40):Value).ownBlock) (fun k_=>(fun k_=>((w.heap.size≤k_)∧some k_≠((.slice (some ad28) t11.length cp22):Value).ownBlock)∧some k_≠((.slice A39 t29.length cp40):Value).ownBlock) k_∧some k_≠(v16:Value).ownBlock) rfl rfl (Kd.FK_slice_mk HL73.out (Kd.F_mono (ok:=(fun k_=>(((w.heap.size≤k_)∧some k_≠((.slice (some ad28) t11.length cp22):Value).ownBlock)∧some k_≠(v16:Value).ownBlock)∧some k_≠((.slice A39 t29.length cp40):Value).ownBlock)) (by(with_reducible repeat(first|apply Kd.F_alloc|apply Kd.F_drewN|apply Kd.F_drew));exact HF72.out) (fun k_ hk_=>⟨⟨⟨hk_.1.1.1,hk_.1.1.2⟩,hk_.2⟩,hk_.1.2⟩))) (fun _ hk_=>hk_) (fun k_ h_=>⟨⟨(Nat.le_trans (below_size (by repeat(first|(with_reducible first|exact HB.out|apply below_alloc|apply pw_below_drewN|apply below_drew1)|exact HB.out))) h_),Kd.fresh' (Kd.N_lt (by(with_reducible repeat(first|apply Kd.N_alloc|apply Kd.N_drewN|apply Kd.N_drew));exact HN14.out)) k_ h_⟩,Kd.fresh' (Kd.N_lt (by(with_reducible repeat(first|apply Kd.N_alloc|apply Kd.N_drewN|apply Kd.N_drew));exact HN32.out)) k_ h_⟩) (by(with_reducible repeat(first|apply Kd.N_alloc|apply Kd.N_drewN|apply Kd.N_drew));exact HN17.out) (by repeat(first|(with_reducible first|exact HB.out|apply below_alloc|apply pw_below_drewN|apply below_drew1)|exact HB.out)) (below_size (by repeat(first|(with_reducible first|exact HB.out|apply below_alloc|apply pw_below_drewN|apply below_drew1)|exact HB.out))) (by first|(have:=LMc74.out;omega)|(have:=LMc74.out;simp at *;omega)) ?_;intro v76 w77 hn1 hb1 hg1 hat1);replace hat1:=za hat1;refine stop_ ?_)
      refine zg ?_
      replace hat1:=hat1.out
      replace HN14:=za (Kd.N_mono (Kd.N_after (u:=v16) (ok:=(fun k_=>(w.heap.size≤k_)∧some k_≠((.slice A39 t29.length cp40):Value).ownBlock)) (Kd.N_mono (ok:=(fun k_=>((w.heap.size≤k_)∧some k_≠(v16:Value).ownBlock)∧some k_≠((.slice A39 t29.length cp40):Value).ownBlock)) (by(with_reducible repeat(first|apply Kd.N_alloc|apply Kd.N_drewN|apply Kd.N_drew));exact HN14.out) (fun k_ hk_=>⟨⟨hk_.1.1,hk_.2⟩,hk_.1.2⟩)) hg1 hat1) (fun k_ hk_=>hk_):Kd.N Kd.string _ _ _ (fun k_=>((w.heap.size≤k_)∧some k_≠((.slice A39 t29.length cp40):Value).ownBlock)∧some k_≠(v76:Value).ownBlock) _ _)
      replace HB:=za hb1
      clear HN17
      have HN78:=za hn1
      clear hn1 hb1 hg1 hat1
      replace HN78:=za (by rw[NYy75.out];exact HN78.out:Kd.N (Kd.slice 53 k53) 39 w77 w.heap.size (fun k_=>((w.heap.size≤k_)∧some k_≠((.slice (some ad28) t11.length cp22):Value).ownBlock)∧some k_≠((.slice A39 t29.length cp40):Value).ownBlock) v76 y75)
      go_wp2
      go_roundg k37
      case measure=>have:=HK0.out;have:=HK1.out;omega
      case rel=>exact⟨y75,wrap64 (x18+1),(by first|rfl|(simp;done)|(simp[*];done)),HH,⟨by have:=HK0.out;have:=HK1.out;omega⟩,⟨(Kd.N_mono (ok:=(fun k_=>((w.heap.size≤k_)∧some k_≠((.slice A39 t29.length cp40):Value).ownBlock)∧some k_≠(v76:Value).ownBlock)) HN14.out (fun k_ hk_=>⟨hk_.1.1,hk_.2⟩))⟩,⟨(Kd.N_mono (ok:=(fun k_=>((w.heap.size≤k_)∧some k_≠((.slice (some ad28) t11.length cp22):Value).ownBlock)∧some k_≠((.slice A39 t29.length cp40):Value).ownBlock)) HN78.out (fun k_ hk_=>⟨hk_.1.1,hk_.1.2⟩))⟩,⟨HB.out⟩⟩
   obtain⟨A82,cp83,he_⟩:=Kd.N_slice HN17.out
   subst he_
   have HL85:=za (Kd.N_reads' HN17.out).2.1
   have HF84:=za (Kd.N_F HN17.out)
   clear HN17
   replace HH:=zd HH
   obtain⟨t86,At87,HH⟩:=HH
   go_wp2_with ((with_reducible refine gc 14 rfl ?_);refine zc 14 (some 55) Try.func14 #[.slice A82 x15.length cp83] (h:=?_);(with_reducible refine(toponymref18_Check.calls k19 (fun k_=>(w.heap.size≤k_)∧some k_≠((.slice A21 t11.length cp22):Value).ownBlock) _ _ x15 t86 _ HF84.out HL85.out At87.out).mono ?_);rintro e w' ⟨rfl,⟨nd,rfl⟩⟩;refine⟨_,rfl,?_⟩)
   refine zg ?_
   replace HH:=zqe HH
   rcases HH with⟨HH,hk90,hk91⟩|⟨HH,hk92,hk93⟩
   ·have H:=HH.out
    simp only[Option.some.injEq,Prod.mk.injEq] at H
    obtain⟨rfl,rfl⟩:=H
    clear HH
    go_wp2
    go_ret2
    exact⟨_,_,by first|rfl|(simp;done)|(simp[*];done),HL85.out,(Kd.F_mono (ok:=(fun k_=>(w.heap.size≤k_)∧some k_≠((.slice A21 t11.length cp22):Value).ownBlock)) (by(with_reducible repeat(first|apply Kd.F_alloc|apply Kd.F_drewN|apply Kd.F_drew));exact HF84.out) (fun k_ hk_=>hk_.1)),(by repeat(first|(with_reducible first|exact HB.out|apply below_alloc|apply pw_below_drewN|apply below_drew1)|exact HB.out))⟩
   have H:=HH.out
   simp only[Option.some.injEq,Prod.mk.injEq] at H
   obtain⟨rfl,rfl⟩:=H
   clear HH
   go_wp2
   go_ret2
   exact⟨none,0,by first|rfl|(simp;done)|(simp[*];done),(Nat.le_refl _),(Kd.F_nil _ _ _),(by repeat(first|(with_reducible first|exact HB.out|apply below_alloc|apply pw_below_drewN|apply below_drew1)|exact HB.out))⟩
end Go.Proofs.Ytapinanmmhdpcaa.GA
