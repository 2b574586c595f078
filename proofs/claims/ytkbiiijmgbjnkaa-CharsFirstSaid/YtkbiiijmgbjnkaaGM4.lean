import Derived.Test.YtkbiiijmgbjnkaaGA0
import Derived.Test.YtkbiiijmgbjnkaaGAF19
import Derived.Test.YtkbiiijmgbjnkaaGM1
import Derived.Test.YtkbiiijmgbjnkaaGM2
namespace Go.Proofs.Ytkbiiijmgbjnkaa.GA
open Go.RowKit Go.Proofs.Ytkbiiijmgbjnkaa Go.Proofs.Ytkbiiijmgbjnkaa.MW Go.Proofs.YtkbiiijmgbjnkaaW.PrintWords Go.Proofs.YtkbiiijmgbjnkaaW.PrintLast Go.Proofs.YtkbiiijmgbjnkaaW.PrintMore
attribute [local go_sem] max2_int min2_int max_two min_two
set_option maxHeartbeats 8000000
set_option maxRecDepth 100000
set_option linter.unusedVariables false
set_option linter.unusedSimpArgs false
mutual
def chars_Some.l0:Nat→(List Int)→Int→Int→Int→(List (S38))→Option (List Int)
 |0,_,_,_,_,_=>none
 |k+1,x15,x18,a0,a1,t9=>if x18<(t9.length:Int) then(if 0≤x18 then((chars_Some.l1 k x15 ((rd_T38 t9 x18).f0) a0 a1 t9 x18)) else(none)) else(some x15)
def chars_Some.l1:Nat→(List Int)→Int→Int→Int→(List (S38))→Int→Option (List Int)
 |0,_,_,_,_,_,_=>none
 |k+1,x36,x39,a0,a1,t9,x18=>if ((rd_T38 t9 x18).f2)=a0 then(if x39≤((rd_T38 t9 x18).f1) then(if (x36.length:Int)<a1 then(if x36.length<35184372088832 then((some (x36++[x39]:List Int)).bind fun y56=>((chars_Some.l1 k y56 (wrap32 (x39+1)) a0 a1 t9 x18))) else(none)) else((chars_Some.l0 k x36 (wrap64 (x18+1)) a0 a1 t9))) else((chars_Some.l0 k x36 (wrap64 (x18+1)) a0 a1 t9))) else((chars_Some.l0 k x36 (wrap64 (x18+1)) a0 a1 t9))
end
def chars_Some.f (k:Nat) (a0:Int) (a1:Int):Option (List Int):=if a1<1 then(some ([]:List Int)) else(if a1>500 then(some ([]:List Int)) else((chars_Table.f k).bind fun t9=>((chars_Some.l0 k ([]:List Int) 0 a0 a1 t9))))
theorem chars_Some.mono_l:∀ k,(∀ y0 y1 y2 y3 y4,LeO (chars_Some.l0 k y0 y1 y2 y3 y4) (chars_Some.l0 (k+1) y0 y1 y2 y3 y4))∧(∀ y0 y1 y2 y3 y4 y5,LeO (chars_Some.l1 k y0 y1 y2 y3 y4 y5) (chars_Some.l1 (k+1) y0 y1 y2 y3 y4 y5))
 |0=>⟨fun _ _ _ _ _ r h=>by simp[chars_Some.l0] at h,fun _ _ _ _ _ _ r h=>by simp[chars_Some.l1] at h⟩
 |k+1=>by
  obtain⟨ih0,ih1⟩:=chars_Some.mono_l k
  refine⟨?_,?_⟩
  ·intro y0 y1 y2 y3 y4
   unfold chars_Some.l0
   with_reducible repeat' first|exact ih0 _ _ _ _ _|exact ih1 _ _ _ _ _ _|exact chars_Table.mono _|exact LeO.refl _|exact LeO.none _|refine LeO.ite ?_ ?_|refine LeO.bind ?_ (fun _=>?_)
  intro y0 y1 y2 y3 y4 y5
  unfold chars_Some.l1
  with_reducible repeat' first|exact ih0 _ _ _ _ _|exact ih1 _ _ _ _ _ _|exact chars_Table.mono _|exact LeO.refl _|exact LeO.none _|refine LeO.ite ?_ ?_|refine LeO.bind ?_ (fun _=>?_)
theorem chars_Some.mono:∀ a0_ a1_ k,LeO (chars_Some.f k a0_ a1_) (chars_Some.f (k+1) a0_ a1_):=by
 intro a0_ a1_ k
 obtain⟨ih0,ih1⟩:=chars_Some.mono_l k
 unfold chars_Some.f
 with_reducible repeat' first|exact ih0 _ _ _ _ _|exact ih1 _ _ _ _ _ _|exact chars_Table.mono _|exact LeO.refl _|exact LeO.none _|refine LeO.ite ?_ ?_|refine LeO.bind ?_ (fun _=>?_)
theorem chars_Some.calls (k:Nat) (a0:Int) (a1:Int) (r:List Int) (w:World) (h:chars_Some.f k a0 a1=some r):
  Calls Try.prog 16 #[.int .i64 a0,.int .i64 a1] w (fun e w'=>∃ v0_:Value,e=.returned (v0_)∧Kd.N (Kd.int .i32) 21 w' w.heap.size (fun k_=>w.heap.size≤k_) v0_ r∧Below w.heap.size w w'):=by
 unfold chars_Some.f at h
 have HH:=za h
 clear h
 have HB:=za (Below.refl w.heap.size w)
 have hu38:=Try.underlying38
 go_enter Try.func16,Try.ntmps16
 replace HH:=zqt HH
 rcases HH with⟨HH,hk2,hk3⟩|⟨HH,hk4,hk5⟩
 ·obtain rfl:=Option.some.inj HH.out
  clear HH
  go_wp2
  go_ret
  exact⟨_,by first|rfl|(simp;done)|(simp[*];done),(Kd.N_nil _ _ _ _ _),HB.out⟩
 replace HH:=zqg HH
 rcases HH with⟨HH,hk7⟩|⟨HH,hk8⟩
 ·obtain rfl:=Option.some.inj HH.out
  clear HH
  go_wp2
  go_ret
  exact⟨_,by first|rfl|(simp;done)|(simp[*];done),(Kd.N_nil _ _ _ _ _),HB.out⟩
 replace HH:=zd HH
 obtain⟨t9,At10,HH⟩:=HH
 go_wp2_with ((with_reducible refine gc 19 rfl ?_);refine zc 19 (some 15) Try.func19 #[] (h:=?_);(with_reducible refine(chars_Table.calls k  t9 _  At10.out).mono ?_);rintro e w11 ⟨v12,rfl,hn12,hb⟩;refine⟨_,rfl,?_⟩)
 refine zg ?_
 have hba:=Kd.N_base hn12
 have HN12:=znl (ok2:=(fun k_=>(w.heap.size≤k_))) hn12 (below_size HB.out) (fun k_ h_=>(Nat.le_trans (below_size HB.out) h_))
 replace HB:=zhb HB.out hb
 clear hn12 hba hb
 obtain⟨A13,cp14,he_⟩:=Kd.N_slice HN12.out
 subst he_
 go_wp2
 go_loopg [5,17] k (fun kq u5 u17 w'=>∃ (x15:List Int) (x18:Int),u17=.int .i64 x18∧Aside0 ((chars_Some.l0 kq x15 x18 a0 a1 t9)=some r)∧Aside0 (kq≤k)∧Aside0 (Kd.N k38 38 w' w.heap.size (fun k_=>(w.heap.size≤k_)∧some k_≠(u5:Value).ownBlock) (.slice A13 t9.length cp14) t9)∧Aside0 (Kd.N (Kd.int .i32) 21 w' w.heap.size (fun k_=>(w.heap.size≤k_)∧some k_≠((.slice A13 t9.length cp14):Value).ownBlock) u5 x15)∧Aside0 (Below w.heap.size w w'))
 case atStart=>exact⟨([]:List Int),0,(by first|rfl|(simp;done)|(simp[*];done)),HH,⟨Nat.le_refl _⟩,⟨(Kd.N_mono (ok:=(fun k_=>(w.heap.size≤k_))) HN12.out (fun k_ hk_=>⟨hk_,(by simp[Value.ownBlock])⟩))⟩,⟨Kd.N_nil _ _ _ _ _⟩,⟨HB.out⟩⟩
 case round=>
  clear hk4
  clear hk5
  clear hk8
  clear HH
  clear HN12 HB
  obtain⟨x15,x18,rfl,HA,HK0,HN12,HN17,HB⟩:=hrel
  obtain⟨v16,rfl⟩:∃ z_:Value,z_=u5:=⟨_,rfl⟩
  obtain⟨w20,rfl⟩:∃ wo_:World,wo_=wr:=⟨_,rfl⟩
  cases gk with
  |zero=>exact absurd HA.out (by simp[chars_Some.l0])
  |succ k19=>
   have H:=HA.out
   clear HA
   simp only[chars_Some.l0] at H
   have HH:=za H
   clear H
   replace HH:=zqt HH
   rcases HH with⟨HH,hk22,hk23⟩|⟨HH,hk69,hk70⟩
   ·replace HH:=zqdo HH
    obtain⟨HH,hk25⟩:=HH
    have p26:0≤(x18:Int):=of_decide_eq_true (by first|(with_reducible assumption)|assumption)
    have q26:x18<(t9.length:Int):=of_decide_eq_true (by first|(with_reducible assumption)|assumption)
    obtain⟨ad26,e26,hx26_0,hx26_1,hx26_2⟩:=atF_T38 (Kd.N_F HN12.out) x18 p26 q26
    cases e26
    replace p26:=eq_true p26
    replace q26:=eq_true q26
    go_wp2_with ((with_reducible refine gd 7 rfl ?_);refine zb 7 38 #[.int .i32 0,.int .i32 0,.int .i64 0] (h:=?_);intro g27 hg w28 BKg27 hb)
    refine zg ?_
    have GEg27:=zge hg (below_size HB.out)
    replace HN12:=zne HN12.out hg hb
    replace HN17:=zne HN17.out hg hb
    replace HB:=zhb HB.out hb
    clear hg hb
    clear hx26_0 hx26_1 hx26_2 p26 q26
    replace cBKg27:=MB.lz3 BKg27.out
    go_wp2_with ((with_reducible refine gs 38 7 rfl ?_);refine zs 38 7 #[.int .i32 ((rd_T38 t9 x18).f0),.int .i32 ((rd_T38 t9 x18).f1),.int .i64 ((rd_T38 t9 x18).f2)] BKg27.out [.int .i32 ((rd_T38 t9 x18).f0),.int .i32 ((rd_T38 t9 x18).f1),.int .i64 ((rd_T38 t9 x18).f2)] (h:=?_);intro w32 hbk hg)
    refine zg ?_
    replace HN12:=zng HN12.out hg fun k_ hk_=>hk_.2
    replace HN17:=zng HN17.out hg fun k_ hk_=>hk_.2
    replace HB:=zhg HB.out hg (below_size HB.out) GEg27
    replace BKg27:=hbk
    clear hg hbk
    replace cBKg27:=MB.lz3 BKg27.out
    go_wp2
    go_loopg [5,8] k19 (fun kq u5 u8 w'=>∃ (x36:List Int) (x39:Int),u8=.int .i32 x39∧Aside0 ((chars_Some.l1 kq x36 x39 a0 a1 t9 x18)=some r)∧Aside0 (kq≤k19)∧Aside0 (Kd.N k38 38 w' w.heap.size (fun k_=>((w.heap.size≤k_)∧some k_≠(u5:Value).ownBlock)∧k_≠g27) (.slice (some ad26) t9.length cp14) t9)∧Aside0 (Kd.N (Kd.int .i32) 21 w' w.heap.size (fun k_=>((w.heap.size≤k_)∧some k_≠((.slice (some ad26) t9.length cp14):Value).ownBlock)∧k_≠g27) u5 x36)∧Aside0 (w'.heap[g27]? =some (.cells #[.int .i32 ((rd_T38 t9 x18).f0),.int .i32 ((rd_T38 t9 x18).f1),.int .i64 ((rd_T38 t9 x18).f2)] 38 (0,0)))∧Aside0 (Below w.heap.size w w'))
    case atStart=>exact⟨x15,(rd_T38 t9 x18).f0,(by first|rfl|(simp;done)|(simp[*];done)),HH,⟨Nat.le_refl _⟩,⟨(Kd.N_mono (ok:=(fun k_=>((w.heap.size≤k_)∧some k_≠(v16:Value).ownBlock)∧k_≠g27)) HN12.out (fun k_ hk_=>hk_))⟩,⟨(Kd.N_mono (ok:=(fun k_=>((w.heap.size≤k_)∧some k_≠((.slice (some ad26) t9.length cp14):Value).ownBlock)∧k_≠g27)) HN17.out (fun k_ hk_=>hk_))⟩,⟨BKg27.out⟩,⟨HB.out⟩⟩
    case round=>
     clear hk22
     clear hk23
     clear hk25
     clear HH
     clear HN12 HN17 BKg27 HB
     obtain⟨x36,x39,rfl,HA,HK1,HN12,HN38,BKg27,HB⟩:=hrel
     obtain⟨v37,rfl⟩:∃ z_:Value,z_=u5:=⟨_,rfl⟩
     obtain⟨w41,rfl⟩:∃ wo_:World,wo_=wr:=⟨_,rfl⟩
     cases gk with
     |zero=>exact absurd HA.out (by simp[chars_Some.l1])
     |succ k40=>
      have H:=HA.out
      clear HA
      simp only[chars_Some.l1] at H
      have HH:=za H
      clear H
      replace cBKg27:=MB.lz3 BKg27.out
      replace HH:=zqe HH
      rcases HH with⟨HH,hk46,hk47⟩|⟨HH,hk66,hk67⟩
      ·replace HH:=zqd HH
       rcases HH with⟨HH,hk49⟩|⟨HH,hk65⟩
       ·obtain⟨A50,cp51,he_⟩:=Kd.N_slice HN38.out
        subst he_
        replace HH:=zqt HH
        rcases HH with⟨HH,hk53,hk54⟩|⟨HH,hk63,hk64⟩
        ·obtain⟨HH,LMc55⟩:=zlm HH
         obtain⟨y56,hy56⟩:∃ y_:List Int,y_=(x36++[x39]):=⟨_,rfl⟩
         have H:((chars_Some.l1 k40 y56 (wrap32 (x39+1)) a0 a1 t9 x18))=some r:=by rw[hy56];exact HH.out
         replace HH:=za H
         clear H
         have NYy56:=za hy56
         clear hy56
         go_wp2_with (((with_reducible refine gate_dst (N:=44) rfl ?_);(try(refine gate_guard (by rfl) ?_;dsimp only));refine Kd.N_append (Kd.int .i32) w.heap.size rfl _ _ 29 21 (.int .i32 0) 4 rfl Try.underlying29 info21 rfl (by decide) (by decide) ((.slice A50 x36.length cp51)) x36 x39 [.int .i32 x39] (fun k_=>((w.heap.size≤k_)∧some k_≠((.slice (some ad26) t9.length cp14):Value).ownBlock)∧k_≠g27) (fun k_=>(fun k_=>((w.heap.size≤k_)∧some k_≠((.slice (some ad26) t9.length cp14):Value).ownBlock)∧k_≠g27) k_∧some k_≠((.slice A50 x36.length cp51):Value).ownBlock) rfl rfl (fun _ _=>rfl) (fun _ hk_=>hk_) (fun k_ h_=>⟨⟨(Nat.le_trans (below_size (by repeat(first|(with_reducible first|exact HB.out|apply below_alloc|apply pw_below_drewN|apply below_drew1)|exact HB.out))) h_),Kd.fresh' (Kd.N_lt (by(with_reducible repeat(first|apply Kd.N_alloc|apply Kd.N_drewN|apply Kd.N_drew));exact HN12.out)) k_ h_⟩,Kd.freshB (g:=g27) (o:=.cells #[.int .i32 ((rd_T38 t9 x18).f0),.int .i32 ((rd_T38 t9 x18).f1),.int .i64 ((rd_T38 t9 x18).f2)] 38 (0,0)) (by(with_reducible repeat(first|refine blk_drewN ?_ _|refine blk_drew ?_|refine blk_alloc ?_ _));exact BKg27.out) k_ h_⟩) (by(with_reducible repeat(first|apply Kd.N_alloc|apply Kd.N_drewN|apply Kd.N_drew));exact HN38.out) (by repeat(first|(with_reducible first|exact HB.out|apply below_alloc|apply pw_below_drewN|apply below_drew1)|exact HB.out)) (below_size (by repeat(first|(with_reducible first|exact HB.out|apply below_alloc|apply pw_below_drewN|apply below_drew1)|exact HB.out))) (by first|(have:=LMc55.out;omega)|(have:=LMc55.out;simp at *;omega)) ?_;intro v57 w58 hn1 hb1 hg1 hat1);replace hat1:=za hat1;refine stop_ ?_)
         refine zg ?_
         replace hat1:=hat1.out
         replace HN12:=za (Kd.N_mono (Kd.N_after (u:=(.slice A50 x36.length cp51)) (ok:=(fun k_=>(w.heap.size≤k_)∧k_≠g27)) (Kd.N_mono (ok:=(fun k_=>((w.heap.size≤k_)∧some k_≠((.slice A50 x36.length cp51):Value).ownBlock)∧k_≠g27)) (by(with_reducible repeat(first|apply Kd.N_alloc|apply Kd.N_drewN|apply Kd.N_drew));exact HN12.out) (fun k_ hk_=>⟨⟨hk_.1.1,hk_.2⟩,hk_.1.2⟩)) hg1 hat1) (fun k_ hk_=>hk_):Kd.N k38 _ _ _ (fun k_=>((w.heap.size≤k_)∧k_≠g27)∧some k_≠(v57:Value).ownBlock) _ _)
         replace BKg27:=za (blk_grown (g:=g27) (o:=.cells #[.int .i32 ((rd_T38 t9 x18).f0),.int .i32 ((rd_T38 t9 x18).f1),.int .i64 ((rd_T38 t9 x18).f2)] 38 (0,0)) (by(with_reducible repeat(first|refine blk_drewN ?_ _|refine blk_drew ?_|refine blk_alloc ?_ _));exact BKg27.out) hg1 (Kd.N_away (ok:=(fun k_=>((w.heap.size≤k_)∧some k_≠((.slice (some ad26) t9.length cp14):Value).ownBlock)∧k_≠g27)) HN38.out (fun k_ hk_=>hk_.2)))
         replace HB:=za hb1
         clear HN38
         have HN59:=za hn1
         clear hn1 hb1 hg1 hat1
         replace HN59:=za (by rw[NYy56.out];exact HN59.out:Kd.N (Kd.int .i32) 21 w58 w.heap.size (fun k_=>((w.heap.size≤k_)∧some k_≠((.slice (some ad26) t9.length cp14):Value).ownBlock)∧k_≠g27) v57 y56)
         replace cBKg27:=MB.lz3 BKg27.out
         go_wp2
         go_roundg k40
         case measure=>have:=HK0.out;have:=HK1.out;omega
         case rel=>exact⟨y56,wrap32 (x39+1),(by first|rfl|(simp;done)|(simp[*];done)),HH,⟨by have:=HK0.out;have:=HK1.out;omega⟩,⟨(Kd.N_mono (ok:=(fun k_=>((w.heap.size≤k_)∧k_≠g27)∧some k_≠(v57:Value).ownBlock)) HN12.out (fun k_ hk_=>⟨⟨hk_.1.1,hk_.2⟩,hk_.1.2⟩))⟩,⟨(Kd.N_mono (ok:=(fun k_=>((w.heap.size≤k_)∧some k_≠((.slice (some ad26) t9.length cp14):Value).ownBlock)∧k_≠g27)) HN59.out (fun k_ hk_=>hk_))⟩,⟨BKg27.out⟩,⟨HB.out⟩⟩
        go_wp2
        go_roundg k40
        case measure=>have:=HK0.out;have:=HK1.out;omega
        case rel=>exact⟨x36,wrap64 (x18+1),(by first|rfl|(simp;done)|(simp[*];done)),HH,⟨by have:=HK0.out;have:=HK1.out;omega⟩,⟨(Kd.N_mono (ok:=(fun k_=>((w.heap.size≤k_)∧some k_≠((.slice A50 x36.length cp51):Value).ownBlock)∧k_≠g27)) HN12.out (fun k_ hk_=>⟨hk_.1.1,hk_.1.2⟩))⟩,⟨(Kd.N_mono (ok:=(fun k_=>((w.heap.size≤k_)∧some k_≠((.slice (some ad26) t9.length cp14):Value).ownBlock)∧k_≠g27)) HN38.out (fun k_ hk_=>⟨hk_.1.1,hk_.1.2⟩))⟩,⟨HB.out⟩⟩
       go_wp2
       go_roundg k40
       case measure=>have:=HK0.out;have:=HK1.out;omega
       case rel=>exact⟨x36,wrap64 (x18+1),(by first|rfl|(simp;done)|(simp[*];done)),HH,⟨by have:=HK0.out;have:=HK1.out;omega⟩,⟨(Kd.N_mono (ok:=(fun k_=>((w.heap.size≤k_)∧some k_≠(v37:Value).ownBlock)∧k_≠g27)) HN12.out (fun k_ hk_=>⟨hk_.1.1,hk_.1.2⟩))⟩,⟨(Kd.N_mono (ok:=(fun k_=>((w.heap.size≤k_)∧some k_≠((.slice (some ad26) t9.length cp14):Value).ownBlock)∧k_≠g27)) HN38.out (fun k_ hk_=>⟨hk_.1.1,hk_.1.2⟩))⟩,⟨HB.out⟩⟩
      go_wp2
      go_roundg k40
      case measure=>have:=HK0.out;have:=HK1.out;omega
      case rel=>exact⟨x36,wrap64 (x18+1),(by first|rfl|(simp;done)|(simp[*];done)),HH,⟨by have:=HK0.out;have:=HK1.out;omega⟩,⟨(Kd.N_mono (ok:=(fun k_=>((w.heap.size≤k_)∧some k_≠(v37:Value).ownBlock)∧k_≠g27)) HN12.out (fun k_ hk_=>⟨hk_.1.1,hk_.1.2⟩))⟩,⟨(Kd.N_mono (ok:=(fun k_=>((w.heap.size≤k_)∧some k_≠((.slice (some ad26) t9.length cp14):Value).ownBlock)∧k_≠g27)) HN38.out (fun k_ hk_=>⟨hk_.1.1,hk_.1.2⟩))⟩,⟨HB.out⟩⟩
   obtain rfl:=Option.some.inj HH.out
   clear HH
   go_wp2
   go_ret
   exact⟨_,by first|rfl|(simp;done)|(simp[*];done),(Kd.N_mono (ok:=(fun k_=>(w.heap.size≤k_)∧some k_≠((.slice A13 t9.length cp14):Value).ownBlock)) HN17.out (fun k_ hk_=>hk_.1)),HB.out⟩

def toponymlaw03_CharsSome.f (k:Nat) (a0:Int) (a1:Int):Option (Bool):=(chars_Some.f k a0 a1).bind fun t1=>((toponymref03_Some.f k a0 a1).bind fun t5=>((toponymref01_Same.f k t1 t5).bind fun t17=>(if t17=true then((toponymlaw03_awake.f k).bind fun t21=>(some t21)) else(some false))))
theorem toponymlaw03_CharsSome.mono:∀ a0_ a1_ k,LeO (toponymlaw03_CharsSome.f k a0_ a1_) (toponymlaw03_CharsSome.f (k+1) a0_ a1_):=by
 intro a0_ a1_ k
 unfold toponymlaw03_CharsSome.f
 with_reducible repeat' first|exact chars_Some.mono _ _ _|exact toponymlaw03_awake.mono _|exact toponymref01_Same.mono _ _ _|exact toponymref03_Some.mono _ _ _|exact LeO.refl _|exact LeO.none _|refine LeO.ite ?_ ?_|refine LeO.bind ?_ (fun _=>?_)
theorem toponymlaw03_CharsSome.calls (k:Nat) (a0:Int) (a1:Int) (r:Bool) (w:World) (h:toponymlaw03_CharsSome.f k a0 a1=some r):
  Calls Try.prog 5 #[.int .i64 a0,.int .i64 a1] w (fun e w'=>e=.returned (.bool r)∧Below w.heap.size w w'):=by
 unfold toponymlaw03_CharsSome.f at h
 have HH:=za h
 clear h
 have HB:=za (Below.refl w.heap.size w)
 go_enter Try.func5,Try.ntmps5
 replace HH:=zd HH
 obtain⟨t1,At2,HH⟩:=HH
 go_wp2_with ((with_reducible refine gc 16 rfl ?_);refine zc 16 (some 7) Try.func16 #[.int .i64 a0,.int .i64 a1] (h:=?_);(with_reducible refine(chars_Some.calls k  a0 a1 t1 _  At2.out).mono ?_);rintro e w3 ⟨v4,rfl,hn4,hb⟩;refine⟨_,rfl,?_⟩)
 refine zg ?_
 have hba:=Kd.N_base hn4
 have HN4:=znl (ok2:=(fun k_=>(w.heap.size≤k_))) hn4 (below_size HB.out) (fun k_ h_=>(Nat.le_trans (below_size HB.out) h_))
 replace HB:=zhb HB.out hb
 clear hn4 hba hb
 replace HH:=zd HH
 obtain⟨t5,At6,HH⟩:=HH
 go_wp2_with ((with_reducible refine gc 17 rfl ?_);refine zc 17 (some 10) Try.func17 #[.int .i64 a0,.int .i64 a1] (h:=?_);(with_reducible refine(toponymref03_Some.calls k  a0 a1 t5 _  At6.out).mono ?_);rintro e w7 ⟨v8,rfl,hn8,hb⟩;refine⟨_,rfl,?_⟩)
 refine zg ?_
 have hba:=Kd.N_base hn8
 have HN8:=znl (ok2:=(fun k_=>(w.heap.size≤k_)∧some k_≠(v4:Value).ownBlock)) hn8 (below_size HB.out) (fun k_ h_=>⟨(Nat.le_trans (below_size HB.out) h_),Kd.fresh' (Kd.N_lt HN4.out) k_ h_⟩)
 replace HN4:=znr (u:=v8) HN4.out hba hb
 replace HB:=zhb HB.out hb
 clear hn8 hba hb
 obtain⟨A9,cp10,he_⟩:=Kd.N_slice HN4.out
 subst he_
 have HL12:=za (Kd.N_reads' HN4.out).2.1
 have HF11:=za (Kd.N_F HN4.out)
 clear HN4
 replace HN8:=za (Kd.N_mono (ok:=(fun k_=>(w.heap.size≤k_)∧some k_≠((.slice A9 t1.length cp10):Value).ownBlock)) HN8.out (fun k_ hk_=>hk_.1):Kd.N (Kd.int .i32) _ _ _ (fun k_=>(w.heap.size≤k_)) _ _)
 obtain⟨A13,cp14,he_⟩:=Kd.N_slice HN8.out
 subst he_
 have HL16:=za (Kd.N_reads' HN8.out).2.1
 have HF15:=za (Kd.N_F HN8.out)
 clear HN8
 replace HF11:=za (Kd.F_mono (ok:=(fun k_=>(w.heap.size≤k_)∧some k_≠((.slice A13 t5.length cp14):Value).ownBlock)) HF11.out (fun k_ hk_=>hk_.1):Kd.F (Kd.int .i32) _ (fun k_=>(w.heap.size≤k_)) _ _ _)
 replace HH:=zd HH
 obtain⟨t17,At18,HH⟩:=HH
 go_wp2_with ((with_reducible refine gc 15 rfl ?_);refine zc 15 (some 11) Try.func15 #[.slice A9 t1.length cp10,.slice A13 t5.length cp14] (h:=?_);(with_reducible refine(toponymref01_Same.calls k (fun k_=>(w.heap.size≤k_)) _ _ t1 _ _ t5 t17 _ HF11.out HL12.out HF15.out HL16.out At18.out).mono ?_);rintro e w' ⟨rfl,⟨nd,rfl⟩⟩;refine⟨_,rfl,?_⟩)
 refine zg ?_
 by_cases c20:t17=true
 ·replace HH:=MW.hpos HH c20
  subst c20
  replace HH:=zd HH
  obtain⟨t21,At22,HH⟩:=HH
  go_wp2_with ((with_reducible refine gc 14 rfl ?_);refine zc 14 (some 13) Try.func14 #[] (h:=?_);(with_reducible refine(toponymlaw03_awake.calls k  t21 _  At22.out).mono ?_);rintro e w23 ⟨rfl,hb⟩;refine⟨_,rfl,?_⟩)
  refine zg ?_
  replace HB:=zhb (by repeat(first|(with_reducible first|exact HB.out|apply below_alloc|apply pw_below_drewN|apply below_drew1)|exact HB.out)) hb
  clear hb
  obtain rfl:=Option.some.inj HH.out
  clear HH
  go_wp2
  go_ret
  exact zfi HB.out
 replace HH:=MW.hneg HH c20
 replace c20:=Bool.eq_false_iff.mpr c20
 subst c20
 obtain rfl:=Option.some.inj HH.out
 clear HH
 go_wp2
 go_ret
 exact zfi (by repeat(first|(with_reducible first|exact HB.out|apply below_alloc|apply pw_below_drewN|apply below_drew1)|exact HB.out))

def toponymlaw03_CharsFirst.l0:Nat→Int→Int→Int→(List Int)→Option (Bool)
 |0,_,_,_,_=>none
 |k+1,x5,a0,a1,t1=>if x5<(t1.length:Int) then(if 0≤x5 then((chars_Kind.f (rd t1 x5)).bind fun t16=>(if t16=a0 then(if x5>0 then(if 0≤(wrap64 (x5 - 1)) then(if (wrap64 (x5 - 1))<(t1.length:Int) then(if (rd t1 (wrap64 (x5 - 1)))≥(rd t1 x5) then(some false) else((toponymlaw03_CharsFirst.l0 k (wrap64 (x5+1)) a0 a1 t1))) else(none)) else(none)) else((toponymlaw03_CharsFirst.l0 k (wrap64 (x5+1)) a0 a1 t1))) else(some false))) else(none)) else(if a1≥1 then(if a1≤500 then(if a0≥1 then(if a0≤7 then((chars_Table.f k).bind fun t49=>((span_Count.f k t49 a0).bind fun t57=>(if t57<a1 then(if (t1.length:Int)=t57 then((toponymlaw03_awake.f k).bind fun t66=>(some t66)) else(some false)) else(if (t1.length:Int)=a1 then((toponymlaw03_awake.f k).bind fun t76=>(some t76)) else(some false))))) else(if (t1.length:Int)=0 then((toponymlaw03_awake.f k).bind fun t85=>(some t85)) else(some false))) else(if (t1.length:Int)=0 then((toponymlaw03_awake.f k).bind fun t95=>(some t95)) else(some false))) else(if (t1.length:Int)=0 then((toponymlaw03_awake.f k).bind fun t105=>(some t105)) else(some false))) else(if (t1.length:Int)=0 then((toponymlaw03_awake.f k).bind fun t115=>(some t115)) else(some false)))
def toponymlaw03_CharsFirst.f (k:Nat) (a0:Int) (a1:Int):Option (Bool):=(chars_Some.f k a0 a1).bind fun t1=>((toponymlaw03_CharsFirst.l0 k 0 a0 a1 t1))
theorem toponymlaw03_CharsFirst.mono_l:∀ k,(∀ y0 y1 y2 y3,LeO (toponymlaw03_CharsFirst.l0 k y0 y1 y2 y3) (toponymlaw03_CharsFirst.l0 (k+1) y0 y1 y2 y3))
 |0=>fun _ _ _ _ r h=>by simp[toponymlaw03_CharsFirst.l0] at h
 |k+1=>by
  have ih0:=toponymlaw03_CharsFirst.mono_l k
  ·intro y0 y1 y2 y3
   unfold toponymlaw03_CharsFirst.l0
   with_reducible repeat' first|exact ih0 _ _ _ _|exact chars_Some.mono _ _ _|exact chars_Table.mono _|exact span_Count.mono _ _ _|exact toponymlaw03_awake.mono _|exact LeO.refl _|exact LeO.none _|refine LeO.ite ?_ ?_|refine LeO.bind ?_ (fun _=>?_)
theorem toponymlaw03_CharsFirst.mono:∀ a0_ a1_ k,LeO (toponymlaw03_CharsFirst.f k a0_ a1_) (toponymlaw03_CharsFirst.f (k+1) a0_ a1_):=by
 intro a0_ a1_ k
 have ih0:=toponymlaw03_CharsFirst.mono_l k
 unfold toponymlaw03_CharsFirst.f
 with_reducible repeat' first|exact ih0 _ _ _ _|exact chars_Some.mono _ _ _|exact chars_Table.mono _|exact span_Count.mono _ _ _|exact toponymlaw03_awake.mono _|exact LeO.refl _|exact LeO.none _|refine LeO.ite ?_ ?_|refine LeO.bind ?_ (fun _=>?_)
theorem toponymlaw03_CharsFirst.calls (k:Nat) (a0:Int) (a1:Int) (r:Bool) (w:World) (h:toponymlaw03_CharsFirst.f k a0 a1=some r):
  Calls Try.prog 6 #[.int .i64 a0,.int .i64 a1] w (fun e w'=>e=.returned (.bool r)∧Below w.heap.size w w'):=by
 unfold toponymlaw03_CharsFirst.f at h
 have HH:=za h
 clear h
 have HB:=za (Below.refl w.heap.size w)
 go_enter Try.func6,Try.ntmps6
 replace HH:=zd HH
 obtain⟨t1,At2,HH⟩:=HH
 go_wp2_with ((with_reducible refine gc 16 rfl ?_);refine zc 16 (some 10) Try.func16 #[.int .i64 a0,.int .i64 a1] (h:=?_);(with_reducible refine(chars_Some.calls k  a0 a1 t1 _  At2.out).mono ?_);rintro e w3 ⟨v4,rfl,hn4,hb⟩;refine⟨_,rfl,?_⟩)
 refine zg ?_
 have hba:=Kd.N_base hn4
 have HN4:=znl (ok2:=(fun k_=>(w.heap.size≤k_))) hn4 (below_size HB.out) (fun k_ h_=>(Nat.le_trans (below_size HB.out) h_))
 replace HB:=zhb HB.out hb
 clear hn4 hba hb
 go_wp2
 go_loopg [6] k (fun kq u6 w'=>∃ (x5:Int),u6=.int .i64 x5∧Aside0 ((toponymlaw03_CharsFirst.l0 kq x5 a0 a1 t1)=some r)∧Aside0 (kq≤k)∧Aside0 (Kd.N (Kd.int .i32) 21 w' w.heap.size (fun k_=>(w.heap.size≤k_)) v4 t1)∧Aside0 (Below w.heap.size w w'))
 case atStart=>exact⟨0,(by first|rfl|(simp;done)|(simp[*];done)),HH,⟨Nat.le_refl _⟩,⟨(Kd.N_mono (ok:=(fun k_=>(w.heap.size≤k_))) HN4.out (fun k_ hk_=>hk_))⟩,⟨HB.out⟩⟩
 case round=>
  clear HH
  clear HN4 HB
  obtain⟨x5,rfl,HA,HK0,HN4,HB⟩:=hrel
  obtain⟨w7,rfl⟩:∃ wo_:World,wo_=wr:=⟨_,rfl⟩
  cases gk with
  |zero=>exact absurd HA.out (by simp[toponymlaw03_CharsFirst.l0])
  |succ k6=>
   have H:=HA.out
   clear HA
   simp only[toponymlaw03_CharsFirst.l0] at H
   have HH:=za H
   clear H
   obtain⟨A8,cp9,he_⟩:=Kd.N_slice HN4.out
   subst he_
   replace HH:=zqt HH
   rcases HH with⟨HH,hk11,hk12⟩|⟨HH,hk39,hk40⟩
   ·replace HH:=zqdo HH
    obtain⟨HH,hk14⟩:=HH
    have p15:0≤(x5:Int):=of_decide_eq_true (by first|(with_reducible assumption)|assumption)
    have q15:x5<(t1.length:Int):=of_decide_eq_true (by first|(with_reducible assumption)|assumption)
    obtain⟨ad15,e15,hx15_0⟩:=Kd.at_int (Kd.F_now (Kd.N_F HN4.out)) x5 p15 q15
    cases e15
    replace p15:=eq_true p15
    replace q15:=eq_true q15
    replace HH:=zd HH
    obtain⟨t16,At17,HH⟩:=HH
    replace HH:=zqe HH
    rcases HH with⟨HH,hk19,hk20⟩|⟨HH,hk36,hk37⟩
    ·replace HH:=zqg HH
     rcases HH with⟨HH,hk22⟩|⟨HH,hk35⟩
     ·replace HH:=zqdo HH
      obtain⟨HH,hk24⟩:=HH
      replace HH:=zqto HH
      obtain⟨HH,hk26,hk27⟩:=HH
      have p28:0≤((wrap64 (x5 - 1)):Int):=of_decide_eq_true (by first|(with_reducible assumption)|assumption)
      have q28:(wrap64 (x5 - 1))<(t1.length:Int):=of_decide_eq_true (by first|(with_reducible assumption)|assumption)
      obtain⟨ad28,e28,hx28_0⟩:=Kd.at_int (Kd.F_now (Kd.N_F HN4.out)) (wrap64 (x5 - 1)) p28 q28
      cases e28
      replace p28:=eq_true p28
      replace q28:=eq_true q28
      replace HH:=zqG HH
      rcases HH with⟨HH,hk30⟩|⟨HH,hk31⟩
      ·obtain rfl:=Option.some.inj HH.out
       clear HH
       go_wp2
       go_quiet ((first|(go_at_call 8;first|exact Calls.quiet_of (MW.drawn (chars_Kind.calls  (rd t1 x5) t16 _  At17.out))|exact MW.quiet_far (MW.drawn (chars_Kind.calls  (rd t1 x5) t16 _  At17.out)))))
       go_wp2
       go_ret
       exact zfi (by repeat(first|(with_reducible first|exact HB.out|apply below_alloc|apply pw_below_drewN|apply below_drew1)|exact HB.out))
      go_wp2
      go_quiet ((first|(go_at_call 8;first|exact Calls.quiet_of (MW.drawn (chars_Kind.calls  (rd t1 x5) t16 _  At17.out))|exact MW.quiet_far (MW.drawn (chars_Kind.calls  (rd t1 x5) t16 _  At17.out)))))
      go_wp2
      go_roundg k6
      case measure=>have:=HK0.out;omega
      case rel=>exact⟨wrap64 (x5+1),(by first|rfl|(simp;done)|(simp[*];done)),HH,⟨by have:=HK0.out;omega⟩,⟨(Kd.N_mono (ok:=(fun k_=>(w.heap.size≤k_))) (by(with_reducible repeat(first|apply Kd.N_alloc|apply Kd.N_drewN|apply Kd.N_drew));exact HN4.out) (fun k_ hk_=>hk_))⟩,⟨(by repeat(first|(with_reducible first|exact HB.out|apply below_alloc|apply pw_below_drewN|apply below_drew1)|exact HB.out))⟩⟩
     go_wp2
     go_quiet ((first|(go_at_call 8;first|exact Calls.quiet_of (MW.drawn (chars_Kind.calls  (rd t1 x5) t16 _  At17.out))|exact MW.quiet_far (MW.drawn (chars_Kind.calls  (rd t1 x5) t16 _  At17.out)))))
     go_wp2
     go_roundg k6
     case measure=>have:=HK0.out;omega
     case rel=>exact⟨wrap64 (x5+1),(by first|rfl|(simp;done)|(simp[*];done)),HH,⟨by have:=HK0.out;omega⟩,⟨(Kd.N_mono (ok:=(fun k_=>(w.heap.size≤k_))) (by(with_reducible repeat(first|apply Kd.N_alloc|apply Kd.N_drewN|apply Kd.N_drew));exact HN4.out) (fun k_ hk_=>hk_))⟩,⟨(by repeat(first|(with_reducible first|exact HB.out|apply below_alloc|apply pw_below_drewN|apply below_drew1)|exact HB.out))⟩⟩
    obtain rfl:=Option.some.inj HH.out
    clear HH
    go_wp2
    go_quiet ((first|(go_at_call 8;first|exact Calls.quiet_of (MW.drawn (chars_Kind.calls  (rd t1 x5) t16 _  At17.out))|exact MW.quiet_far (MW.drawn (chars_Kind.calls  (rd t1 x5) t16 _  At17.out)))))
    go_wp2
    go_ret
    exact zfi (by repeat(first|(with_reducible first|exact HB.out|apply below_alloc|apply pw_below_drewN|apply below_drew1)|exact HB.out))
   replace HH:=zqG HH
   rcases HH with⟨HH,hk42⟩|⟨HH,hk111⟩
   ·replace HH:=zqd HH
    rcases HH with⟨HH,hk44⟩|⟨HH,hk101⟩
    ·replace HH:=zqG HH
     rcases HH with⟨HH,hk46⟩|⟨HH,hk91⟩
     ·replace HH:=zqd HH
      rcases HH with⟨HH,hk48⟩|⟨HH,hk81⟩
      ·replace HH:=zd HH
       obtain⟨t49,At50,HH⟩:=HH
       go_wp2_with ((with_reducible refine gc 19 rfl ?_);refine zc 19 (some 55) Try.func19 #[] (h:=?_);(with_reducible refine(chars_Table.calls k6  t49 _  At50.out).mono ?_);rintro e w51 ⟨v52,rfl,hn52,hb⟩;refine⟨_,rfl,?_⟩)
       refine zg ?_
       have hba:=Kd.N_base hn52
       have HN52:=znl (ok2:=(fun k_=>(w.heap.size≤k_)∧some k_≠((.slice A8 t1.length cp9):Value).ownBlock)) hn52 (below_size HB.out) (fun k_ h_=>⟨(Nat.le_trans (below_size HB.out) h_),Kd.fresh' (Kd.N_lt HN4.out) k_ h_⟩)
       replace HB:=zhb HB.out hb
       clear hn52 hba hb
       obtain⟨A53,cp54,he_⟩:=Kd.N_slice HN52.out
       subst he_
       have HL56:=za (Kd.N_reads' HN52.out).2.1
       have HF55:=za (Kd.N_F HN52.out)
       clear HN52
       replace HH:=zd HH
       obtain⟨t57,At58,HH⟩:=HH
       go_wp2_with ((with_reducible refine gc 18 rfl ?_);refine zc 18 (some 57) Try.func18 #[.slice A53 t49.length cp54,.int .i64 a0] (h:=?_);(with_reducible refine(span_Count.calls k6 (fun k_=>(w.heap.size≤k_)∧some k_≠((.slice A8 t1.length cp9):Value).ownBlock) _ _ t49 a0 t57 _ HF55.out HL56.out At58.out).mono ?_);rintro e w59 ⟨rfl,hb⟩;refine⟨_,rfl,?_⟩)
       refine zg ?_
       replace HB:=zhb HB.out hb
       clear hb
       replace HH:=zqt HH
       rcases HH with⟨HH,hk61,hk62⟩|⟨HH,hk71,hk72⟩
       ·replace HH:=zqe HH
        rcases HH with⟨HH,hk64,hk65⟩|⟨HH,hk69,hk70⟩
        ·replace HH:=zd HH
         obtain⟨t66,At67,HH⟩:=HH
         go_wp2_with ((with_reducible refine gc 14 rfl ?_);refine zc 14 (some 64) Try.func14 #[] (h:=?_);(with_reducible refine(toponymlaw03_awake.calls k6  t66 _  At67.out).mono ?_);rintro e w68 ⟨rfl,hb⟩;refine⟨_,rfl,?_⟩)
         refine zg ?_
         replace HB:=zhb HB.out hb
         clear hb
         obtain rfl:=Option.some.inj HH.out
         clear HH
         go_wp2
         go_ret
         exact zfi HB.out
        obtain rfl:=Option.some.inj HH.out
        clear HH
        go_wp2
        go_ret
        exact zfi HB.out
       replace HH:=zqe HH
       rcases HH with⟨HH,hk74,hk75⟩|⟨HH,hk79,hk80⟩
       ·replace HH:=zd HH
        obtain⟨t76,At77,HH⟩:=HH
        go_wp2_with ((with_reducible refine gc 14 rfl ?_);refine zc 14 (some 64) Try.func14 #[] (h:=?_);(with_reducible refine(toponymlaw03_awake.calls k6  t76 _  At77.out).mono ?_);rintro e w78 ⟨rfl,hb⟩;refine⟨_,rfl,?_⟩)
        refine zg ?_
        replace HB:=zhb HB.out hb
        clear hb
        obtain rfl:=Option.some.inj HH.out
        clear HH
        go_wp2
        go_ret
        exact zfi HB.out
       obtain rfl:=Option.some.inj HH.out
       clear HH
       go_wp2
       go_ret
       exact zfi HB.out
      by_cases c82:(t1.length:Int)=0
      ·replace HH:=MW.hpos HH c82
       have hk83:((t1.length:Int)==0)=true:=beq_iff_eq.mpr c82
       have hk84:((t1.length:Int) != 0)=false:=bne_eq_false_iff_eq.mpr c82
       clear c82
       replace HH:=zd HH
       obtain⟨t85,At86,HH⟩:=HH
       go_wp2_with ((with_reducible refine gc 14 rfl ?_);refine zc 14 (some 64) Try.func14 #[] (h:=?_);(with_reducible refine(toponymlaw03_awake.calls k6  t85 _  At86.out).mono ?_);rintro e w87 ⟨rfl,hb⟩;refine⟨_,rfl,?_⟩)
       refine zg ?_
       replace HB:=zhb HB.out hb
       clear hb
       obtain rfl:=Option.some.inj HH.out
       clear HH
       go_wp2
       go_ret
       exact zfi HB.out
      replace HH:=MW.hneg HH c82
      have hk88:((t1.length:Int)==0)=false:=beq_eq_false_iff_ne.mpr c82
      have hk89:((t1.length:Int) != 0)=true:=bne_iff_ne.mpr c82
      have hk90: ¬ (t1=[]):=fun h_=>c82 (by rw[h_];rfl)
      clear c82
      obtain rfl:=Option.some.inj HH.out
      clear HH
      go_wp2
      go_ret
      exact zfi HB.out
     by_cases c92:(t1.length:Int)=0
     ·replace HH:=MW.hpos HH c92
      have hk93:((t1.length:Int)==0)=true:=beq_iff_eq.mpr c92
      have hk94:((t1.length:Int) != 0)=false:=bne_eq_false_iff_eq.mpr c92
      clear c92
      replace HH:=zd HH
      obtain⟨t95,At96,HH⟩:=HH
      go_wp2_with ((with_reducible refine gc 14 rfl ?_);refine zc 14 (some 64) Try.func14 #[] (h:=?_);(with_reducible refine(toponymlaw03_awake.calls k6  t95 _  At96.out).mono ?_);rintro e w97 ⟨rfl,hb⟩;refine⟨_,rfl,?_⟩)
      refine zg ?_
      replace HB:=zhb HB.out hb
      clear hb
      obtain rfl:=Option.some.inj HH.out
      clear HH
      go_wp2
      go_ret
      exact zfi HB.out
     replace HH:=MW.hneg HH c92
     have hk98:((t1.length:Int)==0)=false:=beq_eq_false_iff_ne.mpr c92
     have hk99:((t1.length:Int) != 0)=true:=bne_iff_ne.mpr c92
     have hk100: ¬ (t1=[]):=fun h_=>c92 (by rw[h_];rfl)
     clear c92
     obtain rfl:=Option.some.inj HH.out
     clear HH
     go_wp2
     go_ret
     exact zfi HB.out
    by_cases c102:(t1.length:Int)=0
    ·replace HH:=MW.hpos HH c102
     have hk103:((t1.length:Int)==0)=true:=beq_iff_eq.mpr c102
     have hk104:((t1.length:Int) != 0)=false:=bne_eq_false_iff_eq.mpr c102
     clear c102
     replace HH:=zd HH
     obtain⟨t105,At106,HH⟩:=HH
     go_wp2_with ((with_reducible refine gc 14 rfl ?_);refine zc 14 (some 64) Try.func14 #[] (h:=?_);(with_reducible refine(toponymlaw03_awake.calls k6  t105 _  At106.out).mono ?_);rintro e w107 ⟨rfl,hb⟩;refine⟨_,rfl,?_⟩)
     refine zg ?_
     replace HB:=zhb HB.out hb
     clear hb
     obtain rfl:=Option.some.inj HH.out
     clear HH
     go_wp2
     go_ret
     exact zfi HB.out
    replace HH:=MW.hneg HH c102
    have hk108:((t1.length:Int)==0)=false:=beq_eq_false_iff_ne.mpr c102
    have hk109:((t1.length:Int) != 0)=true:=bne_iff_ne.mpr c102
    have hk110: ¬ (t1=[]):=fun h_=>c102 (by rw[h_];rfl)
    clear c102
    obtain rfl:=Option.some.inj HH.out
    clear HH
    go_wp2
    go_ret
    exact zfi HB.out
   by_cases c112:(t1.length:Int)=0
   ·replace HH:=MW.hpos HH c112
    have hk113:((t1.length:Int)==0)=true:=beq_iff_eq.mpr c112
    have hk114:((t1.length:Int) != 0)=false:=bne_eq_false_iff_eq.mpr c112
    clear c112
    replace HH:=zd HH
    obtain⟨t115,At116,HH⟩:=HH
    go_wp2_with ((with_reducible refine gc 14 rfl ?_);refine zc 14 (some 64) Try.func14 #[] (h:=?_);(with_reducible refine(toponymlaw03_awake.calls k6  t115 _  At116.out).mono ?_);rintro e w117 ⟨rfl,hb⟩;refine⟨_,rfl,?_⟩)
    refine zg ?_
    replace HB:=zhb HB.out hb
    clear hb
    obtain rfl:=Option.some.inj HH.out
    clear HH
    go_wp2
    go_ret
    exact zfi HB.out
   replace HH:=MW.hneg HH c112
   have hk118:((t1.length:Int)==0)=false:=beq_eq_false_iff_ne.mpr c112
   have hk119:((t1.length:Int) != 0)=true:=bne_iff_ne.mpr c112
   have hk120: ¬ (t1=[]):=fun h_=>c112 (by rw[h_];rfl)
   clear c112
   obtain rfl:=Option.some.inj HH.out
   clear HH
   go_wp2
   go_ret
   exact zfi HB.out
end Go.Proofs.Ytkbiiijmgbjnkaa.GA
