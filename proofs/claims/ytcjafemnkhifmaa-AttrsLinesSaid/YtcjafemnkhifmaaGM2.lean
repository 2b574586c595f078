import Derived.Test.YtcjafemnkhifmaaGA0
import Derived.Test.YtcjafemnkhifmaaGAF12
import Derived.Test.YtcjafemnkhifmaaGAF21
import Derived.Test.YtcjafemnkhifmaaGM1
namespace Go.Proofs.Ytcjafemnkhifmaa.GA
open Go.RowKit Go.Proofs.Ytcjafemnkhifmaa Go.Proofs.Ytcjafemnkhifmaa.MW Go.Proofs.YtcjafemnkhifmaaW.PrintWords Go.Proofs.YtcjafemnkhifmaaW.PrintLast Go.Proofs.YtcjafemnkhifmaaW.PrintMore
attribute [local go_sem] max2_int min2_int max_two min_two
set_option maxHeartbeats 8000000
set_option maxRecDepth 100000
set_option linter.unusedVariables false
set_option linter.unusedSimpArgs false
def toponymref20_Find.f (k:Nat) (l0:List (S26)) (a1:ByteArray):Option (ByteArray × ByteArray × Int × Int × Bool × Bool × Bool):=(toponymref20_at.f k l0 a1).bind fun t9=>((toponymref20_Check.f k l0).bind fun t12=>(if t12=0 then(if t9<0 then(some ((⟨#[]⟩:ByteArray),(⟨#[]⟩:ByteArray),0,0,false,false,false)) else(if 0≤t9 then(if t9<(l0.length:Int) then(some ((rd_T26 l0 t9).f0,(rd_T26 l0 t9).f1,(rd_T26 l0 t9).f2,(rd_T26 l0 t9).f3,(rd_T26 l0 t9).f4,(rd_T26 l0 t9).f5,true)) else(none)) else(none))) else(some ((⟨#[]⟩:ByteArray),(⟨#[]⟩:ByteArray),0,0,false,false,false))))
theorem toponymref20_Find.mono:∀ a0_ a1_ k,LeO (toponymref20_Find.f k a0_ a1_) (toponymref20_Find.f (k+1) a0_ a1_):=by
 intro a0_ a1_ k
 unfold toponymref20_Find.f
 with_reducible repeat' first|exact toponymref20_Check.mono _ _|exact toponymref20_at.mono _ _ _|exact LeO.refl _|exact LeO.none _|refine LeO.ite ?_ ?_|refine LeO.bind ?_ (fun _=>?_)
theorem toponymref20_Find.calls (k:Nat) (P_:Nat→Prop) (A0:Option Addr) (c0:Nat) (l0:List (S26)) (a1:ByteArray) (r1:ByteArray) (r2:ByteArray) (r3:Int) (r4:Int) (r5:Bool) (r6:Bool) (r7:Bool) (w:World) (hs0:Kd.F k26 w P_ A0 l0.length l0) (hc0:l0.length≤c0) (h:toponymref20_Find.f k l0 a1=some (r1,r2,r3,r4,r5,r6,r7)):
  Calls Try.prog 10 #[.slice A0 l0.length c0,.string a1] w (fun e w'=>e=.returned (.tuple #[.agg #[.string r1,.string r2,.int .i64 r3,.int .i64 r4,.bool r5,.bool r6],.bool r7])∧Below w.heap.size w w'):=by
 unfold toponymref20_Find.f at h
 have HH:=za h
 clear h
 have HF0:=zfp hs0
 have HL0:=za hc0
 clear hs0 hc0
 have HB:=za (Below.refl w.heap.size w)
 have hu26:=Try.underlying26
 go_enter Try.func10,Try.ntmps10
 go_wp2_with ((with_reducible refine gd 4 rfl ?_);refine zb 4 26 #[.string (⟨#[]⟩:ByteArray),.string (⟨#[]⟩:ByteArray),.int .i64 0,.int .i64 0,.bool false,.bool false] (h:=?_);intro g1 hg w2 BKg1 hb)
 refine zg ?_
 have GEg1:=zge hg (below_size HB.out)
 replace HF0:=zfe HF0.out hg hb
 replace HB:=zhb HB.out hb
 clear hg hb
 replace cBKg1:=MB.lz6 BKg1.out
 replace HH:=zd HH
 obtain⟨t9,At10,HH⟩:=HH
 go_wp2_with ((with_reducible refine gc 25 rfl ?_);refine zc 25 (some 9) Try.func25 #[.slice A0 l0.length c0,.string a1] (h:=?_);(with_reducible refine(toponymref20_at.calls k (fun k_=>(P_ k_∨w.heap.size≤k_)∧k_≠g1) _ _ l0 a1 t9 _ HF0.out HL0.out At10.out).mono ?_);rintro e w' ⟨rfl,⟨nd,rfl⟩⟩;refine⟨_,rfl,?_⟩)
 refine zg ?_
 replace HH:=zd HH
 obtain⟨t12,At13,HH⟩:=HH
 go_wp2_with ((with_reducible refine gc 12 rfl ?_);refine zc 12 (some 11) Try.func12 #[.slice A0 l0.length c0] (h:=?_);(with_reducible refine(toponymref20_Check.calls k (fun k_=>(P_ k_∨w.heap.size≤k_)∧k_≠g1) _ _ l0 t12 _ (by(with_reducible repeat(first|apply Kd.F_alloc|apply Kd.F_drewN|apply Kd.F_drew));exact HF0.out) HL0.out At13.out).mono ?_);rintro e w14 ⟨rfl,hb⟩;refine⟨_,rfl,?_⟩)
 refine zg ?_
 replace HF0:=zfb (by(with_reducible repeat(first|apply Kd.F_alloc|apply Kd.F_drewN|apply Kd.F_drew));exact HF0.out) hb
 replace BKg1:=za (blk_below (g:=g1) (o:=.cells #[.string (⟨#[]⟩:ByteArray),.string (⟨#[]⟩:ByteArray),.int .i64 0,.int .i64 0,.bool false,.bool false] 26 (0,0)) (by(with_reducible repeat(first|refine blk_drewN ?_ _|refine blk_drew ?_|refine blk_alloc ?_ _));exact BKg1.out) hb)
 replace HB:=zhb (by repeat(first|(with_reducible first|exact HB.out|apply below_alloc|apply pw_below_drewN|apply below_drew1)|exact HB.out)) hb
 clear hb
 replace cBKg1:=MB.lz6 BKg1.out
 replace HH:=zqe HH
 rcases HH with⟨HH,hk22,hk23⟩|⟨HH,hk52,hk53⟩
 ·replace HH:=zqt HH
  rcases HH with⟨HH,hk25,hk26⟩|⟨HH,hk34,hk35⟩
  ·go_wp2_with ((with_reducible refine gs 26 4 rfl ?_);refine zs 26 4 #[.string (⟨#[]⟩:ByteArray),.string (⟨#[]⟩:ByteArray),.int .i64 0,.int .i64 0,.bool false,.bool false] BKg1.out [.string (⟨#[]⟩:ByteArray),.string (⟨#[]⟩:ByteArray),.int .i64 0,.int .i64 0,.bool false,.bool false] (h:=?_);intro w27 hbk hg)
   refine zg ?_
   replace HB:=zhg HB.out hg (below_size HB.out) GEg1
   replace BKg1:=hbk
   clear hg hbk
   replace cBKg1:=MB.lz6 BKg1.out
   have H:=HH.out
   simp only[Option.some.injEq,Prod.mk.injEq] at H
   obtain⟨rfl,rfl,rfl,rfl,rfl,rfl,rfl⟩:=H
   clear HH
   go_wp2
   refine bodyPost_ret (results_ct rfl _ _ g1 26 #[.string (⟨#[]⟩:ByteArray),.string (⟨#[]⟩:ByteArray),.int .i64 0,.int .i64 0,.bool false,.bool false] (0,0) _ rfl BKg1.out Try.underlying26 rfl (by kernel_rfl)) rfl ?_
   exact zfi HB.out
  replace HH:=zqdo HH
  obtain⟨HH,hk37⟩:=HH
  replace HH:=zqto HH
  obtain⟨HH,hk39,hk40⟩:=HH
  have p41:0≤(t9:Int):=of_decide_eq_true (by first|(with_reducible assumption)|assumption)
  have q41:t9<(l0.length:Int):=of_decide_eq_true (by first|(with_reducible assumption)|assumption)
  obtain⟨ad41,e41,hx41_0,hx41_1,hx41_2,hx41_3,hx41_4,hx41_5⟩:=atF_T26 HF0.out t9 p41 q41
  cases e41
  replace p41:=eq_true p41
  replace q41:=eq_true q41
  go_wp2_with ((with_reducible refine gs 26 4 rfl ?_);refine zs 26 4 #[.string ((rd_T26 l0 t9).f0),.string ((rd_T26 l0 t9).f1),.int .i64 ((rd_T26 l0 t9).f2),.int .i64 ((rd_T26 l0 t9).f3),.bool ((rd_T26 l0 t9).f4),.bool ((rd_T26 l0 t9).f5)] BKg1.out [.string ((rd_T26 l0 t9).f0),.string ((rd_T26 l0 t9).f1),.int .i64 ((rd_T26 l0 t9).f2),.int .i64 ((rd_T26 l0 t9).f3),.bool ((rd_T26 l0 t9).f4),.bool ((rd_T26 l0 t9).f5)] (h:=?_);intro w42 hbk hg)
  refine zg ?_
  replace HB:=zhg HB.out hg (below_size HB.out) GEg1
  replace BKg1:=hbk
  clear hg hbk
  clear hx41_0 hx41_1 hx41_2 hx41_3 hx41_4 hx41_5 p41 q41
  replace cBKg1:=MB.lz6 BKg1.out
  have H:=HH.out
  simp only[Option.some.injEq,Prod.mk.injEq] at H
  obtain⟨rfl,rfl,rfl,rfl,rfl,rfl,rfl⟩:=H
  clear HH
  go_wp2
  refine bodyPost_ret (results_ct rfl _ _ g1 26 #[.string ((rd_T26 l0 t9).f0),.string ((rd_T26 l0 t9).f1),.int .i64 ((rd_T26 l0 t9).f2),.int .i64 ((rd_T26 l0 t9).f3),.bool ((rd_T26 l0 t9).f4),.bool ((rd_T26 l0 t9).f5)] (0,0) _ rfl BKg1.out Try.underlying26 rfl (by kernel_rfl)) rfl ?_
  exact zfi HB.out
 go_wp2_with ((with_reducible refine gs 26 4 rfl ?_);refine zs 26 4 #[.string (⟨#[]⟩:ByteArray),.string (⟨#[]⟩:ByteArray),.int .i64 0,.int .i64 0,.bool false,.bool false] BKg1.out [.string (⟨#[]⟩:ByteArray),.string (⟨#[]⟩:ByteArray),.int .i64 0,.int .i64 0,.bool false,.bool false] (h:=?_);intro w54 hbk hg)
 refine zg ?_
 replace HB:=zhg HB.out hg (below_size HB.out) GEg1
 replace BKg1:=hbk
 clear hg hbk
 replace cBKg1:=MB.lz6 BKg1.out
 have H:=HH.out
 simp only[Option.some.injEq,Prod.mk.injEq] at H
 obtain⟨rfl,rfl,rfl,rfl,rfl,rfl,rfl⟩:=H
 clear HH
 go_wp2
 refine bodyPost_ret (results_ct rfl _ _ g1 26 #[.string (⟨#[]⟩:ByteArray),.string (⟨#[]⟩:ByteArray),.int .i64 0,.int .i64 0,.bool false,.bool false] (0,0) _ rfl BKg1.out Try.underlying26 rfl (by kernel_rfl)) rfl ?_
 exact zfi HB.out

def toponymref20_Line.l0:Nat→(List ByteArray)→Int→(List (S26))→Option (List ByteArray)
 |0,_,_,_=>none
 |k+1,x10,x13,l0=>if x13≥0 then(if 0≤x13 then(if x13<(l0.length:Int) then(if x10.length<8796093022208 then((some (x10++[(rd_T26 l0 x13).f0]:List ByteArray)).bind fun y26=>((toponymref20_at.f k l0 ((rd_T26 l0 x13).f1)).bind fun t31=>((toponymref20_Line.l0 k y26 t31 l0)))) else(none)) else(none)) else(none)) else(some x10)
def toponymref20_Line.f (k:Nat) (l0:List (S26)) (a1:ByteArray):Option (List ByteArray):=(toponymref20_Check.f k l0).bind fun t1=>(if t1=0 then((toponymref20_at.f k l0 a1).bind fun t7=>((toponymref20_Line.l0 k ([]:List ByteArray) t7 l0))) else(some ([]:List ByteArray)))
theorem toponymref20_Line.mono_l:∀ k,(∀ y0 y1 y2,LeO (toponymref20_Line.l0 k y0 y1 y2) (toponymref20_Line.l0 (k+1) y0 y1 y2))
 |0=>fun _ _ _ r h=>by simp[toponymref20_Line.l0] at h
 |k+1=>by
  have ih0:=toponymref20_Line.mono_l k
  ·intro y0 y1 y2
   unfold toponymref20_Line.l0
   with_reducible repeat' first|exact ih0 _ _ _|exact toponymref20_Check.mono _ _|exact toponymref20_at.mono _ _ _|exact LeO.refl _|exact LeO.none _|refine LeO.ite ?_ ?_|refine LeO.bind ?_ (fun _=>?_)
theorem toponymref20_Line.mono:∀ a0_ a1_ k,LeO (toponymref20_Line.f k a0_ a1_) (toponymref20_Line.f (k+1) a0_ a1_):=by
 intro a0_ a1_ k
 have ih0:=toponymref20_Line.mono_l k
 unfold toponymref20_Line.f
 with_reducible repeat' first|exact ih0 _ _ _|exact toponymref20_Check.mono _ _|exact toponymref20_at.mono _ _ _|exact LeO.refl _|exact LeO.none _|refine LeO.ite ?_ ?_|refine LeO.bind ?_ (fun _=>?_)
theorem toponymref20_Line.calls (k:Nat) (P_:Nat→Prop) (A0:Option Addr) (c0:Nat) (l0:List (S26)) (a1:ByteArray) (r:List ByteArray) (w:World) (hs0:Kd.F k26 w P_ A0 l0.length l0) (hc0:l0.length≤c0) (h:toponymref20_Line.f k l0 a1=some r):
  Calls Try.prog 20 #[.slice A0 l0.length c0,.string a1] w (fun e w'=>∃ v0_:Value,e=.returned (v0_)∧Kd.N Kd.string 9 w' w.heap.size (fun k_=>P_ k_∨w.heap.size≤k_) v0_ r∧Below w.heap.size w w'):=by
 unfold toponymref20_Line.f at h
 have HH:=za h
 clear h
 have HF0:=zfp hs0
 have HL0:=za hc0
 clear hs0 hc0
 have HB:=za (Below.refl w.heap.size w)
 go_enter Try.func20,Try.ntmps20
 replace HH:=zd HH
 obtain⟨t1,At2,HH⟩:=HH
 go_wp2_with ((with_reducible refine gc 12 rfl ?_);refine zc 12 (some 8) Try.func12 #[.slice A0 l0.length c0] (h:=?_);(with_reducible refine(toponymref20_Check.calls k (fun k_=>(P_ k_∨w.heap.size≤k_)) _ _ l0 t1 _ HF0.out HL0.out At2.out).mono ?_);rintro e w3 ⟨rfl,hb⟩;refine⟨_,rfl,?_⟩)
 refine zg ?_
 replace HF0:=zfb HF0.out hb
 replace HB:=zhb HB.out hb
 clear hb
 replace HH:=zqe HH
 rcases HH with⟨HH,hk5,hk6⟩|⟨HH,hk38,hk39⟩
 ·replace HH:=zd HH
  obtain⟨t7,At8,HH⟩:=HH
  go_wp2_with ((with_reducible refine gc 25 rfl ?_);refine zc 25 (some 13) Try.func25 #[.slice A0 l0.length c0,.string a1] (h:=?_);(with_reducible refine(toponymref20_at.calls k (fun k_=>(P_ k_∨w.heap.size≤k_)) _ _ l0 a1 t7 _ HF0.out HL0.out At8.out).mono ?_);rintro e w' ⟨rfl,⟨nd,rfl⟩⟩;refine⟨_,rfl,?_⟩)
  refine zg ?_
  go_wp2
  go_loopg [5,6] k (fun kq u5 u6 w'=>∃ (x10:List ByteArray) (x13:Int),u6=.int .i64 x13∧Aside0 ((toponymref20_Line.l0 kq x10 x13 l0)=some r)∧Aside0 (kq≤k)∧Aside0 (Kd.F k26 w' (fun k_=>(P_ k_∨w.heap.size≤k_)∧some k_≠(u5:Value).ownBlock) A0 l0.length l0)∧Aside0 (Kd.N Kd.string 9 w' w.heap.size (fun k_=>(P_ k_∨w.heap.size≤k_)) u5 x10)∧Aside0 (Below w.heap.size w w'))
  case atStart=>exact⟨([]:List ByteArray),t7,(by first|rfl|(simp;done)|(simp[*];done)),HH,⟨Nat.le_refl _⟩,⟨(Kd.F_mono (ok:=(fun k_=>(P_ k_∨w.heap.size≤k_))) (by(with_reducible repeat(first|apply Kd.F_alloc|apply Kd.F_drewN|apply Kd.F_drew));exact HF0.out) (fun k_ hk_=>⟨hk_,(by simp[Value.ownBlock])⟩))⟩,⟨Kd.N_nil _ _ _ _ _⟩,⟨(by repeat(first|(with_reducible first|exact HB.out|apply below_alloc|apply pw_below_drewN|apply below_drew1)|exact HB.out))⟩⟩
  case round=>
   clear hk5
   clear hk6
   clear HH
   clear HF0 HB
   obtain⟨x10,x13,rfl,HA,HK0,HF0,HN12,HB⟩:=hrel
   obtain⟨v11,rfl⟩:∃ z_:Value,z_=u5:=⟨_,rfl⟩
   obtain⟨w15,rfl⟩:∃ wo_:World,wo_=wr:=⟨_,rfl⟩
   cases gk with
   |zero=>exact absurd HA.out (by simp[toponymref20_Line.l0])
   |succ k16=>
    have H:=HA.out
    clear HA
    simp only[toponymref20_Line.l0] at H
    have HH:=za H
    clear H
    replace HH:=zqG HH
    rcases HH with⟨HH,hk18⟩|⟨HH,hk37⟩
    ·replace HH:=zqdo HH
     obtain⟨HH,hk20⟩:=HH
     replace HH:=zqto HH
     obtain⟨HH,hk22,hk23⟩:=HH
     have p24:0≤(x13:Int):=of_decide_eq_true (by first|(with_reducible assumption)|assumption)
     have q24:x13<(l0.length:Int):=of_decide_eq_true (by first|(with_reducible assumption)|assumption)
     obtain⟨ad24,e24,hx24_0,hx24_1,hx24_2,hx24_3,hx24_4,hx24_5⟩:=atF_T26 HF0.out x13 p24 q24
     cases e24
     replace p24:=eq_true p24
     replace q24:=eq_true q24
     obtain⟨HH,LMc25⟩:=zlm HH
     obtain⟨y26,hy26⟩:∃ y_:List ByteArray,y_=(x10++[(rd_T26 l0 x13).f0]):=⟨_,rfl⟩
     have H:((toponymref20_at.f k16 l0 ((rd_T26 l0 x13).f1)).bind fun t31=>((toponymref20_Line.l0 k16 y26 t31 l0)))=some r:=by rw[hy26];exact HH.out
     replace HH:=za H
     clear H
     have NYy26:=za hy26
     clear hy26
     go_wp2_with (((with_reducible refine gate_dst (N:=23) rfl ?_);(try(refine gate_guard (by rfl) ?_;dsimp only));refine Kd.N_append Kd.string w.heap.size rfl _ _ 36 9 (.string ⟨#[]⟩) 16 rfl Try.underlying36 info9 rfl (by decide) (by decide) (v11) x10 ((rd_T26 l0 x13).f0) [.string ((rd_T26 l0 x13).f0)] (fun k_=>(P_ k_∨w.heap.size≤k_)) (fun k_=>(fun k_=>(P_ k_∨w.heap.size≤k_)) k_∧some k_≠(v11:Value).ownBlock) rfl rfl (fun _ _=>rfl) (fun _ hk_=>hk_) (fun k_ h_=>.inr (Nat.le_trans (below_size (by repeat(first|(with_reducible first|exact HB.out|apply below_alloc|apply pw_below_drewN|apply below_drew1)|exact HB.out))) h_)) (by(with_reducible repeat(first|apply Kd.N_alloc|apply Kd.N_drewN|apply Kd.N_drew));exact HN12.out) (by repeat(first|(with_reducible first|exact HB.out|apply below_alloc|apply pw_below_drewN|apply below_drew1)|exact HB.out)) (below_size (by repeat(first|(with_reducible first|exact HB.out|apply below_alloc|apply pw_below_drewN|apply below_drew1)|exact HB.out))) (by first|(have:=LMc25.out;omega)|(have:=LMc25.out;simp at *;omega)) ?_;intro v27 w28 hn1 hb1 hg1 hat1);replace hat1:=za hat1;refine stop_ ?_)
     refine zg ?_
     replace hat1:=hat1.out
     replace HF0:=za (Kd.F_mono (Kd.F_after (v:=v11) (ok:=(fun k_=>(P_ k_∨w.heap.size≤k_))) (Kd.F_mono (ok:=(fun k_=>(P_ k_∨w.heap.size≤k_)∧some k_≠(v11:Value).ownBlock)) (by(with_reducible repeat(first|apply Kd.F_alloc|apply Kd.F_drewN|apply Kd.F_drew));exact HF0.out) (fun k_ hk_=>⟨hk_.1,hk_.2⟩)) hg1 hat1) (fun k_ hk_=>hk_):Kd.F k26 _ (fun k_=>(P_ k_∨w.heap.size≤k_)∧some k_≠(v27:Value).ownBlock) _ _ _)
     replace HB:=za hb1
     clear HN12
     have HN29:=za hn1
     clear hn1 hb1 hg1 hat1
     replace HN29:=za (by rw[NYy26.out];exact HN29.out:Kd.N Kd.string 9 w28 w.heap.size (fun k_=>(P_ k_∨w.heap.size≤k_)) v27 y26)
     clear hx24_0 hx24_1 hx24_2 hx24_3 hx24_4 hx24_5 p24 q24
     have p30:0≤(x13:Int):=of_decide_eq_true (by first|(with_reducible assumption)|assumption)
     have q30:x13<(l0.length:Int):=of_decide_eq_true (by first|(with_reducible assumption)|assumption)
     obtain⟨ad30,e30,hx30_0,hx30_1,hx30_2,hx30_3,hx30_4,hx30_5⟩:=atF_T26 HF0.out x13 p30 q30
     cases e30
     replace p30:=eq_true p30
     replace q30:=eq_true q30
     replace HH:=zd HH
     obtain⟨t31,At32,HH⟩:=HH
     go_wp2_with ((with_reducible refine gc 25 rfl ?_);refine zc 25 (some 30) Try.func25 #[.slice (some ad24) l0.length c0,.string ((rd_T26 l0 x13).f1)] (h:=?_);(with_reducible refine(toponymref20_at.calls k16 (fun k_=>(P_ k_∨w.heap.size≤k_)∧some k_≠(v27:Value).ownBlock) _ _ l0 ((rd_T26 l0 x13).f1) t31 _ HF0.out HL0.out At32.out).mono ?_);rintro e w' ⟨rfl,⟨nd,rfl⟩⟩;refine⟨_,rfl,?_⟩)
     refine zg ?_
     go_wp2
     go_roundg k16
     case measure=>have:=HK0.out;omega
     case rel=>exact⟨y26,t31,(by first|rfl|(simp;done)|(simp[*];done)),HH,⟨by have:=HK0.out;omega⟩,⟨(by(with_reducible repeat(first|apply Kd.F_alloc|apply Kd.F_drewN|apply Kd.F_drew));exact HF0.out)⟩,⟨(Kd.N_mono (ok:=(fun k_=>(P_ k_∨w.heap.size≤k_))) (by(with_reducible repeat(first|apply Kd.N_alloc|apply Kd.N_drewN|apply Kd.N_drew));exact HN29.out) (fun k_ hk_=>hk_))⟩,⟨(by repeat(first|(with_reducible first|exact HB.out|apply below_alloc|apply pw_below_drewN|apply below_drew1)|exact HB.out))⟩⟩
    obtain rfl:=Option.some.inj HH.out
    clear HH
    go_wp2
    go_ret
    exact⟨_,by first|rfl|(simp;done)|(simp[*];done),(Kd.N_mono (ok:=(fun k_=>(P_ k_∨w.heap.size≤k_))) HN12.out (fun k_ hk_=>hk_)),HB.out⟩
 obtain rfl:=Option.some.inj HH.out
 clear HH
 go_wp2
 go_ret
 exact⟨_,by first|rfl|(simp;done)|(simp[*];done),(Kd.N_nil _ _ _ _ _),HB.out⟩

def toponymref20_Is.l0:Nat→Int→ByteArray→(List ByteArray)→Option (Bool)
 |0,_,_,_=>none
 |k+1,x5,a2,t1=>if x5<(t1.length:Int) then(if 0≤x5 then(if (rdOf ByteArray.empty t1 x5).toList=a2.toList then(some true) else((toponymref20_Is.l0 k (wrap64 (x5+1)) a2 t1))) else(none)) else(some false)
def toponymref20_Is.f (k:Nat) (l0:List (S26)) (a1:ByteArray) (a2:ByteArray):Option (Bool):=(toponymref20_Line.f k l0 a1).bind fun t1=>((toponymref20_Is.l0 k 0 a2 t1))
theorem toponymref20_Is.mono_l:∀ k,(∀ y0 y1 y2,LeO (toponymref20_Is.l0 k y0 y1 y2) (toponymref20_Is.l0 (k+1) y0 y1 y2))
 |0=>fun _ _ _ r h=>by simp[toponymref20_Is.l0] at h
 |k+1=>by
  have ih0:=toponymref20_Is.mono_l k
  ·intro y0 y1 y2
   unfold toponymref20_Is.l0
   with_reducible repeat' first|exact ih0 _ _ _|exact toponymref20_Line.mono _ _ _|exact LeO.refl _|exact LeO.none _|refine LeO.ite ?_ ?_|refine LeO.bind ?_ (fun _=>?_)
theorem toponymref20_Is.mono:∀ a0_ a1_ a2_ k,LeO (toponymref20_Is.f k a0_ a1_ a2_) (toponymref20_Is.f (k+1) a0_ a1_ a2_):=by
 intro a0_ a1_ a2_ k
 have ih0:=toponymref20_Is.mono_l k
 unfold toponymref20_Is.f
 with_reducible repeat' first|exact ih0 _ _ _|exact toponymref20_Line.mono _ _ _|exact LeO.refl _|exact LeO.none _|refine LeO.ite ?_ ?_|refine LeO.bind ?_ (fun _=>?_)
theorem toponymref20_Is.calls (k:Nat) (P_:Nat→Prop) (A0:Option Addr) (c0:Nat) (l0:List (S26)) (a1:ByteArray) (a2:ByteArray) (r:Bool) (w:World) (hs0:Kd.F k26 w P_ A0 l0.length l0) (hc0:l0.length≤c0) (h:toponymref20_Is.f k l0 a1 a2=some r):
  Calls Try.prog 17 #[.slice A0 l0.length c0,.string a1,.string a2] w (fun e w'=>e=.returned (.bool r)∧Below w.heap.size w w'):=by
 unfold toponymref20_Is.f at h
 have HH:=za h
 clear h
 have HF0:=zfp hs0
 have HL0:=za hc0
 clear hs0 hc0
 have HB:=za (Below.refl w.heap.size w)
 go_enter Try.func17,Try.ntmps17
 replace HH:=zd HH
 obtain⟨t1,At2,HH⟩:=HH
 go_wp2_with ((with_reducible refine gc 20 rfl ?_);refine zc 20 (some 11) Try.func20 #[.slice A0 l0.length c0,.string a1] (h:=?_);(with_reducible refine(toponymref20_Line.calls k (fun k_=>(P_ k_∨w.heap.size≤k_)) _ _ l0 a1 t1 _ HF0.out HL0.out At2.out).mono ?_);rintro e w3 ⟨v4,rfl,hn4,hb⟩;refine⟨_,rfl,?_⟩)
 refine zg ?_
 have hba:=Kd.N_base hn4
 have HN4:=znl (ok2:=(fun k_=>(P_ k_∨w.heap.size≤k_))) hn4 (below_size HB.out) (fun k_ hk_=>hk_.elim (fun h_=>h_) (fun h_=>.inr (Nat.le_trans (below_size HB.out) h_)))
 replace HF0:=zfr (v:=v4) HF0.out hba hb
 replace HB:=zhb HB.out hb
 clear hn4 hba hb
 go_wp2
 go_loopg [8] k (fun kq u8 w'=>∃ (x5:Int),u8=.int .i64 x5∧Aside0 ((toponymref20_Is.l0 kq x5 a2 t1)=some r)∧Aside0 (kq≤k)∧Aside0 (Kd.N Kd.string 9 w' w.heap.size (fun k_=>(P_ k_∨w.heap.size≤k_)) v4 t1)∧Aside0 (Below w.heap.size w w'))
 case atStart=>exact⟨0,(by first|rfl|(simp;done)|(simp[*];done)),HH,⟨Nat.le_refl _⟩,⟨(Kd.N_mono (ok:=(fun k_=>(P_ k_∨w.heap.size≤k_))) HN4.out (fun k_ hk_=>hk_))⟩,⟨HB.out⟩⟩
 case round=>
  clear HH
  clear HF0 HN4 HB
  obtain⟨x5,rfl,HA,HK0,HN4,HB⟩:=hrel
  obtain⟨w7,rfl⟩:∃ wo_:World,wo_=wr:=⟨_,rfl⟩
  cases gk with
  |zero=>exact absurd HA.out (by simp[toponymref20_Is.l0])
  |succ k6=>
   have H:=HA.out
   clear HA
   simp only[toponymref20_Is.l0] at H
   have HH:=za H
   clear H
   obtain⟨A8,cp9,he_⟩:=Kd.N_slice HN4.out
   subst he_
   replace HH:=zqt HH
   rcases HH with⟨HH,hk11,hk12⟩|⟨HH,hk22,hk23⟩
   ·replace HH:=zqdo HH
    obtain⟨HH,hk14⟩:=HH
    have p15:0≤(x5:Int):=of_decide_eq_true (by first|(with_reducible assumption)|assumption)
    have q15:x5<(t1.length:Int):=of_decide_eq_true (by first|(with_reducible assumption)|assumption)
    obtain⟨ad15,e15,hx15_0⟩:=Kd.at_string (Kd.F_now (Kd.N_F HN4.out)) x5 p15 q15
    cases e15
    replace p15:=eq_true p15
    replace q15:=eq_true q15
    replace HH:=zqe HH
    rcases HH with⟨HH,hk17,hk18⟩|⟨HH,hk19,hk20⟩
    ·obtain rfl:=Option.some.inj HH.out
     clear HH
     go_wp2
     go_ret
     exact zfi HB.out
    go_wp2
    go_roundg k6
    case measure=>have:=HK0.out;omega
    case rel=>exact⟨wrap64 (x5+1),(by first|rfl|(simp;done)|(simp[*];done)),HH,⟨by have:=HK0.out;omega⟩,⟨(Kd.N_mono (ok:=(fun k_=>(P_ k_∨w.heap.size≤k_))) HN4.out (fun k_ hk_=>hk_))⟩,⟨HB.out⟩⟩
   obtain rfl:=Option.some.inj HH.out
   clear HH
   go_wp2
   go_ret
   exact zfi HB.out

def toponymlaw20_awake.f (k:Nat)  :Option (Bool):=(toponymlaw20_types.f).bind fun t1=>((attrs_Find.f k t1 (⟨#[99,110]⟩:ByteArray)).bind fun bt9=>((attrs_Check.f k t1).bind fun t33=>(if t33=0 then(if bt9.2.2.2.2.2.2=true then(if bt9.2.1.toList=([110,97,109,101]:List UInt8) then((attrs_Line.f k t1 (⟨#[99,110]⟩:ByteArray)).bind fun t49=>((toponymref16_SameTexts.f k t49 ([(⟨#[99,110]⟩:ByteArray),(⟨#[110,97,109,101]⟩:ByteArray)]:List ByteArray)).bind fun t76=>(if t76=true then((attrs_Below.f k t1 ([(⟨#[110,97,109,101]⟩:ByteArray)]:List ByteArray)).bind fun t93=>(if (t93.length:Int)=3 then((attrs_Is.f k t1 (⟨#[115,110]⟩:ByteArray) (⟨#[110,97,109,101]⟩:ByteArray)).bind fun t108=>(if t108=true then((attrs_Is.f k t1 (⟨#[110,97,109,101]⟩:ByteArray) (⟨#[115,110]⟩:ByteArray)).bind fun t118=>(if t118=true then(some false) else((attrs_Check.f k [(⟨(⟨#[97]⟩:ByteArray),(⟨#[97]⟩:ByteArray),1,0,false,false⟩:S26)]).bind fun t141=>(if t141=190 then((attrs_Rules.f 10).bind fun t153=>(some ((t153.length:Int)==3))) else(some false))))) else(some false))) else(some false))) else(some false)))) else(some false)) else(some false)) else(some false))))
theorem toponymlaw20_awake.mono:∀ k,LeO (toponymlaw20_awake.f k) (toponymlaw20_awake.f (k+1)):=by
 intro  k
 unfold toponymlaw20_awake.f
 with_reducible repeat' first|exact attrs_Below.mono _ _ _|exact attrs_Check.mono _ _|exact attrs_Find.mono _ _ _|exact attrs_Is.mono _ _ _ _|exact attrs_Line.mono _ _ _|exact toponymref16_SameTexts.mono _ _ _|exact LeO.refl _|exact LeO.none _|refine LeO.ite ?_ ?_|refine LeO.bind ?_ (fun _=>?_)
theorem toponymlaw20_awake.calls (k:Nat) (r:Bool) (w:World) (h:toponymlaw20_awake.f k  =some r):
  Calls Try.prog 8 #[] w (fun e w'=>e=.returned (.bool r)∧Below w.heap.size w w'):=by
 unfold toponymlaw20_awake.f at h
 have HH:=za h
 clear h
 have HB:=za (Below.refl w.heap.size w)
 have hu26:=Try.underlying26
 go_enter Try.func8,Try.ntmps8
 replace HH:=zd HH
 obtain⟨t1,At2,HH⟩:=HH
 go_wp2_with ((with_reducible refine gc 23 rfl ?_);refine zc 23 (some 4) Try.func23 #[] (h:=?_);(with_reducible refine(toponymlaw20_types.calls  t1 _  At2.out).mono ?_);rintro e w3 ⟨v4,rfl,hn4,hb⟩;refine⟨_,rfl,?_⟩)
 refine zg ?_
 have hba:=Kd.N_base hn4
 have HN4:=znl (ok2:=(fun k_=>(w.heap.size≤k_))) hn4 (below_size HB.out) (fun k_ h_=>(Nat.le_trans (below_size HB.out) h_))
 replace HB:=zhb HB.out hb
 clear hn4 hba hb
 obtain⟨A5,cp6,he_⟩:=Kd.N_slice HN4.out
 subst he_
 have HL8:=za (Kd.N_reads' HN4.out).2.1
 have HF7:=za (Kd.N_F HN4.out)
 clear HN4
 replace HH:=zd HH
 obtain⟨⟨t9,t10,t11,t12,t13,t14,t15⟩,At16,HH⟩:=HH
 dsimp only at HH
 go_wp2_with ((with_reducible refine gc 9 rfl ?_);refine zc 9 (some 7) Try.func9 #[.slice A5 t1.length cp6,.string (⟨#[99,110]⟩:ByteArray)] (h:=?_);(with_reducible refine(attrs_Find.calls k (fun k_=>(w.heap.size≤k_)) _ _ t1 (⟨#[99,110]⟩:ByteArray) t9 t10 t11 t12 t13 t14 t15 _ HF7.out HL8.out At16.out).mono ?_);rintro e w17 ⟨rfl,hb⟩;refine⟨_,rfl,?_⟩)
 refine zg ?_
 replace HF7:=zfb HF7.out hb
 replace HB:=zhb HB.out hb
 clear hb
 go_wp2_with ((with_reducible refine gd 2 rfl ?_);refine zb 2 26 #[.string (⟨#[]⟩:ByteArray),.string (⟨#[]⟩:ByteArray),.int .i64 0,.int .i64 0,.bool false,.bool false] (h:=?_);intro g18 hg w19 BKg18 hb)
 refine zg ?_
 have GEg18:=zge hg (below_size HB.out)
 replace HF7:=zfe HF7.out hg hb
 replace HB:=zhb HB.out hb
 clear hg hb
 replace cBKg18:=MB.lz6 BKg18.out
 go_wp2_with ((with_reducible refine gs 26 2 rfl ?_);refine zs 26 2 #[.string t9,.string t10,.int .i64 t11,.int .i64 t12,.bool t13,.bool t14] BKg18.out [.string t9,.string t10,.int .i64 t11,.int .i64 t12,.bool t13,.bool t14] (h:=?_);intro w26 hbk hg)
 refine zg ?_
 replace HF7:=zfg HF7.out hg fun k_ hk_=>hk_.2
 replace HB:=zhg HB.out hg (below_size HB.out) GEg18
 replace BKg18:=hbk
 clear hg hbk
 replace cBKg18:=MB.lz6 BKg18.out
 replace HH:=zd HH
 obtain⟨t33,At34,HH⟩:=HH
 go_wp2_with ((with_reducible refine gc 11 rfl ?_);refine zc 11 (some 11) Try.func11 #[.slice A5 t1.length cp6] (h:=?_);(with_reducible refine(attrs_Check.calls k (fun k_=>(w.heap.size≤k_)∧k_≠g18) _ _ t1 t33 _ HF7.out HL8.out At34.out).mono ?_);rintro e w35 ⟨rfl,hb⟩;refine⟨_,rfl,?_⟩)
 refine zg ?_
 replace HF7:=zfb HF7.out hb
 replace BKg18:=zbb BKg18.out hb
 replace HB:=zhb HB.out hb
 clear hb
 replace cBKg18:=MB.lz6 BKg18.out
 replace HH:=zqe HH
 rcases HH with⟨HH,hk43,hk44⟩|⟨HH,hk171,hk172⟩
 ·by_cases c45:t15=true
  ·replace HH:=MW.hpos HH c45
   subst c45
   replace HH:=zqe HH
   rcases HH with⟨HH,hk47,hk48⟩|⟨HH,hk169,hk170⟩
   ·replace HH:=zd HH
    obtain⟨t49,At50,HH⟩:=HH
    go_wp2_with ((with_reducible refine gc 19 rfl ?_);refine zc 19 (some 23) Try.func19 #[.slice A5 t1.length cp6,.string (⟨#[99,110]⟩:ByteArray)] (h:=?_);(with_reducible refine(attrs_Line.calls k (fun k_=>(w.heap.size≤k_)∧k_≠g18) _ _ t1 (⟨#[99,110]⟩:ByteArray) t49 _ HF7.out HL8.out At50.out).mono ?_);rintro e w51 ⟨v52,rfl,hn52,hb⟩;refine⟨_,rfl,?_⟩)
    refine zg ?_
    have hba:=Kd.N_base hn52
    have HN52:=znl (ok2:=(fun k_=>(w.heap.size≤k_)∧k_≠g18)) hn52 (below_size HB.out) (fun k_ hk_=>hk_.elim (fun h_=>h_) (fun h_=>⟨(Nat.le_trans (below_size HB.out) h_),Kd.freshB (g:=g18) BKg18.out k_ h_⟩))
    replace HF7:=zfr (v:=v52) HF7.out hba hb
    replace BKg18:=zbb BKg18.out hb
    replace HB:=zhb HB.out hb
    clear hn52 hba hb
    replace cBKg18:=MB.lz6 BKg18.out
    go_wp2_with (((with_reducible refine gate_dst (N:=24) rfl ?_);(try(refine gate_guard (by rfl) ?_;dsimp only));refine Kd.N_lit Kd.string w.heap.size 9 rfl (N':=24) rfl (xs:=([(⟨#[99,110]⟩:ByteArray),(⟨#[110,97,109,101]⟩:ByteArray)]:List ByteArray)) (inner:=[.string (⟨#[99,110]⟩:ByteArray),.string (⟨#[110,97,109,101]⟩:ByteArray)]) (ok:=(fun k_=>((w.heap.size≤k_)∧some k_≠(v52:Value).ownBlock)∧k_≠g18)) (okp:=(fun k_=>((w.heap.size≤k_)∧some k_≠(v52:Value).ownBlock)∧k_≠g18)) ?hr ?hp (fun _ hk_=>hk_) ?hf HB.out (below_size HB.out) (by first|simp|decide) ?_;(case hr=>first|(go_simp;done)|(go_simp;rfl));(case hp=>exact(Reps.one (fun _ _=>rfl) (Reps.one (fun _ _=>rfl) (Reps.none _ _))));(case hf=>exact(show ∀ k_,w51.heap.size≤k_→(fun k_=>((w.heap.size≤k_)∧some k_≠(v52:Value).ownBlock)∧k_≠g18) k_ from fun k_ h_=>⟨⟨(Nat.le_trans (below_size HB.out) h_),Kd.fresh' (Kd.N_lt HN52.out) k_ h_⟩,Kd.freshB (g:=g18) BKg18.out k_ h_⟩) _ (Nat.le_refl _));intro v59 w60 hn1 hb1 hg1 hat1);replace hat1:=za hat1;refine stop_ ?_)
    refine zg ?_
    replace hat1:=hat1.out
    have hbe:=MW.grown_below hg1
    have hba:=MW.base_of hat1
    replace HF7:=za (Kd.F_mono (Kd.F_elder' (ok:=(fun k_=>((w.heap.size≤k_)∧k_≠g18)∧some k_≠(v52:Value).ownBlock)) HF7.out hba hbe) (fun k_ hk_=>hk_):Kd.F k26 _ (fun k_=>(((w.heap.size≤k_)∧k_≠g18)∧some k_≠(v52:Value).ownBlock)∧some k_≠(v59:Value).ownBlock) _ _ _)
    replace HN52:=za (Kd.N_mono (Kd.N_elder' (ok:=(fun k_=>(w.heap.size≤k_)∧k_≠g18)) HN52.out hba hbe) (fun k_ hk_=>hk_):Kd.N Kd.string _ _ _ (fun k_=>((w.heap.size≤k_)∧k_≠g18)∧some k_≠(v59:Value).ownBlock) _ _)
    replace BKg18:=za (blk_below (g:=g18) BKg18.out hbe)
    replace HB:=za hb1
    have HN61:=za hn1
    clear hn1 hb1 hg1 hat1 hbe hba
    replace cBKg18:=MB.lz6 BKg18.out
    obtain⟨A68,cp69,he_⟩:=Kd.N_slice HN52.out
    subst he_
    have HL71:=za (Kd.N_reads' HN52.out).2.1
    have HF70:=za (Kd.N_F HN52.out)
    clear HN52
    replace HF7:=za (Kd.F_mono (ok:=(fun k_=>(((w.heap.size≤k_)∧k_≠g18)∧some k_≠((.slice A68 t49.length cp69):Value).ownBlock)∧some k_≠(v59:Value).ownBlock)) HF7.out (fun k_ hk_=>⟨⟨hk_.1.1.1,hk_.1.1.2⟩,hk_.2⟩):Kd.F k26 _ (fun k_=>((w.heap.size≤k_)∧k_≠g18)∧some k_≠(v59:Value).ownBlock) _ _ _)
    replace HN61:=za (Kd.N_mono (ok:=(fun k_=>((w.heap.size≤k_)∧some k_≠((.slice A68 t49.length cp69):Value).ownBlock)∧k_≠g18)) HN61.out (fun k_ hk_=>⟨hk_.1.1,hk_.2⟩):Kd.N Kd.string _ _ _ (fun k_=>(w.heap.size≤k_)∧k_≠g18) _ _)
    obtain⟨A72,cp73,he_⟩:=Kd.N_slice HN61.out
    subst he_
    have HL75:=za (Kd.N_reads' HN61.out).2.1
    have HF74:=za (Kd.N_F HN61.out)
    clear HN61
    replace HF7:=za (Kd.F_mono (ok:=(fun k_=>((w.heap.size≤k_)∧k_≠g18)∧some k_≠((.slice A72 ([(⟨#[99,110]⟩:ByteArray),(⟨#[110,97,109,101]⟩:ByteArray)]:List ByteArray).length cp73):Value).ownBlock)) HF7.out (fun k_ hk_=>hk_.1):Kd.F k26 _ (fun k_=>(w.heap.size≤k_)∧k_≠g18) _ _ _)
    replace HF70:=za (Kd.F_mono (ok:=(fun k_=>((w.heap.size≤k_)∧k_≠g18)∧some k_≠((.slice A72 ([(⟨#[99,110]⟩:ByteArray),(⟨#[110,97,109,101]⟩:ByteArray)]:List ByteArray).length cp73):Value).ownBlock)) HF70.out (fun k_ hk_=>hk_.1):Kd.F Kd.string _ (fun k_=>(w.heap.size≤k_)∧k_≠g18) _ _ _)
    replace HH:=zd HH
    obtain⟨t76,At77,HH⟩:=HH
    go_wp2_with ((with_reducible refine gc 18 rfl ?_);refine zc 18 (some 25) Try.func18 #[.slice A68 t49.length cp69,.slice A72 ([(⟨#[99,110]⟩:ByteArray),(⟨#[110,97,109,101]⟩:ByteArray)]:List ByteArray).length cp73] (h:=?_);(with_reducible refine(toponymref16_SameTexts.calls k (fun k_=>(w.heap.size≤k_)∧k_≠g18) _ _ t49 _ _ ([(⟨#[99,110]⟩:ByteArray),(⟨#[110,97,109,101]⟩:ByteArray)]:List ByteArray) t76 _ HF70.out HL71.out HF74.out HL75.out At77.out).mono ?_);rintro e w' ⟨rfl,⟨nd,rfl⟩⟩;refine⟨_,rfl,?_⟩)
    refine zg ?_
    by_cases c79:t76=true
    ·replace HH:=MW.hpos HH c79
     subst c79
     go_wp2_with (((with_reducible refine gate_dst (N:=29) rfl ?_);(try(refine gate_guard (by rfl) ?_;dsimp only));refine Kd.N_lit Kd.string w.heap.size 9 rfl (N':=29) rfl (xs:=([(⟨#[110,97,109,101]⟩:ByteArray)]:List ByteArray)) (inner:=[.string (⟨#[110,97,109,101]⟩:ByteArray)]) (ok:=(fun k_=>(w.heap.size≤k_)∧k_≠g18)) (okp:=(fun k_=>(w.heap.size≤k_)∧k_≠g18)) ?hr ?hp (fun _ hk_=>hk_) ?hf (by repeat(first|(with_reducible first|exact HB.out|apply below_alloc|apply pw_below_drewN|apply below_drew1)|exact HB.out)) (below_size (by repeat(first|(with_reducible first|exact HB.out|apply below_alloc|apply pw_below_drewN|apply below_drew1)|exact HB.out))) (by first|simp|decide) ?_;(case hr=>first|(go_simp;done)|(go_simp;rfl));(case hp=>exact(Reps.one (fun _ _=>rfl) (Reps.none _ _)));(case hf=>exact(show ∀ k_,w60.heap.size≤k_→(fun k_=>(w.heap.size≤k_)∧k_≠g18) k_ from fun k_ h_=>⟨(Nat.le_trans (below_size (by repeat(first|(with_reducible first|exact HB.out|apply below_alloc|apply pw_below_drewN|apply below_drew1)|exact HB.out))) h_),Kd.freshB (g:=g18) (o:=.cells #[.string t9,.string t10,.int .i64 t11,.int .i64 t12,.bool t13,.bool t14] 26 (0,0)) (by(with_reducible repeat(first|refine blk_drewN ?_ _|refine blk_drew ?_|refine blk_alloc ?_ _));exact BKg18.out) k_ h_⟩) _ (Nat.le_refl _));intro v80 w81 hn1 hb1 hg1 hat1);replace hat1:=za hat1;refine stop_ ?_)
     refine zg ?_
     replace hat1:=hat1.out
     have hbe:=MW.grown_below hg1
     have hba:=MW.base_of hat1
     replace HF7:=za (Kd.F_mono (Kd.F_elder' (ok:=(fun k_=>(w.heap.size≤k_)∧k_≠g18)) (by(with_reducible repeat(first|apply Kd.F_alloc|apply Kd.F_drewN|apply Kd.F_drew));exact HF7.out) hba hbe) (fun k_ hk_=>hk_):Kd.F k26 _ (fun k_=>((w.heap.size≤k_)∧k_≠g18)∧some k_≠(v80:Value).ownBlock) _ _ _)
     replace BKg18:=za (blk_below (g:=g18) (o:=.cells #[.string t9,.string t10,.int .i64 t11,.int .i64 t12,.bool t13,.bool t14] 26 (0,0)) (by(with_reducible repeat(first|refine blk_drewN ?_ _|refine blk_drew ?_|refine blk_alloc ?_ _));exact BKg18.out) hbe)
     replace HB:=za hb1
     have HN82:=za hn1
     clear hn1 hb1 hg1 hat1 hbe hba
     replace cBKg18:=MB.lz6 BKg18.out
     obtain⟨A89,cp90,he_⟩:=Kd.N_slice HN82.out
     subst he_
     have HL92:=za (Kd.N_reads' HN82.out).2.1
     have HF91:=za (Kd.N_F HN82.out)
     clear HN82
     replace HF7:=za (Kd.F_mono (ok:=(fun k_=>((w.heap.size≤k_)∧k_≠g18)∧some k_≠((.slice A89 ([(⟨#[110,97,109,101]⟩:ByteArray)]:List ByteArray).length cp90):Value).ownBlock)) HF7.out (fun k_ hk_=>hk_.1):Kd.F k26 _ (fun k_=>(w.heap.size≤k_)∧k_≠g18) _ _ _)
     replace HH:=zd HH
     obtain⟨t93,At94,HH⟩:=HH
     go_wp2_with ((with_reducible refine gc 21 rfl ?_);refine zc 21 (some 30) Try.func21 #[.slice A5 t1.length cp6,.slice A89 ([(⟨#[110,97,109,101]⟩:ByteArray)]:List ByteArray).length cp90] (h:=?_);(with_reducible refine(attrs_Below.calls k (fun k_=>(w.heap.size≤k_)∧k_≠g18) _ _ t1 _ _ ([(⟨#[110,97,109,101]⟩:ByteArray)]:List ByteArray) t93 _ HF7.out HL8.out HF91.out HL92.out At94.out).mono ?_);rintro e w95 ⟨v96,rfl,hn96,hb⟩;refine⟨_,rfl,?_⟩)
     refine zg ?_
     have hba:=Kd.N_base hn96
     have HN96:=znl (ok2:=(fun k_=>(w.heap.size≤k_)∧k_≠g18)) hn96 (below_size HB.out) (fun k_ hk_=>hk_.elim (fun h_=>h_) (fun h_=>⟨(Nat.le_trans (below_size HB.out) h_),Kd.freshB (g:=g18) BKg18.out k_ h_⟩))
     replace HF7:=zfr (v:=v96) HF7.out hba hb
     replace BKg18:=zbb BKg18.out hb
     replace HB:=zhb HB.out hb
     clear hn96 hba hb
     replace cBKg18:=MB.lz6 BKg18.out
     obtain⟨A103,cp104,he_⟩:=Kd.N_slice HN96.out
     subst he_
     replace HH:=zqe HH
     rcases HH with⟨HH,hk106,hk107⟩|⟨HH,hk167,hk168⟩
     ·replace HH:=zd HH
      obtain⟨t108,At109,HH⟩:=HH
      go_wp2_with ((with_reducible refine gc 16 rfl ?_);refine zc 16 (some 36) Try.func16 #[.slice A5 t1.length cp6,.string (⟨#[115,110]⟩:ByteArray),.string (⟨#[110,97,109,101]⟩:ByteArray)] (h:=?_);(with_reducible refine(attrs_Is.calls k (fun k_=>((w.heap.size≤k_)∧some k_≠((.slice A103 t93.length cp104):Value).ownBlock)∧k_≠g18) _ _ t1 (⟨#[115,110]⟩:ByteArray) (⟨#[110,97,109,101]⟩:ByteArray) t108 _ (Kd.F_mono (ok:=(fun k_=>((w.heap.size≤k_)∧k_≠g18)∧some k_≠((.slice A103 t93.length cp104):Value).ownBlock)) HF7.out (fun k_ hk_=>⟨⟨hk_.1.1,hk_.2⟩,hk_.1.2⟩)) HL8.out At109.out).mono ?_);rintro e w110 ⟨rfl,hb⟩;refine⟨_,rfl,?_⟩)
      refine zg ?_
      replace HF7:=zfb HF7.out hb
      replace HN96:=znb HN96.out hb
      replace BKg18:=zbb BKg18.out hb
      replace HB:=zhb HB.out hb
      clear hb
      replace cBKg18:=MB.lz6 BKg18.out
      by_cases c117:t108=true
      ·replace HH:=MW.hpos HH c117
       subst c117
       replace HH:=zd HH
       obtain⟨t118,At119,HH⟩:=HH
       go_wp2_with ((with_reducible refine gc 16 rfl ?_);refine zc 16 (some 40) Try.func16 #[.slice A5 t1.length cp6,.string (⟨#[110,97,109,101]⟩:ByteArray),.string (⟨#[115,110]⟩:ByteArray)] (h:=?_);(with_reducible refine(attrs_Is.calls k (fun k_=>((w.heap.size≤k_)∧some k_≠((.slice A103 t93.length cp104):Value).ownBlock)∧k_≠g18) _ _ t1 (⟨#[110,97,109,101]⟩:ByteArray) (⟨#[115,110]⟩:ByteArray) t118 _ (Kd.F_mono (ok:=(fun k_=>((w.heap.size≤k_)∧k_≠g18)∧some k_≠((.slice A103 t93.length cp104):Value).ownBlock)) HF7.out (fun k_ hk_=>⟨⟨hk_.1.1,hk_.2⟩,hk_.1.2⟩)) HL8.out At119.out).mono ?_);rintro e w120 ⟨rfl,hb⟩;refine⟨_,rfl,?_⟩)
       refine zg ?_
       replace HN96:=znb HN96.out hb
       replace BKg18:=zbb BKg18.out hb
       replace HB:=zhb HB.out hb
       clear hb
       replace cBKg18:=MB.lz6 BKg18.out
       by_cases c127:t118=true
       ·replace HH:=MW.hpos HH c127
        subst c127
        obtain rfl:=Option.some.inj HH.out
        clear HH
        go_wp2
        go_ret
        exact zfi HB.out
       replace HH:=MW.hneg HH c127
       replace c127:=Bool.eq_false_iff.mpr c127
       subst c127
       go_wp2_with (((with_reducible refine gate_dst (N:=45) rfl ?_);(try(refine gate_guard (by rfl) ?_;dsimp only));refine Kd.N_lit k26 w.heap.size 26 rfl (N':=45) rfl (xs:=[(⟨(⟨#[97]⟩:ByteArray),(⟨#[97]⟩:ByteArray),1,0,false,false⟩:S26)]) (inner:=[.string (⟨#[97]⟩:ByteArray),.string (⟨#[97]⟩:ByteArray),.int .i64 1,.int .i64 0,.bool false,.bool false]) (ok:=(fun k_=>((w.heap.size≤k_)∧some k_≠((.slice A103 t93.length cp104):Value).ownBlock)∧k_≠g18)) (okp:=(fun k_=>((w.heap.size≤k_)∧some k_≠((.slice A103 t93.length cp104):Value).ownBlock)∧k_≠g18)) ?hr ?hp (fun _ hk_=>hk_) ?hf HB.out (below_size HB.out) (by first|simp|decide) ?_;(case hr=>first|(go_simp;done)|(go_simp;rfl));(case hp=>exact(Reps.c6 (k26_mkF _ _ (⟨(⟨#[97]⟩:ByteArray),(⟨#[97]⟩:ByteArray),1,0,false,false⟩:S26)) (Reps.none _ _)));(case hf=>exact(show ∀ k_,w120.heap.size≤k_→(fun k_=>((w.heap.size≤k_)∧some k_≠((.slice A103 t93.length cp104):Value).ownBlock)∧k_≠g18) k_ from fun k_ h_=>⟨⟨(Nat.le_trans (below_size HB.out) h_),Kd.fresh' (Kd.N_lt HN96.out) k_ h_⟩,Kd.freshB (g:=g18) BKg18.out k_ h_⟩) _ (Nat.le_refl _));intro v128 w129 hn1 hb1 hg1 hat1);replace hat1:=za hat1;refine stop_ ?_)
       refine zg ?_
       replace hat1:=hat1.out
       have hbe:=MW.grown_below hg1
       have hba:=MW.base_of hat1
       replace HN96:=za (Kd.N_mono (Kd.N_elder' (ok:=(fun k_=>(w.heap.size≤k_)∧k_≠g18)) HN96.out hba hbe) (fun k_ hk_=>hk_):Kd.N Kd.string _ _ _ (fun k_=>((w.heap.size≤k_)∧k_≠g18)∧some k_≠(v128:Value).ownBlock) _ _)
       replace BKg18:=za (blk_below (g:=g18) BKg18.out hbe)
       replace HB:=za hb1
       have HN130:=za hn1
       clear hn1 hb1 hg1 hat1 hbe hba
       replace cBKg18:=MB.lz6 BKg18.out
       obtain⟨A137,cp138,he_⟩:=Kd.N_slice HN130.out
       subst he_
       have HL140:=za (Kd.N_reads' HN130.out).2.1
       have HF139:=za (Kd.N_F HN130.out)
       clear HN130
       replace HN96:=za (Kd.N_mono (ok:=(fun k_=>((w.heap.size≤k_)∧k_≠g18)∧some k_≠((.slice A137 [(⟨(⟨#[97]⟩:ByteArray),(⟨#[97]⟩:ByteArray),1,0,false,false⟩:S26)].length cp138):Value).ownBlock)) HN96.out (fun k_ hk_=>hk_.1):Kd.N Kd.string _ _ _ (fun k_=>(w.heap.size≤k_)∧k_≠g18) _ _)
       replace HH:=zd HH
       obtain⟨t141,At142,HH⟩:=HH
       go_wp2_with ((with_reducible refine gc 11 rfl ?_);refine zc 11 (some 46) Try.func11 #[.slice A137 [(⟨(⟨#[97]⟩:ByteArray),(⟨#[97]⟩:ByteArray),1,0,false,false⟩:S26)].length cp138] (h:=?_);(with_reducible refine(attrs_Check.calls k (fun k_=>((w.heap.size≤k_)∧some k_≠((.slice A103 t93.length cp104):Value).ownBlock)∧k_≠g18) _ _ [(⟨(⟨#[97]⟩:ByteArray),(⟨#[97]⟩:ByteArray),1,0,false,false⟩:S26)] t141 _ HF139.out HL140.out At142.out).mono ?_);rintro e w143 ⟨rfl,hb⟩;refine⟨_,rfl,?_⟩)
       refine zg ?_
       replace HN96:=znb HN96.out hb
       replace BKg18:=zbb BKg18.out hb
       replace HB:=zhb HB.out hb
       clear hb
       replace cBKg18:=MB.lz6 BKg18.out
       replace HH:=zqe HH
       rcases HH with⟨HH,hk151,hk152⟩|⟨HH,hk165,hk166⟩
       ·replace HH:=zd HH
        obtain⟨t153,At154,HH⟩:=HH
        go_wp2_with ((with_reducible refine gc 14 rfl ?_);refine zc 14 (some 50) Try.func14 #[.int .i64 10] (h:=?_);(with_reducible refine(attrs_Rules.calls  10 t153 _  At154.out).mono ?_);rintro e w155 ⟨v156,rfl,hn156,hb⟩;refine⟨_,rfl,?_⟩)
        refine zg ?_
        have hba:=Kd.N_base hn156
        have HN156:=znl (ok2:=(fun k_=>((w.heap.size≤k_)∧some k_≠((.slice A103 t93.length cp104):Value).ownBlock)∧k_≠g18)) hn156 (below_size HB.out) (fun k_ h_=>⟨⟨(Nat.le_trans (below_size HB.out) h_),Kd.fresh' (Kd.N_lt HN96.out) k_ h_⟩,Kd.freshB (g:=g18) BKg18.out k_ h_⟩)
        replace BKg18:=zbb BKg18.out hb
        replace HB:=zhb HB.out hb
        clear hn156 hba hb
        replace cBKg18:=MB.lz6 BKg18.out
        obtain⟨A163,cp164,he_⟩:=Kd.N_slice HN156.out
        subst he_
        obtain rfl:=Option.some.inj HH.out
        clear HH
        go_wp2
        go_ret
        exact zfi HB.out
       obtain rfl:=Option.some.inj HH.out
       clear HH
       go_wp2
       go_ret
       exact zfi HB.out
      replace HH:=MW.hneg HH c117
      replace c117:=Bool.eq_false_iff.mpr c117
      subst c117
      obtain rfl:=Option.some.inj HH.out
      clear HH
      go_wp2
      go_ret
      exact zfi HB.out
     obtain rfl:=Option.some.inj HH.out
     clear HH
     go_wp2
     go_ret
     exact zfi HB.out
    replace HH:=MW.hneg HH c79
    replace c79:=Bool.eq_false_iff.mpr c79
    subst c79
    obtain rfl:=Option.some.inj HH.out
    clear HH
    go_wp2
    go_ret
    exact zfi (by repeat(first|(with_reducible first|exact HB.out|apply below_alloc|apply pw_below_drewN|apply below_drew1)|exact HB.out))
   obtain rfl:=Option.some.inj HH.out
   clear HH
   go_wp2
   go_ret
   exact zfi HB.out
  replace HH:=MW.hneg HH c45
  replace c45:=Bool.eq_false_iff.mpr c45
  subst c45
  obtain rfl:=Option.some.inj HH.out
  clear HH
  go_wp2
  go_ret
  exact zfi HB.out
 obtain rfl:=Option.some.inj HH.out
 clear HH
 go_wp2
 go_ret
 exact zfi HB.out
end Go.Proofs.Ytcjafemnkhifmaa.GA

namespace Go.Proofs.Ytcjafemnkhifmaa.GA
open Go.RowKit Go.Proofs.Ytcjafemnkhifmaa Go.Proofs.Ytcjafemnkhifmaa.MW Go.Proofs.YtcjafemnkhifmaaW.PrintWords Go.Proofs.YtcjafemnkhifmaaW.PrintLast Go.Proofs.YtcjafemnkhifmaaW.PrintMore
attribute [local go_sem] max2_int min2_int max_two min_two
set_option linter.unusedVariables false
set_option linter.unusedSimpArgs false
attribute [local go_sem high] eqA26
def toponymlaw20_AttrsChecks.f (k:Nat) (l0:List (S26)) (a1:ByteArray) (a2:Int):Option (Bool):=(toponymlaw20_Few.f k l0).bind fun t1=>(if t1=true then((attrs_Find.f k l0 a1).bind fun bt5=>((toponymref20_Find.f k l0 a1).bind fun bt29=>((attrs_Check.f k l0).bind fun t71=>((toponymref20_Check.f k l0).bind fun t86=>(if t71=t86 then(if (bt5.1.toList==bt29.1.toList && (bt5.2.1.toList==bt29.2.1.toList && (bt5.2.2.1==bt29.2.2.1 && (bt5.2.2.2.1==bt29.2.2.2.1 && (bt5.2.2.2.2.1==bt29.2.2.2.2.1 && (bt5.2.2.2.2.2.1==bt29.2.2.2.2.2.1))))))=true then(if (bt5.2.2.2.2.2.2==bt29.2.2.2.2.2.2)=true then((attrs_Rules.f a2).bind fun t112=>((toponymref20_Rules.f a2).bind fun t128=>((toponymref17_Cmp.f k t112 t128).bind fun t152=>(if t152=0 then((toponymlaw20_awake.f k).bind fun t158=>(some t158)) else(some false))))) else(some false)) else(some false)) else(some false)))))) else((toponymlaw20_awake.f k).bind fun t185=>(some t185)))
theorem toponymlaw20_AttrsChecks.mono:∀ a0_ a1_ a2_ k,LeO (toponymlaw20_AttrsChecks.f k a0_ a1_ a2_) (toponymlaw20_AttrsChecks.f (k+1) a0_ a1_ a2_):=by
 intro a0_ a1_ a2_ k
 unfold toponymlaw20_AttrsChecks.f
 with_reducible repeat' first|exact attrs_Check.mono _ _|exact attrs_Find.mono _ _ _|exact toponymlaw20_Few.mono _ _|exact toponymlaw20_awake.mono _|exact toponymref17_Cmp.mono _ _ _|exact toponymref20_Check.mono _ _|exact toponymref20_Find.mono _ _ _|exact LeO.refl _|exact LeO.none _|refine LeO.ite ?_ ?_|refine LeO.bind ?_ (fun _=>?_)
theorem toponymlaw20_AttrsChecks.calls (k:Nat) (P_:Nat→Prop) (A0:Option Addr) (c0:Nat) (l0:List (S26)) (a1:ByteArray) (a2:Int) (r:Bool) (w:World) (hs0:Kd.F k26 w P_ A0 l0.length l0) (hc0:l0.length≤c0) (h:toponymlaw20_AttrsChecks.f k l0 a1 a2=some r):
  Calls Try.prog 3 #[.slice A0 l0.length c0,.string a1,.int .i64 a2] w (fun e w'=>e=.returned (.bool r)∧Below w.heap.size w w'):=by
 unfold toponymlaw20_AttrsChecks.f at h
 have HH:=za h
 clear h
 have HF0:=zfp hs0
 have HL0:=za hc0
 clear hs0 hc0
 have HB:=za (Below.refl w.heap.size w)
 have hu26:=Try.underlying26
 go_enter Try.func3,Try.ntmps3
 replace HH:=zd HH
 obtain⟨t1,At2,HH⟩:=HH
 go_wp2_with ((with_reducible refine gc 7 rfl ?_);refine zc 7 (some 12) Try.func7 #[.slice A0 l0.length c0] (h:=?_);(with_reducible refine(toponymlaw20_Few.calls k (fun k_=>(P_ k_∨w.heap.size≤k_)) _ _ l0 t1 _ HF0.out HL0.out At2.out).mono ?_);rintro e w' ⟨rfl,⟨nd,rfl⟩⟩;refine⟨_,rfl,?_⟩)
 refine zg ?_
 by_cases c4:t1=true
 ·replace HH:=MW.hpos HH c4
  subst c4
  replace HH:=zd HH
  obtain⟨⟨t5,t6,t7,t8,t9,t10,t11⟩,At12,HH⟩:=HH
  dsimp only at HH
  go_wp2_with ((with_reducible refine gc 9 rfl ?_);refine zc 9 (some 18) Try.func9 #[.slice A0 l0.length c0,.string a1] (h:=?_);(with_reducible refine(attrs_Find.calls k (fun k_=>(P_ k_∨w.heap.size≤k_)) _ _ l0 a1 t5 t6 t7 t8 t9 t10 t11 _ (by(with_reducible repeat(first|apply Kd.F_alloc|apply Kd.F_drewN|apply Kd.F_drew));exact HF0.out) HL0.out At12.out).mono ?_);rintro e w13 ⟨rfl,hb⟩;refine⟨_,rfl,?_⟩)
  refine zg ?_
  replace HF0:=zfb (by(with_reducible repeat(first|apply Kd.F_alloc|apply Kd.F_drewN|apply Kd.F_drew));exact HF0.out) hb
  replace HB:=zhb (by repeat(first|(with_reducible first|exact HB.out|apply below_alloc|apply pw_below_drewN|apply below_drew1)|exact HB.out)) hb
  clear hb
  go_wp2_with ((with_reducible refine gd 7 rfl ?_);refine zb 7 26 #[.string (⟨#[]⟩:ByteArray),.string (⟨#[]⟩:ByteArray),.int .i64 0,.int .i64 0,.bool false,.bool false] (h:=?_);intro g14 hg w15 BKg14 hb)
  refine zg ?_
  have GEg14:=zge hg (below_size HB.out)
  replace HF0:=zfe HF0.out hg hb
  replace HB:=zhb HB.out hb
  clear hg hb
  replace cBKg14:=MB.lz6 BKg14.out
  go_wp2_with ((with_reducible refine gs 26 7 rfl ?_);refine zs 26 7 #[.string t5,.string t6,.int .i64 t7,.int .i64 t8,.bool t9,.bool t10] BKg14.out [.string t5,.string t6,.int .i64 t7,.int .i64 t8,.bool t9,.bool t10] (h:=?_);intro w22 hbk hg)
  refine zg ?_
  replace HF0:=zfg HF0.out hg fun k_ hk_=>hk_.2
  replace HB:=zhg HB.out hg (below_size HB.out) GEg14
  replace BKg14:=hbk
  clear hg hbk
  replace cBKg14:=MB.lz6 BKg14.out
  replace HH:=zd HH
  obtain⟨⟨t29,t30,t31,t32,t33,t34,t35⟩,At36,HH⟩:=HH
  dsimp only at HH
  go_wp2_with ((with_reducible refine gc 10 rfl ?_);refine zc 10 (some 24) Try.func10 #[.slice A0 l0.length c0,.string a1] (h:=?_);(with_reducible refine(toponymref20_Find.calls k (fun k_=>(P_ k_∨w.heap.size≤k_)∧k_≠g14) _ _ l0 a1 t29 t30 t31 t32 t33 t34 t35 _ HF0.out HL0.out At36.out).mono ?_);rintro e w37 ⟨rfl,hb⟩;refine⟨_,rfl,?_⟩)
  refine zg ?_
  replace HF0:=zfb HF0.out hb
  replace BKg14:=zbb BKg14.out hb
  replace HB:=zhb HB.out hb
  clear hb
  replace cBKg14:=MB.lz6 BKg14.out
  go_wp2_with ((with_reducible refine gd 9 rfl ?_);refine zb 9 26 #[.string (⟨#[]⟩:ByteArray),.string (⟨#[]⟩:ByteArray),.int .i64 0,.int .i64 0,.bool false,.bool false] (h:=?_);intro g44 hg w45 BKg44 hb)
  refine zg ?_
  have GEg44:=zge hg (below_size HB.out)
  have NEg14_g44:=znq hg BKg14.out
  replace HF0:=zfe HF0.out hg hb
  replace BKg14:=zbb BKg14.out hb
  replace HB:=zhb HB.out hb
  clear hg hb
  replace cBKg14:=MB.lz6 BKg14.out
  replace cBKg44:=MB.lz6 BKg44.out
  go_wp2_with ((with_reducible refine gs 26 9 rfl ?_);refine zs 26 9 #[.string t29,.string t30,.int .i64 t31,.int .i64 t32,.bool t33,.bool t34] BKg44.out [.string t29,.string t30,.int .i64 t31,.int .i64 t32,.bool t33,.bool t34] (h:=?_);intro w58 hbk hg)
  refine zg ?_
  replace HF0:=zfg HF0.out hg fun k_ hk_=>hk_.2
  replace BKg14:=zbg BKg14.out hg NEg14_g44
  replace HB:=zhg HB.out hg (below_size HB.out) GEg44
  replace BKg44:=hbk
  clear hg hbk
  replace cBKg14:=MB.lz6 BKg14.out
  replace cBKg44:=MB.lz6 BKg44.out
  replace HH:=zd HH
  obtain⟨t71,At72,HH⟩:=HH
  go_wp2_with ((with_reducible refine gc 11 rfl ?_);refine zc 11 (some 28) Try.func11 #[.slice A0 l0.length c0] (h:=?_);(with_reducible refine(attrs_Check.calls k (fun k_=>((P_ k_∨w.heap.size≤k_)∧k_≠g14)∧k_≠g44) _ _ l0 t71 _ HF0.out HL0.out At72.out).mono ?_);rintro e w73 ⟨rfl,hb⟩;refine⟨_,rfl,?_⟩)
  refine zg ?_
  replace HF0:=zfb HF0.out hb
  replace BKg14:=zbb BKg14.out hb
  replace BKg44:=zbb BKg44.out hb
  replace HB:=zhb HB.out hb
  clear hb
  replace cBKg14:=MB.lz6 BKg14.out
  replace cBKg44:=MB.lz6 BKg44.out
  replace HH:=zd HH
  obtain⟨t86,At87,HH⟩:=HH
  go_wp2_with ((with_reducible refine gc 12 rfl ?_);refine zc 12 (some 30) Try.func12 #[.slice A0 l0.length c0] (h:=?_);(with_reducible refine(toponymref20_Check.calls k (fun k_=>((P_ k_∨w.heap.size≤k_)∧k_≠g14)∧k_≠g44) _ _ l0 t86 _ HF0.out HL0.out At87.out).mono ?_);rintro e w88 ⟨rfl,hb⟩;refine⟨_,rfl,?_⟩)
  refine zg ?_
  replace BKg14:=zbb BKg14.out hb
  replace BKg44:=zbb BKg44.out hb
  replace HB:=zhb HB.out hb
  clear hb
  replace cBKg14:=MB.lz6 BKg14.out
  replace cBKg44:=MB.lz6 BKg44.out
  replace HH:=zqe HH
  rcases HH with⟨HH,hk102,hk103⟩|⟨HH,hk183,hk184⟩
  ·by_cases c104:(t5.toList==t29.toList && (t6.toList==t30.toList && (t7==t31 && (t8==t32 && (t9==t33 && (t10==t34))))))=true
   ·replace HH:=MW.hpos HH c104
    have hk105:(t5.toList==t29.toList && (t6.toList==t30.toList && (t7==t31 && (t8==t32 && (t9==t33 && (t10==t34))))))=true:=c104
    try have hk106:decide (t5.toList=t29.toList && (t6.toList==t30.toList && (t7==t31 && (t8==t32 && (t9==t33 && (t10==t34))))))=true:=by simpa using c104
    try have hk107:(t5.toList==t29.toList && (t6.toList==t30.toList && (t7==t31 && (t8==t32 && (t9==t33 && (t10==t34))))))=true:=by simpa using c104
    clear c104
    by_cases c108:(t11==t35)=true
    ·replace HH:=MW.hpos HH c108
     have hk109:(t11==t35)=true:=c108
     try have hk110:decide (t11=t35)=true:=by simpa using c108
     try have hk111:(t11==t35)=true:=by simpa using c108
     clear c108
     replace HH:=zd HH
     obtain⟨t112,At113,HH⟩:=HH
     go_wp2_with ((with_reducible refine gc 14 rfl ?_);refine zc 14 (some 44) Try.func14 #[.int .i64 a2] (h:=?_);(with_reducible refine(attrs_Rules.calls  a2 t112 _  At113.out).mono ?_);rintro e w114 ⟨v115,rfl,hn115,hb⟩;refine⟨_,rfl,?_⟩)
     refine zg ?_
     have hba:=Kd.N_base hn115
     have HN115:=znl (ok2:=(fun k_=>((P_ k_∨w.heap.size≤k_)∧k_≠g14)∧k_≠g44)) hn115 (below_size HB.out) (fun k_ h_=>⟨⟨.inr (Nat.le_trans (below_size HB.out) h_),Kd.freshB (g:=g14) BKg14.out k_ h_⟩,Kd.freshB (g:=g44) BKg44.out k_ h_⟩)
     replace BKg14:=zbb BKg14.out hb
     replace BKg44:=zbb BKg44.out hb
     replace HB:=zhb HB.out hb
     clear hn115 hba hb
     replace cBKg14:=MB.lz6 BKg14.out
     replace cBKg44:=MB.lz6 BKg44.out
     replace HH:=zd HH
     obtain⟨t128,At129,HH⟩:=HH
     go_wp2_with ((with_reducible refine gc 15 rfl ?_);refine zc 15 (some 46) Try.func15 #[.int .i64 a2] (h:=?_);(with_reducible refine(toponymref20_Rules.calls  a2 t128 _  At129.out).mono ?_);rintro e w130 ⟨v131,rfl,hn131,hb⟩;refine⟨_,rfl,?_⟩)
     refine zg ?_
     have hba:=Kd.N_base hn131
     have HN131:=znl (ok2:=(fun k_=>(((P_ k_∨w.heap.size≤k_)∧some k_≠(v115:Value).ownBlock)∧k_≠g14)∧k_≠g44)) hn131 (below_size HB.out) (fun k_ h_=>⟨⟨⟨.inr (Nat.le_trans (below_size HB.out) h_),Kd.fresh' (Kd.N_lt HN115.out) k_ h_⟩,Kd.freshB (g:=g14) BKg14.out k_ h_⟩,Kd.freshB (g:=g44) BKg44.out k_ h_⟩)
     replace HN115:=znr (u:=v131) HN115.out hba hb
     replace BKg14:=zbb BKg14.out hb
     replace BKg44:=zbb BKg44.out hb
     replace HB:=zhb HB.out hb
     clear hn131 hba hb
     replace cBKg14:=MB.lz6 BKg14.out
     replace cBKg44:=MB.lz6 BKg44.out
     obtain⟨A144,cp145,he_⟩:=Kd.N_slice HN115.out
     subst he_
     have HL147:=za (Kd.N_reads' HN115.out).2.1
     have HF146:=za (Kd.N_F HN115.out)
     clear HN115
     replace HN131:=za (Kd.N_mono (ok:=(fun k_=>(((P_ k_∨w.heap.size≤k_)∧some k_≠((.slice A144 t112.length cp145):Value).ownBlock)∧k_≠g14)∧k_≠g44)) HN131.out (fun k_ hk_=>⟨⟨hk_.1.1.1,hk_.1.2⟩,hk_.2⟩):Kd.N (Kd.int .i64) _ _ _ (fun k_=>((P_ k_∨w.heap.size≤k_)∧k_≠g14)∧k_≠g44) _ _)
     obtain⟨A148,cp149,he_⟩:=Kd.N_slice HN131.out
     subst he_
     have HL151:=za (Kd.N_reads' HN131.out).2.1
     have HF150:=za (Kd.N_F HN131.out)
     clear HN131
     replace HF146:=za (Kd.F_mono (ok:=(fun k_=>(((P_ k_∨w.heap.size≤k_)∧k_≠g14)∧k_≠g44)∧some k_≠((.slice A148 t128.length cp149):Value).ownBlock)) HF146.out (fun k_ hk_=>hk_.1):Kd.F (Kd.int .i64) _ (fun k_=>((P_ k_∨w.heap.size≤k_)∧k_≠g14)∧k_≠g44) _ _ _)
     replace HH:=zd HH
     obtain⟨t152,At153,HH⟩:=HH
     go_wp2_with ((with_reducible refine gc 13 rfl ?_);refine zc 13 (some 47) Try.func13 #[.slice A144 t112.length cp145,.slice A148 t128.length cp149] (h:=?_);(with_reducible refine(toponymref17_Cmp.calls k (fun k_=>((P_ k_∨w.heap.size≤k_)∧k_≠g14)∧k_≠g44) _ _ t112 _ _ t128 t152 _ HF146.out HL147.out HF150.out HL151.out At153.out).mono ?_);rintro e w' ⟨rfl,⟨nd,rfl⟩⟩;refine⟨_,rfl,?_⟩)
     refine zg ?_
     replace HH:=zqe HH
     rcases HH with⟨HH,hk156,hk157⟩|⟨HH,hk173,hk174⟩
     ·replace HH:=zd HH
      obtain⟨t158,At159,HH⟩:=HH
      go_wp2_with ((with_reducible refine gc 8 rfl ?_);refine zc 8 (some 51) Try.func8 #[] (h:=?_);(with_reducible refine(toponymlaw20_awake.calls k  t158 _  At159.out).mono ?_);rintro e w160 ⟨rfl,hb⟩;refine⟨_,rfl,?_⟩)
      refine zg ?_
      replace BKg14:=za (blk_below (g:=g14) (o:=.cells #[.string t5,.string t6,.int .i64 t7,.int .i64 t8,.bool t9,.bool t10] 26 (0,0)) (by(with_reducible repeat(first|refine blk_drewN ?_ _|refine blk_drew ?_|refine blk_alloc ?_ _));exact BKg14.out) hb)
      replace BKg44:=za (blk_below (g:=g44) (o:=.cells #[.string t29,.string t30,.int .i64 t31,.int .i64 t32,.bool t33,.bool t34] 26 (0,0)) (by(with_reducible repeat(first|refine blk_drewN ?_ _|refine blk_drew ?_|refine blk_alloc ?_ _));exact BKg44.out) hb)
      replace HB:=zhb (by repeat(first|(with_reducible first|exact HB.out|apply below_alloc|apply pw_below_drewN|apply below_drew1)|exact HB.out)) hb
      clear hb
      replace cBKg14:=MB.lz6 BKg14.out
      replace cBKg44:=MB.lz6 BKg44.out
      obtain rfl:=Option.some.inj HH.out
      clear HH
      go_wp2
      go_ret
      exact zfi HB.out
     obtain rfl:=Option.some.inj HH.out
     clear HH
     go_wp2
     go_ret
     exact zfi (by repeat(first|(with_reducible first|exact HB.out|apply below_alloc|apply pw_below_drewN|apply below_drew1)|exact HB.out))
    replace HH:=MW.hneg HH c108
    have hk175:(t11==t35)=false:=by simpa using c108
    try have hk176:decide (t11=t35)=false:=by simpa using c108
    try have hk177:(t11==t35)=false:=by simpa using c108
    try have hk178: ¬ (t11=t35):=by simpa using c108
    clear c108
    obtain rfl:=Option.some.inj HH.out
    clear HH
    go_wp2
    go_ret
    exact zfi HB.out
   replace HH:=MW.hneg HH c104
   have hk179:(t5.toList==t29.toList && (t6.toList==t30.toList && (t7==t31 && (t8==t32 && (t9==t33 && (t10==t34))))))=false:=by simpa using c104
   try have hk180:decide (t5.toList=t29.toList && (t6.toList==t30.toList && (t7==t31 && (t8==t32 && (t9==t33 && (t10==t34))))))=false:=by simpa using c104
   try have hk181:(t5.toList==t29.toList && (t6.toList==t30.toList && (t7==t31 && (t8==t32 && (t9==t33 && (t10==t34))))))=false:=by simpa using c104
   try have hk182: ¬ (t5.toList=t29.toList && (t6.toList==t30.toList && (t7==t31 && (t8==t32 && (t9==t33 && (t10==t34)))))):=by simpa using c104
   clear c104
   obtain rfl:=Option.some.inj HH.out
   clear HH
   go_wp2
   go_ret
   exact zfi HB.out
  obtain rfl:=Option.some.inj HH.out
  clear HH
  go_wp2
  go_ret
  exact zfi HB.out
 replace HH:=MW.hneg HH c4
 replace c4:=Bool.eq_false_iff.mpr c4
 subst c4
 replace HH:=zd HH
 obtain⟨t185,At186,HH⟩:=HH
 go_wp2_with ((with_reducible refine gc 8 rfl ?_);refine zc 8 (some 14) Try.func8 #[] (h:=?_);(with_reducible refine(toponymlaw20_awake.calls k  t185 _  At186.out).mono ?_);rintro e w187 ⟨rfl,hb⟩;refine⟨_,rfl,?_⟩)
 refine zg ?_
 replace HB:=zhb (by repeat(first|(with_reducible first|exact HB.out|apply below_alloc|apply pw_below_drewN|apply below_drew1)|exact HB.out)) hb
 clear hb
 obtain rfl:=Option.some.inj HH.out
 clear HH
 go_wp2
 go_ret
 exact zfi HB.out
end Go.Proofs.Ytcjafemnkhifmaa.GA

namespace Go.Proofs.Ytcjafemnkhifmaa.GA
open Go.RowKit Go.Proofs.Ytcjafemnkhifmaa Go.Proofs.Ytcjafemnkhifmaa.MW Go.Proofs.YtcjafemnkhifmaaW.PrintWords Go.Proofs.YtcjafemnkhifmaaW.PrintLast Go.Proofs.YtcjafemnkhifmaaW.PrintMore
attribute [local go_sem] max2_int min2_int max_two min_two
set_option linter.unusedVariables false
set_option linter.unusedSimpArgs false
def toponymlaw20_AttrsBelow.l0:Nat→Bool→Int→ByteArray→ByteArray→(List (S26))→(List ByteArray)→Option (Bool)
 |0,_,_,_,_,_,_=>none
 |k+1,x16,x17,a1,a2,l0,t12=>if x17<(t12.length:Int) then(if x16=true then(if x17>0 then(if 0≤(wrap64 (x17 - 1)) then(if (wrap64 (x17 - 1))<(t12.length:Int) then(if 0≤x17 then(if (Op.bytesLess ((rdOf ByteArray.empty t12 (wrap64 (x17 - 1))).toList) ((rdOf ByteArray.empty t12 x17).toList))=true then((toponymlaw20_AttrsBelow.l0 k true (wrap64 (x17+1)) a1 a2 l0 t12)) else(some false)) else(none)) else(none)) else(none)) else((toponymlaw20_AttrsBelow.l0 k true (wrap64 (x17+1)) a1 a2 l0 t12))) else(if 0≤x17 then(if x17>0 then(if 0≤(wrap64 (x17 - 1)) then(if (wrap64 (x17 - 1))<(t12.length:Int) then(if (Op.bytesLess ((rdOf ByteArray.empty t12 (wrap64 (x17 - 1))).toList) ((rdOf ByteArray.empty t12 x17).toList))=true then((toponymlaw20_AttrsBelow.l0 k ((rdOf ByteArray.empty t12 x17).toList==a1.toList) (wrap64 (x17+1)) a1 a2 l0 t12)) else(some false)) else(none)) else(none)) else((toponymlaw20_AttrsBelow.l0 k ((rdOf ByteArray.empty t12 x17).toList==a1.toList) (wrap64 (x17+1)) a1 a2 l0 t12))) else(none))) else((attrs_Find.f k l0 a2).bind fun bt66=>((attrs_Is.f k l0 a1 a2).bind fun t90=>(if (x16==t90)=true then(if (bt66.2.2.2.2.2.2==(decide ((t12.length:Int)>0)))=true then((toponymlaw20_awake.f k).bind fun t108=>(some t108)) else(some false)) else(some false))))
def toponymlaw20_AttrsBelow.f (k:Nat) (l0:List (S26)) (a1:ByteArray) (a2:ByteArray):Option (Bool):=(toponymlaw20_Few.f k l0).bind fun t1=>(if t1=true then((attrs_Below.f k l0 ([a2]:List ByteArray)).bind fun t12=>((toponymlaw20_AttrsBelow.l0 k false 0 a1 a2 l0 t12))) else((toponymlaw20_awake.f k).bind fun t126=>(some t126)))
theorem toponymlaw20_AttrsBelow.mono_l:∀ k,(∀ y0 y1 y2 y3 y4 y5,LeO (toponymlaw20_AttrsBelow.l0 k y0 y1 y2 y3 y4 y5) (toponymlaw20_AttrsBelow.l0 (k+1) y0 y1 y2 y3 y4 y5))
 |0=>fun _ _ _ _ _ _ r h=>by simp[toponymlaw20_AttrsBelow.l0] at h
 |k+1=>by
  have ih0:=toponymlaw20_AttrsBelow.mono_l k
  ·intro y0 y1 y2 y3 y4 y5
   unfold toponymlaw20_AttrsBelow.l0
   with_reducible repeat' first|exact ih0 _ _ _ _ _ _|exact attrs_Below.mono _ _ _|exact attrs_Find.mono _ _ _|exact attrs_Is.mono _ _ _ _|exact toponymlaw20_Few.mono _ _|exact toponymlaw20_awake.mono _|exact LeO.refl _|exact LeO.none _|refine LeO.ite ?_ ?_|refine LeO.bind ?_ (fun _=>?_)
theorem toponymlaw20_AttrsBelow.mono:∀ a0_ a1_ a2_ k,LeO (toponymlaw20_AttrsBelow.f k a0_ a1_ a2_) (toponymlaw20_AttrsBelow.f (k+1) a0_ a1_ a2_):=by
 intro a0_ a1_ a2_ k
 have ih0:=toponymlaw20_AttrsBelow.mono_l k
 unfold toponymlaw20_AttrsBelow.f
 with_reducible repeat' first|exact ih0 _ _ _ _ _ _|exact attrs_Below.mono _ _ _|exact attrs_Find.mono _ _ _|exact attrs_Is.mono _ _ _ _|exact toponymlaw20_Few.mono _ _|exact toponymlaw20_awake.mono _|exact LeO.refl _|exact LeO.none _|refine LeO.ite ?_ ?_|refine LeO.bind ?_ (fun _=>?_)
theorem toponymlaw20_AttrsBelow.calls (k:Nat) (P_:Nat→Prop) (A0:Option Addr) (c0:Nat) (l0:List (S26)) (a1:ByteArray) (a2:ByteArray) (r:Bool) (w:World) (hs0:Kd.F k26 w P_ A0 l0.length l0) (hc0:l0.length≤c0) (h:toponymlaw20_AttrsBelow.f k l0 a1 a2=some r):
  Calls Try.prog 6 #[.slice A0 l0.length c0,.string a1,.string a2] w (fun e w'=>e=.returned (.bool r)∧Below w.heap.size w w'):=by
 unfold toponymlaw20_AttrsBelow.f at h
 have HH:=za h
 clear h
 have HF0:=zfp hs0
 have HL0:=za hc0
 clear hs0 hc0
 have HB:=za (Below.refl w.heap.size w)
 have hu26:=Try.underlying26
 go_enter Try.func6,Try.ntmps6
 replace HH:=zd HH
 obtain⟨t1,At2,HH⟩:=HH
 go_wp2_with ((with_reducible refine gc 7 rfl ?_);refine zc 7 (some 13) Try.func7 #[.slice A0 l0.length c0] (h:=?_);(with_reducible refine(toponymlaw20_Few.calls k (fun k_=>(P_ k_∨w.heap.size≤k_)) _ _ l0 t1 _ HF0.out HL0.out At2.out).mono ?_);rintro e w' ⟨rfl,⟨nd,rfl⟩⟩;refine⟨_,rfl,?_⟩)
 refine zg ?_
 by_cases c4:t1=true
 ·replace HH:=MW.hpos HH c4
  subst c4
  go_wp2_with (((with_reducible refine gate_dst (N:=18) rfl ?_);(try(refine gate_guard (by rfl) ?_;dsimp only));refine Kd.N_lit Kd.string w.heap.size 9 rfl (N':=18) rfl (xs:=([a2]:List ByteArray)) (inner:=[.string a2]) (ok:=(fun k_=>(P_ k_∨w.heap.size≤k_))) (okp:=(fun k_=>(P_ k_∨w.heap.size≤k_))) ?hr ?hp (fun _ hk_=>hk_) ?hf (by repeat(first|(with_reducible first|exact HB.out|apply below_alloc|apply pw_below_drewN|apply below_drew1)|exact HB.out)) (below_size (by repeat(first|(with_reducible first|exact HB.out|apply below_alloc|apply pw_below_drewN|apply below_drew1)|exact HB.out))) (by first|simp|decide) ?_;(case hr=>first|(go_simp;done)|(go_simp;rfl));(case hp=>exact(Reps.one (fun _ _=>rfl) (Reps.none _ _)));(case hf=>exact(show ∀ k_,w.heap.size≤k_→(fun k_=>(P_ k_∨w.heap.size≤k_)) k_ from fun k_ h_=>.inr (Nat.le_trans (below_size (by repeat(first|(with_reducible first|exact HB.out|apply below_alloc|apply pw_below_drewN|apply below_drew1)|exact HB.out))) h_)) _ (Nat.le_refl _));intro v5 w6 hn1 hb1 hg1 hat1);replace hat1:=za hat1;refine stop_ ?_)
  refine zg ?_
  replace hat1:=hat1.out
  have hbe:=MW.grown_below hg1
  have hba:=MW.base_of hat1
  replace HF0:=za (Kd.F_mono (Kd.F_elder' (ok:=(fun k_=>(P_ k_∨w.heap.size≤k_))) (by(with_reducible repeat(first|apply Kd.F_alloc|apply Kd.F_drewN|apply Kd.F_drew));exact HF0.out) hba hbe) (fun k_ hk_=>hk_):Kd.F k26 _ (fun k_=>(P_ k_∨w.heap.size≤k_)∧some k_≠(v5:Value).ownBlock) _ _ _)
  replace HB:=za hb1
  have HN7:=za hn1
  clear hn1 hb1 hg1 hat1 hbe hba
  obtain⟨A8,cp9,he_⟩:=Kd.N_slice HN7.out
  subst he_
  have HL11:=za (Kd.N_reads' HN7.out).2.1
  have HF10:=za (Kd.N_F HN7.out)
  clear HN7
  replace HF0:=za (Kd.F_mono (ok:=(fun k_=>(P_ k_∨w.heap.size≤k_)∧some k_≠((.slice A8 ([a2]:List ByteArray).length cp9):Value).ownBlock)) HF0.out (fun k_ hk_=>hk_.1):Kd.F k26 _ (fun k_=>(P_ k_∨w.heap.size≤k_)) _ _ _)
  replace HH:=zd HH
  obtain⟨t12,At13,HH⟩:=HH
  go_wp2_with ((with_reducible refine gc 21 rfl ?_);refine zc 21 (some 19) Try.func21 #[.slice A0 l0.length c0,.slice A8 ([a2]:List ByteArray).length cp9] (h:=?_);(with_reducible refine(attrs_Below.calls k (fun k_=>(P_ k_∨w.heap.size≤k_)) _ _ l0 _ _ ([a2]:List ByteArray) t12 _ HF0.out HL0.out HF10.out HL11.out At13.out).mono ?_);rintro e w14 ⟨v15,rfl,hn15,hb⟩;refine⟨_,rfl,?_⟩)
  refine zg ?_
  have hba:=Kd.N_base hn15
  have HN15:=znl (ok2:=(fun k_=>(P_ k_∨w.heap.size≤k_))) hn15 (below_size HB.out) (fun k_ hk_=>hk_.elim (fun h_=>h_) (fun h_=>.inr (Nat.le_trans (below_size HB.out) h_)))
  replace HF0:=zfr (v:=v15) HF0.out hba hb
  replace HF10:=zfr (v:=v15) HF10.out hba hb
  replace HB:=zhb HB.out hb
  clear hn15 hba hb
  go_wp2
  go_loopg [8,9] k (fun kq u8 u9 w'=>∃ (x16:Bool) (x17:Int),u8=.bool x16∧u9=.int .i64 x17∧Aside0 ((toponymlaw20_AttrsBelow.l0 kq x16 x17 a1 a2 l0 t12)=some r)∧Aside0 (kq≤k)∧Aside0 (Kd.F k26 w' (fun k_=>(P_ k_∨w.heap.size≤k_)∧some k_≠(v15:Value).ownBlock) A0 l0.length l0)∧Aside0 (Kd.N Kd.string 9 w' w.heap.size (fun k_=>(P_ k_∨w.heap.size≤k_)) v15 t12)∧Aside0 (Below w.heap.size w w'))
  case atStart=>exact⟨false,0,(by first|rfl|(simp;done)|(simp[*];done)),(by first|rfl|(simp;done)|(simp[*];done)),HH,⟨Nat.le_refl _⟩,⟨HF0.out⟩,⟨(Kd.N_mono (ok:=(fun k_=>(P_ k_∨w.heap.size≤k_))) HN15.out (fun k_ hk_=>hk_))⟩,⟨HB.out⟩⟩
  case round=>
   clear HH
   clear HF0 HF10 HN15 HB
   obtain⟨x16,x17,rfl,rfl,HA,HK0,HF0,HN15,HB⟩:=hrel
   obtain⟨w19,rfl⟩:∃ wo_:World,wo_=wr:=⟨_,rfl⟩
   cases gk with
   |zero=>exact absurd HA.out (by simp[toponymlaw20_AttrsBelow.l0])
   |succ k18=>
    have H:=HA.out
    clear HA
    simp only[toponymlaw20_AttrsBelow.l0] at H
    have HH:=za H
    clear H
    obtain⟨A20,cp21,he_⟩:=Kd.N_slice HN15.out
    subst he_
    replace HH:=zqt HH
    rcases HH with⟨HH,hk23,hk24⟩|⟨HH,hk64,hk65⟩
    ·by_cases c25:x16=true
     ·replace HH:=MW.hpos HH c25
      subst c25
      replace HH:=zqg HH
      rcases HH with⟨HH,hk27⟩|⟨HH,hk44⟩
      ·replace HH:=zqdo HH
       obtain⟨HH,hk29⟩:=HH
       replace HH:=zqto HH
       obtain⟨HH,hk31,hk32⟩:=HH
       have p33:0≤((wrap64 (x17 - 1)):Int):=of_decide_eq_true (by first|(with_reducible assumption)|assumption)
       have q33:(wrap64 (x17 - 1))<(t12.length:Int):=of_decide_eq_true (by first|(with_reducible assumption)|assumption)
       obtain⟨ad33,e33,hx33_0⟩:=Kd.at_string (Kd.F_now (Kd.N_F HN15.out)) (wrap64 (x17 - 1)) p33 q33
       cases e33
       replace p33:=eq_true p33
       replace q33:=eq_true q33
       replace HH:=zqdo HH
       obtain⟨HH,hk35⟩:=HH
       have p36:0≤(x17:Int):=of_decide_eq_true (by first|(with_reducible assumption)|assumption)
       have q36:x17<(t12.length:Int):=of_decide_eq_true (by first|(with_reducible assumption)|assumption)
       obtain⟨ad36,e36,hx36_0⟩:=Kd.at_string (Kd.F_now (Kd.N_F HN15.out)) x17 p36 q36
       cases e36
       replace p36:=eq_true p36
       replace q36:=eq_true q36
       by_cases c37:(Op.bytesLess ((rdOf ByteArray.empty t12 (wrap64 (x17 - 1))).toList) ((rdOf ByteArray.empty t12 x17).toList))=true
       ·replace HH:=MW.hpos HH c37
        have hk38:(Op.bytesLess ((rdOf ByteArray.empty t12 (wrap64 (x17 - 1))).toList) ((rdOf ByteArray.empty t12 x17).toList))=true:=c37
        clear c37
        go_wp2
        go_quiet (fail)
        go_wp2
        go_roundg k18
        case measure=>have:=HK0.out;omega
        case rel=>exact⟨true,wrap64 (x17+1),(by first|rfl|(simp;done)|(simp[*];done)),(by first|rfl|(simp;done)|(simp[*];done)),HH,⟨by have:=HK0.out;omega⟩,⟨(by(with_reducible repeat(first|apply Kd.F_alloc|apply Kd.F_drewN|apply Kd.F_drew));exact HF0.out)⟩,⟨(Kd.N_mono (ok:=(fun k_=>(P_ k_∨w.heap.size≤k_))) (by(with_reducible repeat(first|apply Kd.N_alloc|apply Kd.N_drewN|apply Kd.N_drew));exact HN15.out) (fun k_ hk_=>hk_))⟩,⟨(by repeat(first|(with_reducible first|exact HB.out|apply below_alloc|apply pw_below_drewN|apply below_drew1)|exact HB.out))⟩⟩
       replace HH:=MW.hneg HH c37
       have hk39:(Op.bytesLess ((rdOf ByteArray.empty t12 (wrap64 (x17 - 1))).toList) ((rdOf ByteArray.empty t12 x17).toList))=false:=by simpa using c37
       clear c37
       obtain rfl:=Option.some.inj HH.out
       clear HH
       go_wp2
       go_quiet (fail)
       go_wp2
       go_ret
       exact zfi (by repeat(first|(with_reducible first|exact HB.out|apply below_alloc|apply pw_below_drewN|apply below_drew1)|exact HB.out))
      go_wp2
      go_quiet (fail)
      go_wp2
      go_roundg k18
      case measure=>have:=HK0.out;omega
      case rel=>exact⟨true,wrap64 (x17+1),(by first|rfl|(simp;done)|(simp[*];done)),(by first|rfl|(simp;done)|(simp[*];done)),HH,⟨by have:=HK0.out;omega⟩,⟨(by(with_reducible repeat(first|apply Kd.F_alloc|apply Kd.F_drewN|apply Kd.F_drew));exact HF0.out)⟩,⟨(Kd.N_mono (ok:=(fun k_=>(P_ k_∨w.heap.size≤k_))) (by(with_reducible repeat(first|apply Kd.N_alloc|apply Kd.N_drewN|apply Kd.N_drew));exact HN15.out) (fun k_ hk_=>hk_))⟩,⟨(by repeat(first|(with_reducible first|exact HB.out|apply below_alloc|apply pw_below_drewN|apply below_drew1)|exact HB.out))⟩⟩
     replace HH:=MW.hneg HH c25
     replace c25:=Bool.eq_false_iff.mpr c25
     subst c25
     replace HH:=zqdo HH
     obtain⟨HH,hk46⟩:=HH
     have p47:0≤(x17:Int):=of_decide_eq_true (by first|(with_reducible assumption)|assumption)
     have q47:x17<(t12.length:Int):=of_decide_eq_true (by first|(with_reducible assumption)|assumption)
     obtain⟨ad47,e47,hx47_0⟩:=Kd.at_string (Kd.F_now (Kd.N_F HN15.out)) x17 p47 q47
     cases e47
     replace p47:=eq_true p47
     replace q47:=eq_true q47
     replace HH:=zqg HH
     rcases HH with⟨HH,hk49⟩|⟨HH,hk62⟩
     ·replace HH:=zqdo HH
      obtain⟨HH,hk51⟩:=HH
      replace HH:=zqto HH
      obtain⟨HH,hk53,hk54⟩:=HH
      have p55:0≤((wrap64 (x17 - 1)):Int):=of_decide_eq_true (by first|(with_reducible assumption)|assumption)
      have q55:(wrap64 (x17 - 1))<(t12.length:Int):=of_decide_eq_true (by first|(with_reducible assumption)|assumption)
      obtain⟨ad55,e55,hx55_0⟩:=Kd.at_string (Kd.F_now (Kd.N_F HN15.out)) (wrap64 (x17 - 1)) p55 q55
      cases e55
      replace p55:=eq_true p55
      replace q55:=eq_true q55
      by_cases c56:(Op.bytesLess ((rdOf ByteArray.empty t12 (wrap64 (x17 - 1))).toList) ((rdOf ByteArray.empty t12 x17).toList))=true
      ·replace HH:=MW.hpos HH c56
       have hk57:(Op.bytesLess ((rdOf ByteArray.empty t12 (wrap64 (x17 - 1))).toList) ((rdOf ByteArray.empty t12 x17).toList))=true:=c56
       clear c56
       go_wp2
       go_quiet (fail)
       go_wp2
       go_roundg k18
       case measure=>have:=HK0.out;omega
       case rel=>exact⟨((rdOf ByteArray.empty t12 x17).toList==a1.toList),wrap64 (x17+1),(by first|rfl|(simp;done)|(simp[*];done)),(by first|rfl|(simp;done)|(simp[*];done)),HH,⟨by have:=HK0.out;omega⟩,⟨(by(with_reducible repeat(first|apply Kd.F_alloc|apply Kd.F_drewN|apply Kd.F_drew));exact HF0.out)⟩,⟨(Kd.N_mono (ok:=(fun k_=>(P_ k_∨w.heap.size≤k_))) (by(with_reducible repeat(first|apply Kd.N_alloc|apply Kd.N_drewN|apply Kd.N_drew));exact HN15.out) (fun k_ hk_=>hk_))⟩,⟨(by repeat(first|(with_reducible first|exact HB.out|apply below_alloc|apply pw_below_drewN|apply below_drew1)|exact HB.out))⟩⟩
      replace HH:=MW.hneg HH c56
      have hk58:(Op.bytesLess ((rdOf ByteArray.empty t12 (wrap64 (x17 - 1))).toList) ((rdOf ByteArray.empty t12 x17).toList))=false:=by simpa using c56
      clear c56
      obtain rfl:=Option.some.inj HH.out
      clear HH
      go_wp2
      go_quiet (fail)
      go_wp2
      go_ret
      exact zfi (by repeat(first|(with_reducible first|exact HB.out|apply below_alloc|apply pw_below_drewN|apply below_drew1)|exact HB.out))
     go_wp2
     go_quiet (fail)
     go_wp2
     go_roundg k18
     case measure=>have:=HK0.out;omega
     case rel=>exact⟨((rdOf ByteArray.empty t12 x17).toList==a1.toList),wrap64 (x17+1),(by first|rfl|(simp;done)|(simp[*];done)),(by first|rfl|(simp;done)|(simp[*];done)),HH,⟨by have:=HK0.out;omega⟩,⟨(by(with_reducible repeat(first|apply Kd.F_alloc|apply Kd.F_drewN|apply Kd.F_drew));exact HF0.out)⟩,⟨(Kd.N_mono (ok:=(fun k_=>(P_ k_∨w.heap.size≤k_))) (by(with_reducible repeat(first|apply Kd.N_alloc|apply Kd.N_drewN|apply Kd.N_drew));exact HN15.out) (fun k_ hk_=>hk_))⟩,⟨(by repeat(first|(with_reducible first|exact HB.out|apply below_alloc|apply pw_below_drewN|apply below_drew1)|exact HB.out))⟩⟩
    replace HH:=zd HH
    obtain⟨⟨t66,t67,t68,t69,t70,t71,t72⟩,At73,HH⟩:=HH
    dsimp only at HH
    go_wp2_with ((with_reducible refine gc 9 rfl ?_);refine zc 9 (some 52) Try.func9 #[.slice A0 l0.length c0,.string a2] (h:=?_);(with_reducible refine(attrs_Find.calls k18 (fun k_=>(P_ k_∨w.heap.size≤k_)∧some k_≠((.slice A20 t12.length cp21):Value).ownBlock) _ _ l0 a2 t66 t67 t68 t69 t70 t71 t72 _ HF0.out HL0.out At73.out).mono ?_);rintro e w74 ⟨rfl,hb⟩;refine⟨_,rfl,?_⟩)
    refine zg ?_
    replace HF0:=zfb HF0.out hb
    replace HB:=zhb HB.out hb
    clear hb
    go_wp2_with ((with_reducible refine gd 10 rfl ?_);refine zb 10 26 #[.string (⟨#[]⟩:ByteArray),.string (⟨#[]⟩:ByteArray),.int .i64 0,.int .i64 0,.bool false,.bool false] (h:=?_);intro g75 hg w76 BKg75 hb)
    refine zg ?_
    have GEg75:=zge hg (below_size HB.out)
    replace HF0:=zfe HF0.out hg hb
    replace HB:=zhb HB.out hb
    clear hg hb
    replace cBKg75:=MB.lz6 BKg75.out
    go_wp2_with ((with_reducible refine gs 26 10 rfl ?_);refine zs 26 10 #[.string t66,.string t67,.int .i64 t68,.int .i64 t69,.bool t70,.bool t71] BKg75.out [.string t66,.string t67,.int .i64 t68,.int .i64 t69,.bool t70,.bool t71] (h:=?_);intro w83 hbk hg)
    refine zg ?_
    replace HF0:=zfg HF0.out hg fun k_ hk_=>hk_.2
    replace HB:=zhg HB.out hg (below_size HB.out) GEg75
    replace BKg75:=hbk
    clear hg hbk
    replace cBKg75:=MB.lz6 BKg75.out
    replace HH:=zd HH
    obtain⟨t90,At91,HH⟩:=HH
    go_wp2_with ((with_reducible refine gc 16 rfl ?_);refine zc 16 (some 59) Try.func16 #[.slice A0 l0.length c0,.string a1,.string a2] (h:=?_);(with_reducible refine(attrs_Is.calls k18 (fun k_=>((P_ k_∨w.heap.size≤k_)∧some k_≠((.slice A20 t12.length cp21):Value).ownBlock)∧k_≠g75) _ _ l0 a1 a2 t90 _ HF0.out HL0.out At91.out).mono ?_);rintro e w92 ⟨rfl,hb⟩;refine⟨_,rfl,?_⟩)
    refine zg ?_
    replace BKg75:=zbb BKg75.out hb
    replace HB:=zhb HB.out hb
    clear hb
    replace cBKg75:=MB.lz6 BKg75.out
    by_cases c99:(x16==t90)=true
    ·replace HH:=MW.hpos HH c99
     have hk100:(x16==t90)=true:=c99
     try have hk101:decide (x16=t90)=true:=by simpa using c99
     try have hk102:(x16==t90)=true:=by simpa using c99
     clear c99
     by_cases c103:(t72==(decide ((t12.length:Int)>0)))=true
     ·replace HH:=MW.hpos HH c103
      have hk104:(t72==(decide ((t12.length:Int)>0)))=true:=c103
      try have hk105:decide (t72=(decide ((t12.length:Int)>0)))=true:=by simpa using c103
      try have hk106:(t72==(decide ((t12.length:Int)>0)))=true:=by simpa using c103
      try have hk107:(t72==(decide (0<t12.length)))=true:=by simpa using c103
      clear c103
      replace HH:=zd HH
      obtain⟨t108,At109,HH⟩:=HH
      go_wp2_with ((with_reducible refine gc 8 rfl ?_);refine zc 8 (some 69) Try.func8 #[] (h:=?_);(with_reducible refine(toponymlaw20_awake.calls k18  t108 _  At109.out).mono ?_);rintro e w110 ⟨rfl,hb⟩;refine⟨_,rfl,?_⟩)
      refine zg ?_
      replace BKg75:=zbb BKg75.out hb
      replace HB:=zhb HB.out hb
      clear hb
      replace cBKg75:=MB.lz6 BKg75.out
      obtain rfl:=Option.some.inj HH.out
      clear HH
      go_wp2
      go_ret
      exact zfi HB.out
     replace HH:=MW.hneg HH c103
     have hk117:(t72==(decide ((t12.length:Int)>0)))=false:=by simpa using c103
     try have hk118:decide (t72=(decide ((t12.length:Int)>0)))=false:=by simpa using c103
     try have hk119:(t72==(decide ((t12.length:Int)>0)))=false:=by simpa using c103
     try have hk120: ¬ (t72=(decide ((t12.length:Int)>0))):=by simpa using c103
     try have hk121:(t72==(decide (0<t12.length)))=false:=by simpa using c103
     clear c103
     obtain rfl:=Option.some.inj HH.out
     clear HH
     go_wp2
     go_ret
     exact zfi HB.out
    replace HH:=MW.hneg HH c99
    have hk122:(x16==t90)=false:=by simpa using c99
    try have hk123:decide (x16=t90)=false:=by simpa using c99
    try have hk124:(x16==t90)=false:=by simpa using c99
    try have hk125: ¬ (x16=t90):=by simpa using c99
    clear c99
    obtain rfl:=Option.some.inj HH.out
    clear HH
    go_wp2
    go_ret
    exact zfi HB.out
 replace HH:=MW.hneg HH c4
 replace c4:=Bool.eq_false_iff.mpr c4
 subst c4
 replace HH:=zd HH
 obtain⟨t126,At127,HH⟩:=HH
 go_wp2_with ((with_reducible refine gc 8 rfl ?_);refine zc 8 (some 15) Try.func8 #[] (h:=?_);(with_reducible refine(toponymlaw20_awake.calls k  t126 _  At127.out).mono ?_);rintro e w128 ⟨rfl,hb⟩;refine⟨_,rfl,?_⟩)
 refine zg ?_
 replace HB:=zhb (by repeat(first|(with_reducible first|exact HB.out|apply below_alloc|apply pw_below_drewN|apply below_drew1)|exact HB.out)) hb
 clear hb
 obtain rfl:=Option.some.inj HH.out
 clear HH
 go_wp2
 go_ret
 exact zfi HB.out
end Go.Proofs.Ytcjafemnkhifmaa.GA
