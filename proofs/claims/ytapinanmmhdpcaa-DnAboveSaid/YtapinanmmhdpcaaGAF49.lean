import Derived.Test.YtapinanmmhdpcaaGA0
import Derived.Test.YtapinanmmhdpcaaGM1
import Derived.Test.YtapinanmmhdpcaaMX
namespace Go.Proofs.Ytapinanmmhdpcaa.GA
open Go.RowKit Go.Proofs.Ytapinanmmhdpcaa Go.Proofs.Ytapinanmmhdpcaa.MW Go.Proofs.YtapinanmmhdpcaaW.PrintWords Go.Proofs.YtapinanmmhdpcaaW.PrintLast Go.Proofs.YtapinanmmhdpcaaW.PrintMore
attribute [local go_sem] max2_int min2_int max_two min_two
set_option maxHeartbeats 8000000
set_option maxRecDepth 100000
set_option linter.unusedVariables false
set_option linter.unusedSimpArgs false
def toponymref18_value.l0:Nat→(List Int)→Int→Bool→ByteArray→Option (ByteArray × Bool)
 |0,_,_,_,_=>none
 |k+1,x1,x4,x5,a0=>if x4<(a0.size:Int) then(if 0≤x4 then(if (bt a0 x4)=92 then(if (wrap64 (x4+1))≥(a0.size:Int) then(some ((⟨#[]⟩:ByteArray),false)) else(if 0≤(wrap64 (x4+1)) then(if (wrap64 (x4+1))<(a0.size:Int) then((toponymref18_sign.f (bt a0 (wrap64 (x4+1)))).bind fun t26=>(if t26=true then(if x1.length<140737488355328 then((some (x1++[bt a0 (wrap64 (x4+1))]:List Int)).bind fun y31=>((toponymref18_value.l0 k y31 (wrap64 (x4+2)) ((bt a0 x4)==32) a0))) else(none)) else(if (bt a0 (wrap64 (x4+1)))=32 then(if x1.length<140737488355328 then((some (x1++[bt a0 (wrap64 (x4+1))]:List Int)).bind fun y39=>((toponymref18_value.l0 k y39 (wrap64 (x4+2)) ((bt a0 x4)==32) a0))) else(none)) else(if (bt a0 (wrap64 (x4+1)))=35 then(if x1.length<140737488355328 then((some (x1++[bt a0 (wrap64 (x4+1))]:List Int)).bind fun y49=>((toponymref18_value.l0 k y49 (wrap64 (x4+2)) ((bt a0 x4)==32) a0))) else(none)) else(if (wrap64 (x4+2))≥(a0.size:Int) then(some ((⟨#[]⟩:ByteArray),false)) else((toponymref18_unhex.f (bt a0 (wrap64 (x4+1)))).bind fun t58=>(if t58>15 then(some ((⟨#[]⟩:ByteArray),false)) else(if 0≤(wrap64 (x4+2)) then(if (wrap64 (x4+2))<(a0.size:Int) then((toponymref18_unhex.f (bt a0 (wrap64 (x4+2)))).bind fun t70=>(if t70>15 then(some ((⟨#[]⟩:ByteArray),false)) else((toponymref18_unhex.f (bt a0 (wrap64 (x4+1)))).bind fun t78=>((toponymref18_unhex.f (bt a0 (wrap64 (x4+2)))).bind fun t81=>(if x1.length<140737488355328 then((some (x1++[(wrap64 ((wrap64 (16*t78))+t81)) % 256]:List Int)).bind fun y85=>((toponymref18_value.l0 k y85 (wrap64 (x4+3)) ((bt a0 x4)==32) a0))) else(none)))))) else(none)) else(none))))))))) else(none)) else(none))) else((toponymref18_sign.f (bt a0 x4)).bind fun t97=>(if t97=true then(some ((⟨#[]⟩:ByteArray),false)) else(if x4=0 then(if (bt a0 x4)=32 then(some ((⟨#[]⟩:ByteArray),false)) else(if (bt a0 x4)=35 then(some ((⟨#[]⟩:ByteArray),false)) else(if x1.length<140737488355328 then((some (x1++[bt a0 x4]:List Int)).bind fun y115=>((toponymref18_value.l0 k y115 (wrap64 (x4+1)) ((bt a0 x4)==32) a0))) else(none)))) else(if x1.length<140737488355328 then((some (x1++[bt a0 x4]:List Int)).bind fun y122=>((toponymref18_value.l0 k y122 (wrap64 (x4+1)) ((bt a0 x4)==32) a0))) else(none)))))) else(none)) else(if (x1.length:Int)>0 then(some (strOfNums x1,!x5)) else(some (strOfNums x1,false)))
def toponymref18_value.f (k:Nat) (a0:ByteArray):Option (ByteArray × Bool):=(toponymref18_value.l0 k ([]:List Int) 0 false a0)
theorem toponymref18_value.mono_l:∀ k,(∀ y0 y1 y2 y3,LeO (toponymref18_value.l0 k y0 y1 y2 y3) (toponymref18_value.l0 (k+1) y0 y1 y2 y3))
 |0=>fun _ _ _ _ r h=>by simp[toponymref18_value.l0] at h
 |k+1=>by
  have ih0:=toponymref18_value.mono_l k
  ·intro y0 y1 y2 y3
   unfold toponymref18_value.l0
   with_reducible repeat' first|exact ih0 _ _ _ _|exact LeO.refl _|exact LeO.none _|refine LeO.ite ?_ ?_|refine LeO.bind ?_ (fun _=>?_)
theorem toponymref18_value.mono:∀ a0_ k,LeO (toponymref18_value.f k a0_) (toponymref18_value.f (k+1) a0_):=by
 intro a0_ k
 have ih0:=toponymref18_value.mono_l k
 unfold toponymref18_value.f
 with_reducible repeat' first|exact ih0 _ _ _ _|exact LeO.refl _|exact LeO.none _|refine LeO.ite ?_ ?_|refine LeO.bind ?_ (fun _=>?_)
theorem toponymref18_value.calls (k:Nat) (a0:ByteArray) (r1:ByteArray) (r2:Bool) (w:World) (h:toponymref18_value.f k a0=some (r1,r2)):
  Calls Try.prog 49 #[.string a0] w (fun e w'=>e=.returned (.tuple #[.string r1,.bool r2])∧Below w.heap.size w w'):=by
 unfold toponymref18_value.f at h
 have HH:=za h
 clear h
 have HB:=za (Below.refl w.heap.size w)
 go_enter Try.func49,Try.ntmps49
 go_wp2
 go_loopg [4,5,6] k (fun kq u4 u5 u6 w'=>∃ (x1:List Int) (x4:Int) (x5:Bool),u5=.int .i64 x4∧u6=.bool x5∧Aside0 ((toponymref18_value.l0 kq x1 x4 x5 a0)=some (r1,r2))∧Aside0 (kq≤k)∧Aside0 (Kd.N (Kd.int .u8) 5 w' w.heap.size (fun k_=>(w.heap.size≤k_)) u4 x1)∧Aside0 (Below w.heap.size w w'))
 case atStart=>exact⟨([]:List Int),0,false,(by first|rfl|(simp;done)|(simp[*];done)),(by first|rfl|(simp;done)|(simp[*];done)),HH,⟨Nat.le_refl _⟩,⟨Kd.N_nil _ _ _ _ _⟩,⟨HB.out⟩⟩
 case round=>
  clear HH
  clear HB
  obtain⟨x1,x4,x5,rfl,rfl,HA,HK0,HN3,HB⟩:=hrel
  obtain⟨v2,rfl⟩:∃ z_:Value,z_=u4:=⟨_,rfl⟩
  obtain⟨w7,rfl⟩:∃ wo_:World,wo_=wr:=⟨_,rfl⟩
  cases gk with
  |zero=>exact absurd HA.out (by simp[toponymref18_value.l0])
  |succ k6=>
   have H:=HA.out
   clear HA
   simp only[toponymref18_value.l0] at H
   have HH:=za H
   clear H
   replace HH:=zqt HH
   rcases HH with⟨HH,hk9,hk10⟩|⟨HH,hk127,hk128⟩
   ·replace HH:=zqdo HH
    obtain⟨HH,hk12⟩:=HH
    have p13:0≤(x4:Int):=of_decide_eq_true (by first|(with_reducible assumption)|assumption)
    have q13:x4<(a0.size:Int):=of_decide_eq_true (by first|(with_reducible assumption)|assumption)
    have hx13:=MW.bt_at' a0 x4
    replace p13:=eq_true p13
    replace q13:=eq_true q13
    replace HH:=zqe HH
    rcases HH with⟨HH,hk15,hk16⟩|⟨HH,hk95,hk96⟩
    ·replace HH:=zqG HH
     rcases HH with⟨HH,hk18⟩|⟨HH,hk19⟩
     ·have H:=HH.out
      simp only[Option.some.injEq,Prod.mk.injEq] at H
      obtain⟨rfl,rfl⟩:=H
      clear HH
      go_wp2
      go_ret2
      exact zfi HB.out
     replace HH:=zqdo HH
     obtain⟨HH,hk21⟩:=HH
     replace HH:=zqto HH
     obtain⟨HH,hk23,hk24⟩:=HH
     have p25:0≤((wrap64 (x4+1)):Int):=of_decide_eq_true (by first|(with_reducible assumption)|assumption)
     have q25:(wrap64 (x4+1))<(a0.size:Int):=of_decide_eq_true (by first|(with_reducible assumption)|assumption)
     have hx25:=MW.bt_at' a0 (wrap64 (x4+1))
     replace p25:=eq_true p25
     replace q25:=eq_true q25
     replace HH:=zd HH
     obtain⟨t26,At27,HH⟩:=HH
     go_wp2_with ((with_reducible refine gc 45 rfl ?_);refine zc 45 (some 50) Try.func45 #[.int .u8 (bt a0 (wrap64 (x4+1)))] (h:=?_);(with_reducible refine(toponymref18_sign.calls  (bt a0 (wrap64 (x4+1))) t26 _  At27.out).mono ?_);rintro e w' ⟨rfl,⟨nd,rfl⟩⟩;refine⟨_,rfl,?_⟩)
     refine zg ?_
     by_cases c29:t26=true
     ·replace HH:=MW.hpos HH c29
      subst c29
      obtain⟨HH,LMc30⟩:=zlm HH
      obtain⟨y31,hy31⟩:∃ y_:List Int,y_=(x1++[bt a0 (wrap64 (x4+1))]):=⟨_,rfl⟩
      have H:((toponymref18_value.l0 k6 y31 (wrap64 (x4+2)) ((bt a0 x4)==32) a0))=some (r1,r2):=by rw[hy31];exact HH.out
      replace HH:=za H
      clear H
      have NYy31:=za hy31
      clear hy31
      go_wp2_with (((with_reducible refine gate_dst (N:=62) rfl ?_);(try(refine gate_guard (by rfl) ?_;dsimp only));refine Kd.N_append (Kd.int .u8) w.heap.size rfl _ _ 72 5 (.int .u8 0) 1 rfl Try.underlying72 info5 rfl (by decide) (by decide) (v2) x1 (bt a0 (wrap64 (x4+1))) [.int .u8 (bt a0 (wrap64 (x4+1)))] (fun k_=>(w.heap.size≤k_)) (fun k_=>(fun k_=>(w.heap.size≤k_)) k_∧some k_≠(v2:Value).ownBlock) rfl rfl (fun _ _=>rfl) (fun _ hk_=>hk_) (fun k_ h_=>(Nat.le_trans (below_size (by repeat(first|(with_reducible first|exact HB.out|apply below_alloc|apply pw_below_drewN|apply below_drew1)|exact HB.out))) h_)) (by(with_reducible repeat(first|apply Kd.N_alloc|apply Kd.N_drewN|apply Kd.N_drew));exact HN3.out) (by repeat(first|(with_reducible first|exact HB.out|apply below_alloc|apply pw_below_drewN|apply below_drew1)|exact HB.out)) (below_size (by repeat(first|(with_reducible first|exact HB.out|apply below_alloc|apply pw_below_drewN|apply below_drew1)|exact HB.out))) (by first|(have:=LMc30.out;omega)|(have:=LMc30.out;simp at *;omega)) ?_;intro v32 w33 hn1 hb1 hg1 hat1);replace hat1:=za hat1;refine stop_ ?_)
      refine zg ?_
      replace hat1:=hat1.out
      replace HB:=za hb1
      clear HN3
      have HN34:=za hn1
      clear hn1 hb1 hg1 hat1
      replace HN34:=za (by rw[NYy31.out];exact HN34.out:Kd.N (Kd.int .u8) 5 w33 w.heap.size (fun k_=>(w.heap.size≤k_)) v32 y31)
      go_wp2
      go_roundg k6
      case measure=>have:=HK0.out;omega
      case rel=>exact⟨y31,wrap64 (x4+2),((bt a0 x4)==32),(by first|rfl|(simp;done)|(simp[*];done)),(by first|rfl|(simp;done)|(simp[*];done)),HH,⟨by have:=HK0.out;omega⟩,⟨(Kd.N_mono (ok:=(fun k_=>(w.heap.size≤k_))) HN34.out (fun k_ hk_=>hk_))⟩,⟨HB.out⟩⟩
     replace HH:=MW.hneg HH c29
     replace c29:=Bool.eq_false_iff.mpr c29
     subst c29
     replace HH:=zqe HH
     rcases HH with⟨HH,hk36,hk37⟩|⟨HH,hk43,hk44⟩
     ·obtain⟨HH,LMc38⟩:=zlm HH
      obtain⟨y39,hy39⟩:∃ y_:List Int,y_=(x1++[bt a0 (wrap64 (x4+1))]):=⟨_,rfl⟩
      have H:((toponymref18_value.l0 k6 y39 (wrap64 (x4+2)) ((bt a0 x4)==32) a0))=some (r1,r2):=by rw[hy39];exact HH.out
      replace HH:=za H
      clear H
      have NYy39:=za hy39
      clear hy39
      go_wp2_with (((with_reducible refine gate_dst (N:=62) rfl ?_);(try(refine gate_guard (by rfl) ?_;dsimp only));refine Kd.N_append (Kd.int .u8) w.heap.size rfl _ _ 72 5 (.int .u8 0) 1 rfl Try.underlying72 info5 rfl (by decide) (by decide) (v2) x1 (bt a0 (wrap64 (x4+1))) [.int .u8 (bt a0 (wrap64 (x4+1)))] (fun k_=>(w.heap.size≤k_)) (fun k_=>(fun k_=>(w.heap.size≤k_)) k_∧some k_≠(v2:Value).ownBlock) rfl rfl (fun _ _=>rfl) (fun _ hk_=>hk_) (fun k_ h_=>(Nat.le_trans (below_size (by repeat(first|(with_reducible first|exact HB.out|apply below_alloc|apply pw_below_drewN|apply below_drew1)|exact HB.out))) h_)) (by(with_reducible repeat(first|apply Kd.N_alloc|apply Kd.N_drewN|apply Kd.N_drew));exact HN3.out) (by repeat(first|(with_reducible first|exact HB.out|apply below_alloc|apply pw_below_drewN|apply below_drew1)|exact HB.out)) (below_size (by repeat(first|(with_reducible first|exact HB.out|apply below_alloc|apply pw_below_drewN|apply below_drew1)|exact HB.out))) (by first|(have:=LMc38.out;omega)|(have:=LMc38.out;simp at *;omega)) ?_;intro v40 w41 hn1 hb1 hg1 hat1);replace hat1:=za hat1;refine stop_ ?_)
      refine zg ?_
      replace hat1:=hat1.out
      replace HB:=za hb1
      clear HN3
      have HN42:=za hn1
      clear hn1 hb1 hg1 hat1
      replace HN42:=za (by rw[NYy39.out];exact HN42.out:Kd.N (Kd.int .u8) 5 w41 w.heap.size (fun k_=>(w.heap.size≤k_)) v40 y39)
      go_wp2
      go_roundg k6
      case measure=>have:=HK0.out;omega
      case rel=>exact⟨y39,wrap64 (x4+2),((bt a0 x4)==32),(by first|rfl|(simp;done)|(simp[*];done)),(by first|rfl|(simp;done)|(simp[*];done)),HH,⟨by have:=HK0.out;omega⟩,⟨(Kd.N_mono (ok:=(fun k_=>(w.heap.size≤k_))) HN42.out (fun k_ hk_=>hk_))⟩,⟨HB.out⟩⟩
     replace HH:=zqe HH
     rcases HH with⟨HH,hk46,hk47⟩|⟨HH,hk53,hk54⟩
     ·obtain⟨HH,LMc48⟩:=zlm HH
      obtain⟨y49,hy49⟩:∃ y_:List Int,y_=(x1++[bt a0 (wrap64 (x4+1))]):=⟨_,rfl⟩
      have H:((toponymref18_value.l0 k6 y49 (wrap64 (x4+2)) ((bt a0 x4)==32) a0))=some (r1,r2):=by rw[hy49];exact HH.out
      replace HH:=za H
      clear H
      have NYy49:=za hy49
      clear hy49
      go_wp2_with (((with_reducible refine gate_dst (N:=62) rfl ?_);(try(refine gate_guard (by rfl) ?_;dsimp only));refine Kd.N_append (Kd.int .u8) w.heap.size rfl _ _ 72 5 (.int .u8 0) 1 rfl Try.underlying72 info5 rfl (by decide) (by decide) (v2) x1 (bt a0 (wrap64 (x4+1))) [.int .u8 (bt a0 (wrap64 (x4+1)))] (fun k_=>(w.heap.size≤k_)) (fun k_=>(fun k_=>(w.heap.size≤k_)) k_∧some k_≠(v2:Value).ownBlock) rfl rfl (fun _ _=>rfl) (fun _ hk_=>hk_) (fun k_ h_=>(Nat.le_trans (below_size (by repeat(first|(with_reducible first|exact HB.out|apply below_alloc|apply pw_below_drewN|apply below_drew1)|exact HB.out))) h_)) (by(with_reducible repeat(first|apply Kd.N_alloc|apply Kd.N_drewN|apply Kd.N_drew));exact HN3.out) (by repeat(first|(with_reducible first|exact HB.out|apply below_alloc|apply pw_below_drewN|apply below_drew1)|exact HB.out)) (below_size (by repeat(first|(with_reducible first|exact HB.out|apply below_alloc|apply pw_below_drewN|apply below_drew1)|exact HB.out))) (by first|(have:=LMc48.out;omega)|(have:=LMc48.out;simp at *;omega)) ?_;intro v50 w51 hn1 hb1 hg1 hat1);replace hat1:=za hat1;refine stop_ ?_)
      refine zg ?_
      replace hat1:=hat1.out
      replace HB:=za hb1
      clear HN3
      have HN52:=za hn1
      clear hn1 hb1 hg1 hat1
      replace HN52:=za (by rw[NYy49.out];exact HN52.out:Kd.N (Kd.int .u8) 5 w51 w.heap.size (fun k_=>(w.heap.size≤k_)) v50 y49)
      go_wp2
      go_roundg k6
      case measure=>have:=HK0.out;omega
      case rel=>exact⟨y49,wrap64 (x4+2),((bt a0 x4)==32),(by first|rfl|(simp;done)|(simp[*];done)),(by first|rfl|(simp;done)|(simp[*];done)),HH,⟨by have:=HK0.out;omega⟩,⟨(Kd.N_mono (ok:=(fun k_=>(w.heap.size≤k_))) HN52.out (fun k_ hk_=>hk_))⟩,⟨HB.out⟩⟩
     replace HH:=zqG HH
     rcases HH with⟨HH,hk56⟩|⟨HH,hk57⟩
     ·have H:=HH.out
      simp only[Option.some.injEq,Prod.mk.injEq] at H
      obtain⟨rfl,rfl⟩:=H
      clear HH
      go_wp2
      go_ret2
      exact zfi (by repeat(first|(with_reducible first|exact HB.out|apply below_alloc|apply pw_below_drewN|apply below_drew1)|exact HB.out))
     replace HH:=zd HH
     obtain⟨t58,At59,HH⟩:=HH
     go_wp2_with ((with_reducible refine gc 55 rfl ?_);refine zc 55 (some 72) Try.func55 #[.int .u8 (bt a0 (wrap64 (x4+1)))] (h:=?_);(with_reducible refine(toponymref18_unhex.calls  (bt a0 (wrap64 (x4+1))) t58 _  At59.out).mono ?_);rintro e w' ⟨rfl,⟨nd,rfl⟩⟩;refine⟨_,rfl,?_⟩)
     refine zg ?_
     replace HH:=zqg HH
     rcases HH with⟨HH,hk62⟩|⟨HH,hk63⟩
     ·have H:=HH.out
      simp only[Option.some.injEq,Prod.mk.injEq] at H
      obtain⟨rfl,rfl⟩:=H
      clear HH
      go_wp2
      go_ret2
      exact zfi (by repeat(first|(with_reducible first|exact HB.out|apply below_alloc|apply pw_below_drewN|apply below_drew1)|exact HB.out))
     replace HH:=zqdo HH
     obtain⟨HH,hk65⟩:=HH
     replace HH:=zqto HH
     obtain⟨HH,hk67,hk68⟩:=HH
     have p69:0≤((wrap64 (x4+2)):Int):=of_decide_eq_true (by first|(with_reducible assumption)|assumption)
     have q69:(wrap64 (x4+2))<(a0.size:Int):=of_decide_eq_true (by first|(with_reducible assumption)|assumption)
     have hx69:=MW.bt_at' a0 (wrap64 (x4+2))
     replace p69:=eq_true p69
     replace q69:=eq_true q69
     replace HH:=zd HH
     obtain⟨t70,At71,HH⟩:=HH
     go_wp2_with ((with_reducible refine gc 55 rfl ?_);refine zc 55 (some 80) Try.func55 #[.int .u8 (bt a0 (wrap64 (x4+2)))] (h:=?_);(with_reducible refine(toponymref18_unhex.calls  (bt a0 (wrap64 (x4+2))) t70 _  At71.out).mono ?_);rintro e w' ⟨rfl,⟨nd,rfl⟩⟩;refine⟨_,rfl,?_⟩)
     refine zg ?_
     replace HH:=zqg HH
     rcases HH with⟨HH,hk74⟩|⟨HH,hk75⟩
     ·have H:=HH.out
      simp only[Option.some.injEq,Prod.mk.injEq] at H
      obtain⟨rfl,rfl⟩:=H
      clear HH
      go_wp2
      go_ret2
      exact zfi (by repeat(first|(with_reducible first|exact HB.out|apply below_alloc|apply pw_below_drewN|apply below_drew1)|exact HB.out))
     go_wp2
     refine MW.name_world (W0:=w7) (by repeat(first|exact Drawn0.refl _|apply Drawn0.step)) ?_
     intro w76 hb
     replace HN3:=znb HN3.out hb
     replace HB:=zhb HB.out hb
     clear hb
     go_wp2
     have hwr_:∀ n_:Int,IntKind.i64.wrap n_=wrap64 n_:=fun n_=>IntWalk.i64_left n_
     refine wp_region_any (by kernel_rfl) ?_
     change wpAny _ _ _ _ 14 #[false,false,false,false,false,false,false,false,false,false,false,false,false,false] _ w76.drew
     obtain⟨w77,hw_⟩:∃ w_:World,w_=w76.drew:=⟨_,rfl⟩
     rw[← hw_]
     have hb:Below w76.heap.size w76 w77:=by rw[hw_];exact below_drew1 (Below.refl _ _)
     clear hw_
     replace HN3:=znb HN3.out hb
     replace HB:=zhb HB.out hb
     clear hb
     refine zt 0 (v2) #[_,_,_,_,_,_,_,_,_,_,_,_,_,_] ⟨[_,_,_,_,_,_,_,_,_,_,_,_,_,_,_,_,_,_,_,_,_,_,_,_,_,_,_,_,_,_,_,_,_,_,_,_,_,_,_,_,_,_,_,_,_,_,_,_,_,_,_,_,_,_,_,_,_,_,_,_,_,_,_,_,_,_,_,_,_,_,_,_,_,_,_,_,_,_,_,_,_,_,_,_,_,_,_,_,_,_,_,_,_,_,_,_,_,_,_,_,_,_,_,_,_,_,_].toArray,[]⟩ (h:=?_)
     refine zt 1 (.int .u8 (bt a0 (wrap64 (x4+1)))) #[_,_,_,_,_,_,_,_,_,_,_,_,_,_] ⟨[_,_,_,_,_,_,_,_,_,_,_,_,_,_,_,_,_,_,_,_,_,_,_,_,_,_,_,_,_,_,_,_,_,_,_,_,_,_,_,_,_,_,_,_,_,_,_,_,_,_,_,_,_,_,_,_,_,_,_,_,_,_,_,_,_,_,_,_,_,_,_,_,_,_,_,_,_,_,_,_,_,_,_,_,_,_,_,_,_,_,_,_,_,_,_,_,_,_,_,_,_,_,_,_,_,_,_].toArray,[]⟩ (h:=?_)
     refine zt 4 (.string a0) #[_,_,_,_,_,_,_,_,_,_,_,_,_,_] ⟨[_,_,_,_,_,_,_,_,_,_,_,_,_,_,_,_,_,_,_,_,_,_,_,_,_,_,_,_,_,_,_,_,_,_,_,_,_,_,_,_,_,_,_,_,_,_,_,_,_,_,_,_,_,_,_,_,_,_,_,_,_,_,_,_,_,_,_,_,_,_,_,_,_,_,_,_,_,_,_,_,_,_,_,_,_,_,_,_,_,_,_,_,_,_,_,_,_,_,_,_,_,_,_,_,_,_,_].toArray,[]⟩ (h:=?_)
     refine zt 5 (.int .i64 x4) #[_,_,_,_,_,_,_,_,_,_,_,_,_,_] ⟨[_,_,_,_,_,_,_,_,_,_,_,_,_,_,_,_,_,_,_,_,_,_,_,_,_,_,_,_,_,_,_,_,_,_,_,_,_,_,_,_,_,_,_,_,_,_,_,_,_,_,_,_,_,_,_,_,_,_,_,_,_,_,_,_,_,_,_,_,_,_,_,_,_,_,_,_,_,_,_,_,_,_,_,_,_,_,_,_,_,_,_,_,_,_,_,_,_,_,_,_,_,_,_,_,_,_,_].toArray,[]⟩ (h:=?_)
     refine zt 6 (.int .i64 (wrap64 (x4+2))) #[_,_,_,_,_,_,_,_,_,_,_,_,_,_] ⟨[_,_,_,_,_,_,_,_,_,_,_,_,_,_,_,_,_,_,_,_,_,_,_,_,_,_,_,_,_,_,_,_,_,_,_,_,_,_,_,_,_,_,_,_,_,_,_,_,_,_,_,_,_,_,_,_,_,_,_,_,_,_,_,_,_,_,_,_,_,_,_,_,_,_,_,_,_,_,_,_,_,_,_,_,_,_,_,_,_,_,_,_,_,_,_,_,_,_,_,_,_,_,_,_,_,_,_].toArray,[]⟩ (h:=?_)
     refine zt 7 (.int .u8 (bt a0 (wrap64 (x4+2)))) #[_,_,_,_,_,_,_,_,_,_,_,_,_,_] ⟨[_,_,_,_,_,_,_,_,_,_,_,_,_,_,_,_,_,_,_,_,_,_,_,_,_,_,_,_,_,_,_,_,_,_,_,_,_,_,_,_,_,_,_,_,_,_,_,_,_,_,_,_,_,_,_,_,_,_,_,_,_,_,_,_,_,_,_,_,_,_,_,_,_,_,_,_,_,_,_,_,_,_,_,_,_,_,_,_,_,_,_,_,_,_,_,_,_,_,_,_,_,_,_,_,_,_,_].toArray,[]⟩ (h:=?_)
     refine MW.any_act (i:=2) (listed':= #[true,true,true,false,true,true,true,true,false,false,false,false,false,false]) rfl (by kernel_rfl) (by kernel_rfl) ?_
     replace HH:=zd HH
     obtain⟨t78,At79,HH⟩:=HH
     go_wp2_with ((with_reducible refine gc 55 rfl ?_);refine zc 55 (some 85) Try.func55 #[.int .u8 (bt a0 (wrap64 (x4+1)))] (h:=?_);(with_reducible refine(toponymref18_unhex.calls  (bt a0 (wrap64 (x4+1))) t78 _  At79.out).mono ?_);rintro e w' ⟨rfl,⟨nd,rfl⟩⟩;refine⟨_,rfl,?_⟩)
     refine zg ?_
     refine wpList_nil ?_
     change wpAny _ _ _ _ 7 #[true,true,true,false,true,true,true,true,false,false,false,false,false,false] ⟨[(.string a0),undef,u2,u3,v2,(.int .i64 x4),(.bool ((bt a0 x4)==32)),(.int .u8 (bt a0 x4)),(.int .u8 (bt a0 (wrap64 (x4+1)))),(.int .i64 x4),(.string a0),(.int .i64 (a0.size:Int)),(.bool true),(.string a0),(.int .i64 x4),(.int .u8 (bt a0 x4)),(.int .u8 (bt a0 x4)),(.bool ((bt a0 x4)==32)),(.int .u8 (bt a0 x4)),(.bool false),u20,u21,u22,u23,u24,u25,u26,u27,u28,u29,u30,u31,u32,u33,u34,u35,u36,u37,u38,u39,(.int .i64 x4),(.int .i64 (wrap64 (x4+1))),(.string a0),(.int .i64 (a0.size:Int)),(.bool false),(.string a0),(.int .i64 x4),(.int .i64 (wrap64 (x4+1))),(.int .u8 (bt a0 (wrap64 (x4+1)))),(.int .u8 (bt a0 (wrap64 (x4+1)))),(.bool false),(.bool false),(.int .u8 (bt a0 (wrap64 (x4+1)))),(.bool false),(.bool false),(.bool false),(.int .u8 (bt a0 (wrap64 (x4+1)))),(.bool false),(.bool false),u59,u60,u61,u62,u63,u64,(.int .i64 x4),(.int .i64 (wrap64 (x4+2))),(.string a0),(.int .i64 (a0.size:Int)),(.bool false),(.bool false),(.int .u8 (bt a0 (wrap64 (x4+1)))),(.int .i64 t58),(.bool false),(.bool false),(.bool false),(.string a0),(.int .i64 x4),(.int .i64 (wrap64 (x4+2))),(.int .u8 (bt a0 (wrap64 (x4+2)))),(.int .i64 t70),(.bool false),(.bool false),v2,(.int .u8 (bt a0 (wrap64 (x4+1)))),(.int .i64 t78),u86,(.string a0),(.int .i64 x4),(.int .i64 (wrap64 (x4+2))),(.int .u8 (bt a0 (wrap64 (x4+2)))),u91,u92,u93,u94,u95,u96,u97,undef,undef,undef,undef,undef,undef,undef,undef,undef].toArray,[]⟩ _
     refine zt 3 (.int .i64 (wrap64 (16*t78))) #[_,_,_,_,_,_,_,_,_,_,_,_,_,_] ⟨[_,_,_,_,_,_,_,_,_,_,_,_,_,_,_,_,_,_,_,_,_,_,_,_,_,_,_,_,_,_,_,_,_,_,_,_,_,_,_,_,_,_,_,_,_,_,_,_,_,_,_,_,_,_,_,_,_,_,_,_,_,_,_,_,_,_,_,_,_,_,_,_,_,_,_,_,_,_,_,_,_,_,_,_,_,_,_,_,_,_,_,_,_,_,_,_,_,_,_,_,_,_,_,_,_,_,_].toArray,[]⟩ (h:=?_)
     refine MW.any_seq 8 6 rfl (by kernel_rfl) ?_
     simp only[List.drop_succ_cons,List.drop_zero]
     clear hwr_
     replace HH:=zd HH
     obtain⟨t81,At82,HH⟩:=HH
     go_wp2_with ((with_reducible refine gc 55 rfl ?_);refine zc 55 (some 91) Try.func55 #[.int .u8 (bt a0 (wrap64 (x4+2)))] (h:=?_);(with_reducible refine(toponymref18_unhex.calls  (bt a0 (wrap64 (x4+2))) t81 _  At82.out).mono ?_);rintro e w' ⟨rfl,⟨nd,rfl⟩⟩;refine⟨_,rfl,?_⟩)
     refine zg ?_
     obtain⟨HH,LMc84⟩:=zlm HH
     obtain⟨y85,hy85⟩:∃ y_:List Int,y_=(x1++[(wrap64 ((wrap64 (16*t78))+t81)) % 256]):=⟨_,rfl⟩
     have H:((toponymref18_value.l0 k6 y85 (wrap64 (x4+3)) ((bt a0 x4)==32) a0))=some (r1,r2):=by rw[hy85];exact HH.out
     replace HH:=za H
     clear H
     have NYy85:=za hy85
     clear hy85
     go_wp2_with (((with_reducible refine gate_dst (N:=95) rfl ?_);(try(refine gate_guard (by rfl) ?_;dsimp only));refine Kd.N_append (Kd.int .u8) w.heap.size rfl _ _ 72 5 (.int .u8 0) 1 rfl Try.underlying72 info5 rfl (by decide) (by decide) (v2) x1 ((wrap64 ((wrap64 (16*t78))+t81)) % 256) [.int .u8 ((wrap64 ((wrap64 (16*t78))+t81)) % 256)] (fun k_=>(w.heap.size≤k_)) (fun k_=>(fun k_=>(w.heap.size≤k_)) k_∧some k_≠(v2:Value).ownBlock) rfl rfl (fun _ _=>rfl) (fun _ hk_=>hk_) (fun k_ h_=>(Nat.le_trans (below_size (by repeat(first|(with_reducible first|exact HB.out|apply below_alloc|apply pw_below_drewN|apply below_drew1)|exact HB.out))) h_)) (by(with_reducible repeat(first|apply Kd.N_alloc|apply Kd.N_drewN|apply Kd.N_drew));exact HN3.out) (by repeat(first|(with_reducible first|exact HB.out|apply below_alloc|apply pw_below_drewN|apply below_drew1)|exact HB.out)) (below_size (by repeat(first|(with_reducible first|exact HB.out|apply below_alloc|apply pw_below_drewN|apply below_drew1)|exact HB.out))) (by first|(have:=LMc84.out;omega)|(have:=LMc84.out;simp at *;omega)) ?_;intro v86 w87 hn1 hb1 hg1 hat1);replace hat1:=za hat1;refine stop_ ?_)
     refine zg ?_
     replace hat1:=hat1.out
     replace HB:=za hb1
     clear HN3
     have HN88:=za hn1
     clear hn1 hb1 hg1 hat1
     replace HN88:=za (by rw[NYy85.out];exact HN88.out:Kd.N (Kd.int .u8) 5 w87 w.heap.size (fun k_=>(w.heap.size≤k_)) v86 y85)
     go_wp2
     go_roundg k6
     case measure=>have:=HK0.out;omega
     case rel=>exact⟨y85,wrap64 (x4+3),((bt a0 x4)==32),(by first|rfl|(simp;done)|(simp[*];done)),(by first|rfl|(simp;done)|(simp[*];done)),HH,⟨by have:=HK0.out;omega⟩,⟨(Kd.N_mono (ok:=(fun k_=>(w.heap.size≤k_))) HN88.out (fun k_ hk_=>hk_))⟩,⟨HB.out⟩⟩
    replace HH:=zd HH
    obtain⟨t97,At98,HH⟩:=HH
    go_wp2_with ((with_reducible refine gc 45 rfl ?_);refine zc 45 (some 21) Try.func45 #[.int .u8 (bt a0 x4)] (h:=?_);(with_reducible refine(toponymref18_sign.calls  (bt a0 x4) t97 _  At98.out).mono ?_);rintro e w' ⟨rfl,⟨nd,rfl⟩⟩;refine⟨_,rfl,?_⟩)
    refine zg ?_
    by_cases c100:t97=true
    ·replace HH:=MW.hpos HH c100
     subst c100
     have H:=HH.out
     simp only[Option.some.injEq,Prod.mk.injEq] at H
     obtain⟨rfl,rfl⟩:=H
     clear HH
     go_wp2
     go_ret2
     exact zfi (by repeat(first|(with_reducible first|exact HB.out|apply below_alloc|apply pw_below_drewN|apply below_drew1)|exact HB.out))
    replace HH:=MW.hneg HH c100
    replace c100:=Bool.eq_false_iff.mpr c100
    subst c100
    replace HH:=zqe HH
    rcases HH with⟨HH,hk102,hk103⟩|⟨HH,hk119,hk120⟩
    ·replace HH:=zqe HH
     rcases HH with⟨HH,hk105,hk106⟩|⟨HH,hk107,hk108⟩
     ·have H:=HH.out
      simp only[Option.some.injEq,Prod.mk.injEq] at H
      obtain⟨rfl,rfl⟩:=H
      clear HH
      go_wp2
      go_ret2
      exact zfi (by repeat(first|(with_reducible first|exact HB.out|apply below_alloc|apply pw_below_drewN|apply below_drew1)|exact HB.out))
     replace HH:=zqe HH
     rcases HH with⟨HH,hk110,hk111⟩|⟨HH,hk112,hk113⟩
     ·have H:=HH.out
      simp only[Option.some.injEq,Prod.mk.injEq] at H
      obtain⟨rfl,rfl⟩:=H
      clear HH
      go_wp2
      go_ret2
      exact zfi (by repeat(first|(with_reducible first|exact HB.out|apply below_alloc|apply pw_below_drewN|apply below_drew1)|exact HB.out))
     obtain⟨HH,LMc114⟩:=zlm HH
     obtain⟨y115,hy115⟩:∃ y_:List Int,y_=(x1++[bt a0 x4]):=⟨_,rfl⟩
     have H:((toponymref18_value.l0 k6 y115 (wrap64 (x4+1)) ((bt a0 x4)==32) a0))=some (r1,r2):=by rw[hy115];exact HH.out
     replace HH:=za H
     clear H
     have NYy115:=za hy115
     clear hy115
     go_wp2_with (((with_reducible refine gate_dst (N:=37) rfl ?_);(try(refine gate_guard (by rfl) ?_;dsimp only));refine Kd.N_append (Kd.int .u8) w.heap.size rfl _ _ 72 5 (.int .u8 0) 1 rfl Try.underlying72 info5 rfl (by decide) (by decide) (v2) x1 (bt a0 x4) [.int .u8 (bt a0 x4)] (fun k_=>(w.heap.size≤k_)) (fun k_=>(fun k_=>(w.heap.size≤k_)) k_∧some k_≠(v2:Value).ownBlock) rfl rfl (fun _ _=>rfl) (fun _ hk_=>hk_) (fun k_ h_=>(Nat.le_trans (below_size (by repeat(first|(with_reducible first|exact HB.out|apply below_alloc|apply pw_below_drewN|apply below_drew1)|exact HB.out))) h_)) (by(with_reducible repeat(first|apply Kd.N_alloc|apply Kd.N_drewN|apply Kd.N_drew));exact HN3.out) (by repeat(first|(with_reducible first|exact HB.out|apply below_alloc|apply pw_below_drewN|apply below_drew1)|exact HB.out)) (below_size (by repeat(first|(with_reducible first|exact HB.out|apply below_alloc|apply pw_below_drewN|apply below_drew1)|exact HB.out))) (by first|(have:=LMc114.out;omega)|(have:=LMc114.out;simp at *;omega)) ?_;intro v116 w117 hn1 hb1 hg1 hat1);replace hat1:=za hat1;refine stop_ ?_)
     refine zg ?_
     replace hat1:=hat1.out
     replace HB:=za hb1
     clear HN3
     have HN118:=za hn1
     clear hn1 hb1 hg1 hat1
     replace HN118:=za (by rw[NYy115.out];exact HN118.out:Kd.N (Kd.int .u8) 5 w117 w.heap.size (fun k_=>(w.heap.size≤k_)) v116 y115)
     go_wp2
     go_roundg k6
     case measure=>have:=HK0.out;omega
     case rel=>exact⟨y115,wrap64 (x4+1),((bt a0 x4)==32),(by first|rfl|(simp;done)|(simp[*];done)),(by first|rfl|(simp;done)|(simp[*];done)),HH,⟨by have:=HK0.out;omega⟩,⟨(Kd.N_mono (ok:=(fun k_=>(w.heap.size≤k_))) HN118.out (fun k_ hk_=>hk_))⟩,⟨HB.out⟩⟩
    obtain⟨HH,LMc121⟩:=zlm HH
    obtain⟨y122,hy122⟩:∃ y_:List Int,y_=(x1++[bt a0 x4]):=⟨_,rfl⟩
    have H:((toponymref18_value.l0 k6 y122 (wrap64 (x4+1)) ((bt a0 x4)==32) a0))=some (r1,r2):=by rw[hy122];exact HH.out
    replace HH:=za H
    clear H
    have NYy122:=za hy122
    clear hy122
    go_wp2_with (((with_reducible refine gate_dst (N:=37) rfl ?_);(try(refine gate_guard (by rfl) ?_;dsimp only));refine Kd.N_append (Kd.int .u8) w.heap.size rfl _ _ 72 5 (.int .u8 0) 1 rfl Try.underlying72 info5 rfl (by decide) (by decide) (v2) x1 (bt a0 x4) [.int .u8 (bt a0 x4)] (fun k_=>(w.heap.size≤k_)) (fun k_=>(fun k_=>(w.heap.size≤k_)) k_∧some k_≠(v2:Value).ownBlock) rfl rfl (fun _ _=>rfl) (fun _ hk_=>hk_) (fun k_ h_=>(Nat.le_trans (below_size (by repeat(first|(with_reducible first|exact HB.out|apply below_alloc|apply pw_below_drewN|apply below_drew1)|exact HB.out))) h_)) (by(with_reducible repeat(first|apply Kd.N_alloc|apply Kd.N_drewN|apply Kd.N_drew));exact HN3.out) (by repeat(first|(with_reducible first|exact HB.out|apply below_alloc|apply pw_below_drewN|apply below_drew1)|exact HB.out)) (below_size (by repeat(first|(with_reducible first|exact HB.out|apply below_alloc|apply pw_below_drewN|apply below_drew1)|exact HB.out))) (by first|(have:=LMc121.out;omega)|(have:=LMc121.out;simp at *;omega)) ?_;intro v123 w124 hn1 hb1 hg1 hat1);replace hat1:=za hat1;refine stop_ ?_)
    refine zg ?_
    replace hat1:=hat1.out
    replace HB:=za hb1
    clear HN3
    have HN125:=za hn1
    clear hn1 hb1 hg1 hat1
    replace HN125:=za (by rw[NYy122.out];exact HN125.out:Kd.N (Kd.int .u8) 5 w124 w.heap.size (fun k_=>(w.heap.size≤k_)) v123 y122)
    go_wp2
    go_roundg k6
    case measure=>have:=HK0.out;omega
    case rel=>exact⟨y122,wrap64 (x4+1),((bt a0 x4)==32),(by first|rfl|(simp;done)|(simp[*];done)),(by first|rfl|(simp;done)|(simp[*];done)),HH,⟨by have:=HK0.out;omega⟩,⟨(Kd.N_mono (ok:=(fun k_=>(w.heap.size≤k_))) HN125.out (fun k_ hk_=>hk_))⟩,⟨HB.out⟩⟩
   obtain⟨A129,cp130,he_⟩:=Kd.N_slice HN3.out
   subst he_
   have HF131:=za (Kd.N_F HN3.out)
   clear HN3
   have hcv133:=Kd.C_string (P:=Try.prog) (A:=A129) (c:=cp130) Try.underlying72 Try.underlying5 Try.underlying9 (Kd.F_now HF131.out)
   replace HH:=zqK 0 HH
   rcases HH with⟨HH,hk135,hk136⟩|⟨HH,hk137,hk138⟩
   ·have H:=HH.out
    simp only[Option.some.injEq,Prod.mk.injEq] at H
    obtain⟨rfl,rfl⟩:=H
    clear HH
    go_wp2
    go_ret2
    exact zfi HB.out
   have H:=HH.out
   simp only[Option.some.injEq,Prod.mk.injEq] at H
   obtain⟨rfl,rfl⟩:=H
   clear HH
   go_wp2
   go_ret2
   exact zfi HB.out
end Go.Proofs.Ytapinanmmhdpcaa.GA
