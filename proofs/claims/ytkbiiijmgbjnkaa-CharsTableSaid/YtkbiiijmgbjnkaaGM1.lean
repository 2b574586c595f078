import Derived.Lib.Hide
import Derived.Outline
import Derived.OwnWalkIn
import Derived.Shelf.RegionOpen
import Derived.TacticsInMore
import Derived.Test.YtkbiiijmgbjnkaaGA0
import Derived.Test.YtkbiiijmgbjnkaaGAF23
import Derived.Test.YtkbiiijmgbjnkaaGAF24
import Derived.Test.YtkbiiijmgbjnkaaGAF26
import Derived.Test.YtkbiiijmgbjnkaaGAF27
import Derived.Test.YtkbiiijmgbjnkaaGAF28
import Derived.Test.YtkbiiijmgbjnkaaGAF29
import Derived.Test.YtkbiiijmgbjnkaaMQ
import Derived.Test.YtkbiiijmgbjnkaaMS
import Derived.Test.YtkbiiijmgbjnkaaMX
namespace Go.Proofs.Ytkbiiijmgbjnkaa.GA
open Go.RowKit Go.Proofs.Ytkbiiijmgbjnkaa Go.Proofs.Ytkbiiijmgbjnkaa.MW Go.Proofs.YtkbiiijmgbjnkaaW.PrintWords Go.Proofs.YtkbiiijmgbjnkaaW.PrintLast Go.Proofs.YtkbiiijmgbjnkaaW.PrintMore
attribute [local go_sem] max2_int min2_int max_two min_two
set_option linter.unusedVariables false
set_option linter.unusedSimpArgs false
def slices_Index_int_int.l0:Nat→Int→Int→(List Int)→Option (Int)
 |0,_,_,_=>none
 |k+1,x1,a1,l0=>if x1<(l0.length:Int) then(if 0≤x1 then(if a1=(rd l0 x1) then(some x1) else((slices_Index_int_int.l0 k (wrap64 (x1+1)) a1 l0))) else(none)) else(some (-1))
def slices_Index_int_int.f (k:Nat) (l0:List Int) (a1:Int):Option (Int):=(slices_Index_int_int.l0 k 0 a1 l0)
theorem slices_Index_int_int.mono_l:∀ k,(∀ y0 y1 y2,LeO (slices_Index_int_int.l0 k y0 y1 y2) (slices_Index_int_int.l0 (k+1) y0 y1 y2))
 |0=>fun _ _ _ r h=>by simp[slices_Index_int_int.l0] at h
 |k+1=>by
  have ih0:=slices_Index_int_int.mono_l k
  ·intro y0 y1 y2
   unfold slices_Index_int_int.l0
   with_reducible repeat' first|exact ih0 _ _ _|exact LeO.refl _|exact LeO.none _|refine LeO.ite ?_ ?_|refine LeO.bind ?_ (fun _=>?_)
theorem slices_Index_int_int.mono:∀ a0_ a1_ k,LeO (slices_Index_int_int.f k a0_ a1_) (slices_Index_int_int.f (k+1) a0_ a1_):=by
 intro a0_ a1_ k
 have ih0:=slices_Index_int_int.mono_l k
 unfold slices_Index_int_int.f
 with_reducible repeat' first|exact ih0 _ _ _|exact LeO.refl _|exact LeO.none _|refine LeO.ite ?_ ?_|refine LeO.bind ?_ (fun _=>?_)
set_option maxHeartbeats 8000000 in
set_option maxRecDepth 100000 in
theorem slices_Index_int_int.calls (k:Nat) (P_:Nat→Prop) (A0:Option Addr) (c0:Nat) (l0:List Int) (a1:Int) (r:Int) (w:World) (hs0:Kd.F (Kd.int .i64) w P_ A0 l0.length l0) (hc0:l0.length≤c0) (h:slices_Index_int_int.f k l0 a1=some r):
  Calls Try.prog 40 #[.slice A0 l0.length c0,.int .i64 a1] w (fun e w'=>e=.returned (.int .i64 r)∧Drawn0 w w'):=by
 unfold slices_Index_int_int.f at h
 have HH:=za h
 clear h
 have HF0:=zfp hs0
 clear hs0 hc0
 go_enter Try.func40,Try.ntmps40
 go_wp2
 go_loopg [8] k (fun kq u8 w'=>∃ (x1:Int),u8=.int .i64 x1∧Aside0 ((slices_Index_int_int.l0 kq x1 a1 l0)=some r)∧Aside0 (kq≤k)∧Drawn0 w w')
 case atStart=>exact⟨0,(by first|rfl|(simp;done)|(simp[*];done)),HH,⟨Nat.le_refl _⟩,by repeat(first|exact Drawn0.refl _|apply Drawn0.step)⟩
 case round=>
  clear HH
  obtain⟨x1,rfl,HA,HK0,⟨m0_,rfl⟩⟩:=hrel
  cases gk with
  |zero=>exact absurd HA.out (by simp[slices_Index_int_int.l0])
  |succ k2=>
   have H:=HA.out
   clear HA
   simp only[slices_Index_int_int.l0] at H
   have HH:=za H
   clear H
   replace HH:=zqt HH
   rcases HH with⟨HH,hk5,hk6⟩|⟨HH,hk16,hk17⟩
   ·replace HH:=zqdo HH
    obtain⟨HH,hk8⟩:=HH
    have p9:0≤(x1:Int):=of_decide_eq_true (by first|(with_reducible assumption)|assumption)
    have q9:x1<(l0.length:Int):=of_decide_eq_true (by first|(with_reducible assumption)|assumption)
    obtain⟨ad9,e9,hx9_0⟩:=Kd.at_int (Kd.F_now HF0.out) x1 p9 q9
    cases e9
    replace p9:=eq_true p9
    replace q9:=eq_true q9
    replace HH:=zqe HH
    rcases HH with⟨HH,hk11,hk12⟩|⟨HH,hk13,hk14⟩
    ·obtain rfl:=Option.some.inj HH.out
     clear HH
     go_wp2
     go_ret
     exact⟨by first|rfl|(simp;done)|(simp[*];done),by repeat(first|exact Drawn0.refl _|apply Drawn0.step)⟩
    go_wp2
    go_roundg k2
    case measure=>have:=HK0.out;omega
    case rel=>exact⟨wrap64 (x1+1),(by first|rfl|(simp;done)|(simp[*];done)),HH,⟨by have:=HK0.out;omega⟩,by repeat(first|exact Drawn0.refl _|apply Drawn0.step)⟩
   obtain rfl:=Option.some.inj HH.out
   clear HH
   go_wp2
   go_ret
   exact⟨by first|rfl|(simp;done)|(simp[*];done),by repeat(first|exact Drawn0.refl _|apply Drawn0.step)⟩

def slices_Contains_int_int.f (k:Nat) (l0:List Int) (a1:Int):Option (Bool):=(slices_Index_int_int.f k l0 a1).bind fun t1=>(some (decide (t1≥0)))
theorem slices_Contains_int_int.mono:∀ a0_ a1_ k,LeO (slices_Contains_int_int.f k a0_ a1_) (slices_Contains_int_int.f (k+1) a0_ a1_):=by
 intro a0_ a1_ k
 unfold slices_Contains_int_int.f
 with_reducible repeat' first|exact slices_Index_int_int.mono _ _ _|exact LeO.refl _|exact LeO.none _|refine LeO.ite ?_ ?_|refine LeO.bind ?_ (fun _=>?_)
set_option maxHeartbeats 8000000 in
set_option maxRecDepth 100000 in
theorem slices_Contains_int_int.calls (k:Nat) (P_:Nat→Prop) (A0:Option Addr) (c0:Nat) (l0:List Int) (a1:Int) (r:Bool) (w:World) (hs0:Kd.F (Kd.int .i64) w P_ A0 l0.length l0) (hc0:l0.length≤c0) (h:slices_Contains_int_int.f k l0 a1=some r):
  Calls Try.prog 32 #[.slice A0 l0.length c0,.int .i64 a1] w (fun e w'=>e=.returned (.bool r)∧Drawn0 w w'):=by
 unfold slices_Contains_int_int.f at h
 have HH:=za h
 clear h
 have HF0:=zfp hs0
 have HL0:=za hc0
 clear hs0 hc0
 go_enter Try.func32,Try.ntmps32
 replace HH:=zd HH
 obtain⟨t1,At2,HH⟩:=HH
 go_wp2_with ((with_reducible refine gc 40 rfl ?_);refine zc 40 (some 7) Try.func40 #[.slice A0 l0.length c0,.int .i64 a1] (h:=?_);(with_reducible refine(slices_Index_int_int.calls k (fun k_=>(P_ k_∨w.heap.size≤k_)) _ _ l0 a1 t1 _ HF0.out HL0.out At2.out).mono ?_);rintro e w' ⟨rfl,⟨nd,rfl⟩⟩;refine⟨_,rfl,?_⟩)
 refine zg ?_
 obtain rfl:=Option.some.inj HH.out
 clear HH
 go_wp2
 go_ret
 exact⟨by first|rfl|(simp;done)|(simp[*];done),by repeat(first|exact Drawn0.refl _|apply Drawn0.step)⟩

def chars_mark.f (a0:Int):Option (Bool):=(some (if a0≥768 then((decide (a0≤772))) else(false):Bool)).bind fun b1=>((some (if b1=true then(true) else(if a0≥774 then((decide (a0≤776))) else(false)):Bool)).bind fun b4=>((some (if b4=true then(true) else(if a0≥778 then((decide (a0≤780))) else(false)):Bool)).bind fun b8=>((some (if b8=true then(true) else(if a0=803 then(true) else(if a0≥807 then((decide (a0≤808))) else(false))):Bool)).bind fun b12=>((some (if b12=true then(true) else(if a0≥12441 then((decide (a0≤12442))) else(false)):Bool)).bind fun b17=>(some b17)))))
noncomputable def chars_mark.ops:List Oper:=match Try.f25.body with
 |some (.seq _ (.seq (.region _ o _) _))=>o.toList
 |_=>[]
set_option maxHeartbeats 8000000 in
set_option maxRecDepth 100000 in
theorem chars_mark.p0 {Q:Exit→Act→World→Prop} (OPS:Array Oper) (hO:OPS=chars_mark.ops.toArray) (a0:Int) (r:Bool) (w:World) (af0:Act) (hs:af0.tmps.size=45) (hd:af0.defers=[]) (ep0:af0.eval (.tmp 0)=.int .i32 a0) (h:((some (if a0≥768 then((decide (a0≤772))) else(false):Bool)).bind fun b1=>((some (if b1=true then(true) else(if a0≥774 then((decide (a0≤776))) else(false)):Bool)).bind fun b4=>((some (if b4=true then(true) else(if a0≥778 then((decide (a0≤780))) else(false)):Bool)).bind fun b8=>((some (if b8=true then(true) else(if a0=803 then(true) else(if a0≥807 then((decide (a0≤808))) else(false))):Bool)).bind fun b12=>((some (if b12=true then(true) else(if a0≥12441 then((decide (a0≤12442))) else(false)):Bool)).bind fun b17=>(some b17))))))=some r) (fin:∀ a':Act,a'.tmps.size=45→a'.defers=[]→a'.eval (.tmp 2)=.bool r→Q .normal a' w):wpList Try.prog OPS Q (chars_mark.ops.drop 0) af0 w:=by
 have HH:=za h
 clear h
 have H2:(OPS[2]?).bind (·.dst)=some 5:=by rw[hO];rfl
 have H6:(OPS[6]?).bind (·.dst)=some 9:=by rw[hO];rfl
 have H9:(OPS[9]?).bind (·.dst)=some 12:=by rw[hO];rfl
 have H14:(OPS[14]?).bind (·.dst)=some 17:=by rw[hO];rfl
 have H17:(OPS[17]?).bind (·.dst)=some 20:=by rw[hO];rfl
 have H22:(OPS[22]?).bind (·.dst)=some 25:=by rw[hO];rfl
 have H26:(OPS[26]?).bind (·.dst)=some 29:=by rw[hO];rfl
 have H29:(OPS[29]?).bind (·.dst)=some 32:=by rw[hO];rfl
 have H34:(OPS[34]?).bind (·.dst)=some 37:=by rw[hO];rfl
 have H37:(OPS[37]?).bind (·.dst)=some 40:=by rw[hO];rfl
 replace hO:=(Stop.go hO:Stop _ (.mk _))
 replace fin:=(Stop.go fin:Stop _ (.mk _))
 simp only[chars_mark.ops,Try.f25,List.append_eq,List.cons_append,List.nil_append,List.drop_succ_cons,List.drop_zero,List.take_succ_cons,List.take_zero]
 obtain⟨E2,hE2⟩:∃ e_:Bool,e_=(if a0≥768 then((decide (a0≤772))) else(false)):=⟨_,rfl⟩
 replace hE2:=za hE2
 refine MW.list_cut 6 (fun a_ w_=>∃ b_:Bool,b_=E2∧a_.tmps.size=45∧a_.defers=[]∧a_.eval (.tmp 0)=.int .i32 a0∧a_.eval (.tmp 8)=.bool b_∧w=w_) (fun K_ hK_=>?seg) (fun af1 w_ hc_=>?rest)
 case seg=>
  simp only[List.take_succ_cons,List.take_zero,List.take_nil]
  clear HH
  by_cases c3:a0≥768
  ·refine yA 3 (.int .i32 a0) hs hd rfl (yM ep0) fun _ hs hd S0 N0=>?_
   refine yA 4 (.bool true) hs hd rfl (yC c3 S0) fun _ hs hd S1 N1=>?_
   refine yA 5 (.bool true) hs hd rfl (yM S1) fun _ hs hd S2 N2=>?_
   refine yA 6 (.int .i32 a0) hs hd (yW H2 S2) (yM (zN N2 (zN N1 (zN N0 ep0)))) fun _ hs hd S3 N3=>?_
   refine yA 7 (.bool (decide (a0≤772))) hs hd (yW H2 (zN N3 S2)) (yB S3) fun _ hs hd S4 N4=>?_
   refine yA 8 (.bool (decide (a0≤772))) hs hd rfl (yP (zN N4 (zN N3 S2)) S4) fun _ hs hd S5 N5=>?_
   exact wpList_nil (hK_ _ _ (Stop.go ⟨(decide (a0≤772)),Eq.trans (by first|rfl|(rw[if_pos c3];rfl)|(simp[*];done)) hE2.out.symm,hs,hd,(zN N5 (zN N4 (zN N3 (zN N2 (zN N1 (zN N0 ep0)))))),S5,rfl⟩))
  refine yA 3 (.int .i32 a0) hs hd rfl (yM ep0) fun _ hs hd S0 N0=>?_
  refine yA 4 (.bool false) hs hd rfl (yD c3 S0) fun _ hs hd S1 N1=>?_
  refine yA 5 (.bool false) hs hd rfl (yM S1) fun _ hs hd S2 N2=>?_
  refine yK 6 hs hd (yW H2 S2) fun _ hs hd S3 N3=>?_
  refine yK 7 hs hd (yW H2 (zN N3 S2)) fun _ hs hd S4 N4=>?_
  refine yA 8 (.bool false) hs hd rfl (yQ (zN N4 (zN N3 S2)) rfl) fun _ hs hd S5 N5=>?_
  exact wpList_nil (hK_ _ _ (Stop.go ⟨false,Eq.trans (by first|rfl|(rw[if_neg c3];rfl)|(simp[*];done)) hE2.out.symm,hs,hd,(zN N5 (zN N4 (zN N3 (zN N2 (zN N1 (zN N0 ep0)))))),S5,rfl⟩))
 case rest=>
  clear hs hd ep0
  obtain⟨b1,hb_,hs,hd,ep1,es1,rfl⟩:=hc_
  simp only[List.drop_succ_cons,List.drop_zero,List.drop_nil]
  have H:=MW.bind_step HH.out (hb_.trans hE2.out)
  replace HH:=za H
  clear H hb_ hE2
  obtain⟨E5,hE5⟩:∃ e_:Bool,e_=(if b1=true then(true) else(if a0≥774 then((decide (a0≤776))) else(false))):=⟨_,rfl⟩
  replace hE5:=za hE5
  refine MW.list_cut 8 (fun a_ w_=>∃ b_:Bool,b_=E5∧a_.tmps.size=45∧a_.defers=[]∧a_.eval (.tmp 0)=.int .i32 a0∧a_.eval (.tmp 16)=.bool b_∧w=w_) (fun K_ hK_=>?seg) (fun af2 w_ hc_=>?rest)
  case seg=>
   simp only[List.take_succ_cons,List.take_zero,List.take_nil]
   clear HH
   by_cases c6:b1=true
   ·subst c6
    refine yA 9 (.bool true) hs hd rfl (yM es1) fun _ hs hd S0 N0=>?_
    refine yK 10 hs hd (yW H6 S0) fun _ hs hd S1 N1=>?_
    refine yK 11 hs hd (yW H6 (zN N1 S0)) fun _ hs hd S2 N2=>?_
    refine yK 12 hs hd (yW H6 (zN N2 (zN N1 S0))) fun _ hs hd S3 N3=>?_
    refine yK 13 hs hd (yU H9 S3) fun _ hs hd S4 N4=>?_
    refine yK 14 hs hd (yU H9 (zN N4 S3)) fun _ hs hd S5 N5=>?_
    refine yK 15 hs hd (yW H6 (zN N5 (zN N4 (zN N3 (zN N2 (zN N1 S0)))))) fun _ hs hd S6 N6=>?_
    refine yA 16 (.bool true) hs hd rfl (yP (zN N6 (zN N5 (zN N4 (zN N3 (zN N2 (zN N1 S0)))))) rfl) fun _ hs hd S7 N7=>?_
    exact wpList_nil (hK_ _ _ (Stop.go ⟨true,Eq.trans (by first|rfl|(rw[];rfl)|(simp[*];done)) hE5.out.symm,hs,hd,(zN N7 (zN N6 (zN N5 (zN N4 (zN N3 (zN N2 (zN N1 (zN N0 ep1)))))))),S7,rfl⟩))
   replace c6:=Bool.eq_false_iff.mpr c6
   subst c6
   by_cases c7:a0≥774
   ·refine yA 9 (.bool false) hs hd rfl (yM es1) fun _ hs hd S0 N0=>?_
    refine yA 10 (.int .i32 a0) hs hd (yW H6 S0) (yM (zN N0 ep1)) fun _ hs hd S1 N1=>?_
    refine yA 11 (.bool true) hs hd (yW H6 (zN N1 S0)) (yC c7 S1) fun _ hs hd S2 N2=>?_
    refine yA 12 (.bool true) hs hd (yW H6 (zN N2 (zN N1 S0))) (yM S2) fun _ hs hd S3 N3=>?_
    refine yA 13 (.int .i32 a0) hs hd (yW H9 S3) (yM (zN N3 (zN N2 (zN N1 (zN N0 ep1))))) fun _ hs hd S4 N4=>?_
    refine yA 14 (.bool (decide (a0≤776))) hs hd (yW H9 (zN N4 S3)) (yB S4) fun _ hs hd S5 N5=>?_
    refine yA 15 (.bool (decide (a0≤776))) hs hd (yW H6 (zN N5 (zN N4 (zN N3 (zN N2 (zN N1 S0)))))) (yP (zN N5 (zN N4 S3)) S5) fun _ hs hd S6 N6=>?_
    refine yA 16 (.bool (decide (a0≤776))) hs hd rfl (yQ (zN N6 (zN N5 (zN N4 (zN N3 (zN N2 (zN N1 S0)))))) S6) fun _ hs hd S7 N7=>?_
    exact wpList_nil (hK_ _ _ (Stop.go ⟨(decide (a0≤776)),Eq.trans (by first|rfl|(rw[if_pos c7];rfl)|(simp[*];done)) hE5.out.symm,hs,hd,(zN N7 (zN N6 (zN N5 (zN N4 (zN N3 (zN N2 (zN N1 (zN N0 ep1)))))))),S7,rfl⟩))
   refine yA 9 (.bool false) hs hd rfl (yM es1) fun _ hs hd S0 N0=>?_
   refine yA 10 (.int .i32 a0) hs hd (yW H6 S0) (yM (zN N0 ep1)) fun _ hs hd S1 N1=>?_
   refine yA 11 (.bool false) hs hd (yW H6 (zN N1 S0)) (yD c7 S1) fun _ hs hd S2 N2=>?_
   refine yA 12 (.bool false) hs hd (yW H6 (zN N2 (zN N1 S0))) (yM S2) fun _ hs hd S3 N3=>?_
   refine yK 13 hs hd (yW H9 S3) fun _ hs hd S4 N4=>?_
   refine yK 14 hs hd (yW H9 (zN N4 S3)) fun _ hs hd S5 N5=>?_
   refine yA 15 (.bool false) hs hd (yW H6 (zN N5 (zN N4 (zN N3 (zN N2 (zN N1 S0)))))) (yQ (zN N5 (zN N4 S3)) rfl) fun _ hs hd S6 N6=>?_
   refine yA 16 (.bool false) hs hd rfl (yQ (zN N6 (zN N5 (zN N4 (zN N3 (zN N2 (zN N1 S0)))))) S6) fun _ hs hd S7 N7=>?_
   exact wpList_nil (hK_ _ _ (Stop.go ⟨false,Eq.trans (by first|rfl|(rw[if_neg c7];rfl)|(simp[*];done)) hE5.out.symm,hs,hd,(zN N7 (zN N6 (zN N5 (zN N4 (zN N3 (zN N2 (zN N1 (zN N0 ep1)))))))),S7,rfl⟩))
  case rest=>
   clear hs hd ep1 es1
   obtain⟨b4,hb_,hs,hd,ep2,es2,rfl⟩:=hc_
   simp only[List.drop_succ_cons,List.drop_zero,List.drop_nil]
   have H:=MW.bind_step HH.out (hb_.trans hE5.out)
   replace HH:=za H
   clear H hb_ hE5
   obtain⟨E9,hE9⟩:∃ e_:Bool,e_=(if b4=true then(true) else(if a0≥778 then((decide (a0≤780))) else(false))):=⟨_,rfl⟩
   replace hE9:=za hE9
   refine MW.list_cut 8 (fun a_ w_=>∃ b_:Bool,b_=E9∧a_.tmps.size=45∧a_.defers=[]∧a_.eval (.tmp 0)=.int .i32 a0∧a_.eval (.tmp 24)=.bool b_∧w=w_) (fun K_ hK_=>?seg) (fun af3 w_ hc_=>?rest)
   case seg=>
    simp only[List.take_succ_cons,List.take_zero,List.take_nil]
    clear HH
    by_cases c10:b4=true
    ·subst c10
     refine yA 17 (.bool true) hs hd rfl (yM es2) fun _ hs hd S0 N0=>?_
     refine yK 18 hs hd (yW H14 S0) fun _ hs hd S1 N1=>?_
     refine yK 19 hs hd (yW H14 (zN N1 S0)) fun _ hs hd S2 N2=>?_
     refine yK 20 hs hd (yW H14 (zN N2 (zN N1 S0))) fun _ hs hd S3 N3=>?_
     refine yK 21 hs hd (yU H17 S3) fun _ hs hd S4 N4=>?_
     refine yK 22 hs hd (yU H17 (zN N4 S3)) fun _ hs hd S5 N5=>?_
     refine yK 23 hs hd (yW H14 (zN N5 (zN N4 (zN N3 (zN N2 (zN N1 S0)))))) fun _ hs hd S6 N6=>?_
     refine yA 24 (.bool true) hs hd rfl (yP (zN N6 (zN N5 (zN N4 (zN N3 (zN N2 (zN N1 S0)))))) rfl) fun _ hs hd S7 N7=>?_
     exact wpList_nil (hK_ _ _ (Stop.go ⟨true,Eq.trans (by first|rfl|(rw[];rfl)|(simp[*];done)) hE9.out.symm,hs,hd,(zN N7 (zN N6 (zN N5 (zN N4 (zN N3 (zN N2 (zN N1 (zN N0 ep2)))))))),S7,rfl⟩))
    replace c10:=Bool.eq_false_iff.mpr c10
    subst c10
    by_cases c11:a0≥778
    ·refine yA 17 (.bool false) hs hd rfl (yM es2) fun _ hs hd S0 N0=>?_
     refine yA 18 (.int .i32 a0) hs hd (yW H14 S0) (yM (zN N0 ep2)) fun _ hs hd S1 N1=>?_
     refine yA 19 (.bool true) hs hd (yW H14 (zN N1 S0)) (yC c11 S1) fun _ hs hd S2 N2=>?_
     refine yA 20 (.bool true) hs hd (yW H14 (zN N2 (zN N1 S0))) (yM S2) fun _ hs hd S3 N3=>?_
     refine yA 21 (.int .i32 a0) hs hd (yW H17 S3) (yM (zN N3 (zN N2 (zN N1 (zN N0 ep2))))) fun _ hs hd S4 N4=>?_
     refine yA 22 (.bool (decide (a0≤780))) hs hd (yW H17 (zN N4 S3)) (yB S4) fun _ hs hd S5 N5=>?_
     refine yA 23 (.bool (decide (a0≤780))) hs hd (yW H14 (zN N5 (zN N4 (zN N3 (zN N2 (zN N1 S0)))))) (yP (zN N5 (zN N4 S3)) S5) fun _ hs hd S6 N6=>?_
     refine yA 24 (.bool (decide (a0≤780))) hs hd rfl (yQ (zN N6 (zN N5 (zN N4 (zN N3 (zN N2 (zN N1 S0)))))) S6) fun _ hs hd S7 N7=>?_
     exact wpList_nil (hK_ _ _ (Stop.go ⟨(decide (a0≤780)),Eq.trans (by first|rfl|(rw[if_pos c11];rfl)|(simp[*];done)) hE9.out.symm,hs,hd,(zN N7 (zN N6 (zN N5 (zN N4 (zN N3 (zN N2 (zN N1 (zN N0 ep2)))))))),S7,rfl⟩))
    refine yA 17 (.bool false) hs hd rfl (yM es2) fun _ hs hd S0 N0=>?_
    refine yA 18 (.int .i32 a0) hs hd (yW H14 S0) (yM (zN N0 ep2)) fun _ hs hd S1 N1=>?_
    refine yA 19 (.bool false) hs hd (yW H14 (zN N1 S0)) (yD c11 S1) fun _ hs hd S2 N2=>?_
    refine yA 20 (.bool false) hs hd (yW H14 (zN N2 (zN N1 S0))) (yM S2) fun _ hs hd S3 N3=>?_
    refine yK 21 hs hd (yW H17 S3) fun _ hs hd S4 N4=>?_
    refine yK 22 hs hd (yW H17 (zN N4 S3)) fun _ hs hd S5 N5=>?_
    refine yA 23 (.bool false) hs hd (yW H14 (zN N5 (zN N4 (zN N3 (zN N2 (zN N1 S0)))))) (yQ (zN N5 (zN N4 S3)) rfl) fun _ hs hd S6 N6=>?_
    refine yA 24 (.bool false) hs hd rfl (yQ (zN N6 (zN N5 (zN N4 (zN N3 (zN N2 (zN N1 S0)))))) S6) fun _ hs hd S7 N7=>?_
    exact wpList_nil (hK_ _ _ (Stop.go ⟨false,Eq.trans (by first|rfl|(rw[if_neg c11];rfl)|(simp[*];done)) hE9.out.symm,hs,hd,(zN N7 (zN N6 (zN N5 (zN N4 (zN N3 (zN N2 (zN N1 (zN N0 ep2)))))))),S7,rfl⟩))
   case rest=>
    clear hs hd ep2 es2
    obtain⟨b8,hb_,hs,hd,ep3,es3,rfl⟩:=hc_
    simp only[List.drop_succ_cons,List.drop_zero,List.drop_nil]
    have H:=MW.bind_step HH.out (hb_.trans hE9.out)
    replace HH:=za H
    clear H hb_ hE9
    obtain⟨E13,hE13⟩:∃ e_:Bool,e_=(if b8=true then(true) else(if a0=803 then(true) else(if a0≥807 then((decide (a0≤808))) else(false)))):=⟨_,rfl⟩
    replace hE13:=za hE13
    refine MW.list_cut 12 (fun a_ w_=>∃ b_:Bool,b_=E13∧a_.tmps.size=45∧a_.defers=[]∧a_.eval (.tmp 0)=.int .i32 a0∧a_.eval (.tmp 36)=.bool b_∧w=w_) (fun K_ hK_=>?seg) (fun af4 w_ hc_=>?rest)
    case seg=>
     simp only[List.take_succ_cons,List.take_zero,List.take_nil]
     clear HH
     by_cases c14:b8=true
     ·subst c14
      refine yA 25 (.bool true) hs hd rfl (yM es3) fun _ hs hd S0 N0=>?_
      refine yK 26 hs hd (yW H22 S0) fun _ hs hd S1 N1=>?_
      refine yK 27 hs hd (yW H22 (zN N1 S0)) fun _ hs hd S2 N2=>?_
      refine yA 28 (.bool true) hs hd rfl (yP (zN N2 (zN N1 S0)) rfl) fun _ hs hd S3 N3=>?_
      refine yA 29 (.bool true) hs hd rfl (yM S3) fun _ hs hd S4 N4=>?_
      refine yK 30 hs hd (yW H26 S4) fun _ hs hd S5 N5=>?_
      refine yK 31 hs hd (yW H26 (zN N5 S4)) fun _ hs hd S6 N6=>?_
      refine yK 32 hs hd (yW H26 (zN N6 (zN N5 S4))) fun _ hs hd S7 N7=>?_
      refine yK 33 hs hd (yU H29 S7) fun _ hs hd S8 N8=>?_
      refine yK 34 hs hd (yU H29 (zN N8 S7)) fun _ hs hd S9 N9=>?_
      refine yK 35 hs hd (yW H26 (zN N9 (zN N8 (zN N7 (zN N6 (zN N5 S4)))))) fun _ hs hd S10 N10=>?_
      refine yA 36 (.bool true) hs hd rfl (yP (zN N10 (zN N9 (zN N8 (zN N7 (zN N6 (zN N5 S4)))))) rfl) fun _ hs hd S11 N11=>?_
      exact wpList_nil (hK_ _ _ (Stop.go ⟨true,Eq.trans (by first|rfl|(rw[];rfl)|(simp[*];done)) hE13.out.symm,hs,hd,(zN N11 (zN N10 (zN N9 (zN N8 (zN N7 (zN N6 (zN N5 (zN N4 (zN N3 (zN N2 (zN N1 (zN N0 ep3)))))))))))),S11,rfl⟩))
     replace c14:=Bool.eq_false_iff.mpr c14
     subst c14
     by_cases c15:a0=803
     ·refine yA 25 (.bool false) hs hd rfl (yM es3) fun _ hs hd S0 N0=>?_
      refine yA 26 (.int .i32 a0) hs hd (yW H22 S0) (yM (zN N0 ep3)) fun _ hs hd S1 N1=>?_
      refine yA 27 (.bool true) hs hd (yW H22 (zN N1 S0)) (yC c15 S1) fun _ hs hd S2 N2=>?_
      refine yA 28 (.bool true) hs hd rfl (yQ (zN N2 (zN N1 S0)) S2) fun _ hs hd S3 N3=>?_
      refine yA 29 (.bool true) hs hd rfl (yM S3) fun _ hs hd S4 N4=>?_
      refine yK 30 hs hd (yW H26 S4) fun _ hs hd S5 N5=>?_
      refine yK 31 hs hd (yW H26 (zN N5 S4)) fun _ hs hd S6 N6=>?_
      refine yK 32 hs hd (yW H26 (zN N6 (zN N5 S4))) fun _ hs hd S7 N7=>?_
      refine yK 33 hs hd (yU H29 S7) fun _ hs hd S8 N8=>?_
      refine yK 34 hs hd (yU H29 (zN N8 S7)) fun _ hs hd S9 N9=>?_
      refine yK 35 hs hd (yW H26 (zN N9 (zN N8 (zN N7 (zN N6 (zN N5 S4)))))) fun _ hs hd S10 N10=>?_
      refine yA 36 (.bool true) hs hd rfl (yP (zN N10 (zN N9 (zN N8 (zN N7 (zN N6 (zN N5 S4)))))) rfl) fun _ hs hd S11 N11=>?_
      exact wpList_nil (hK_ _ _ (Stop.go ⟨true,Eq.trans (by first|rfl|(rw[if_pos c15];rfl)|(simp[*];done)) hE13.out.symm,hs,hd,(zN N11 (zN N10 (zN N9 (zN N8 (zN N7 (zN N6 (zN N5 (zN N4 (zN N3 (zN N2 (zN N1 (zN N0 ep3)))))))))))),S11,rfl⟩))
     by_cases c16:a0≥807
     ·refine yA 25 (.bool false) hs hd rfl (yM es3) fun _ hs hd S0 N0=>?_
      refine yA 26 (.int .i32 a0) hs hd (yW H22 S0) (yM (zN N0 ep3)) fun _ hs hd S1 N1=>?_
      refine yA 27 (.bool false) hs hd (yW H22 (zN N1 S0)) (yD c15 S1) fun _ hs hd S2 N2=>?_
      refine yA 28 (.bool false) hs hd rfl (yQ (zN N2 (zN N1 S0)) S2) fun _ hs hd S3 N3=>?_
      refine yA 29 (.bool false) hs hd rfl (yM S3) fun _ hs hd S4 N4=>?_
      refine yA 30 (.int .i32 a0) hs hd (yW H26 S4) (yM (zN N4 (zN N3 (zN N2 (zN N1 (zN N0 ep3)))))) fun _ hs hd S5 N5=>?_
      refine yA 31 (.bool true) hs hd (yW H26 (zN N5 S4)) (yC c16 S5) fun _ hs hd S6 N6=>?_
      refine yA 32 (.bool true) hs hd (yW H26 (zN N6 (zN N5 S4))) (yM S6) fun _ hs hd S7 N7=>?_
      refine yA 33 (.int .i32 a0) hs hd (yW H29 S7) (yM (zN N7 (zN N6 (zN N5 (zN N4 (zN N3 (zN N2 (zN N1 (zN N0 ep3))))))))) fun _ hs hd S8 N8=>?_
      refine yA 34 (.bool (decide (a0≤808))) hs hd (yW H29 (zN N8 S7)) (yB S8) fun _ hs hd S9 N9=>?_
      refine yA 35 (.bool (decide (a0≤808))) hs hd (yW H26 (zN N9 (zN N8 (zN N7 (zN N6 (zN N5 S4)))))) (yP (zN N9 (zN N8 S7)) S9) fun _ hs hd S10 N10=>?_
      refine yA 36 (.bool (decide (a0≤808))) hs hd rfl (yQ (zN N10 (zN N9 (zN N8 (zN N7 (zN N6 (zN N5 S4)))))) S10) fun _ hs hd S11 N11=>?_
      exact wpList_nil (hK_ _ _ (Stop.go ⟨(decide (a0≤808)),Eq.trans (by first|rfl|(rw[if_neg c15,if_pos c16];rfl)|(simp[*];done)) hE13.out.symm,hs,hd,(zN N11 (zN N10 (zN N9 (zN N8 (zN N7 (zN N6 (zN N5 (zN N4 (zN N3 (zN N2 (zN N1 (zN N0 ep3)))))))))))),S11,rfl⟩))
     refine yA 25 (.bool false) hs hd rfl (yM es3) fun _ hs hd S0 N0=>?_
     refine yA 26 (.int .i32 a0) hs hd (yW H22 S0) (yM (zN N0 ep3)) fun _ hs hd S1 N1=>?_
     refine yA 27 (.bool false) hs hd (yW H22 (zN N1 S0)) (yD c15 S1) fun _ hs hd S2 N2=>?_
     refine yA 28 (.bool false) hs hd rfl (yQ (zN N2 (zN N1 S0)) S2) fun _ hs hd S3 N3=>?_
     refine yA 29 (.bool false) hs hd rfl (yM S3) fun _ hs hd S4 N4=>?_
     refine yA 30 (.int .i32 a0) hs hd (yW H26 S4) (yM (zN N4 (zN N3 (zN N2 (zN N1 (zN N0 ep3)))))) fun _ hs hd S5 N5=>?_
     refine yA 31 (.bool false) hs hd (yW H26 (zN N5 S4)) (yD c16 S5) fun _ hs hd S6 N6=>?_
     refine yA 32 (.bool false) hs hd (yW H26 (zN N6 (zN N5 S4))) (yM S6) fun _ hs hd S7 N7=>?_
     refine yK 33 hs hd (yW H29 S7) fun _ hs hd S8 N8=>?_
     refine yK 34 hs hd (yW H29 (zN N8 S7)) fun _ hs hd S9 N9=>?_
     refine yA 35 (.bool false) hs hd (yW H26 (zN N9 (zN N8 (zN N7 (zN N6 (zN N5 S4)))))) (yQ (zN N9 (zN N8 S7)) rfl) fun _ hs hd S10 N10=>?_
     refine yA 36 (.bool false) hs hd rfl (yQ (zN N10 (zN N9 (zN N8 (zN N7 (zN N6 (zN N5 S4)))))) S10) fun _ hs hd S11 N11=>?_
     exact wpList_nil (hK_ _ _ (Stop.go ⟨false,Eq.trans (by first|rfl|(rw[if_neg c15,if_neg c16];rfl)|(simp[*];done)) hE13.out.symm,hs,hd,(zN N11 (zN N10 (zN N9 (zN N8 (zN N7 (zN N6 (zN N5 (zN N4 (zN N3 (zN N2 (zN N1 (zN N0 ep3)))))))))))),S11,rfl⟩))
    case rest=>
     clear hs hd ep3 es3
     obtain⟨b12,hb_,hs,hd,ep4,es4,rfl⟩:=hc_
     simp only[List.drop_succ_cons,List.drop_zero,List.drop_nil]
     have H:=MW.bind_step HH.out (hb_.trans hE13.out)
     replace HH:=za H
     clear H hb_ hE13
     obtain⟨E18,hE18⟩:∃ e_:Bool,e_=(if b12=true then(true) else(if a0≥12441 then((decide (a0≤12442))) else(false))):=⟨_,rfl⟩
     replace hE18:=za hE18
     refine MW.list_cut 9 (fun a_ w_=>∃ b_:Bool,b_=E18∧a_.tmps.size=45∧a_.defers=[]∧a_.eval (.tmp 0)=.int .i32 a0∧a_.eval (.tmp 2)=.bool b_∧w=w_) (fun K_ hK_=>?seg) (fun af5 w_ hc_=>?rest)
     case seg=>
      simp only[List.take_succ_cons,List.take_zero,List.take_nil]
      clear HH
      by_cases c19:b12=true
      ·subst c19
       refine yA 37 (.bool true) hs hd rfl (yM es4) fun _ hs hd S0 N0=>?_
       refine yK 38 hs hd (yW H34 S0) fun _ hs hd S1 N1=>?_
       refine yK 39 hs hd (yW H34 (zN N1 S0)) fun _ hs hd S2 N2=>?_
       refine yK 40 hs hd (yW H34 (zN N2 (zN N1 S0))) fun _ hs hd S3 N3=>?_
       refine yK 41 hs hd (yU H37 S3) fun _ hs hd S4 N4=>?_
       refine yK 42 hs hd (yU H37 (zN N4 S3)) fun _ hs hd S5 N5=>?_
       refine yK 43 hs hd (yW H34 (zN N5 (zN N4 (zN N3 (zN N2 (zN N1 S0)))))) fun _ hs hd S6 N6=>?_
       refine yA 44 (.bool true) hs hd rfl (yP (zN N6 (zN N5 (zN N4 (zN N3 (zN N2 (zN N1 S0)))))) rfl) fun _ hs hd S7 N7=>?_
       refine yA 2 (.bool true) hs hd rfl (MW.ab_assign rfl S7) fun _ hs hd S8 N8=>?_
       exact wpList_nil (hK_ _ _ (Stop.go ⟨true,Eq.trans (by first|rfl|(rw[];rfl)|(simp[*];done)) hE18.out.symm,hs,hd,(zN N8 (zN N7 (zN N6 (zN N5 (zN N4 (zN N3 (zN N2 (zN N1 (zN N0 ep4))))))))),S8,rfl⟩))
      replace c19:=Bool.eq_false_iff.mpr c19
      subst c19
      by_cases c20:a0≥12441
      ·refine yA 37 (.bool false) hs hd rfl (yM es4) fun _ hs hd S0 N0=>?_
       refine yA 38 (.int .i32 a0) hs hd (yW H34 S0) (yM (zN N0 ep4)) fun _ hs hd S1 N1=>?_
       refine yA 39 (.bool true) hs hd (yW H34 (zN N1 S0)) (yC c20 S1) fun _ hs hd S2 N2=>?_
       refine yA 40 (.bool true) hs hd (yW H34 (zN N2 (zN N1 S0))) (yM S2) fun _ hs hd S3 N3=>?_
       refine yA 41 (.int .i32 a0) hs hd (yW H37 S3) (yM (zN N3 (zN N2 (zN N1 (zN N0 ep4))))) fun _ hs hd S4 N4=>?_
       refine yA 42 (.bool (decide (a0≤12442))) hs hd (yW H37 (zN N4 S3)) (yB S4) fun _ hs hd S5 N5=>?_
       refine yA 43 (.bool (decide (a0≤12442))) hs hd (yW H34 (zN N5 (zN N4 (zN N3 (zN N2 (zN N1 S0)))))) (yP (zN N5 (zN N4 S3)) S5) fun _ hs hd S6 N6=>?_
       refine yA 44 (.bool (decide (a0≤12442))) hs hd rfl (yQ (zN N6 (zN N5 (zN N4 (zN N3 (zN N2 (zN N1 S0)))))) S6) fun _ hs hd S7 N7=>?_
       refine yA 2 (.bool (decide (a0≤12442))) hs hd rfl (MW.ab_assign rfl S7) fun _ hs hd S8 N8=>?_
       exact wpList_nil (hK_ _ _ (Stop.go ⟨(decide (a0≤12442)),Eq.trans (by first|rfl|(rw[if_pos c20];rfl)|(simp[*];done)) hE18.out.symm,hs,hd,(zN N8 (zN N7 (zN N6 (zN N5 (zN N4 (zN N3 (zN N2 (zN N1 (zN N0 ep4))))))))),S8,rfl⟩))
      refine yA 37 (.bool false) hs hd rfl (yM es4) fun _ hs hd S0 N0=>?_
      refine yA 38 (.int .i32 a0) hs hd (yW H34 S0) (yM (zN N0 ep4)) fun _ hs hd S1 N1=>?_
      refine yA 39 (.bool false) hs hd (yW H34 (zN N1 S0)) (yD c20 S1) fun _ hs hd S2 N2=>?_
      refine yA 40 (.bool false) hs hd (yW H34 (zN N2 (zN N1 S0))) (yM S2) fun _ hs hd S3 N3=>?_
      refine yK 41 hs hd (yW H37 S3) fun _ hs hd S4 N4=>?_
      refine yK 42 hs hd (yW H37 (zN N4 S3)) fun _ hs hd S5 N5=>?_
      refine yA 43 (.bool false) hs hd (yW H34 (zN N5 (zN N4 (zN N3 (zN N2 (zN N1 S0)))))) (yQ (zN N5 (zN N4 S3)) rfl) fun _ hs hd S6 N6=>?_
      refine yA 44 (.bool false) hs hd rfl (yQ (zN N6 (zN N5 (zN N4 (zN N3 (zN N2 (zN N1 S0)))))) S6) fun _ hs hd S7 N7=>?_
      refine yA 2 (.bool false) hs hd rfl (MW.ab_assign rfl S7) fun _ hs hd S8 N8=>?_
      exact wpList_nil (hK_ _ _ (Stop.go ⟨false,Eq.trans (by first|rfl|(rw[if_neg c20];rfl)|(simp[*];done)) hE18.out.symm,hs,hd,(zN N8 (zN N7 (zN N6 (zN N5 (zN N4 (zN N3 (zN N2 (zN N1 (zN N0 ep4))))))))),S8,rfl⟩))
     case rest=>
      clear hs hd ep4 es4
      obtain⟨b17,hb_,hs,hd,ep5,es5,rfl⟩:=hc_
      simp only[List.drop_succ_cons,List.drop_zero,List.drop_nil]
      have H:=MW.bind_step HH.out (hb_.trans hE18.out)
      replace HH:=za H
      clear H hb_ hE18
      obtain rfl:=Option.some.inj HH.out
      exact wpList_nil (fin.out _ hs hd es5)
set_option maxHeartbeats 8000000 in
set_option maxRecDepth 100000 in
theorem chars_mark.calls (a0:Int) (r:Bool) (w:World) (h:chars_mark.f a0=some r):
  Calls Try.prog 25 #[.int .i32 a0] w (fun e w'=>e=.returned (.bool r)∧Drawn0 w w'):=by
 have HH:=za h
 clear h
 unfold chars_mark.f at HH
 go_enter Try.func25,Try.ntmps25
 repeat(first|(refine MW.region_ops (id:=1) ?_)|go_step)
 intro OPS hO
 refine chars_mark.p0 OPS hO a0 r w _ (by kernel_rfl) (by kernel_rfl) (by kernel_rfl) HH.out ?_
 intro a' hs hd es
 repeat go_step
 refine bodyPost_ret (results_tmp rfl _ _ _) hd ?_
 exact⟨congrArg Ending.returned es,Drawn0.refl _⟩

def chars_Kind.f (a0:Int):Option (Int):=(chars_letter.f a0).bind fun t1=>(if t1=true then(some 1) else((chars_digit.f a0).bind fun t5=>(if t5=true then(some 2) else((chars_mark.f a0).bind fun t9=>(if t9=true then(some 3) else((chars_sign.f a0).bind fun t13=>(if t13=true then(some 4) else((chars_space.f a0).bind fun t17=>(if t17=true then(some 5) else((chars_gone.f a0).bind fun t21=>(if t21=true then(some 6) else((chars_bad.f a0).bind fun t25=>(if t25=true then(some 7) else(some 0))))))))))))))
set_option maxHeartbeats 8000000 in
set_option maxRecDepth 100000 in
theorem chars_Kind.calls (a0:Int) (r:Int) (w:World) (h:chars_Kind.f a0=some r):
  Calls Try.prog 8 #[.int .i32 a0] w (fun e w'=>e=.returned (.int .i64 r)∧Drawn0 w w'):=by
 unfold chars_Kind.f at h
 have HH:=za h
 clear h
 go_enter Try.func8,Try.ntmps8
 replace HH:=zd HH
 obtain⟨t1,At2,HH⟩:=HH
 go_wp2_with ((with_reducible refine gc 23 rfl ?_);refine zc 23 (some 5) Try.func23 #[.int .i32 a0] (h:=?_);(with_reducible refine(chars_letter.calls  a0 t1 _  At2.out).mono ?_);rintro e w' ⟨rfl,⟨nd,rfl⟩⟩;refine⟨_,rfl,?_⟩)
 refine zg ?_
 by_cases c4:t1=true
 ·replace HH:=MW.hpos HH c4
  subst c4
  obtain rfl:=Option.some.inj HH.out
  clear HH
  go_wp2
  go_ret
  exact⟨by first|rfl|(simp;done)|(simp[*];done),by repeat(first|exact Drawn0.refl _|apply Drawn0.step)⟩
 replace HH:=MW.hneg HH c4
 replace c4:=Bool.eq_false_iff.mpr c4
 subst c4
 replace HH:=zd HH
 obtain⟨t5,At6,HH⟩:=HH
 go_wp2_with ((with_reducible refine gc 24 rfl ?_);refine zc 24 (some 8) Try.func24 #[.int .i32 a0] (h:=?_);(with_reducible refine(chars_digit.calls  a0 t5 _  At6.out).mono ?_);rintro e w' ⟨rfl,⟨nd,rfl⟩⟩;refine⟨_,rfl,?_⟩)
 refine zg ?_
 by_cases c8:t5=true
 ·replace HH:=MW.hpos HH c8
  subst c8
  obtain rfl:=Option.some.inj HH.out
  clear HH
  go_wp2
  go_ret
  exact⟨by first|rfl|(simp;done)|(simp[*];done),by repeat(first|exact Drawn0.refl _|apply Drawn0.step)⟩
 replace HH:=MW.hneg HH c8
 replace c8:=Bool.eq_false_iff.mpr c8
 subst c8
 replace HH:=zd HH
 obtain⟨t9,At10,HH⟩:=HH
 go_wp2_with ((with_reducible refine gc 25 rfl ?_);refine zc 25 (some 11) Try.func25 #[.int .i32 a0] (h:=?_);(with_reducible refine(chars_mark.calls  a0 t9 _  At10.out).mono ?_);rintro e w' ⟨rfl,⟨nd,rfl⟩⟩;refine⟨_,rfl,?_⟩)
 refine zg ?_
 by_cases c12:t9=true
 ·replace HH:=MW.hpos HH c12
  subst c12
  obtain rfl:=Option.some.inj HH.out
  clear HH
  go_wp2
  go_ret
  exact⟨by first|rfl|(simp;done)|(simp[*];done),by repeat(first|exact Drawn0.refl _|apply Drawn0.step)⟩
 replace HH:=MW.hneg HH c12
 replace c12:=Bool.eq_false_iff.mpr c12
 subst c12
 replace HH:=zd HH
 obtain⟨t13,At14,HH⟩:=HH
 go_wp2_with ((with_reducible refine gc 26 rfl ?_);refine zc 26 (some 14) Try.func26 #[.int .i32 a0] (h:=?_);(with_reducible refine(chars_sign.calls  a0 t13 _  At14.out).mono ?_);rintro e w' ⟨rfl,⟨nd,rfl⟩⟩;refine⟨_,rfl,?_⟩)
 refine zg ?_
 by_cases c16:t13=true
 ·replace HH:=MW.hpos HH c16
  subst c16
  obtain rfl:=Option.some.inj HH.out
  clear HH
  go_wp2
  go_ret
  exact⟨by first|rfl|(simp;done)|(simp[*];done),by repeat(first|exact Drawn0.refl _|apply Drawn0.step)⟩
 replace HH:=MW.hneg HH c16
 replace c16:=Bool.eq_false_iff.mpr c16
 subst c16
 replace HH:=zd HH
 obtain⟨t17,At18,HH⟩:=HH
 go_wp2_with ((with_reducible refine gc 27 rfl ?_);refine zc 27 (some 17) Try.func27 #[.int .i32 a0] (h:=?_);(with_reducible refine(chars_space.calls  a0 t17 _  At18.out).mono ?_);rintro e w' ⟨rfl,⟨nd,rfl⟩⟩;refine⟨_,rfl,?_⟩)
 refine zg ?_
 by_cases c20:t17=true
 ·replace HH:=MW.hpos HH c20
  subst c20
  obtain rfl:=Option.some.inj HH.out
  clear HH
  go_wp2
  go_ret
  exact⟨by first|rfl|(simp;done)|(simp[*];done),by repeat(first|exact Drawn0.refl _|apply Drawn0.step)⟩
 replace HH:=MW.hneg HH c20
 replace c20:=Bool.eq_false_iff.mpr c20
 subst c20
 replace HH:=zd HH
 obtain⟨t21,At22,HH⟩:=HH
 go_wp2_with ((with_reducible refine gc 28 rfl ?_);refine zc 28 (some 20) Try.func28 #[.int .i32 a0] (h:=?_);(with_reducible refine(chars_gone.calls  a0 t21 _  At22.out).mono ?_);rintro e w' ⟨rfl,⟨nd,rfl⟩⟩;refine⟨_,rfl,?_⟩)
 refine zg ?_
 by_cases c24:t21=true
 ·replace HH:=MW.hpos HH c24
  subst c24
  obtain rfl:=Option.some.inj HH.out
  clear HH
  go_wp2
  go_ret
  exact⟨by first|rfl|(simp;done)|(simp[*];done),by repeat(first|exact Drawn0.refl _|apply Drawn0.step)⟩
 replace HH:=MW.hneg HH c24
 replace c24:=Bool.eq_false_iff.mpr c24
 subst c24
 replace HH:=zd HH
 obtain⟨t25,At26,HH⟩:=HH
 go_wp2_with ((with_reducible refine gc 29 rfl ?_);refine zc 29 (some 23) Try.func29 #[.int .i32 a0] (h:=?_);(with_reducible refine(chars_bad.calls  a0 t25 _  At26.out).mono ?_);rintro e w' ⟨rfl,⟨nd,rfl⟩⟩;refine⟨_,rfl,?_⟩)
 refine zg ?_
 by_cases c28:t25=true
 ·replace HH:=MW.hpos HH c28
  subst c28
  obtain rfl:=Option.some.inj HH.out
  clear HH
  go_wp2
  go_ret
  exact⟨by first|rfl|(simp;done)|(simp[*];done),by repeat(first|exact Drawn0.refl _|apply Drawn0.step)⟩
 replace HH:=MW.hneg HH c28
 replace c28:=Bool.eq_false_iff.mpr c28
 subst c28
 obtain rfl:=Option.some.inj HH.out
 clear HH
 go_wp2
 go_ret
 exact⟨by first|rfl|(simp;done)|(simp[*];done),by repeat(first|exact Drawn0.refl _|apply Drawn0.step)⟩

def chars_Is.f (k:Nat) (a0:Int) (l1:List Int):Option (Bool):=(chars_Kind.f a0).bind fun t1=>((slices_Contains_int_int.f k l1 t1).bind fun t4=>(some t4))
theorem chars_Is.mono:∀ a0_ a1_ k,LeO (chars_Is.f k a0_ a1_) (chars_Is.f (k+1) a0_ a1_):=by
 intro a0_ a1_ k
 unfold chars_Is.f
 with_reducible repeat' first|exact slices_Contains_int_int.mono _ _ _|exact LeO.refl _|exact LeO.none _|refine LeO.ite ?_ ?_|refine LeO.bind ?_ (fun _=>?_)
set_option maxHeartbeats 8000000 in
set_option maxRecDepth 100000 in
theorem chars_Is.calls (k:Nat) (P_:Nat→Prop) (a0:Int) (A1:Option Addr) (c1:Nat) (l1:List Int) (r:Bool) (w:World) (hs1:Kd.F (Kd.int .i64) w P_ A1 l1.length l1) (hc1:l1.length≤c1) (h:chars_Is.f k a0 l1=some r):
  Calls Try.prog 10 #[.int .i32 a0,.slice A1 l1.length c1] w (fun e w'=>e=.returned (.bool r)∧Drawn0 w w'):=by
 unfold chars_Is.f at h
 have HH:=za h
 clear h
 have HF1:=zfp hs1
 have HL1:=za hc1
 clear hs1 hc1
 go_enter Try.func10,Try.ntmps10
 replace HH:=zd HH
 obtain⟨t1,At2,HH⟩:=HH
 go_wp2_with ((with_reducible refine gc 8 rfl ?_);refine zc 8 (some 7) Try.func8 #[.int .i32 a0] (h:=?_);(with_reducible refine(chars_Kind.calls  a0 t1 _  At2.out).mono ?_);rintro e w' ⟨rfl,⟨nd,rfl⟩⟩;refine⟨_,rfl,?_⟩)
 refine zg ?_
 replace HH:=zd HH
 obtain⟨t4,At5,HH⟩:=HH
 go_wp2_with ((with_reducible refine gc 32 rfl ?_);refine zc 32 (some 8) Try.func32 #[.slice A1 l1.length c1,.int .i64 t1] (h:=?_);(with_reducible refine(slices_Contains_int_int.calls k (fun k_=>(P_ k_∨w.heap.size≤k_)) _ _ l1 t1 t4 _ (by(with_reducible repeat(first|apply Kd.F_alloc|apply Kd.F_drewN|apply Kd.F_drew));exact HF1.out) HL1.out At5.out).mono ?_);rintro e w' ⟨rfl,⟨nd,rfl⟩⟩;refine⟨_,rfl,?_⟩)
 refine zg ?_
 obtain rfl:=Option.some.inj HH.out
 clear HH
 go_wp2
 go_ret
 exact⟨by first|rfl|(simp;done)|(simp[*];done),by repeat(first|exact Drawn0.refl _|apply Drawn0.step)⟩

def chars_Class.f (a0:Int):Option (Int):=(chars_mark.f a0).bind fun t1=>(if t1=true then(if a0=807 then(some 202) else(if a0=808 then(some 202) else(if a0=803 then(some 220) else(if a0≥12441 then(some 8) else(some 230))))) else(some 0))
set_option maxHeartbeats 8000000 in
set_option maxRecDepth 100000 in
theorem chars_Class.calls (a0:Int) (r:Int) (w:World) (h:chars_Class.f a0=some r):
  Calls Try.prog 12 #[.int .i32 a0] w (fun e w'=>e=.returned (.int .i64 r)∧Drawn0 w w'):=by
 unfold chars_Class.f at h
 have HH:=za h
 clear h
 go_enter Try.func12,Try.ntmps12
 replace HH:=zd HH
 obtain⟨t1,At2,HH⟩:=HH
 go_wp2_with ((with_reducible refine gc 25 rfl ?_);refine zc 25 (some 5) Try.func25 #[.int .i32 a0] (h:=?_);(with_reducible refine(chars_mark.calls  a0 t1 _  At2.out).mono ?_);rintro e w' ⟨rfl,⟨nd,rfl⟩⟩;refine⟨_,rfl,?_⟩)
 refine zg ?_
 by_cases c4:t1=true
 ·replace HH:=MW.hpos HH c4
  subst c4
  replace HH:=zqe HH
  rcases HH with⟨HH,hk6,hk7⟩|⟨HH,hk8,hk9⟩
  ·obtain rfl:=Option.some.inj HH.out
   clear HH
   go_wp2
   go_ret
   exact⟨by first|rfl|(simp;done)|(simp[*];done),by repeat(first|exact Drawn0.refl _|apply Drawn0.step)⟩
  replace HH:=zqe HH
  rcases HH with⟨HH,hk11,hk12⟩|⟨HH,hk13,hk14⟩
  ·obtain rfl:=Option.some.inj HH.out
   clear HH
   go_wp2
   go_ret
   exact⟨by first|rfl|(simp;done)|(simp[*];done),by repeat(first|exact Drawn0.refl _|apply Drawn0.step)⟩
  replace HH:=zqe HH
  rcases HH with⟨HH,hk16,hk17⟩|⟨HH,hk18,hk19⟩
  ·obtain rfl:=Option.some.inj HH.out
   clear HH
   go_wp2
   go_ret
   exact⟨by first|rfl|(simp;done)|(simp[*];done),by repeat(first|exact Drawn0.refl _|apply Drawn0.step)⟩
  replace HH:=zqG HH
  rcases HH with⟨HH,hk21⟩|⟨HH,hk22⟩
  ·obtain rfl:=Option.some.inj HH.out
   clear HH
   go_wp2
   go_ret
   exact⟨by first|rfl|(simp;done)|(simp[*];done),by repeat(first|exact Drawn0.refl _|apply Drawn0.step)⟩
  obtain rfl:=Option.some.inj HH.out
  clear HH
  go_wp2
  go_ret
  exact⟨by first|rfl|(simp;done)|(simp[*];done),by repeat(first|exact Drawn0.refl _|apply Drawn0.step)⟩
 replace HH:=MW.hneg HH c4
 replace c4:=Bool.eq_false_iff.mpr c4
 subst c4
 obtain rfl:=Option.some.inj HH.out
 clear HH
 go_wp2
 go_ret
 exact⟨by first|rfl|(simp;done)|(simp[*];done),by repeat(first|exact Drawn0.refl _|apply Drawn0.step)⟩

def toponymref03_ascii.f (a0:Int):Option (Int):=if a0≥97 then(if a0≤122 then(some 1) else(if a0≥65 then(if a0≤90 then(some 1) else(if a0≥48 then(if a0≤57 then(some 2) else(if a0=32 then(some 5) else(if a0≥9 then(if a0≤13 then(some 5) else(if a0<32 then(some 6) else(if a0=127 then(some 6) else(some 4)))) else(if a0<32 then(some 6) else(if a0=127 then(some 6) else(some 4)))))) else(if a0=32 then(some 5) else(if a0≥9 then(if a0≤13 then(some 5) else(if a0<32 then(some 6) else(if a0=127 then(some 6) else(some 4)))) else(if a0<32 then(some 6) else(if a0=127 then(some 6) else(some 4))))))) else(if a0≥48 then(if a0≤57 then(some 2) else(if a0=32 then(some 5) else(if a0≥9 then(if a0≤13 then(some 5) else(if a0<32 then(some 6) else(if a0=127 then(some 6) else(some 4)))) else(if a0<32 then(some 6) else(if a0=127 then(some 6) else(some 4)))))) else(if a0=32 then(some 5) else(if a0≥9 then(if a0≤13 then(some 5) else(if a0<32 then(some 6) else(if a0=127 then(some 6) else(some 4)))) else(if a0<32 then(some 6) else(if a0=127 then(some 6) else(some 4)))))))) else(if a0≥65 then(if a0≤90 then(some 1) else(if a0≥48 then(if a0≤57 then(some 2) else(if a0=32 then(some 5) else(if a0≥9 then(if a0≤13 then(some 5) else(if a0<32 then(some 6) else(if a0=127 then(some 6) else(some 4)))) else(if a0<32 then(some 6) else(if a0=127 then(some 6) else(some 4)))))) else(if a0=32 then(some 5) else(if a0≥9 then(if a0≤13 then(some 5) else(if a0<32 then(some 6) else(if a0=127 then(some 6) else(some 4)))) else(if a0<32 then(some 6) else(if a0=127 then(some 6) else(some 4))))))) else(if a0≥48 then(if a0≤57 then(some 2) else(if a0=32 then(some 5) else(if a0≥9 then(if a0≤13 then(some 5) else(if a0<32 then(some 6) else(if a0=127 then(some 6) else(some 4)))) else(if a0<32 then(some 6) else(if a0=127 then(some 6) else(some 4)))))) else(if a0=32 then(some 5) else(if a0≥9 then(if a0≤13 then(some 5) else(if a0<32 then(some 6) else(if a0=127 then(some 6) else(some 4)))) else(if a0<32 then(some 6) else(if a0=127 then(some 6) else(some 4)))))))
set_option maxHeartbeats 8000000 in
set_option maxRecDepth 100000 in
theorem toponymref03_ascii.calls (a0:Int) (r:Int) (w:World) (h:toponymref03_ascii.f a0=some r):
  Calls Try.prog 30 #[.int .i32 a0] w (fun e w'=>e=.returned (.int .i64 r)∧Drawn0 w w'):=by
 unfold toponymref03_ascii.f at h
 have HH:=za h
 clear h
 go_enter Try.func30,Try.ntmps30
 replace HH:=zqG HH
 rcases HH with⟨HH,hk2⟩|⟨HH,hk148⟩
 ·replace HH:=zqd HH
  rcases HH with⟨HH,hk4⟩|⟨HH,hk5⟩
  ·obtain rfl:=Option.some.inj HH.out
   clear HH
   go_wp2
   go_ret
   exact⟨by first|rfl|(simp;done)|(simp[*];done),by repeat(first|exact Drawn0.refl _|apply Drawn0.step)⟩
  replace HH:=zqG HH
  rcases HH with⟨HH,hk7⟩|⟨HH,hk79⟩
  ·replace HH:=zqd HH
   rcases HH with⟨HH,hk9⟩|⟨HH,hk10⟩
   ·obtain rfl:=Option.some.inj HH.out
    clear HH
    go_wp2
    go_ret
    exact⟨by first|rfl|(simp;done)|(simp[*];done),by repeat(first|exact Drawn0.refl _|apply Drawn0.step)⟩
   replace HH:=zqG HH
   rcases HH with⟨HH,hk12⟩|⟨HH,hk47⟩
   ·replace HH:=zqd HH
    rcases HH with⟨HH,hk14⟩|⟨HH,hk15⟩
    ·obtain rfl:=Option.some.inj HH.out
     clear HH
     go_wp2
     go_ret
     exact⟨by first|rfl|(simp;done)|(simp[*];done),by repeat(first|exact Drawn0.refl _|apply Drawn0.step)⟩
    replace HH:=zqe HH
    rcases HH with⟨HH,hk17,hk18⟩|⟨HH,hk19,hk20⟩
    ·obtain rfl:=Option.some.inj HH.out
     clear HH
     go_wp2
     go_ret
     exact⟨by first|rfl|(simp;done)|(simp[*];done),by repeat(first|exact Drawn0.refl _|apply Drawn0.step)⟩
    replace HH:=zqG HH
    rcases HH with⟨HH,hk22⟩|⟨HH,hk36⟩
    ·replace HH:=zqd HH
     rcases HH with⟨HH,hk24⟩|⟨HH,hk25⟩
     ·obtain rfl:=Option.some.inj HH.out
      clear HH
      go_wp2
      go_ret
      exact⟨by first|rfl|(simp;done)|(simp[*];done),by repeat(first|exact Drawn0.refl _|apply Drawn0.step)⟩
     replace HH:=zqt HH
     rcases HH with⟨HH,hk27,hk28⟩|⟨HH,hk29,hk30⟩
     ·obtain rfl:=Option.some.inj HH.out
      clear HH
      go_wp2
      go_ret
      exact⟨by first|rfl|(simp;done)|(simp[*];done),by repeat(first|exact Drawn0.refl _|apply Drawn0.step)⟩
     replace HH:=zqe HH
     rcases HH with⟨HH,hk32,hk33⟩|⟨HH,hk34,hk35⟩
     ·obtain rfl:=Option.some.inj HH.out
      clear HH
      go_wp2
      go_ret
      exact⟨by first|rfl|(simp;done)|(simp[*];done),by repeat(first|exact Drawn0.refl _|apply Drawn0.step)⟩
     obtain rfl:=Option.some.inj HH.out
     clear HH
     go_wp2
     go_ret
     exact⟨by first|rfl|(simp;done)|(simp[*];done),by repeat(first|exact Drawn0.refl _|apply Drawn0.step)⟩
    replace HH:=zqt HH
    rcases HH with⟨HH,hk38,hk39⟩|⟨HH,hk40,hk41⟩
    ·obtain rfl:=Option.some.inj HH.out
     clear HH
     go_wp2
     go_ret
     exact⟨by first|rfl|(simp;done)|(simp[*];done),by repeat(first|exact Drawn0.refl _|apply Drawn0.step)⟩
    replace HH:=zqe HH
    rcases HH with⟨HH,hk43,hk44⟩|⟨HH,hk45,hk46⟩
    ·obtain rfl:=Option.some.inj HH.out
     clear HH
     go_wp2
     go_ret
     exact⟨by first|rfl|(simp;done)|(simp[*];done),by repeat(first|exact Drawn0.refl _|apply Drawn0.step)⟩
    obtain rfl:=Option.some.inj HH.out
    clear HH
    go_wp2
    go_ret
    exact⟨by first|rfl|(simp;done)|(simp[*];done),by repeat(first|exact Drawn0.refl _|apply Drawn0.step)⟩
   replace HH:=zqe HH
   rcases HH with⟨HH,hk49,hk50⟩|⟨HH,hk51,hk52⟩
   ·obtain rfl:=Option.some.inj HH.out
    clear HH
    go_wp2
    go_ret
    exact⟨by first|rfl|(simp;done)|(simp[*];done),by repeat(first|exact Drawn0.refl _|apply Drawn0.step)⟩
   replace HH:=zqG HH
   rcases HH with⟨HH,hk54⟩|⟨HH,hk68⟩
   ·replace HH:=zqd HH
    rcases HH with⟨HH,hk56⟩|⟨HH,hk57⟩
    ·obtain rfl:=Option.some.inj HH.out
     clear HH
     go_wp2
     go_ret
     exact⟨by first|rfl|(simp;done)|(simp[*];done),by repeat(first|exact Drawn0.refl _|apply Drawn0.step)⟩
    replace HH:=zqt HH
    rcases HH with⟨HH,hk59,hk60⟩|⟨HH,hk61,hk62⟩
    ·obtain rfl:=Option.some.inj HH.out
     clear HH
     go_wp2
     go_ret
     exact⟨by first|rfl|(simp;done)|(simp[*];done),by repeat(first|exact Drawn0.refl _|apply Drawn0.step)⟩
    replace HH:=zqe HH
    rcases HH with⟨HH,hk64,hk65⟩|⟨HH,hk66,hk67⟩
    ·obtain rfl:=Option.some.inj HH.out
     clear HH
     go_wp2
     go_ret
     exact⟨by first|rfl|(simp;done)|(simp[*];done),by repeat(first|exact Drawn0.refl _|apply Drawn0.step)⟩
    obtain rfl:=Option.some.inj HH.out
    clear HH
    go_wp2
    go_ret
    exact⟨by first|rfl|(simp;done)|(simp[*];done),by repeat(first|exact Drawn0.refl _|apply Drawn0.step)⟩
   replace HH:=zqt HH
   rcases HH with⟨HH,hk70,hk71⟩|⟨HH,hk72,hk73⟩
   ·obtain rfl:=Option.some.inj HH.out
    clear HH
    go_wp2
    go_ret
    exact⟨by first|rfl|(simp;done)|(simp[*];done),by repeat(first|exact Drawn0.refl _|apply Drawn0.step)⟩
   replace HH:=zqe HH
   rcases HH with⟨HH,hk75,hk76⟩|⟨HH,hk77,hk78⟩
   ·obtain rfl:=Option.some.inj HH.out
    clear HH
    go_wp2
    go_ret
    exact⟨by first|rfl|(simp;done)|(simp[*];done),by repeat(first|exact Drawn0.refl _|apply Drawn0.step)⟩
   obtain rfl:=Option.some.inj HH.out
   clear HH
   go_wp2
   go_ret
   exact⟨by first|rfl|(simp;done)|(simp[*];done),by repeat(first|exact Drawn0.refl _|apply Drawn0.step)⟩
  replace HH:=zqG HH
  rcases HH with⟨HH,hk81⟩|⟨HH,hk116⟩
  ·replace HH:=zqd HH
   rcases HH with⟨HH,hk83⟩|⟨HH,hk84⟩
   ·obtain rfl:=Option.some.inj HH.out
    clear HH
    go_wp2
    go_ret
    exact⟨by first|rfl|(simp;done)|(simp[*];done),by repeat(first|exact Drawn0.refl _|apply Drawn0.step)⟩
   replace HH:=zqe HH
   rcases HH with⟨HH,hk86,hk87⟩|⟨HH,hk88,hk89⟩
   ·obtain rfl:=Option.some.inj HH.out
    clear HH
    go_wp2
    go_ret
    exact⟨by first|rfl|(simp;done)|(simp[*];done),by repeat(first|exact Drawn0.refl _|apply Drawn0.step)⟩
   replace HH:=zqG HH
   rcases HH with⟨HH,hk91⟩|⟨HH,hk105⟩
   ·replace HH:=zqd HH
    rcases HH with⟨HH,hk93⟩|⟨HH,hk94⟩
    ·obtain rfl:=Option.some.inj HH.out
     clear HH
     go_wp2
     go_ret
     exact⟨by first|rfl|(simp;done)|(simp[*];done),by repeat(first|exact Drawn0.refl _|apply Drawn0.step)⟩
    replace HH:=zqt HH
    rcases HH with⟨HH,hk96,hk97⟩|⟨HH,hk98,hk99⟩
    ·obtain rfl:=Option.some.inj HH.out
     clear HH
     go_wp2
     go_ret
     exact⟨by first|rfl|(simp;done)|(simp[*];done),by repeat(first|exact Drawn0.refl _|apply Drawn0.step)⟩
    replace HH:=zqe HH
    rcases HH with⟨HH,hk101,hk102⟩|⟨HH,hk103,hk104⟩
    ·obtain rfl:=Option.some.inj HH.out
     clear HH
     go_wp2
     go_ret
     exact⟨by first|rfl|(simp;done)|(simp[*];done),by repeat(first|exact Drawn0.refl _|apply Drawn0.step)⟩
    obtain rfl:=Option.some.inj HH.out
    clear HH
    go_wp2
    go_ret
    exact⟨by first|rfl|(simp;done)|(simp[*];done),by repeat(first|exact Drawn0.refl _|apply Drawn0.step)⟩
   replace HH:=zqt HH
   rcases HH with⟨HH,hk107,hk108⟩|⟨HH,hk109,hk110⟩
   ·obtain rfl:=Option.some.inj HH.out
    clear HH
    go_wp2
    go_ret
    exact⟨by first|rfl|(simp;done)|(simp[*];done),by repeat(first|exact Drawn0.refl _|apply Drawn0.step)⟩
   replace HH:=zqe HH
   rcases HH with⟨HH,hk112,hk113⟩|⟨HH,hk114,hk115⟩
   ·obtain rfl:=Option.some.inj HH.out
    clear HH
    go_wp2
    go_ret
    exact⟨by first|rfl|(simp;done)|(simp[*];done),by repeat(first|exact Drawn0.refl _|apply Drawn0.step)⟩
   obtain rfl:=Option.some.inj HH.out
   clear HH
   go_wp2
   go_ret
   exact⟨by first|rfl|(simp;done)|(simp[*];done),by repeat(first|exact Drawn0.refl _|apply Drawn0.step)⟩
  replace HH:=zqe HH
  rcases HH with⟨HH,hk118,hk119⟩|⟨HH,hk120,hk121⟩
  ·obtain rfl:=Option.some.inj HH.out
   clear HH
   go_wp2
   go_ret
   exact⟨by first|rfl|(simp;done)|(simp[*];done),by repeat(first|exact Drawn0.refl _|apply Drawn0.step)⟩
  replace HH:=zqG HH
  rcases HH with⟨HH,hk123⟩|⟨HH,hk137⟩
  ·replace HH:=zqd HH
   rcases HH with⟨HH,hk125⟩|⟨HH,hk126⟩
   ·obtain rfl:=Option.some.inj HH.out
    clear HH
    go_wp2
    go_ret
    exact⟨by first|rfl|(simp;done)|(simp[*];done),by repeat(first|exact Drawn0.refl _|apply Drawn0.step)⟩
   replace HH:=zqt HH
   rcases HH with⟨HH,hk128,hk129⟩|⟨HH,hk130,hk131⟩
   ·obtain rfl:=Option.some.inj HH.out
    clear HH
    go_wp2
    go_ret
    exact⟨by first|rfl|(simp;done)|(simp[*];done),by repeat(first|exact Drawn0.refl _|apply Drawn0.step)⟩
   replace HH:=zqe HH
   rcases HH with⟨HH,hk133,hk134⟩|⟨HH,hk135,hk136⟩
   ·obtain rfl:=Option.some.inj HH.out
    clear HH
    go_wp2
    go_ret
    exact⟨by first|rfl|(simp;done)|(simp[*];done),by repeat(first|exact Drawn0.refl _|apply Drawn0.step)⟩
   obtain rfl:=Option.some.inj HH.out
   clear HH
   go_wp2
   go_ret
   exact⟨by first|rfl|(simp;done)|(simp[*];done),by repeat(first|exact Drawn0.refl _|apply Drawn0.step)⟩
  replace HH:=zqt HH
  rcases HH with⟨HH,hk139,hk140⟩|⟨HH,hk141,hk142⟩
  ·obtain rfl:=Option.some.inj HH.out
   clear HH
   go_wp2
   go_ret
   exact⟨by first|rfl|(simp;done)|(simp[*];done),by repeat(first|exact Drawn0.refl _|apply Drawn0.step)⟩
  replace HH:=zqe HH
  rcases HH with⟨HH,hk144,hk145⟩|⟨HH,hk146,hk147⟩
  ·obtain rfl:=Option.some.inj HH.out
   clear HH
   go_wp2
   go_ret
   exact⟨by first|rfl|(simp;done)|(simp[*];done),by repeat(first|exact Drawn0.refl _|apply Drawn0.step)⟩
  obtain rfl:=Option.some.inj HH.out
  clear HH
  go_wp2
  go_ret
  exact⟨by first|rfl|(simp;done)|(simp[*];done),by repeat(first|exact Drawn0.refl _|apply Drawn0.step)⟩
 replace HH:=zqG HH
 rcases HH with⟨HH,hk150⟩|⟨HH,hk222⟩
 ·replace HH:=zqd HH
  rcases HH with⟨HH,hk152⟩|⟨HH,hk153⟩
  ·obtain rfl:=Option.some.inj HH.out
   clear HH
   go_wp2
   go_ret
   exact⟨by first|rfl|(simp;done)|(simp[*];done),by repeat(first|exact Drawn0.refl _|apply Drawn0.step)⟩
  replace HH:=zqG HH
  rcases HH with⟨HH,hk155⟩|⟨HH,hk190⟩
  ·replace HH:=zqd HH
   rcases HH with⟨HH,hk157⟩|⟨HH,hk158⟩
   ·obtain rfl:=Option.some.inj HH.out
    clear HH
    go_wp2
    go_ret
    exact⟨by first|rfl|(simp;done)|(simp[*];done),by repeat(first|exact Drawn0.refl _|apply Drawn0.step)⟩
   replace HH:=zqe HH
   rcases HH with⟨HH,hk160,hk161⟩|⟨HH,hk162,hk163⟩
   ·obtain rfl:=Option.some.inj HH.out
    clear HH
    go_wp2
    go_ret
    exact⟨by first|rfl|(simp;done)|(simp[*];done),by repeat(first|exact Drawn0.refl _|apply Drawn0.step)⟩
   replace HH:=zqG HH
   rcases HH with⟨HH,hk165⟩|⟨HH,hk179⟩
   ·replace HH:=zqd HH
    rcases HH with⟨HH,hk167⟩|⟨HH,hk168⟩
    ·obtain rfl:=Option.some.inj HH.out
     clear HH
     go_wp2
     go_ret
     exact⟨by first|rfl|(simp;done)|(simp[*];done),by repeat(first|exact Drawn0.refl _|apply Drawn0.step)⟩
    replace HH:=zqt HH
    rcases HH with⟨HH,hk170,hk171⟩|⟨HH,hk172,hk173⟩
    ·obtain rfl:=Option.some.inj HH.out
     clear HH
     go_wp2
     go_ret
     exact⟨by first|rfl|(simp;done)|(simp[*];done),by repeat(first|exact Drawn0.refl _|apply Drawn0.step)⟩
    replace HH:=zqe HH
    rcases HH with⟨HH,hk175,hk176⟩|⟨HH,hk177,hk178⟩
    ·obtain rfl:=Option.some.inj HH.out
     clear HH
     go_wp2
     go_ret
     exact⟨by first|rfl|(simp;done)|(simp[*];done),by repeat(first|exact Drawn0.refl _|apply Drawn0.step)⟩
    obtain rfl:=Option.some.inj HH.out
    clear HH
    go_wp2
    go_ret
    exact⟨by first|rfl|(simp;done)|(simp[*];done),by repeat(first|exact Drawn0.refl _|apply Drawn0.step)⟩
   replace HH:=zqt HH
   rcases HH with⟨HH,hk181,hk182⟩|⟨HH,hk183,hk184⟩
   ·obtain rfl:=Option.some.inj HH.out
    clear HH
    go_wp2
    go_ret
    exact⟨by first|rfl|(simp;done)|(simp[*];done),by repeat(first|exact Drawn0.refl _|apply Drawn0.step)⟩
   replace HH:=zqe HH
   rcases HH with⟨HH,hk186,hk187⟩|⟨HH,hk188,hk189⟩
   ·obtain rfl:=Option.some.inj HH.out
    clear HH
    go_wp2
    go_ret
    exact⟨by first|rfl|(simp;done)|(simp[*];done),by repeat(first|exact Drawn0.refl _|apply Drawn0.step)⟩
   obtain rfl:=Option.some.inj HH.out
   clear HH
   go_wp2
   go_ret
   exact⟨by first|rfl|(simp;done)|(simp[*];done),by repeat(first|exact Drawn0.refl _|apply Drawn0.step)⟩
  replace HH:=zqe HH
  rcases HH with⟨HH,hk192,hk193⟩|⟨HH,hk194,hk195⟩
  ·obtain rfl:=Option.some.inj HH.out
   clear HH
   go_wp2
   go_ret
   exact⟨by first|rfl|(simp;done)|(simp[*];done),by repeat(first|exact Drawn0.refl _|apply Drawn0.step)⟩
  replace HH:=zqG HH
  rcases HH with⟨HH,hk197⟩|⟨HH,hk211⟩
  ·replace HH:=zqd HH
   rcases HH with⟨HH,hk199⟩|⟨HH,hk200⟩
   ·obtain rfl:=Option.some.inj HH.out
    clear HH
    go_wp2
    go_ret
    exact⟨by first|rfl|(simp;done)|(simp[*];done),by repeat(first|exact Drawn0.refl _|apply Drawn0.step)⟩
   replace HH:=zqt HH
   rcases HH with⟨HH,hk202,hk203⟩|⟨HH,hk204,hk205⟩
   ·obtain rfl:=Option.some.inj HH.out
    clear HH
    go_wp2
    go_ret
    exact⟨by first|rfl|(simp;done)|(simp[*];done),by repeat(first|exact Drawn0.refl _|apply Drawn0.step)⟩
   replace HH:=zqe HH
   rcases HH with⟨HH,hk207,hk208⟩|⟨HH,hk209,hk210⟩
   ·obtain rfl:=Option.some.inj HH.out
    clear HH
    go_wp2
    go_ret
    exact⟨by first|rfl|(simp;done)|(simp[*];done),by repeat(first|exact Drawn0.refl _|apply Drawn0.step)⟩
   obtain rfl:=Option.some.inj HH.out
   clear HH
   go_wp2
   go_ret
   exact⟨by first|rfl|(simp;done)|(simp[*];done),by repeat(first|exact Drawn0.refl _|apply Drawn0.step)⟩
  replace HH:=zqt HH
  rcases HH with⟨HH,hk213,hk214⟩|⟨HH,hk215,hk216⟩
  ·obtain rfl:=Option.some.inj HH.out
   clear HH
   go_wp2
   go_ret
   exact⟨by first|rfl|(simp;done)|(simp[*];done),by repeat(first|exact Drawn0.refl _|apply Drawn0.step)⟩
  replace HH:=zqe HH
  rcases HH with⟨HH,hk218,hk219⟩|⟨HH,hk220,hk221⟩
  ·obtain rfl:=Option.some.inj HH.out
   clear HH
   go_wp2
   go_ret
   exact⟨by first|rfl|(simp;done)|(simp[*];done),by repeat(first|exact Drawn0.refl _|apply Drawn0.step)⟩
  obtain rfl:=Option.some.inj HH.out
  clear HH
  go_wp2
  go_ret
  exact⟨by first|rfl|(simp;done)|(simp[*];done),by repeat(first|exact Drawn0.refl _|apply Drawn0.step)⟩
 replace HH:=zqG HH
 rcases HH with⟨HH,hk224⟩|⟨HH,hk259⟩
 ·replace HH:=zqd HH
  rcases HH with⟨HH,hk226⟩|⟨HH,hk227⟩
  ·obtain rfl:=Option.some.inj HH.out
   clear HH
   go_wp2
   go_ret
   exact⟨by first|rfl|(simp;done)|(simp[*];done),by repeat(first|exact Drawn0.refl _|apply Drawn0.step)⟩
  replace HH:=zqe HH
  rcases HH with⟨HH,hk229,hk230⟩|⟨HH,hk231,hk232⟩
  ·obtain rfl:=Option.some.inj HH.out
   clear HH
   go_wp2
   go_ret
   exact⟨by first|rfl|(simp;done)|(simp[*];done),by repeat(first|exact Drawn0.refl _|apply Drawn0.step)⟩
  replace HH:=zqG HH
  rcases HH with⟨HH,hk234⟩|⟨HH,hk248⟩
  ·replace HH:=zqd HH
   rcases HH with⟨HH,hk236⟩|⟨HH,hk237⟩
   ·obtain rfl:=Option.some.inj HH.out
    clear HH
    go_wp2
    go_ret
    exact⟨by first|rfl|(simp;done)|(simp[*];done),by repeat(first|exact Drawn0.refl _|apply Drawn0.step)⟩
   replace HH:=zqt HH
   rcases HH with⟨HH,hk239,hk240⟩|⟨HH,hk241,hk242⟩
   ·obtain rfl:=Option.some.inj HH.out
    clear HH
    go_wp2
    go_ret
    exact⟨by first|rfl|(simp;done)|(simp[*];done),by repeat(first|exact Drawn0.refl _|apply Drawn0.step)⟩
   replace HH:=zqe HH
   rcases HH with⟨HH,hk244,hk245⟩|⟨HH,hk246,hk247⟩
   ·obtain rfl:=Option.some.inj HH.out
    clear HH
    go_wp2
    go_ret
    exact⟨by first|rfl|(simp;done)|(simp[*];done),by repeat(first|exact Drawn0.refl _|apply Drawn0.step)⟩
   obtain rfl:=Option.some.inj HH.out
   clear HH
   go_wp2
   go_ret
   exact⟨by first|rfl|(simp;done)|(simp[*];done),by repeat(first|exact Drawn0.refl _|apply Drawn0.step)⟩
  replace HH:=zqt HH
  rcases HH with⟨HH,hk250,hk251⟩|⟨HH,hk252,hk253⟩
  ·obtain rfl:=Option.some.inj HH.out
   clear HH
   go_wp2
   go_ret
   exact⟨by first|rfl|(simp;done)|(simp[*];done),by repeat(first|exact Drawn0.refl _|apply Drawn0.step)⟩
  replace HH:=zqe HH
  rcases HH with⟨HH,hk255,hk256⟩|⟨HH,hk257,hk258⟩
  ·obtain rfl:=Option.some.inj HH.out
   clear HH
   go_wp2
   go_ret
   exact⟨by first|rfl|(simp;done)|(simp[*];done),by repeat(first|exact Drawn0.refl _|apply Drawn0.step)⟩
  obtain rfl:=Option.some.inj HH.out
  clear HH
  go_wp2
  go_ret
  exact⟨by first|rfl|(simp;done)|(simp[*];done),by repeat(first|exact Drawn0.refl _|apply Drawn0.step)⟩
 replace HH:=zqe HH
 rcases HH with⟨HH,hk261,hk262⟩|⟨HH,hk263,hk264⟩
 ·obtain rfl:=Option.some.inj HH.out
  clear HH
  go_wp2
  go_ret
  exact⟨by first|rfl|(simp;done)|(simp[*];done),by repeat(first|exact Drawn0.refl _|apply Drawn0.step)⟩
 replace HH:=zqG HH
 rcases HH with⟨HH,hk266⟩|⟨HH,hk280⟩
 ·replace HH:=zqd HH
  rcases HH with⟨HH,hk268⟩|⟨HH,hk269⟩
  ·obtain rfl:=Option.some.inj HH.out
   clear HH
   go_wp2
   go_ret
   exact⟨by first|rfl|(simp;done)|(simp[*];done),by repeat(first|exact Drawn0.refl _|apply Drawn0.step)⟩
  replace HH:=zqt HH
  rcases HH with⟨HH,hk271,hk272⟩|⟨HH,hk273,hk274⟩
  ·obtain rfl:=Option.some.inj HH.out
   clear HH
   go_wp2
   go_ret
   exact⟨by first|rfl|(simp;done)|(simp[*];done),by repeat(first|exact Drawn0.refl _|apply Drawn0.step)⟩
  replace HH:=zqe HH
  rcases HH with⟨HH,hk276,hk277⟩|⟨HH,hk278,hk279⟩
  ·obtain rfl:=Option.some.inj HH.out
   clear HH
   go_wp2
   go_ret
   exact⟨by first|rfl|(simp;done)|(simp[*];done),by repeat(first|exact Drawn0.refl _|apply Drawn0.step)⟩
  obtain rfl:=Option.some.inj HH.out
  clear HH
  go_wp2
  go_ret
  exact⟨by first|rfl|(simp;done)|(simp[*];done),by repeat(first|exact Drawn0.refl _|apply Drawn0.step)⟩
 replace HH:=zqt HH
 rcases HH with⟨HH,hk282,hk283⟩|⟨HH,hk284,hk285⟩
 ·obtain rfl:=Option.some.inj HH.out
  clear HH
  go_wp2
  go_ret
  exact⟨by first|rfl|(simp;done)|(simp[*];done),by repeat(first|exact Drawn0.refl _|apply Drawn0.step)⟩
 replace HH:=zqe HH
 rcases HH with⟨HH,hk287,hk288⟩|⟨HH,hk289,hk290⟩
 ·obtain rfl:=Option.some.inj HH.out
  clear HH
  go_wp2
  go_ret
  exact⟨by first|rfl|(simp;done)|(simp[*];done),by repeat(first|exact Drawn0.refl _|apply Drawn0.step)⟩
 obtain rfl:=Option.some.inj HH.out
 clear HH
 go_wp2
 go_ret
 exact⟨by first|rfl|(simp;done)|(simp[*];done),by repeat(first|exact Drawn0.refl _|apply Drawn0.step)⟩

def toponymref03_lower.f  :Option ((List (S38))):=some ((⟨0,8,6⟩:S38)::(⟨9,13,5⟩:S38)::(⟨14,31,6⟩:S38)::(⟨32,32,5⟩:S38)::(⟨33,47,4⟩:S38)::(⟨48,57,2⟩:S38)::(⟨58,64,4⟩:S38)::(⟨65,90,1⟩:S38)::(⟨91,96,4⟩:S38)::(⟨97,122,1⟩:S38)::(⟨123,126,4⟩:S38)::(⟨127,132,6⟩:S38)::(⟨133,133,5⟩:S38)::(⟨134,159,6⟩:S38)::(⟨160,160,5⟩:S38)::(⟨161,169,4⟩:S38)::(⟨170,170,1⟩:S38)::(⟨171,172,4⟩:S38)::(⟨173,173,6⟩:S38)::(⟨174,177,4⟩:S38)::(⟨178,179,2⟩:S38)::(⟨180,180,4⟩:S38)::(⟨181,181,1⟩:S38)::(⟨182,184,4⟩:S38)::(⟨185,185,2⟩:S38)::(⟨186,186,1⟩:S38)::(⟨187,191,4⟩:S38)::(⟨192,214,1⟩:S38)::(⟨215,215,4⟩:S38)::(⟨216,246,1⟩:S38)::(⟨247,247,4⟩:S38)::(⟨248,383,1⟩:S38)::(⟨700,700,1⟩:S38)::(⟨768,772,3⟩:S38)::(⟨774,776,3⟩:S38)::(⟨778,780,3⟩:S38)::(⟨803,803,3⟩:S38)::(⟨807,808,3⟩:S38)::(⟨832,833,7⟩:S38)::(⟨847,847,6⟩:S38)::(⟨902,902,1⟩:S38)::(⟨904,906,1⟩:S38)::(⟨908,908,1⟩:S38)::(⟨910,929,1⟩:S38)::(⟨931,974,1⟩:S38)::[])
set_option maxHeartbeats 8000000 in
set_option maxRecDepth 100000 in
theorem toponymref03_lower.calls (r:List (S38)) (w:World) (h:toponymref03_lower.f  =some r):
  Calls Try.prog 37 #[] w (fun e w'=>∃ v0_:Value,e=.returned (v0_)∧Kd.N k38 38 w' w.heap.size (fun k_=>w.heap.size≤k_) v0_ r∧Below w.heap.size w w'):=by
 unfold toponymref03_lower.f at h
 have HH:=za h
 clear h
 have HB:=za (Below.refl w.heap.size w)
 have hu38:=Try.underlying38
 go_enter Try.func37,Try.ntmps37
 repeat(first|(refine MW.region_stop (id:=1) ?_)|go_values|go_skip|go_guarded|go_step|go_upon)
 refine zg ?_
 refine Kd.event_run rfl (v:=.agg #[.int .i32 0,.int .i32 8,.int .i64 6]) (w1:=w) (by kernel_rfl) ?_
 refine Kd.event_run rfl (v:=.agg #[.int .i32 9,.int .i32 13,.int .i64 5]) (w1:=w) (by kernel_rfl) ?_
 refine Kd.event_run rfl (v:=.agg #[.int .i32 14,.int .i32 31,.int .i64 6]) (w1:=w) (by kernel_rfl) ?_
 refine Kd.event_run rfl (v:=.agg #[.int .i32 32,.int .i32 32,.int .i64 5]) (w1:=w) (by kernel_rfl) ?_
 refine Kd.event_run rfl (v:=.agg #[.int .i32 33,.int .i32 47,.int .i64 4]) (w1:=w) (by kernel_rfl) ?_
 refine Kd.event_run rfl (v:=.agg #[.int .i32 48,.int .i32 57,.int .i64 2]) (w1:=w) (by kernel_rfl) ?_
 refine Kd.event_run rfl (v:=.agg #[.int .i32 58,.int .i32 64,.int .i64 4]) (w1:=w) (by kernel_rfl) ?_
 refine Kd.event_run rfl (v:=.agg #[.int .i32 65,.int .i32 90,.int .i64 1]) (w1:=w) (by kernel_rfl) ?_
 refine Kd.event_run rfl (v:=.agg #[.int .i32 91,.int .i32 96,.int .i64 4]) (w1:=w) (by kernel_rfl) ?_
 refine Kd.event_run rfl (v:=.agg #[.int .i32 97,.int .i32 122,.int .i64 1]) (w1:=w) (by kernel_rfl) ?_
 refine Kd.event_run rfl (v:=.agg #[.int .i32 123,.int .i32 126,.int .i64 4]) (w1:=w) (by kernel_rfl) ?_
 refine Kd.event_run rfl (v:=.agg #[.int .i32 127,.int .i32 132,.int .i64 6]) (w1:=w) (by kernel_rfl) ?_
 refine Kd.event_run rfl (v:=.agg #[.int .i32 133,.int .i32 133,.int .i64 5]) (w1:=w) (by kernel_rfl) ?_
 refine Kd.event_run rfl (v:=.agg #[.int .i32 134,.int .i32 159,.int .i64 6]) (w1:=w) (by kernel_rfl) ?_
 refine Kd.event_run rfl (v:=.agg #[.int .i32 160,.int .i32 160,.int .i64 5]) (w1:=w) (by kernel_rfl) ?_
 refine Kd.event_run rfl (v:=.agg #[.int .i32 161,.int .i32 169,.int .i64 4]) (w1:=w) (by kernel_rfl) ?_
 refine Kd.event_run rfl (v:=.agg #[.int .i32 170,.int .i32 170,.int .i64 1]) (w1:=w) (by kernel_rfl) ?_
 refine Kd.event_run rfl (v:=.agg #[.int .i32 171,.int .i32 172,.int .i64 4]) (w1:=w) (by kernel_rfl) ?_
 refine Kd.event_run rfl (v:=.agg #[.int .i32 173,.int .i32 173,.int .i64 6]) (w1:=w) (by kernel_rfl) ?_
 refine Kd.event_run rfl (v:=.agg #[.int .i32 174,.int .i32 177,.int .i64 4]) (w1:=w) (by kernel_rfl) ?_
 refine Kd.event_run rfl (v:=.agg #[.int .i32 178,.int .i32 179,.int .i64 2]) (w1:=w) (by kernel_rfl) ?_
 refine Kd.event_run rfl (v:=.agg #[.int .i32 180,.int .i32 180,.int .i64 4]) (w1:=w) (by kernel_rfl) ?_
 refine Kd.event_run rfl (v:=.agg #[.int .i32 181,.int .i32 181,.int .i64 1]) (w1:=w) (by kernel_rfl) ?_
 refine Kd.event_run rfl (v:=.agg #[.int .i32 182,.int .i32 184,.int .i64 4]) (w1:=w) (by kernel_rfl) ?_
 refine Kd.event_run rfl (v:=.agg #[.int .i32 185,.int .i32 185,.int .i64 2]) (w1:=w) (by kernel_rfl) ?_
 refine Kd.event_run rfl (v:=.agg #[.int .i32 186,.int .i32 186,.int .i64 1]) (w1:=w) (by kernel_rfl) ?_
 refine Kd.event_run rfl (v:=.agg #[.int .i32 187,.int .i32 191,.int .i64 4]) (w1:=w) (by kernel_rfl) ?_
 refine Kd.event_run rfl (v:=.agg #[.int .i32 192,.int .i32 214,.int .i64 1]) (w1:=w) (by kernel_rfl) ?_
 refine Kd.event_run rfl (v:=.agg #[.int .i32 215,.int .i32 215,.int .i64 4]) (w1:=w) (by kernel_rfl) ?_
 refine Kd.event_run rfl (v:=.agg #[.int .i32 216,.int .i32 246,.int .i64 1]) (w1:=w) (by kernel_rfl) ?_
 refine Kd.event_run rfl (v:=.agg #[.int .i32 247,.int .i32 247,.int .i64 4]) (w1:=w) (by kernel_rfl) ?_
 refine Kd.event_run rfl (v:=.agg #[.int .i32 248,.int .i32 383,.int .i64 1]) (w1:=w) (by kernel_rfl) ?_
 refine Kd.event_run rfl (v:=.agg #[.int .i32 700,.int .i32 700,.int .i64 1]) (w1:=w) (by kernel_rfl) ?_
 refine Kd.event_run rfl (v:=.agg #[.int .i32 768,.int .i32 772,.int .i64 3]) (w1:=w) (by kernel_rfl) ?_
 refine Kd.event_run rfl (v:=.agg #[.int .i32 774,.int .i32 776,.int .i64 3]) (w1:=w) (by kernel_rfl) ?_
 refine Kd.event_run rfl (v:=.agg #[.int .i32 778,.int .i32 780,.int .i64 3]) (w1:=w) (by kernel_rfl) ?_
 refine Kd.event_run rfl (v:=.agg #[.int .i32 803,.int .i32 803,.int .i64 3]) (w1:=w) (by kernel_rfl) ?_
 refine Kd.event_run rfl (v:=.agg #[.int .i32 807,.int .i32 808,.int .i64 3]) (w1:=w) (by kernel_rfl) ?_
 refine Kd.event_run rfl (v:=.agg #[.int .i32 832,.int .i32 833,.int .i64 7]) (w1:=w) (by kernel_rfl) ?_
 refine Kd.event_run rfl (v:=.agg #[.int .i32 847,.int .i32 847,.int .i64 6]) (w1:=w) (by kernel_rfl) ?_
 refine Kd.event_run rfl (v:=.agg #[.int .i32 902,.int .i32 902,.int .i64 1]) (w1:=w) (by kernel_rfl) ?_
 refine Kd.event_run rfl (v:=.agg #[.int .i32 904,.int .i32 906,.int .i64 1]) (w1:=w) (by kernel_rfl) ?_
 refine Kd.event_run rfl (v:=.agg #[.int .i32 908,.int .i32 908,.int .i64 1]) (w1:=w) (by kernel_rfl) ?_
 refine Kd.event_run rfl (v:=.agg #[.int .i32 910,.int .i32 929,.int .i64 1]) (w1:=w) (by kernel_rfl) ?_
 refine Kd.event_run rfl (v:=.agg #[.int .i32 931,.int .i32 974,.int .i64 1]) (w1:=w) (by kernel_rfl) ?_
 refine MW.frame_eq ⟨[(.slice none 0 0),(.agg #[.int .i32 0,.int .i32 8,.int .i64 6]),(.agg #[.int .i32 9,.int .i32 13,.int .i64 5]),(.agg #[.int .i32 14,.int .i32 31,.int .i64 6]),(.agg #[.int .i32 32,.int .i32 32,.int .i64 5]),(.agg #[.int .i32 33,.int .i32 47,.int .i64 4]),(.agg #[.int .i32 48,.int .i32 57,.int .i64 2]),(.agg #[.int .i32 58,.int .i32 64,.int .i64 4]),(.agg #[.int .i32 65,.int .i32 90,.int .i64 1]),(.agg #[.int .i32 91,.int .i32 96,.int .i64 4]),(.agg #[.int .i32 97,.int .i32 122,.int .i64 1]),(.agg #[.int .i32 123,.int .i32 126,.int .i64 4]),(.agg #[.int .i32 127,.int .i32 132,.int .i64 6]),(.agg #[.int .i32 133,.int .i32 133,.int .i64 5]),(.agg #[.int .i32 134,.int .i32 159,.int .i64 6]),(.agg #[.int .i32 160,.int .i32 160,.int .i64 5]),(.agg #[.int .i32 161,.int .i32 169,.int .i64 4]),(.agg #[.int .i32 170,.int .i32 170,.int .i64 1]),(.agg #[.int .i32 171,.int .i32 172,.int .i64 4]),(.agg #[.int .i32 173,.int .i32 173,.int .i64 6]),(.agg #[.int .i32 174,.int .i32 177,.int .i64 4]),(.agg #[.int .i32 178,.int .i32 179,.int .i64 2]),(.agg #[.int .i32 180,.int .i32 180,.int .i64 4]),(.agg #[.int .i32 181,.int .i32 181,.int .i64 1]),(.agg #[.int .i32 182,.int .i32 184,.int .i64 4]),(.agg #[.int .i32 185,.int .i32 185,.int .i64 2]),(.agg #[.int .i32 186,.int .i32 186,.int .i64 1]),(.agg #[.int .i32 187,.int .i32 191,.int .i64 4]),(.agg #[.int .i32 192,.int .i32 214,.int .i64 1]),(.agg #[.int .i32 215,.int .i32 215,.int .i64 4]),(.agg #[.int .i32 216,.int .i32 246,.int .i64 1]),(.agg #[.int .i32 247,.int .i32 247,.int .i64 4]),(.agg #[.int .i32 248,.int .i32 383,.int .i64 1]),(.agg #[.int .i32 700,.int .i32 700,.int .i64 1]),(.agg #[.int .i32 768,.int .i32 772,.int .i64 3]),(.agg #[.int .i32 774,.int .i32 776,.int .i64 3]),(.agg #[.int .i32 778,.int .i32 780,.int .i64 3]),(.agg #[.int .i32 803,.int .i32 803,.int .i64 3]),(.agg #[.int .i32 807,.int .i32 808,.int .i64 3]),(.agg #[.int .i32 832,.int .i32 833,.int .i64 7]),(.agg #[.int .i32 847,.int .i32 847,.int .i64 6]),(.agg #[.int .i32 902,.int .i32 902,.int .i64 1]),(.agg #[.int .i32 904,.int .i32 906,.int .i64 1]),(.agg #[.int .i32 908,.int .i32 908,.int .i64 1]),(.agg #[.int .i32 910,.int .i32 929,.int .i64 1]),(.agg #[.int .i32 931,.int .i32 974,.int .i64 1]),undef].toArray,[]⟩ (by kernel_rfl) ?_
 refine Kd.N_lit k38 w.heap.size 38 rfl (N':=46) rfl (xs:=((⟨0,8,6⟩:S38)::(⟨9,13,5⟩:S38)::(⟨14,31,6⟩:S38)::(⟨32,32,5⟩:S38)::(⟨33,47,4⟩:S38)::(⟨48,57,2⟩:S38)::(⟨58,64,4⟩:S38)::(⟨65,90,1⟩:S38)::(⟨91,96,4⟩:S38)::(⟨97,122,1⟩:S38)::(⟨123,126,4⟩:S38)::(⟨127,132,6⟩:S38)::(⟨133,133,5⟩:S38)::(⟨134,159,6⟩:S38)::(⟨160,160,5⟩:S38)::(⟨161,169,4⟩:S38)::(⟨170,170,1⟩:S38)::(⟨171,172,4⟩:S38)::(⟨173,173,6⟩:S38)::(⟨174,177,4⟩:S38)::(⟨178,179,2⟩:S38)::(⟨180,180,4⟩:S38)::(⟨181,181,1⟩:S38)::(⟨182,184,4⟩:S38)::(⟨185,185,2⟩:S38)::(⟨186,186,1⟩:S38)::(⟨187,191,4⟩:S38)::(⟨192,214,1⟩:S38)::(⟨215,215,4⟩:S38)::(⟨216,246,1⟩:S38)::(⟨247,247,4⟩:S38)::(⟨248,383,1⟩:S38)::(⟨700,700,1⟩:S38)::(⟨768,772,3⟩:S38)::(⟨774,776,3⟩:S38)::(⟨778,780,3⟩:S38)::(⟨803,803,3⟩:S38)::(⟨807,808,3⟩:S38)::(⟨832,833,7⟩:S38)::(⟨847,847,6⟩:S38)::(⟨902,902,1⟩:S38)::(⟨904,906,1⟩:S38)::(⟨908,908,1⟩:S38)::(⟨910,929,1⟩:S38)::(⟨931,974,1⟩:S38)::[])) (inner:=((.int .i32 0:Value)::.int .i32 8::.int .i64 6::.int .i32 9::.int .i32 13::.int .i64 5::.int .i32 14::.int .i32 31::.int .i64 6::.int .i32 32::.int .i32 32::.int .i64 5::.int .i32 33::.int .i32 47::.int .i64 4::.int .i32 48::.int .i32 57::.int .i64 2::.int .i32 58::.int .i32 64::.int .i64 4::.int .i32 65::.int .i32 90::.int .i64 1::.int .i32 91::.int .i32 96::.int .i64 4::.int .i32 97::.int .i32 122::.int .i64 1::.int .i32 123::.int .i32 126::.int .i64 4::.int .i32 127::.int .i32 132::.int .i64 6::.int .i32 133::.int .i32 133::.int .i64 5::.int .i32 134::.int .i32 159::.int .i64 6::.int .i32 160::.int .i32 160::.int .i64 5::.int .i32 161::.int .i32 169::.int .i64 4::.int .i32 170::.int .i32 170::.int .i64 1::.int .i32 171::.int .i32 172::.int .i64 4::.int .i32 173::.int .i32 173::.int .i64 6::.int .i32 174::.int .i32 177::.int .i64 4::.int .i32 178::.int .i32 179::.int .i64 2::.int .i32 180::.int .i32 180::.int .i64 4::.int .i32 181::.int .i32 181::.int .i64 1::.int .i32 182::.int .i32 184::.int .i64 4::.int .i32 185::.int .i32 185::.int .i64 2::.int .i32 186::.int .i32 186::.int .i64 1::.int .i32 187::.int .i32 191::.int .i64 4::.int .i32 192::.int .i32 214::.int .i64 1::.int .i32 215::.int .i32 215::.int .i64 4::.int .i32 216::.int .i32 246::.int .i64 1::.int .i32 247::.int .i32 247::.int .i64 4::.int .i32 248::.int .i32 383::.int .i64 1::.int .i32 700::.int .i32 700::.int .i64 1::.int .i32 768::.int .i32 772::.int .i64 3::.int .i32 774::.int .i32 776::.int .i64 3::.int .i32 778::.int .i32 780::.int .i64 3::.int .i32 803::.int .i32 803::.int .i64 3::.int .i32 807::.int .i32 808::.int .i64 3::.int .i32 832::.int .i32 833::.int .i64 7::.int .i32 847::.int .i32 847::.int .i64 6::.int .i32 902::.int .i32 902::.int .i64 1::.int .i32 904::.int .i32 906::.int .i64 1::.int .i32 908::.int .i32 908::.int .i64 1::.int .i32 910::.int .i32 929::.int .i64 1::.int .i32 931::.int .i32 974::.int .i64 1::[])) (ok:=(fun k_=>(w.heap.size≤k_))) (okp:=(fun k_=>(w.heap.size≤k_))) ?hr ?hp (fun _ hk_=>hk_) ?hf HB.out (below_size HB.out) (by first|simp|decide) ?_
 case hr=>kernel_rfl
 case hp=>exact(Reps.c3 (k38_mkF _ _ (⟨0,8,6⟩:S38)) (Reps.c3 (k38_mkF _ _ (⟨9,13,5⟩:S38)) (Reps.c3 (k38_mkF _ _ (⟨14,31,6⟩:S38)) (Reps.c3 (k38_mkF _ _ (⟨32,32,5⟩:S38)) (Reps.c3 (k38_mkF _ _ (⟨33,47,4⟩:S38)) (Reps.c3 (k38_mkF _ _ (⟨48,57,2⟩:S38)) (Reps.c3 (k38_mkF _ _ (⟨58,64,4⟩:S38)) (Reps.c3 (k38_mkF _ _ (⟨65,90,1⟩:S38)) (Reps.c3 (k38_mkF _ _ (⟨91,96,4⟩:S38)) (Reps.c3 (k38_mkF _ _ (⟨97,122,1⟩:S38)) (Reps.c3 (k38_mkF _ _ (⟨123,126,4⟩:S38)) (Reps.c3 (k38_mkF _ _ (⟨127,132,6⟩:S38)) (Reps.c3 (k38_mkF _ _ (⟨133,133,5⟩:S38)) (Reps.c3 (k38_mkF _ _ (⟨134,159,6⟩:S38)) (Reps.c3 (k38_mkF _ _ (⟨160,160,5⟩:S38)) (Reps.c3 (k38_mkF _ _ (⟨161,169,4⟩:S38)) (Reps.c3 (k38_mkF _ _ (⟨170,170,1⟩:S38)) (Reps.c3 (k38_mkF _ _ (⟨171,172,4⟩:S38)) (Reps.c3 (k38_mkF _ _ (⟨173,173,6⟩:S38)) (Reps.c3 (k38_mkF _ _ (⟨174,177,4⟩:S38)) (Reps.c3 (k38_mkF _ _ (⟨178,179,2⟩:S38)) (Reps.c3 (k38_mkF _ _ (⟨180,180,4⟩:S38)) (Reps.c3 (k38_mkF _ _ (⟨181,181,1⟩:S38)) (Reps.c3 (k38_mkF _ _ (⟨182,184,4⟩:S38)) (Reps.c3 (k38_mkF _ _ (⟨185,185,2⟩:S38)) (Reps.c3 (k38_mkF _ _ (⟨186,186,1⟩:S38)) (Reps.c3 (k38_mkF _ _ (⟨187,191,4⟩:S38)) (Reps.c3 (k38_mkF _ _ (⟨192,214,1⟩:S38)) (Reps.c3 (k38_mkF _ _ (⟨215,215,4⟩:S38)) (Reps.c3 (k38_mkF _ _ (⟨216,246,1⟩:S38)) (Reps.c3 (k38_mkF _ _ (⟨247,247,4⟩:S38)) (Reps.c3 (k38_mkF _ _ (⟨248,383,1⟩:S38)) (Reps.c3 (k38_mkF _ _ (⟨700,700,1⟩:S38)) (Reps.c3 (k38_mkF _ _ (⟨768,772,3⟩:S38)) (Reps.c3 (k38_mkF _ _ (⟨774,776,3⟩:S38)) (Reps.c3 (k38_mkF _ _ (⟨778,780,3⟩:S38)) (Reps.c3 (k38_mkF _ _ (⟨803,803,3⟩:S38)) (Reps.c3 (k38_mkF _ _ (⟨807,808,3⟩:S38)) (Reps.c3 (k38_mkF _ _ (⟨832,833,7⟩:S38)) (Reps.c3 (k38_mkF _ _ (⟨847,847,6⟩:S38)) (Reps.c3 (k38_mkF _ _ (⟨902,902,1⟩:S38)) (Reps.c3 (k38_mkF _ _ (⟨904,906,1⟩:S38)) (Reps.c3 (k38_mkF _ _ (⟨908,908,1⟩:S38)) (Reps.c3 (k38_mkF _ _ (⟨910,929,1⟩:S38)) (Reps.c3 (k38_mkF _ _ (⟨931,974,1⟩:S38)) (Reps.none _ _))))))))))))))))))))))))))))))))))))))))))))))
 case hf=>exact(show ∀ k_,w.heap.size≤k_→(fun k_=>(w.heap.size≤k_)) k_ from fun k_ h_=>(Nat.le_trans (below_size HB.out) h_)) _ (Nat.le_refl _)
 intro v1 w2 hn1 hb1 hg1 hat1
 have hbe:=MW.grown_below hg1
 have hba:=MW.base_of hat1
 replace HB:=za hb1
 have HN3:=za hn1
 clear hn1 hb1 hg1 hat1 hbe hba
 refine Kd.event_run rfl (v:=v1) (w1:=w2) (by kernel_rfl) ?_
 obtain rfl:=Option.some.inj HH.out
 clear HH
 go_wp2
 go_ret
 exact⟨_,by first|rfl|(simp;done)|(simp[*];done),(Kd.N_mono (ok:=(fun k_=>(w.heap.size≤k_))) HN3.out (fun k_ hk_=>hk_)),HB.out⟩

def toponymref03_upper.f  :Option ((List (S38))):=some ((⟨1025,1025,1⟩:S38)::(⟨1040,1103,1⟩:S38)::(⟨1105,1105,1⟩:S38)::(⟨1488,1514,1⟩:S38)::(⟨1632,1641,2⟩:S38)::(⟨4352,4370,1⟩:S38)::(⟨4449,4469,1⟩:S38)::(⟨4520,4546,1⟩:S38)::(⟨8192,8202,5⟩:S38)::(⟨8203,8207,6⟩:S38)::(⟨8208,8209,4⟩:S38)::(⟨8232,8233,5⟩:S38)::(⟨8234,8238,6⟩:S38)::(⟨8239,8239,5⟩:S38)::(⟨8260,8260,4⟩:S38)::(⟨8287,8287,5⟩:S38)::(⟨8288,8291,6⟩:S38)::(⟨8298,8303,6⟩:S38)::(⟨8304,8304,2⟩:S38)::(⟨8308,8313,2⟩:S38)::(⟨8320,8329,2⟩:S38)::(⟨8486,8486,1⟩:S38)::(⟨8490,8491,1⟩:S38)::(⟨8544,8555,1⟩:S38)::(⟨8560,8571,1⟩:S38)::(⟨8722,8722,4⟩:S38)::(⟨12288,12288,5⟩:S38)::(⟨12353,12436,1⟩:S38)::(⟨12441,12442,3⟩:S38)::(⟨19968,20223,1⟩:S38)::(⟨44032,55203,1⟩:S38)::(⟨57344,63743,7⟩:S38)::(⟨64256,64261,1⟩:S38)::(⟨64976,65007,7⟩:S38)::(⟨65024,65039,6⟩:S38)::(⟨65279,65279,6⟩:S38)::(⟨65281,65295,4⟩:S38)::(⟨65296,65305,2⟩:S38)::(⟨65306,65312,4⟩:S38)::(⟨65313,65338,1⟩:S38)::(⟨65339,65344,4⟩:S38)::(⟨65345,65370,1⟩:S38)::(⟨65371,65374,4⟩:S38)::(⟨65529,65532,6⟩:S38)::(⟨65533,65535,7⟩:S38)::[])
set_option maxHeartbeats 8000000 in
set_option maxRecDepth 100000 in
theorem toponymref03_upper.calls (r:List (S38)) (w:World) (h:toponymref03_upper.f  =some r):
  Calls Try.prog 38 #[] w (fun e w'=>∃ v0_:Value,e=.returned (v0_)∧Kd.N k38 38 w' w.heap.size (fun k_=>w.heap.size≤k_) v0_ r∧Below w.heap.size w w'):=by
 unfold toponymref03_upper.f at h
 have HH:=za h
 clear h
 have HB:=za (Below.refl w.heap.size w)
 have hu38:=Try.underlying38
 go_enter Try.func38,Try.ntmps38
 repeat(first|(refine MW.region_stop (id:=1) ?_)|go_values|go_skip|go_guarded|go_step|go_upon)
 refine zg ?_
 refine Kd.event_run rfl (v:=.agg #[.int .i32 1025,.int .i32 1025,.int .i64 1]) (w1:=w) (by kernel_rfl) ?_
 refine Kd.event_run rfl (v:=.agg #[.int .i32 1040,.int .i32 1103,.int .i64 1]) (w1:=w) (by kernel_rfl) ?_
 refine Kd.event_run rfl (v:=.agg #[.int .i32 1105,.int .i32 1105,.int .i64 1]) (w1:=w) (by kernel_rfl) ?_
 refine Kd.event_run rfl (v:=.agg #[.int .i32 1488,.int .i32 1514,.int .i64 1]) (w1:=w) (by kernel_rfl) ?_
 refine Kd.event_run rfl (v:=.agg #[.int .i32 1632,.int .i32 1641,.int .i64 2]) (w1:=w) (by kernel_rfl) ?_
 refine Kd.event_run rfl (v:=.agg #[.int .i32 4352,.int .i32 4370,.int .i64 1]) (w1:=w) (by kernel_rfl) ?_
 refine Kd.event_run rfl (v:=.agg #[.int .i32 4449,.int .i32 4469,.int .i64 1]) (w1:=w) (by kernel_rfl) ?_
 refine Kd.event_run rfl (v:=.agg #[.int .i32 4520,.int .i32 4546,.int .i64 1]) (w1:=w) (by kernel_rfl) ?_
 refine Kd.event_run rfl (v:=.agg #[.int .i32 8192,.int .i32 8202,.int .i64 5]) (w1:=w) (by kernel_rfl) ?_
 refine Kd.event_run rfl (v:=.agg #[.int .i32 8203,.int .i32 8207,.int .i64 6]) (w1:=w) (by kernel_rfl) ?_
 refine Kd.event_run rfl (v:=.agg #[.int .i32 8208,.int .i32 8209,.int .i64 4]) (w1:=w) (by kernel_rfl) ?_
 refine Kd.event_run rfl (v:=.agg #[.int .i32 8232,.int .i32 8233,.int .i64 5]) (w1:=w) (by kernel_rfl) ?_
 refine Kd.event_run rfl (v:=.agg #[.int .i32 8234,.int .i32 8238,.int .i64 6]) (w1:=w) (by kernel_rfl) ?_
 refine Kd.event_run rfl (v:=.agg #[.int .i32 8239,.int .i32 8239,.int .i64 5]) (w1:=w) (by kernel_rfl) ?_
 refine Kd.event_run rfl (v:=.agg #[.int .i32 8260,.int .i32 8260,.int .i64 4]) (w1:=w) (by kernel_rfl) ?_
 refine Kd.event_run rfl (v:=.agg #[.int .i32 8287,.int .i32 8287,.int .i64 5]) (w1:=w) (by kernel_rfl) ?_
 refine Kd.event_run rfl (v:=.agg #[.int .i32 8288,.int .i32 8291,.int .i64 6]) (w1:=w) (by kernel_rfl) ?_
 refine Kd.event_run rfl (v:=.agg #[.int .i32 8298,.int .i32 8303,.int .i64 6]) (w1:=w) (by kernel_rfl) ?_
 refine Kd.event_run rfl (v:=.agg #[.int .i32 8304,.int .i32 8304,.int .i64 2]) (w1:=w) (by kernel_rfl) ?_
 refine Kd.event_run rfl (v:=.agg #[.int .i32 8308,.int .i32 8313,.int .i64 2]) (w1:=w) (by kernel_rfl) ?_
 refine Kd.event_run rfl (v:=.agg #[.int .i32 8320,.int .i32 8329,.int .i64 2]) (w1:=w) (by kernel_rfl) ?_
 refine Kd.event_run rfl (v:=.agg #[.int .i32 8486,.int .i32 8486,.int .i64 1]) (w1:=w) (by kernel_rfl) ?_
 refine Kd.event_run rfl (v:=.agg #[.int .i32 8490,.int .i32 8491,.int .i64 1]) (w1:=w) (by kernel_rfl) ?_
 refine Kd.event_run rfl (v:=.agg #[.int .i32 8544,.int .i32 8555,.int .i64 1]) (w1:=w) (by kernel_rfl) ?_
 refine Kd.event_run rfl (v:=.agg #[.int .i32 8560,.int .i32 8571,.int .i64 1]) (w1:=w) (by kernel_rfl) ?_
 refine Kd.event_run rfl (v:=.agg #[.int .i32 8722,.int .i32 8722,.int .i64 4]) (w1:=w) (by kernel_rfl) ?_
 refine Kd.event_run rfl (v:=.agg #[.int .i32 12288,.int .i32 12288,.int .i64 5]) (w1:=w) (by kernel_rfl) ?_
 refine Kd.event_run rfl (v:=.agg #[.int .i32 12353,.int .i32 12436,.int .i64 1]) (w1:=w) (by kernel_rfl) ?_
 refine Kd.event_run rfl (v:=.agg #[.int .i32 12441,.int .i32 12442,.int .i64 3]) (w1:=w) (by kernel_rfl) ?_
 refine Kd.event_run rfl (v:=.agg #[.int .i32 19968,.int .i32 20223,.int .i64 1]) (w1:=w) (by kernel_rfl) ?_
 refine Kd.event_run rfl (v:=.agg #[.int .i32 44032,.int .i32 55203,.int .i64 1]) (w1:=w) (by kernel_rfl) ?_
 refine Kd.event_run rfl (v:=.agg #[.int .i32 57344,.int .i32 63743,.int .i64 7]) (w1:=w) (by kernel_rfl) ?_
 refine Kd.event_run rfl (v:=.agg #[.int .i32 64256,.int .i32 64261,.int .i64 1]) (w1:=w) (by kernel_rfl) ?_
 refine Kd.event_run rfl (v:=.agg #[.int .i32 64976,.int .i32 65007,.int .i64 7]) (w1:=w) (by kernel_rfl) ?_
 refine Kd.event_run rfl (v:=.agg #[.int .i32 65024,.int .i32 65039,.int .i64 6]) (w1:=w) (by kernel_rfl) ?_
 refine Kd.event_run rfl (v:=.agg #[.int .i32 65279,.int .i32 65279,.int .i64 6]) (w1:=w) (by kernel_rfl) ?_
 refine Kd.event_run rfl (v:=.agg #[.int .i32 65281,.int .i32 65295,.int .i64 4]) (w1:=w) (by kernel_rfl) ?_
 refine Kd.event_run rfl (v:=.agg #[.int .i32 65296,.int .i32 65305,.int .i64 2]) (w1:=w) (by kernel_rfl) ?_
 refine Kd.event_run rfl (v:=.agg #[.int .i32 65306,.int .i32 65312,.int .i64 4]) (w1:=w) (by kernel_rfl) ?_
 refine Kd.event_run rfl (v:=.agg #[.int .i32 65313,.int .i32 65338,.int .i64 1]) (w1:=w) (by kernel_rfl) ?_
 refine Kd.event_run rfl (v:=.agg #[.int .i32 65339,.int .i32 65344,.int .i64 4]) (w1:=w) (by kernel_rfl) ?_
 refine Kd.event_run rfl (v:=.agg #[.int .i32 65345,.int .i32 65370,.int .i64 1]) (w1:=w) (by kernel_rfl) ?_
 refine Kd.event_run rfl (v:=.agg #[.int .i32 65371,.int .i32 65374,.int .i64 4]) (w1:=w) (by kernel_rfl) ?_
 refine Kd.event_run rfl (v:=.agg #[.int .i32 65529,.int .i32 65532,.int .i64 6]) (w1:=w) (by kernel_rfl) ?_
 refine Kd.event_run rfl (v:=.agg #[.int .i32 65533,.int .i32 65535,.int .i64 7]) (w1:=w) (by kernel_rfl) ?_
 refine MW.frame_eq ⟨[(.slice none 0 0),(.agg #[.int .i32 1025,.int .i32 1025,.int .i64 1]),(.agg #[.int .i32 1040,.int .i32 1103,.int .i64 1]),(.agg #[.int .i32 1105,.int .i32 1105,.int .i64 1]),(.agg #[.int .i32 1488,.int .i32 1514,.int .i64 1]),(.agg #[.int .i32 1632,.int .i32 1641,.int .i64 2]),(.agg #[.int .i32 4352,.int .i32 4370,.int .i64 1]),(.agg #[.int .i32 4449,.int .i32 4469,.int .i64 1]),(.agg #[.int .i32 4520,.int .i32 4546,.int .i64 1]),(.agg #[.int .i32 8192,.int .i32 8202,.int .i64 5]),(.agg #[.int .i32 8203,.int .i32 8207,.int .i64 6]),(.agg #[.int .i32 8208,.int .i32 8209,.int .i64 4]),(.agg #[.int .i32 8232,.int .i32 8233,.int .i64 5]),(.agg #[.int .i32 8234,.int .i32 8238,.int .i64 6]),(.agg #[.int .i32 8239,.int .i32 8239,.int .i64 5]),(.agg #[.int .i32 8260,.int .i32 8260,.int .i64 4]),(.agg #[.int .i32 8287,.int .i32 8287,.int .i64 5]),(.agg #[.int .i32 8288,.int .i32 8291,.int .i64 6]),(.agg #[.int .i32 8298,.int .i32 8303,.int .i64 6]),(.agg #[.int .i32 8304,.int .i32 8304,.int .i64 2]),(.agg #[.int .i32 8308,.int .i32 8313,.int .i64 2]),(.agg #[.int .i32 8320,.int .i32 8329,.int .i64 2]),(.agg #[.int .i32 8486,.int .i32 8486,.int .i64 1]),(.agg #[.int .i32 8490,.int .i32 8491,.int .i64 1]),(.agg #[.int .i32 8544,.int .i32 8555,.int .i64 1]),(.agg #[.int .i32 8560,.int .i32 8571,.int .i64 1]),(.agg #[.int .i32 8722,.int .i32 8722,.int .i64 4]),(.agg #[.int .i32 12288,.int .i32 12288,.int .i64 5]),(.agg #[.int .i32 12353,.int .i32 12436,.int .i64 1]),(.agg #[.int .i32 12441,.int .i32 12442,.int .i64 3]),(.agg #[.int .i32 19968,.int .i32 20223,.int .i64 1]),(.agg #[.int .i32 44032,.int .i32 55203,.int .i64 1]),(.agg #[.int .i32 57344,.int .i32 63743,.int .i64 7]),(.agg #[.int .i32 64256,.int .i32 64261,.int .i64 1]),(.agg #[.int .i32 64976,.int .i32 65007,.int .i64 7]),(.agg #[.int .i32 65024,.int .i32 65039,.int .i64 6]),(.agg #[.int .i32 65279,.int .i32 65279,.int .i64 6]),(.agg #[.int .i32 65281,.int .i32 65295,.int .i64 4]),(.agg #[.int .i32 65296,.int .i32 65305,.int .i64 2]),(.agg #[.int .i32 65306,.int .i32 65312,.int .i64 4]),(.agg #[.int .i32 65313,.int .i32 65338,.int .i64 1]),(.agg #[.int .i32 65339,.int .i32 65344,.int .i64 4]),(.agg #[.int .i32 65345,.int .i32 65370,.int .i64 1]),(.agg #[.int .i32 65371,.int .i32 65374,.int .i64 4]),(.agg #[.int .i32 65529,.int .i32 65532,.int .i64 6]),(.agg #[.int .i32 65533,.int .i32 65535,.int .i64 7]),undef].toArray,[]⟩ (by kernel_rfl) ?_
 refine Kd.N_lit k38 w.heap.size 38 rfl (N':=46) rfl (xs:=((⟨1025,1025,1⟩:S38)::(⟨1040,1103,1⟩:S38)::(⟨1105,1105,1⟩:S38)::(⟨1488,1514,1⟩:S38)::(⟨1632,1641,2⟩:S38)::(⟨4352,4370,1⟩:S38)::(⟨4449,4469,1⟩:S38)::(⟨4520,4546,1⟩:S38)::(⟨8192,8202,5⟩:S38)::(⟨8203,8207,6⟩:S38)::(⟨8208,8209,4⟩:S38)::(⟨8232,8233,5⟩:S38)::(⟨8234,8238,6⟩:S38)::(⟨8239,8239,5⟩:S38)::(⟨8260,8260,4⟩:S38)::(⟨8287,8287,5⟩:S38)::(⟨8288,8291,6⟩:S38)::(⟨8298,8303,6⟩:S38)::(⟨8304,8304,2⟩:S38)::(⟨8308,8313,2⟩:S38)::(⟨8320,8329,2⟩:S38)::(⟨8486,8486,1⟩:S38)::(⟨8490,8491,1⟩:S38)::(⟨8544,8555,1⟩:S38)::(⟨8560,8571,1⟩:S38)::(⟨8722,8722,4⟩:S38)::(⟨12288,12288,5⟩:S38)::(⟨12353,12436,1⟩:S38)::(⟨12441,12442,3⟩:S38)::(⟨19968,20223,1⟩:S38)::(⟨44032,55203,1⟩:S38)::(⟨57344,63743,7⟩:S38)::(⟨64256,64261,1⟩:S38)::(⟨64976,65007,7⟩:S38)::(⟨65024,65039,6⟩:S38)::(⟨65279,65279,6⟩:S38)::(⟨65281,65295,4⟩:S38)::(⟨65296,65305,2⟩:S38)::(⟨65306,65312,4⟩:S38)::(⟨65313,65338,1⟩:S38)::(⟨65339,65344,4⟩:S38)::(⟨65345,65370,1⟩:S38)::(⟨65371,65374,4⟩:S38)::(⟨65529,65532,6⟩:S38)::(⟨65533,65535,7⟩:S38)::[])) (inner:=((.int .i32 1025:Value)::.int .i32 1025::.int .i64 1::.int .i32 1040::.int .i32 1103::.int .i64 1::.int .i32 1105::.int .i32 1105::.int .i64 1::.int .i32 1488::.int .i32 1514::.int .i64 1::.int .i32 1632::.int .i32 1641::.int .i64 2::.int .i32 4352::.int .i32 4370::.int .i64 1::.int .i32 4449::.int .i32 4469::.int .i64 1::.int .i32 4520::.int .i32 4546::.int .i64 1::.int .i32 8192::.int .i32 8202::.int .i64 5::.int .i32 8203::.int .i32 8207::.int .i64 6::.int .i32 8208::.int .i32 8209::.int .i64 4::.int .i32 8232::.int .i32 8233::.int .i64 5::.int .i32 8234::.int .i32 8238::.int .i64 6::.int .i32 8239::.int .i32 8239::.int .i64 5::.int .i32 8260::.int .i32 8260::.int .i64 4::.int .i32 8287::.int .i32 8287::.int .i64 5::.int .i32 8288::.int .i32 8291::.int .i64 6::.int .i32 8298::.int .i32 8303::.int .i64 6::.int .i32 8304::.int .i32 8304::.int .i64 2::.int .i32 8308::.int .i32 8313::.int .i64 2::.int .i32 8320::.int .i32 8329::.int .i64 2::.int .i32 8486::.int .i32 8486::.int .i64 1::.int .i32 8490::.int .i32 8491::.int .i64 1::.int .i32 8544::.int .i32 8555::.int .i64 1::.int .i32 8560::.int .i32 8571::.int .i64 1::.int .i32 8722::.int .i32 8722::.int .i64 4::.int .i32 12288::.int .i32 12288::.int .i64 5::.int .i32 12353::.int .i32 12436::.int .i64 1::.int .i32 12441::.int .i32 12442::.int .i64 3::.int .i32 19968::.int .i32 20223::.int .i64 1::.int .i32 44032::.int .i32 55203::.int .i64 1::.int .i32 57344::.int .i32 63743::.int .i64 7::.int .i32 64256::.int .i32 64261::.int .i64 1::.int .i32 64976::.int .i32 65007::.int .i64 7::.int .i32 65024::.int .i32 65039::.int .i64 6::.int .i32 65279::.int .i32 65279::.int .i64 6::.int .i32 65281::.int .i32 65295::.int .i64 4::.int .i32 65296::.int .i32 65305::.int .i64 2::.int .i32 65306::.int .i32 65312::.int .i64 4::.int .i32 65313::.int .i32 65338::.int .i64 1::.int .i32 65339::.int .i32 65344::.int .i64 4::.int .i32 65345::.int .i32 65370::.int .i64 1::.int .i32 65371::.int .i32 65374::.int .i64 4::.int .i32 65529::.int .i32 65532::.int .i64 6::.int .i32 65533::.int .i32 65535::.int .i64 7::[])) (ok:=(fun k_=>(w.heap.size≤k_))) (okp:=(fun k_=>(w.heap.size≤k_))) ?hr ?hp (fun _ hk_=>hk_) ?hf HB.out (below_size HB.out) (by first|simp|decide) ?_
 case hr=>kernel_rfl
 case hp=>exact(Reps.c3 (k38_mkF _ _ (⟨1025,1025,1⟩:S38)) (Reps.c3 (k38_mkF _ _ (⟨1040,1103,1⟩:S38)) (Reps.c3 (k38_mkF _ _ (⟨1105,1105,1⟩:S38)) (Reps.c3 (k38_mkF _ _ (⟨1488,1514,1⟩:S38)) (Reps.c3 (k38_mkF _ _ (⟨1632,1641,2⟩:S38)) (Reps.c3 (k38_mkF _ _ (⟨4352,4370,1⟩:S38)) (Reps.c3 (k38_mkF _ _ (⟨4449,4469,1⟩:S38)) (Reps.c3 (k38_mkF _ _ (⟨4520,4546,1⟩:S38)) (Reps.c3 (k38_mkF _ _ (⟨8192,8202,5⟩:S38)) (Reps.c3 (k38_mkF _ _ (⟨8203,8207,6⟩:S38)) (Reps.c3 (k38_mkF _ _ (⟨8208,8209,4⟩:S38)) (Reps.c3 (k38_mkF _ _ (⟨8232,8233,5⟩:S38)) (Reps.c3 (k38_mkF _ _ (⟨8234,8238,6⟩:S38)) (Reps.c3 (k38_mkF _ _ (⟨8239,8239,5⟩:S38)) (Reps.c3 (k38_mkF _ _ (⟨8260,8260,4⟩:S38)) (Reps.c3 (k38_mkF _ _ (⟨8287,8287,5⟩:S38)) (Reps.c3 (k38_mkF _ _ (⟨8288,8291,6⟩:S38)) (Reps.c3 (k38_mkF _ _ (⟨8298,8303,6⟩:S38)) (Reps.c3 (k38_mkF _ _ (⟨8304,8304,2⟩:S38)) (Reps.c3 (k38_mkF _ _ (⟨8308,8313,2⟩:S38)) (Reps.c3 (k38_mkF _ _ (⟨8320,8329,2⟩:S38)) (Reps.c3 (k38_mkF _ _ (⟨8486,8486,1⟩:S38)) (Reps.c3 (k38_mkF _ _ (⟨8490,8491,1⟩:S38)) (Reps.c3 (k38_mkF _ _ (⟨8544,8555,1⟩:S38)) (Reps.c3 (k38_mkF _ _ (⟨8560,8571,1⟩:S38)) (Reps.c3 (k38_mkF _ _ (⟨8722,8722,4⟩:S38)) (Reps.c3 (k38_mkF _ _ (⟨12288,12288,5⟩:S38)) (Reps.c3 (k38_mkF _ _ (⟨12353,12436,1⟩:S38)) (Reps.c3 (k38_mkF _ _ (⟨12441,12442,3⟩:S38)) (Reps.c3 (k38_mkF _ _ (⟨19968,20223,1⟩:S38)) (Reps.c3 (k38_mkF _ _ (⟨44032,55203,1⟩:S38)) (Reps.c3 (k38_mkF _ _ (⟨57344,63743,7⟩:S38)) (Reps.c3 (k38_mkF _ _ (⟨64256,64261,1⟩:S38)) (Reps.c3 (k38_mkF _ _ (⟨64976,65007,7⟩:S38)) (Reps.c3 (k38_mkF _ _ (⟨65024,65039,6⟩:S38)) (Reps.c3 (k38_mkF _ _ (⟨65279,65279,6⟩:S38)) (Reps.c3 (k38_mkF _ _ (⟨65281,65295,4⟩:S38)) (Reps.c3 (k38_mkF _ _ (⟨65296,65305,2⟩:S38)) (Reps.c3 (k38_mkF _ _ (⟨65306,65312,4⟩:S38)) (Reps.c3 (k38_mkF _ _ (⟨65313,65338,1⟩:S38)) (Reps.c3 (k38_mkF _ _ (⟨65339,65344,4⟩:S38)) (Reps.c3 (k38_mkF _ _ (⟨65345,65370,1⟩:S38)) (Reps.c3 (k38_mkF _ _ (⟨65371,65374,4⟩:S38)) (Reps.c3 (k38_mkF _ _ (⟨65529,65532,6⟩:S38)) (Reps.c3 (k38_mkF _ _ (⟨65533,65535,7⟩:S38)) (Reps.none _ _))))))))))))))))))))))))))))))))))))))))))))))
 case hf=>exact(show ∀ k_,w.heap.size≤k_→(fun k_=>(w.heap.size≤k_)) k_ from fun k_ h_=>(Nat.le_trans (below_size HB.out) h_)) _ (Nat.le_refl _)
 intro v1 w2 hn1 hb1 hg1 hat1
 have hbe:=MW.grown_below hg1
 have hba:=MW.base_of hat1
 replace HB:=za hb1
 have HN3:=za hn1
 clear hn1 hb1 hg1 hat1 hbe hba
 refine Kd.event_run rfl (v:=v1) (w1:=w2) (by kernel_rfl) ?_
 obtain rfl:=Option.some.inj HH.out
 clear HH
 go_wp2
 go_ret
 exact⟨_,by first|rfl|(simp;done)|(simp[*];done),(Kd.N_mono (ok:=(fun k_=>(w.heap.size≤k_))) HN3.out (fun k_ hk_=>hk_)),HB.out⟩

def toponymref03_planes.l0:Nat→(List (S38))→Int→Option ((List (S38)))
 |0,_,_=>none
 |k+1,x1,x4=>if x4≤16 then(if x1.length<8796093022208 then((some (x1++[(⟨wrap32 (wrap64 ((wrap64 (65536*x4))+65534)),wrap32 ((wrap32 (wrap64 ((wrap64 (65536*x4))+65534)))+1),7⟩:S38)]:List (S38))).bind fun y10=>((toponymref03_planes.l0 k y10 (wrap64 (x4+1))))) else(none)) else(some x1)
def toponymref03_planes.f (k:Nat)  :Option ((List (S38))):=(toponymref03_planes.l0 k ([]:List (S38)) 1)
theorem toponymref03_planes.mono_l:∀ k,(∀ y0 y1,LeO (toponymref03_planes.l0 k y0 y1) (toponymref03_planes.l0 (k+1) y0 y1))
 |0=>fun _ _ r h=>by simp[toponymref03_planes.l0] at h
 |k+1=>by
  have ih0:=toponymref03_planes.mono_l k
  ·intro y0 y1
   unfold toponymref03_planes.l0
   with_reducible repeat' first|exact ih0 _ _|exact LeO.refl _|exact LeO.none _|refine LeO.ite ?_ ?_|refine LeO.bind ?_ (fun _=>?_)
theorem toponymref03_planes.mono:∀ k,LeO (toponymref03_planes.f k) (toponymref03_planes.f (k+1)):=by
 intro  k
 have ih0:=toponymref03_planes.mono_l k
 unfold toponymref03_planes.f
 with_reducible repeat' first|exact ih0 _ _|exact LeO.refl _|exact LeO.none _|refine LeO.ite ?_ ?_|refine LeO.bind ?_ (fun _=>?_)
set_option maxHeartbeats 8000000 in
set_option maxRecDepth 100000 in
theorem toponymref03_planes.calls (k:Nat) (r:List (S38)) (w:World) (h:toponymref03_planes.f k  =some r):
  Calls Try.prog 39 #[] w (fun e w'=>∃ v0_:Value,e=.returned (v0_)∧Kd.N k38 38 w' w.heap.size (fun k_=>w.heap.size≤k_) v0_ r∧Below w.heap.size w w'):=by
 unfold toponymref03_planes.f at h
 have HH:=za h
 clear h
 have HB:=za (Below.refl w.heap.size w)
 have hu38:=Try.underlying38
 go_enter Try.func39,Try.ntmps39
 go_wp2
 go_loopg [1,2] k (fun kq u1 u2 w'=>∃ (x1:List (S38)) (x4:Int),u2=.int .i64 x4∧Aside0 ((toponymref03_planes.l0 kq x1 x4)=some r)∧Aside0 (kq≤k)∧Aside0 (Kd.N k38 38 w' w.heap.size (fun k_=>(w.heap.size≤k_)) u1 x1)∧Aside0 (Below w.heap.size w w'))
 case atStart=>exact⟨([]:List (S38)),1,(by first|rfl|(simp;done)|(simp[*];done)),HH,⟨Nat.le_refl _⟩,⟨Kd.N_nil _ _ _ _ _⟩,⟨HB.out⟩⟩
 case round=>
  clear HH
  clear HB
  obtain⟨x1,x4,rfl,HA,HK0,HN3,HB⟩:=hrel
  obtain⟨v2,rfl⟩:∃ z_:Value,z_=u1:=⟨_,rfl⟩
  obtain⟨w6,rfl⟩:∃ wo_:World,wo_=wr:=⟨_,rfl⟩
  cases gk with
  |zero=>exact absurd HA.out (by simp[toponymref03_planes.l0])
  |succ k5=>
   have H:=HA.out
   clear HA
   simp only[toponymref03_planes.l0] at H
   have HH:=za H
   clear H
   replace HH:=zqd HH
   rcases HH with⟨HH,hk8⟩|⟨HH,hk14⟩
   ·obtain⟨HH,LMc9⟩:=zlm HH
    obtain⟨y10,hy10⟩:∃ y_:List (S38),y_=(x1++[(⟨wrap32 (wrap64 ((wrap64 (65536*x4))+65534)),wrap32 ((wrap32 (wrap64 ((wrap64 (65536*x4))+65534)))+1),7⟩:S38)]):=⟨_,rfl⟩
    have H:((toponymref03_planes.l0 k5 y10 (wrap64 (x4+1))))=some r:=by rw[hy10];exact HH.out
    replace HH:=za H
    clear H
    have NYy10:=za hy10
    clear hy10
    go_wp2_with (((with_reducible refine gate_dst (N:=18) rfl ?_);(try(refine gate_guard (by rfl) ?_;dsimp only));refine Kd.N_append k38 w.heap.size rfl _ _ 33 38 (.agg #[(.int .i32 0),(.int .i32 0),(.int .i64 0)]) 16 rfl Try.underlying33 info38 rfl (by decide) (by decide) (v2) x1 (⟨wrap32 (wrap64 ((wrap64 (65536*x4))+65534)),wrap32 ((wrap32 (wrap64 ((wrap64 (65536*x4))+65534)))+1),7⟩:S38) [.int .i32 (wrap32 (wrap64 ((wrap64 (65536*x4))+65534))),.int .i32 (wrap32 ((wrap32 (wrap64 ((wrap64 (65536*x4))+65534)))+1)),.int .i64 7] (fun k_=>(w.heap.size≤k_)) (fun k_=>(fun k_=>(w.heap.size≤k_)) k_∧some k_≠(v2:Value).ownBlock) rfl rfl (k38_mkF _ _ (⟨wrap32 (wrap64 ((wrap64 (65536*x4))+65534)),wrap32 ((wrap32 (wrap64 ((wrap64 (65536*x4))+65534)))+1),7⟩:S38)) (fun _ hk_=>hk_) (fun k_ h_=>(Nat.le_trans (below_size (by repeat(first|(with_reducible first|exact HB.out|apply below_alloc|apply pw_below_drewN|apply below_drew1)|exact HB.out))) h_)) (by(with_reducible repeat(first|apply Kd.N_alloc|apply Kd.N_drewN|apply Kd.N_drew));exact HN3.out) (by repeat(first|(with_reducible first|exact HB.out|apply below_alloc|apply pw_below_drewN|apply below_drew1)|exact HB.out)) (below_size (by repeat(first|(with_reducible first|exact HB.out|apply below_alloc|apply pw_below_drewN|apply below_drew1)|exact HB.out))) (by first|(have:=LMc9.out;omega)|(have:=LMc9.out;simp at *;omega)) ?_;intro v11 w12 hn1 hb1 hg1 hat1);replace hat1:=za hat1;refine stop_ ?_)
    refine zg ?_
    replace hat1:=hat1.out
    replace HB:=za hb1
    clear HN3
    have HN13:=za hn1
    clear hn1 hb1 hg1 hat1
    replace HN13:=za (by rw[NYy10.out];exact HN13.out:Kd.N k38 38 w12 w.heap.size (fun k_=>(w.heap.size≤k_)) v11 y10)
    go_wp2
    go_roundg k5
    case measure=>have:=HK0.out;omega
    case rel=>exact⟨y10,wrap64 (x4+1),(by first|rfl|(simp;done)|(simp[*];done)),HH,⟨by have:=HK0.out;omega⟩,⟨(Kd.N_mono (ok:=(fun k_=>(w.heap.size≤k_))) HN13.out (fun k_ hk_=>hk_))⟩,⟨HB.out⟩⟩
   obtain rfl:=Option.some.inj HH.out
   clear HH
   go_wp2
   go_ret
   exact⟨_,by first|rfl|(simp;done)|(simp[*];done),(Kd.N_mono (ok:=(fun k_=>(w.heap.size≤k_))) HN3.out (fun k_ hk_=>hk_)),HB.out⟩

def toponymref03_Rows.f (k:Nat)  :Option ((List (S38))):=(toponymref03_lower.f).bind fun t1=>((toponymref03_upper.f).bind fun t5=>(if t1.length+t5.length<8796093022208 then((some (t1++t5:List (S38))).bind fun y14=>((toponymref03_planes.f k).bind fun t18=>(if y14.length+t18.length<8796093022208 then((some (y14++t18:List (S38))).bind fun y27=>(some y27)) else(none)))) else(none)))
theorem toponymref03_Rows.mono:∀ k,LeO (toponymref03_Rows.f k) (toponymref03_Rows.f (k+1)):=by
 intro  k
 unfold toponymref03_Rows.f
 with_reducible repeat' first|exact toponymref03_planes.mono _|exact LeO.refl _|exact LeO.none _|refine LeO.ite ?_ ?_|refine LeO.bind ?_ (fun _=>?_)
set_option maxHeartbeats 8000000 in
set_option maxRecDepth 100000 in
theorem toponymref03_Rows.calls (k:Nat) (r:List (S38)) (w:World) (h:toponymref03_Rows.f k  =some r):
  Calls Try.prog 31 #[] w (fun e w'=>∃ v0_:Value,e=.returned (v0_)∧Kd.N k38 38 w' w.heap.size (fun k_=>w.heap.size≤k_) v0_ r∧Below w.heap.size w w'):=by
 unfold toponymref03_Rows.f at h
 have HH:=za h
 clear h
 have HB:=za (Below.refl w.heap.size w)
 go_enter Try.func31,Try.ntmps31
 replace HH:=zd HH
 obtain⟨t1,At2,HH⟩:=HH
 go_wp2_with ((with_reducible refine gc 37 rfl ?_);refine zc 37 (some 1) Try.func37 #[] (h:=?_);(with_reducible refine(toponymref03_lower.calls  t1 _  At2.out).mono ?_);rintro e w3 ⟨v4,rfl,hn4,hb⟩;refine⟨_,rfl,?_⟩)
 refine zg ?_
 have hba:=Kd.N_base hn4
 have HN4:=znl (ok2:=(fun k_=>(w.heap.size≤k_))) hn4 (below_size HB.out) (fun k_ h_=>(Nat.le_trans (below_size HB.out) h_))
 replace HB:=zhb HB.out hb
 clear hn4 hba hb
 replace HH:=zd HH
 obtain⟨t5,At6,HH⟩:=HH
 go_wp2_with ((with_reducible refine gc 38 rfl ?_);refine zc 38 (some 2) Try.func38 #[] (h:=?_);(with_reducible refine(toponymref03_upper.calls  t5 _  At6.out).mono ?_);rintro e w7 ⟨v8,rfl,hn8,hb⟩;refine⟨_,rfl,?_⟩)
 refine zg ?_
 have hba:=Kd.N_base hn8
 have HN8:=znl (ok2:=(fun k_=>(w.heap.size≤k_)∧some k_≠(v4:Value).ownBlock)) hn8 (below_size HB.out) (fun k_ h_=>⟨(Nat.le_trans (below_size HB.out) h_),Kd.fresh' (Kd.N_lt HN4.out) k_ h_⟩)
 replace HN4:=znr (u:=v8) HN4.out hba hb
 replace HB:=zhb HB.out hb
 clear hn8 hba hb
 obtain⟨A9,cp10,he_⟩:=Kd.N_slice HN8.out
 subst he_
 have HF11:=za (Kd.N_F HN8.out)
 clear HN8
 replace HN4:=za (Kd.N_mono (ok:=(fun k_=>(w.heap.size≤k_)∧some k_≠((.slice A9 t5.length cp10):Value).ownBlock)) HN4.out (fun k_ hk_=>hk_.1):Kd.N k38 _ _ _ (fun k_=>(w.heap.size≤k_)) _ _)
 obtain⟨HH,LMc13⟩:=zlm HH
 obtain⟨y14,hy14⟩:∃ y_:List (S38),y_=(t1++t5):=⟨_,rfl⟩
 have H:((toponymref03_planes.f k).bind fun t18=>(if y14.length+t18.length<8796093022208 then((some (y14++t18:List (S38))).bind fun y27=>(some y27)) else(none)))=some r:=by rw[hy14];exact HH.out
 replace HH:=za H
 clear H
 have NYy14:=za hy14
 clear hy14
 go_wp2_with (((with_reducible refine gate_dst (N:=3) rfl ?_);(try(refine gate_guard (by rfl) ?_;dsimp only));refine Kd.N_append_rows k38 w.heap.size rfl _ _ 33 38 (.agg #[(.int .i32 0),(.int .i32 0),(.int .i64 0)]) 16 rfl Try.underlying33 info38 rfl (by decide) (by decide) (v4) t1 t5 _ _ _ (fun k_=>(w.heap.size≤k_)) (fun k_=>(fun k_=>(w.heap.size≤k_)) k_∧some k_≠(v4:Value).ownBlock) rfl rfl HN4.out (Kd.F_mono (ok:=(fun k_=>(w.heap.size≤k_)∧some k_≠(v4:Value).ownBlock)) HF11.out (fun k_ hk_=>⟨hk_.1,hk_.2⟩)) (fun _ hk_=>hk_) (fun k_ h_=>(Nat.le_trans (below_size HB.out) h_)) HB.out (below_size HB.out) (by first|(have:=LMc13.out;simp only[List.length_nil] at *;omega)|(have:=LMc13.out;simp at *;omega)) ?_;intro v15 w16 hn1 hb1 hg1 hat1);replace hat1:=za hat1;refine stop_ ?_)
 refine zg ?_
 replace hat1:=hat1.out
 replace HB:=za hb1
 clear HN4
 have HN17:=za hn1
 clear hn1 hb1 hg1 hat1
 replace HN17:=za (by rw[NYy14.out];exact HN17.out:Kd.N k38 38 w16 w.heap.size (fun k_=>(w.heap.size≤k_)) v15 y14)
 replace HH:=zd HH
 obtain⟨t18,At19,HH⟩:=HH
 go_wp2_with ((with_reducible refine gc 39 rfl ?_);refine zc 39 (some 4) Try.func39 #[] (h:=?_);(with_reducible refine(toponymref03_planes.calls k  t18 _  At19.out).mono ?_);rintro e w20 ⟨v21,rfl,hn21,hb⟩;refine⟨_,rfl,?_⟩)
 refine zg ?_
 have hba:=Kd.N_base hn21
 have HN21:=znl (ok2:=(fun k_=>(w.heap.size≤k_)∧some k_≠(v15:Value).ownBlock)) hn21 (below_size HB.out) (fun k_ h_=>⟨(Nat.le_trans (below_size HB.out) h_),Kd.fresh' (Kd.N_lt HN17.out) k_ h_⟩)
 replace HN17:=znr (u:=v21) HN17.out hba hb
 replace HB:=zhb HB.out hb
 clear hn21 hba hb
 obtain⟨A22,cp23,he_⟩:=Kd.N_slice HN21.out
 subst he_
 have HF24:=za (Kd.N_F HN21.out)
 clear HN21
 replace HN17:=za (Kd.N_mono (ok:=(fun k_=>(w.heap.size≤k_)∧some k_≠((.slice A22 t18.length cp23):Value).ownBlock)) HN17.out (fun k_ hk_=>hk_.1):Kd.N k38 _ _ _ (fun k_=>(w.heap.size≤k_)) _ _)
 obtain⟨HH,LMc26⟩:=zlm HH
 obtain⟨y27,hy27⟩:∃ y_:List (S38),y_=(y14++t18):=⟨_,rfl⟩
 have H:(some y27)=some r:=by rw[hy27];exact HH.out
 replace HH:=za H
 clear H
 have NYy27:=za hy27
 clear hy27
 go_wp2_with (((with_reducible refine gate_dst (N:=5) rfl ?_);(try(refine gate_guard (by rfl) ?_;dsimp only));refine Kd.N_append_rows k38 w.heap.size rfl _ _ 33 38 (.agg #[(.int .i32 0),(.int .i32 0),(.int .i64 0)]) 16 rfl Try.underlying33 info38 rfl (by decide) (by decide) (v15) y14 t18 _ _ _ (fun k_=>(w.heap.size≤k_)) (fun k_=>(fun k_=>(w.heap.size≤k_)) k_∧some k_≠(v15:Value).ownBlock) rfl rfl HN17.out (Kd.F_mono (ok:=(fun k_=>(w.heap.size≤k_)∧some k_≠(v15:Value).ownBlock)) HF24.out (fun k_ hk_=>⟨hk_.1,hk_.2⟩)) (fun _ hk_=>hk_) (fun k_ h_=>(Nat.le_trans (below_size HB.out) h_)) HB.out (below_size HB.out) (by first|(have:=LMc26.out;simp only[List.length_nil] at *;omega)|(have:=LMc26.out;simp at *;omega)) ?_;intro v28 w29 hn1 hb1 hg1 hat1);replace hat1:=za hat1;refine stop_ ?_)
 refine zg ?_
 replace hat1:=hat1.out
 replace HB:=za hb1
 clear HN17
 have HN30:=za hn1
 clear hn1 hb1 hg1 hat1
 replace HN30:=za (by rw[NYy27.out];exact HN30.out:Kd.N k38 38 w29 w.heap.size (fun k_=>(w.heap.size≤k_)) v28 y27)
 obtain rfl:=Option.some.inj HH.out
 clear HH
 go_wp2
 go_ret
 exact⟨_,by first|rfl|(simp;done)|(simp[*];done),(Kd.N_mono (ok:=(fun k_=>(w.heap.size≤k_))) HN30.out (fun k_ hk_=>hk_)),HB.out⟩

mutual
def toponymref03_Kind.l0:Nat→Int→Int→(List (S38))→Option (Int)
 |0,_,_,_=>none
 |k+1,x15,a0,t11=>if x15<(t11.length:Int) then(if 0≤x15 then(if a0≥((rd_T38 t11 x15).f0) then(if a0≤((rd_T38 t11 x15).f1) then(some ((rd_T38 t11 x15).f2)) else((toponymref03_Kind.l0 k (wrap64 (x15+1)) a0 t11))) else((toponymref03_Kind.l0 k (wrap64 (x15+1)) a0 t11))) else(none)) else(some 0)
def toponymref03_Kind.l1:Nat→Int→Int→(List (S38))→Option (Int)
 |0,_,_,_=>none
 |k+1,x40,a0,t36=>if x40<(t36.length:Int) then(if 0≤x40 then(if a0≥((rd_T38 t36 x40).f0) then(if a0≤((rd_T38 t36 x40).f1) then(some ((rd_T38 t36 x40).f2)) else((toponymref03_Kind.l1 k (wrap64 (x40+1)) a0 t36))) else((toponymref03_Kind.l1 k (wrap64 (x40+1)) a0 t36))) else(none)) else(some 0)
end
def toponymref03_Kind.f (k:Nat) (a0:Int):Option (Int):=if a0≥0 then(if a0<128 then((toponymref03_ascii.f a0).bind fun t6=>(some t6)) else((toponymref03_Rows.f k).bind fun t11=>((toponymref03_Kind.l0 k 0 a0 t11)))) else((toponymref03_Rows.f k).bind fun t36=>((toponymref03_Kind.l1 k 0 a0 t36)))
theorem toponymref03_Kind.mono_l:∀ k,(∀ y0 y1 y2,LeO (toponymref03_Kind.l0 k y0 y1 y2) (toponymref03_Kind.l0 (k+1) y0 y1 y2))∧(∀ y0 y1 y2,LeO (toponymref03_Kind.l1 k y0 y1 y2) (toponymref03_Kind.l1 (k+1) y0 y1 y2))
 |0=>⟨fun _ _ _ r h=>by simp[toponymref03_Kind.l0] at h,fun _ _ _ r h=>by simp[toponymref03_Kind.l1] at h⟩
 |k+1=>by
  obtain⟨ih0,ih1⟩:=toponymref03_Kind.mono_l k
  refine⟨?_,?_⟩
  ·intro y0 y1 y2
   unfold toponymref03_Kind.l0
   with_reducible repeat' first|exact ih0 _ _ _|exact ih1 _ _ _|exact toponymref03_Rows.mono _|exact LeO.refl _|exact LeO.none _|refine LeO.ite ?_ ?_|refine LeO.bind ?_ (fun _=>?_)
  intro y0 y1 y2
  unfold toponymref03_Kind.l1
  with_reducible repeat' first|exact ih0 _ _ _|exact ih1 _ _ _|exact toponymref03_Rows.mono _|exact LeO.refl _|exact LeO.none _|refine LeO.ite ?_ ?_|refine LeO.bind ?_ (fun _=>?_)
theorem toponymref03_Kind.mono:∀ a0_ k,LeO (toponymref03_Kind.f k a0_) (toponymref03_Kind.f (k+1) a0_):=by
 intro a0_ k
 obtain⟨ih0,ih1⟩:=toponymref03_Kind.mono_l k
 unfold toponymref03_Kind.f
 with_reducible repeat' first|exact ih0 _ _ _|exact ih1 _ _ _|exact toponymref03_Rows.mono _|exact LeO.refl _|exact LeO.none _|refine LeO.ite ?_ ?_|refine LeO.bind ?_ (fun _=>?_)
set_option maxHeartbeats 8000000 in
set_option maxRecDepth 100000 in
theorem toponymref03_Kind.calls (k:Nat) (a0:Int) (r:Int) (w:World) (h:toponymref03_Kind.f k a0=some r):
  Calls Try.prog 9 #[.int .i32 a0] w (fun e w'=>e=.returned (.int .i64 r)∧Below w.heap.size w w'):=by
 unfold toponymref03_Kind.f at h
 have HH:=za h
 clear h
 have HB:=za (Below.refl w.heap.size w)
 go_enter Try.func9,Try.ntmps9
 replace HH:=zqG HH
 rcases HH with⟨HH,hk2⟩|⟨HH,hk35⟩
 ·replace HH:=zqt HH
  rcases HH with⟨HH,hk4,hk5⟩|⟨HH,hk9,hk10⟩
  ·replace HH:=zd HH
   obtain⟨t6,At7,HH⟩:=HH
   go_wp2_with ((with_reducible refine gc 30 rfl ?_);refine zc 30 (some 12) Try.func30 #[.int .i32 a0] (h:=?_);(with_reducible refine(toponymref03_ascii.calls  a0 t6 _  At7.out).mono ?_);rintro e w' ⟨rfl,⟨nd,rfl⟩⟩;refine⟨_,rfl,?_⟩)
   refine zg ?_
   obtain rfl:=Option.some.inj HH.out
   clear HH
   go_wp2
   go_ret
   exact zfi (by repeat(first|(with_reducible first|exact HB.out|apply below_alloc|apply pw_below_drewN|apply below_drew1)|exact HB.out))
  replace HH:=zd HH
  obtain⟨t11,At12,HH⟩:=HH
  go_wp2_with ((with_reducible refine gc 31 rfl ?_);refine zc 31 (some 13) Try.func31 #[] (h:=?_);(with_reducible refine(toponymref03_Rows.calls k  t11 _  At12.out).mono ?_);rintro e w13 ⟨v14,rfl,hn14,hb⟩;refine⟨_,rfl,?_⟩)
  refine zg ?_
  have hba:=Kd.N_base hn14
  have HN14:=znl (ok2:=(fun k_=>(w.heap.size≤k_))) hn14 (below_size HB.out) (fun k_ h_=>(Nat.le_trans (below_size HB.out) h_))
  replace HB:=zhb HB.out hb
  clear hn14 hba hb
  go_wp2
  go_loopg [4] k (fun kq u4 w'=>∃ (x15:Int),u4=.int .i64 x15∧Aside0 ((toponymref03_Kind.l0 kq x15 a0 t11)=some r)∧Aside0 (kq≤k)∧Aside0 (Kd.N k38 38 w' w.heap.size (fun k_=>(w.heap.size≤k_)) v14 t11)∧Aside0 (Below w.heap.size w w'))
  case atStart=>exact⟨0,(by first|rfl|(simp;done)|(simp[*];done)),HH,⟨Nat.le_refl _⟩,⟨(Kd.N_mono (ok:=(fun k_=>(w.heap.size≤k_))) HN14.out (fun k_ hk_=>hk_))⟩,⟨HB.out⟩⟩
  case round=>
   clear hk2
   clear hk9
   clear hk10
   clear HH
   clear HN14 HB
   obtain⟨x15,rfl,HA,HK0,HN14,HB⟩:=hrel
   obtain⟨w17,rfl⟩:∃ wo_:World,wo_=wr:=⟨_,rfl⟩
   cases gk with
   |zero=>exact absurd HA.out (by simp[toponymref03_Kind.l0])
   |succ k16=>
    have H:=HA.out
    clear HA
    simp only[toponymref03_Kind.l0] at H
    have HH:=za H
    clear H
    obtain⟨A18,cp19,he_⟩:=Kd.N_slice HN14.out
    subst he_
    replace HH:=zqt HH
    rcases HH with⟨HH,hk21,hk22⟩|⟨HH,hk33,hk34⟩
    ·replace HH:=zqdo HH
     obtain⟨HH,hk24⟩:=HH
     have p25:0≤(x15:Int):=of_decide_eq_true (by first|(with_reducible assumption)|assumption)
     have q25:x15<(t11.length:Int):=of_decide_eq_true (by first|(with_reducible assumption)|assumption)
     obtain⟨ad25,e25,hx25_0,hx25_1,hx25_2⟩:=atF_T38 (Kd.N_F HN14.out) x15 p25 q25
     cases e25
     replace p25:=eq_true p25
     replace q25:=eq_true q25
     replace HH:=zqG HH
     rcases HH with⟨HH,hk27⟩|⟨HH,hk31⟩
     ·replace HH:=zqd HH
      rcases HH with⟨HH,hk29⟩|⟨HH,hk30⟩
      ·obtain rfl:=Option.some.inj HH.out
       clear HH
       go_wp2
       go_ret
       exact zfi HB.out
      go_wp2
      go_roundg k16
      case measure=>have:=HK0.out;omega
      case rel=>exact⟨wrap64 (x15+1),(by first|rfl|(simp;done)|(simp[*];done)),HH,⟨by have:=HK0.out;omega⟩,⟨(Kd.N_mono (ok:=(fun k_=>(w.heap.size≤k_))) HN14.out (fun k_ hk_=>hk_))⟩,⟨HB.out⟩⟩
     go_wp2
     go_roundg k16
     case measure=>have:=HK0.out;omega
     case rel=>exact⟨wrap64 (x15+1),(by first|rfl|(simp;done)|(simp[*];done)),HH,⟨by have:=HK0.out;omega⟩,⟨(Kd.N_mono (ok:=(fun k_=>(w.heap.size≤k_))) HN14.out (fun k_ hk_=>hk_))⟩,⟨HB.out⟩⟩
    obtain rfl:=Option.some.inj HH.out
    clear HH
    go_wp2
    go_ret
    exact zfi HB.out
 replace HH:=zd HH
 obtain⟨t36,At37,HH⟩:=HH
 go_wp2_with ((with_reducible refine gc 31 rfl ?_);refine zc 31 (some 13) Try.func31 #[] (h:=?_);(with_reducible refine(toponymref03_Rows.calls k  t36 _  At37.out).mono ?_);rintro e w38 ⟨v39,rfl,hn39,hb⟩;refine⟨_,rfl,?_⟩)
 refine zg ?_
 have hba:=Kd.N_base hn39
 have HN39:=znl (ok2:=(fun k_=>(w.heap.size≤k_))) hn39 (below_size HB.out) (fun k_ h_=>(Nat.le_trans (below_size HB.out) h_))
 replace HB:=zhb HB.out hb
 clear hn39 hba hb
 go_wp2
 go_loopg [4] k (fun kq u4 w'=>∃ (x40:Int),u4=.int .i64 x40∧Aside0 ((toponymref03_Kind.l1 kq x40 a0 t36)=some r)∧Aside0 (kq≤k)∧Aside0 (Kd.N k38 38 w' w.heap.size (fun k_=>(w.heap.size≤k_)) v39 t36)∧Aside0 (Below w.heap.size w w'))
 case atStart=>exact⟨0,(by first|rfl|(simp;done)|(simp[*];done)),HH,⟨Nat.le_refl _⟩,⟨(Kd.N_mono (ok:=(fun k_=>(w.heap.size≤k_))) HN39.out (fun k_ hk_=>hk_))⟩,⟨HB.out⟩⟩
 case round=>
  clear hk35
  clear HH
  clear HN39 HB
  obtain⟨x40,rfl,HA,HK1,HN39,HB⟩:=hrel
  obtain⟨w42,rfl⟩:∃ wo_:World,wo_=wr:=⟨_,rfl⟩
  cases gk with
  |zero=>exact absurd HA.out (by simp[toponymref03_Kind.l1])
  |succ k41=>
   have H:=HA.out
   clear HA
   simp only[toponymref03_Kind.l1] at H
   have HH:=za H
   clear H
   obtain⟨A43,cp44,he_⟩:=Kd.N_slice HN39.out
   subst he_
   replace HH:=zqt HH
   rcases HH with⟨HH,hk46,hk47⟩|⟨HH,hk58,hk59⟩
   ·replace HH:=zqdo HH
    obtain⟨HH,hk49⟩:=HH
    have p50:0≤(x40:Int):=of_decide_eq_true (by first|(with_reducible assumption)|assumption)
    have q50:x40<(t36.length:Int):=of_decide_eq_true (by first|(with_reducible assumption)|assumption)
    obtain⟨ad50,e50,hx50_0,hx50_1,hx50_2⟩:=atF_T38 (Kd.N_F HN39.out) x40 p50 q50
    cases e50
    replace p50:=eq_true p50
    replace q50:=eq_true q50
    replace HH:=zqG HH
    rcases HH with⟨HH,hk52⟩|⟨HH,hk56⟩
    ·replace HH:=zqd HH
     rcases HH with⟨HH,hk54⟩|⟨HH,hk55⟩
     ·obtain rfl:=Option.some.inj HH.out
      clear HH
      go_wp2
      go_ret
      exact zfi HB.out
     go_wp2
     go_roundg k41
     case measure=>have:=HK1.out;omega
     case rel=>exact⟨wrap64 (x40+1),(by first|rfl|(simp;done)|(simp[*];done)),HH,⟨by have:=HK1.out;omega⟩,⟨(Kd.N_mono (ok:=(fun k_=>(w.heap.size≤k_))) HN39.out (fun k_ hk_=>hk_))⟩,⟨HB.out⟩⟩
    go_wp2
    go_roundg k41
    case measure=>have:=HK1.out;omega
    case rel=>exact⟨wrap64 (x40+1),(by first|rfl|(simp;done)|(simp[*];done)),HH,⟨by have:=HK1.out;omega⟩,⟨(Kd.N_mono (ok:=(fun k_=>(w.heap.size≤k_))) HN39.out (fun k_ hk_=>hk_))⟩,⟨HB.out⟩⟩
   obtain rfl:=Option.some.inj HH.out
   clear HH
   go_wp2
   go_ret
   exact zfi HB.out

def toponymref03_Class.f (k:Nat) (a0:Int):Option (Int):=(toponymref03_Kind.f k a0).bind fun t1=>(if t1=3 then(if a0=807 then(some 202) else(if a0=808 then(some 202) else(if a0=803 then(some 220) else(if a0=12441 then(some 8) else(if a0=12442 then(some 8) else(some 230)))))) else(some 0))
theorem toponymref03_Class.mono:∀ a0_ k,LeO (toponymref03_Class.f k a0_) (toponymref03_Class.f (k+1) a0_):=by
 intro a0_ k
 unfold toponymref03_Class.f
 with_reducible repeat' first|exact toponymref03_Kind.mono _ _|exact LeO.refl _|exact LeO.none _|refine LeO.ite ?_ ?_|refine LeO.bind ?_ (fun _=>?_)
set_option maxHeartbeats 8000000 in
set_option maxRecDepth 100000 in
theorem toponymref03_Class.calls (k:Nat) (a0:Int) (r:Int) (w:World) (h:toponymref03_Class.f k a0=some r):
  Calls Try.prog 13 #[.int .i32 a0] w (fun e w'=>e=.returned (.int .i64 r)∧Below w.heap.size w w'):=by
 unfold toponymref03_Class.f at h
 have HH:=za h
 clear h
 have HB:=za (Below.refl w.heap.size w)
 go_enter Try.func13,Try.ntmps13
 replace HH:=zd HH
 obtain⟨t1,At2,HH⟩:=HH
 go_wp2_with ((with_reducible refine gc 9 rfl ?_);refine zc 9 (some 4) Try.func9 #[.int .i32 a0] (h:=?_);(with_reducible refine(toponymref03_Kind.calls k  a0 t1 _  At2.out).mono ?_);rintro e w3 ⟨rfl,hb⟩;refine⟨_,rfl,?_⟩)
 refine zg ?_
 replace HB:=zhb HB.out hb
 clear hb
 replace HH:=zqe HH
 rcases HH with⟨HH,hk5,hk6⟩|⟨HH,hk32,hk33⟩
 ·replace HH:=zqe HH
  rcases HH with⟨HH,hk8,hk9⟩|⟨HH,hk10,hk11⟩
  ·obtain rfl:=Option.some.inj HH.out
   clear HH
   go_wp2
   go_ret
   exact zfi HB.out
  replace HH:=zqe HH
  rcases HH with⟨HH,hk13,hk14⟩|⟨HH,hk15,hk16⟩
  ·obtain rfl:=Option.some.inj HH.out
   clear HH
   go_wp2
   go_ret
   exact zfi HB.out
  replace HH:=zqe HH
  rcases HH with⟨HH,hk18,hk19⟩|⟨HH,hk20,hk21⟩
  ·obtain rfl:=Option.some.inj HH.out
   clear HH
   go_wp2
   go_ret
   exact zfi HB.out
  replace HH:=zqe HH
  rcases HH with⟨HH,hk23,hk24⟩|⟨HH,hk25,hk26⟩
  ·obtain rfl:=Option.some.inj HH.out
   clear HH
   go_wp2
   go_ret
   exact zfi HB.out
  replace HH:=zqe HH
  rcases HH with⟨HH,hk28,hk29⟩|⟨HH,hk30,hk31⟩
  ·obtain rfl:=Option.some.inj HH.out
   clear HH
   go_wp2
   go_ret
   exact zfi HB.out
  obtain rfl:=Option.some.inj HH.out
  clear HH
  go_wp2
  go_ret
  exact zfi HB.out
 obtain rfl:=Option.some.inj HH.out
 clear HH
 go_wp2
 go_ret
 exact zfi HB.out

def toponymlaw03_awake.f (k:Nat)  :Option (Bool):=(chars_Kind.f 65).bind fun t1=>(if t1=1 then((chars_Kind.f 769).bind fun t7=>(if t7=3 then((chars_Class.f 769).bind fun t13=>(if t13=230 then((chars_Kind.f 8203).bind fun t19=>(if t19=6 then((chars_Kind.f 57344).bind fun t25=>(if t25=7 then((chars_Kind.f 880).bind fun t31=>(if t31=0 then((chars_Is.f k 32 ([6,5]:List Int)).bind fun t44=>(if t44=true then((chars_Is.f k 32 ([]:List Int)).bind fun t48=>(some (!t48))) else(some false))) else(some false))) else(some false))) else(some false))) else(some false))) else(some false))) else(some false))
theorem toponymlaw03_awake.mono:∀ k,LeO (toponymlaw03_awake.f k) (toponymlaw03_awake.f (k+1)):=by
 intro  k
 unfold toponymlaw03_awake.f
 with_reducible repeat' first|exact chars_Is.mono _ _ _|exact LeO.refl _|exact LeO.none _|refine LeO.ite ?_ ?_|refine LeO.bind ?_ (fun _=>?_)
set_option maxHeartbeats 8000000 in
set_option maxRecDepth 100000 in
theorem toponymlaw03_awake.calls (k:Nat) (r:Bool) (w:World) (h:toponymlaw03_awake.f k  =some r):
  Calls Try.prog 14 #[] w (fun e w'=>e=.returned (.bool r)∧Below w.heap.size w w'):=by
 unfold toponymlaw03_awake.f at h
 have HH:=za h
 clear h
 have HB:=za (Below.refl w.heap.size w)
 go_enter Try.func14,Try.ntmps14
 replace HH:=zd HH
 obtain⟨t1,At2,HH⟩:=HH
 go_wp2_with ((with_reducible refine gc 8 rfl ?_);refine zc 8 (some 1) Try.func8 #[.int .i32 65] (h:=?_);(with_reducible refine(chars_Kind.calls  65 t1 _  At2.out).mono ?_);rintro e w' ⟨rfl,⟨nd,rfl⟩⟩;refine⟨_,rfl,?_⟩)
 refine zg ?_
 replace HH:=zqe HH
 rcases HH with⟨HH,hk5,hk6⟩|⟨HH,hk61,hk62⟩
 ·replace HH:=zd HH
  obtain⟨t7,At8,HH⟩:=HH
  go_wp2_with ((with_reducible refine gc 8 rfl ?_);refine zc 8 (some 4) Try.func8 #[.int .i32 769] (h:=?_);(with_reducible refine(chars_Kind.calls  769 t7 _  At8.out).mono ?_);rintro e w' ⟨rfl,⟨nd,rfl⟩⟩;refine⟨_,rfl,?_⟩)
  refine zg ?_
  replace HH:=zqe HH
  rcases HH with⟨HH,hk11,hk12⟩|⟨HH,hk59,hk60⟩
  ·replace HH:=zd HH
   obtain⟨t13,At14,HH⟩:=HH
   go_wp2_with ((with_reducible refine gc 12 rfl ?_);refine zc 12 (some 8) Try.func12 #[.int .i32 769] (h:=?_);(with_reducible refine(chars_Class.calls  769 t13 _  At14.out).mono ?_);rintro e w' ⟨rfl,⟨nd,rfl⟩⟩;refine⟨_,rfl,?_⟩)
   refine zg ?_
   replace HH:=zqe HH
   rcases HH with⟨HH,hk17,hk18⟩|⟨HH,hk57,hk58⟩
   ·replace HH:=zd HH
    obtain⟨t19,At20,HH⟩:=HH
    go_wp2_with ((with_reducible refine gc 8 rfl ?_);refine zc 8 (some 12) Try.func8 #[.int .i32 8203] (h:=?_);(with_reducible refine(chars_Kind.calls  8203 t19 _  At20.out).mono ?_);rintro e w' ⟨rfl,⟨nd,rfl⟩⟩;refine⟨_,rfl,?_⟩)
    refine zg ?_
    replace HH:=zqe HH
    rcases HH with⟨HH,hk23,hk24⟩|⟨HH,hk55,hk56⟩
    ·replace HH:=zd HH
     obtain⟨t25,At26,HH⟩:=HH
     go_wp2_with ((with_reducible refine gc 8 rfl ?_);refine zc 8 (some 16) Try.func8 #[.int .i32 57344] (h:=?_);(with_reducible refine(chars_Kind.calls  57344 t25 _  At26.out).mono ?_);rintro e w' ⟨rfl,⟨nd,rfl⟩⟩;refine⟨_,rfl,?_⟩)
     refine zg ?_
     replace HH:=zqe HH
     rcases HH with⟨HH,hk29,hk30⟩|⟨HH,hk53,hk54⟩
     ·replace HH:=zd HH
      obtain⟨t31,At32,HH⟩:=HH
      go_wp2_with ((with_reducible refine gc 8 rfl ?_);refine zc 8 (some 20) Try.func8 #[.int .i32 880] (h:=?_);(with_reducible refine(chars_Kind.calls  880 t31 _  At32.out).mono ?_);rintro e w' ⟨rfl,⟨nd,rfl⟩⟩;refine⟨_,rfl,?_⟩)
      refine zg ?_
      replace HH:=zqe HH
      rcases HH with⟨HH,hk35,hk36⟩|⟨HH,hk51,hk52⟩
      ·go_wp2_with (((with_reducible refine gate_dst (N:=24) rfl ?_);(try(refine gate_guard (by rfl) ?_;dsimp only));refine Kd.N_lit (Kd.int .i64) w.heap.size 3 rfl (N':=24) rfl (xs:=([6,5]:List Int)) (inner:=[.int .i64 6,.int .i64 5]) (ok:=(fun k_=>(w.heap.size≤k_))) (okp:=(fun k_=>(w.heap.size≤k_))) ?hr ?hp (fun _ hk_=>hk_) ?hf (by repeat(first|(with_reducible first|exact HB.out|apply below_alloc|apply pw_below_drewN|apply below_drew1)|exact HB.out)) (below_size (by repeat(first|(with_reducible first|exact HB.out|apply below_alloc|apply pw_below_drewN|apply below_drew1)|exact HB.out))) (by first|simp|decide) ?_;(case hr=>first|(go_simp;done)|(go_simp;rfl));(case hp=>exact(Reps.one (fun _ _=>rfl) (Reps.one (fun _ _=>rfl) (Reps.none _ _))));(case hf=>exact(show ∀ k_,w.heap.size≤k_→(fun k_=>(w.heap.size≤k_)) k_ from fun k_ h_=>(Nat.le_trans (below_size (by repeat(first|(with_reducible first|exact HB.out|apply below_alloc|apply pw_below_drewN|apply below_drew1)|exact HB.out))) h_)) _ (Nat.le_refl _));intro v37 w38 hn1 hb1 hg1 hat1);replace hat1:=za hat1;refine stop_ ?_)
       refine zg ?_
       replace hat1:=hat1.out
       have hbe:=MW.grown_below hg1
       have hba:=MW.base_of hat1
       replace HB:=za hb1
       have HN39:=za hn1
       clear hn1 hb1 hg1 hat1 hbe hba
       obtain⟨A40,cp41,he_⟩:=Kd.N_slice HN39.out
       subst he_
       have HL43:=za (Kd.N_reads' HN39.out).2.1
       have HF42:=za (Kd.N_F HN39.out)
       clear HN39
       replace HH:=zd HH
       obtain⟨t44,At45,HH⟩:=HH
       go_wp2_with ((with_reducible refine gc 10 rfl ?_);refine zc 10 (some 25) Try.func10 #[.int .i32 32,.slice A40 ([6,5]:List Int).length cp41] (h:=?_);(with_reducible refine(chars_Is.calls k (fun k_=>(w.heap.size≤k_)) 32 _ _ ([6,5]:List Int) t44 _ HF42.out HL43.out At45.out).mono ?_);rintro e w' ⟨rfl,⟨nd,rfl⟩⟩;refine⟨_,rfl,?_⟩)
       refine zg ?_
       by_cases c47:t44=true
       ·replace HH:=MW.hpos HH c47
        subst c47
        replace HH:=zd HH
        obtain⟨t48,At49,HH⟩:=HH
        go_wp2_with ((with_reducible refine gc 10 rfl ?_);refine zc 10 (some 28) Try.func10 #[.int .i32 32,.slice none 0 0] (h:=?_);(refine(chars_Is.calls k (fun k_=>(w.heap.size≤k_)) 32 _ _ ([]:List Int) t48 _ (Kd.F_nil _ _ _) (Nat.le_refl _) At49.out).mono ?_);rintro e w' ⟨rfl,⟨nd,rfl⟩⟩;refine⟨_,rfl,?_⟩)
        refine zg ?_
        obtain rfl:=Option.some.inj HH.out
        clear HH
        go_wp2
        go_ret
        exact zfi (by repeat(first|(with_reducible first|exact HB.out|apply below_alloc|apply pw_below_drewN|apply below_drew1)|exact HB.out))
       replace HH:=MW.hneg HH c47
       replace c47:=Bool.eq_false_iff.mpr c47
       subst c47
       obtain rfl:=Option.some.inj HH.out
       clear HH
       go_wp2
       go_ret
       exact zfi (by repeat(first|(with_reducible first|exact HB.out|apply below_alloc|apply pw_below_drewN|apply below_drew1)|exact HB.out))
      obtain rfl:=Option.some.inj HH.out
      clear HH
      go_wp2
      go_ret
      exact zfi (by repeat(first|(with_reducible first|exact HB.out|apply below_alloc|apply pw_below_drewN|apply below_drew1)|exact HB.out))
     obtain rfl:=Option.some.inj HH.out
     clear HH
     go_wp2
     go_ret
     exact zfi (by repeat(first|(with_reducible first|exact HB.out|apply below_alloc|apply pw_below_drewN|apply below_drew1)|exact HB.out))
    obtain rfl:=Option.some.inj HH.out
    clear HH
    go_wp2
    go_ret
    exact zfi (by repeat(first|(with_reducible first|exact HB.out|apply below_alloc|apply pw_below_drewN|apply below_drew1)|exact HB.out))
   obtain rfl:=Option.some.inj HH.out
   clear HH
   go_wp2
   go_ret
   exact zfi (by repeat(first|(with_reducible first|exact HB.out|apply below_alloc|apply pw_below_drewN|apply below_drew1)|exact HB.out))
  obtain rfl:=Option.some.inj HH.out
  clear HH
  go_wp2
  go_ret
  exact zfi (by repeat(first|(with_reducible first|exact HB.out|apply below_alloc|apply pw_below_drewN|apply below_drew1)|exact HB.out))
 obtain rfl:=Option.some.inj HH.out
 clear HH
 go_wp2
 go_ret
 exact zfi (by repeat(first|(with_reducible first|exact HB.out|apply below_alloc|apply pw_below_drewN|apply below_drew1)|exact HB.out))

def chars_ends.f (a0:Int):Option (List Int):=if a0=1 then(some ((65:Int)::90::97::122::170::170::181::181::186::186::192::214::216::246::248::383::700::700::902::902::904::906::908::908::910::929::931::974::1025::1025::1040::1103::1105::1105::1488::1514::4352::4370::4449::4469::4520::4546::8486::8486::8490::8491::8544::8555::8560::8571::12353::12436::19968::20223::44032::55203::64256::64261::65313::65338::65345::65370::[])) else(if a0=2 then(some ([48,57,178,179,185,185,1632,1641,8304,8304,8308,8313,8320,8329,65296,65305]:List Int)) else(if a0=3 then(some ([768,772,774,776,778,780,803,803,807,808,12441,12442]:List Int)) else(if a0=4 then(some ((33:Int)::47::58::64::91::96::123::126::161::169::171::172::174::177::180::180::182::184::187::191::215::215::247::247::8208::8209::8260::8260::8722::8722::65281::65295::65306::65312::65339::65344::65371::65374::[])) else(if a0=5 then(some ([9,13,32,32,133,133,160,160,8192,8202,8232,8233,8239,8239,8287,8287,12288,12288]:List Int)) else(if a0=6 then(some ((0:Int)::8::14::31::127::132::134::159::173::173::847::847::8203::8207::8234::8238::8288::8291::8298::8303::65024::65039::65279::65279::65529::65532::[])) else(some ([832,833,57344,63743,64976,65007,65533,65535]:List Int)))))))
set_option maxHeartbeats 8000000 in
set_option maxRecDepth 100000 in
theorem chars_ends.calls (a0:Int) (r:List Int) (w:World) (h:chars_ends.f a0=some r):
  Calls Try.prog 34 #[.int .i64 a0] w (fun e w'=>∃ v0_:Value,e=.returned (v0_)∧Kd.N (Kd.int .i32) 21 w' w.heap.size (fun k_=>w.heap.size≤k_) v0_ r∧Below w.heap.size w w'):=by
 unfold chars_ends.f at h
 have HH:=za h
 clear h
 have HB:=za (Below.refl w.heap.size w)
 go_enter Try.func34,Try.ntmps34
 replace HH:=zqe HH
 rcases HH with⟨HH,hk2,hk3⟩|⟨HH,hk7,hk8⟩
 ·repeat(first|(refine MW.region_stop (id:=3) ?_)|go_values|go_skip|go_guarded|go_step|go_upon)
  refine zg ?_
  refine MW.frame_eq ⟨[(.int .i64 a0),undef,(.slice none 0 0),(.int .i64 a0),(.bool true),(.bool true),undef,undef,undef,undef,undef,undef,undef,undef,undef,undef,undef,undef,undef,undef,undef,undef,undef].toArray,[]⟩ (by kernel_rfl) ?_
  refine Kd.N_lit (Kd.int .i32) w.heap.size 21 rfl (N':=6) rfl (xs:=((65:Int)::90::97::122::170::170::181::181::186::186::192::214::216::246::248::383::700::700::902::902::904::906::908::908::910::929::931::974::1025::1025::1040::1103::1105::1105::1488::1514::4352::4370::4449::4469::4520::4546::8486::8486::8490::8491::8544::8555::8560::8571::12353::12436::19968::20223::44032::55203::64256::64261::65313::65338::65345::65370::[])) (inner:=((.int .i32 65:Value)::.int .i32 90::.int .i32 97::.int .i32 122::.int .i32 170::.int .i32 170::.int .i32 181::.int .i32 181::.int .i32 186::.int .i32 186::.int .i32 192::.int .i32 214::.int .i32 216::.int .i32 246::.int .i32 248::.int .i32 383::.int .i32 700::.int .i32 700::.int .i32 902::.int .i32 902::.int .i32 904::.int .i32 906::.int .i32 908::.int .i32 908::.int .i32 910::.int .i32 929::.int .i32 931::.int .i32 974::.int .i32 1025::.int .i32 1025::.int .i32 1040::.int .i32 1103::.int .i32 1105::.int .i32 1105::.int .i32 1488::.int .i32 1514::.int .i32 4352::.int .i32 4370::.int .i32 4449::.int .i32 4469::.int .i32 4520::.int .i32 4546::.int .i32 8486::.int .i32 8486::.int .i32 8490::.int .i32 8491::.int .i32 8544::.int .i32 8555::.int .i32 8560::.int .i32 8571::.int .i32 12353::.int .i32 12436::.int .i32 19968::.int .i32 20223::.int .i32 44032::.int .i32 55203::.int .i32 64256::.int .i32 64261::.int .i32 65313::.int .i32 65338::.int .i32 65345::.int .i32 65370::[])) (ok:=(fun k_=>(w.heap.size≤k_))) (okp:=(fun k_=>(w.heap.size≤k_))) ?hr ?hp (fun _ hk_=>hk_) ?hf HB.out (below_size HB.out) (by first|simp|decide) ?_
  case hr=>kernel_rfl
  case hp=>exact(Reps.one (fun _ _=>rfl) (Reps.one (fun _ _=>rfl) (Reps.one (fun _ _=>rfl) (Reps.one (fun _ _=>rfl) (Reps.one (fun _ _=>rfl) (Reps.one (fun _ _=>rfl) (Reps.one (fun _ _=>rfl) (Reps.one (fun _ _=>rfl) (Reps.one (fun _ _=>rfl) (Reps.one (fun _ _=>rfl) (Reps.one (fun _ _=>rfl) (Reps.one (fun _ _=>rfl) (Reps.one (fun _ _=>rfl) (Reps.one (fun _ _=>rfl) (Reps.one (fun _ _=>rfl) (Reps.one (fun _ _=>rfl) (Reps.one (fun _ _=>rfl) (Reps.one (fun _ _=>rfl) (Reps.one (fun _ _=>rfl) (Reps.one (fun _ _=>rfl) (Reps.one (fun _ _=>rfl) (Reps.one (fun _ _=>rfl) (Reps.one (fun _ _=>rfl) (Reps.one (fun _ _=>rfl) (Reps.one (fun _ _=>rfl) (Reps.one (fun _ _=>rfl) (Reps.one (fun _ _=>rfl) (Reps.one (fun _ _=>rfl) (Reps.one (fun _ _=>rfl) (Reps.one (fun _ _=>rfl) (Reps.one (fun _ _=>rfl) (Reps.one (fun _ _=>rfl) (Reps.one (fun _ _=>rfl) (Reps.one (fun _ _=>rfl) (Reps.one (fun _ _=>rfl) (Reps.one (fun _ _=>rfl) (Reps.one (fun _ _=>rfl) (Reps.one (fun _ _=>rfl) (Reps.one (fun _ _=>rfl) (Reps.one (fun _ _=>rfl) (Reps.one (fun _ _=>rfl) (Reps.one (fun _ _=>rfl) (Reps.one (fun _ _=>rfl) (Reps.one (fun _ _=>rfl) (Reps.one (fun _ _=>rfl) (Reps.one (fun _ _=>rfl) (Reps.one (fun _ _=>rfl) (Reps.one (fun _ _=>rfl) (Reps.one (fun _ _=>rfl) (Reps.one (fun _ _=>rfl) (Reps.one (fun _ _=>rfl) (Reps.one (fun _ _=>rfl) (Reps.one (fun _ _=>rfl) (Reps.one (fun _ _=>rfl) (Reps.one (fun _ _=>rfl) (Reps.one (fun _ _=>rfl) (Reps.one (fun _ _=>rfl) (Reps.one (fun _ _=>rfl) (Reps.one (fun _ _=>rfl) (Reps.one (fun _ _=>rfl) (Reps.one (fun _ _=>rfl) (Reps.one (fun _ _=>rfl) (Reps.none _ _)))))))))))))))))))))))))))))))))))))))))))))))))))))))))))))))
  case hf=>exact(show ∀ k_,w.heap.size≤k_→(fun k_=>(w.heap.size≤k_)) k_ from fun k_ h_=>(Nat.le_trans (below_size HB.out) h_)) _ (Nat.le_refl _)
  intro v4 w5 hn1 hb1 hg1 hat1
  have hbe:=MW.grown_below hg1
  have hba:=MW.base_of hat1
  replace HB:=za hb1
  have HN6:=za hn1
  clear hn1 hb1 hg1 hat1 hbe hba
  refine Kd.event_run rfl (v:=v4) (w1:=w5) (by kernel_rfl) ?_
  obtain rfl:=Option.some.inj HH.out
  clear HH
  go_wp2
  go_ret
  exact⟨_,by first|rfl|(simp;done)|(simp[*];done),(Kd.N_mono (ok:=(fun k_=>(w.heap.size≤k_))) HN6.out (fun k_ hk_=>hk_)),HB.out⟩
 replace HH:=zqe HH
 rcases HH with⟨HH,hk10,hk11⟩|⟨HH,hk15,hk16⟩
 ·repeat(first|(refine MW.region_stop (id:=5) ?_)|go_values|go_skip|go_guarded|go_step|go_upon)
  refine zg ?_
  refine MW.frame_eq ⟨[(.int .i64 a0),undef,(.slice none 0 0),(.int .i64 a0),(.bool false),(.bool false),undef,(.bool true),(.bool true),undef,undef,undef,undef,undef,undef,undef,undef,undef,undef,undef,undef,undef,undef].toArray,[]⟩ (by kernel_rfl) ?_
  refine Kd.N_lit (Kd.int .i32) w.heap.size 21 rfl (N':=9) rfl (xs:=([48,57,178,179,185,185,1632,1641,8304,8304,8308,8313,8320,8329,65296,65305]:List Int)) (inner:=[.int .i32 48,.int .i32 57,.int .i32 178,.int .i32 179,.int .i32 185,.int .i32 185,.int .i32 1632,.int .i32 1641,.int .i32 8304,.int .i32 8304,.int .i32 8308,.int .i32 8313,.int .i32 8320,.int .i32 8329,.int .i32 65296,.int .i32 65305]) (ok:=(fun k_=>(w.heap.size≤k_))) (okp:=(fun k_=>(w.heap.size≤k_))) ?hr ?hp (fun _ hk_=>hk_) ?hf HB.out (below_size HB.out) (by first|simp|decide) ?_
  case hr=>kernel_rfl
  case hp=>exact(Reps.one (fun _ _=>rfl) (Reps.one (fun _ _=>rfl) (Reps.one (fun _ _=>rfl) (Reps.one (fun _ _=>rfl) (Reps.one (fun _ _=>rfl) (Reps.one (fun _ _=>rfl) (Reps.one (fun _ _=>rfl) (Reps.one (fun _ _=>rfl) (Reps.one (fun _ _=>rfl) (Reps.one (fun _ _=>rfl) (Reps.one (fun _ _=>rfl) (Reps.one (fun _ _=>rfl) (Reps.one (fun _ _=>rfl) (Reps.one (fun _ _=>rfl) (Reps.one (fun _ _=>rfl) (Reps.one (fun _ _=>rfl) (Reps.none _ _)))))))))))))))))
  case hf=>exact(show ∀ k_,w.heap.size≤k_→(fun k_=>(w.heap.size≤k_)) k_ from fun k_ h_=>(Nat.le_trans (below_size HB.out) h_)) _ (Nat.le_refl _)
  intro v12 w13 hn1 hb1 hg1 hat1
  have hbe:=MW.grown_below hg1
  have hba:=MW.base_of hat1
  replace HB:=za hb1
  have HN14:=za hn1
  clear hn1 hb1 hg1 hat1 hbe hba
  refine Kd.event_run rfl (v:=v12) (w1:=w13) (by kernel_rfl) ?_
  obtain rfl:=Option.some.inj HH.out
  clear HH
  go_wp2
  go_ret
  exact⟨_,by first|rfl|(simp;done)|(simp[*];done),(Kd.N_mono (ok:=(fun k_=>(w.heap.size≤k_))) HN14.out (fun k_ hk_=>hk_)),HB.out⟩
 replace HH:=zqe HH
 rcases HH with⟨HH,hk18,hk19⟩|⟨HH,hk23,hk24⟩
 ·repeat(first|(refine MW.region_stop (id:=7) ?_)|go_values|go_skip|go_guarded|go_step|go_upon)
  refine zg ?_
  refine MW.frame_eq ⟨[(.int .i64 a0),undef,(.slice none 0 0),(.int .i64 a0),(.bool false),(.bool false),undef,(.bool false),(.bool false),undef,(.bool true),(.bool true),undef,undef,undef,undef,undef,undef,undef,undef,undef,undef,undef].toArray,[]⟩ (by kernel_rfl) ?_
  refine Kd.N_lit (Kd.int .i32) w.heap.size 21 rfl (N':=12) rfl (xs:=([768,772,774,776,778,780,803,803,807,808,12441,12442]:List Int)) (inner:=[.int .i32 768,.int .i32 772,.int .i32 774,.int .i32 776,.int .i32 778,.int .i32 780,.int .i32 803,.int .i32 803,.int .i32 807,.int .i32 808,.int .i32 12441,.int .i32 12442]) (ok:=(fun k_=>(w.heap.size≤k_))) (okp:=(fun k_=>(w.heap.size≤k_))) ?hr ?hp (fun _ hk_=>hk_) ?hf HB.out (below_size HB.out) (by first|simp|decide) ?_
  case hr=>kernel_rfl
  case hp=>exact(Reps.one (fun _ _=>rfl) (Reps.one (fun _ _=>rfl) (Reps.one (fun _ _=>rfl) (Reps.one (fun _ _=>rfl) (Reps.one (fun _ _=>rfl) (Reps.one (fun _ _=>rfl) (Reps.one (fun _ _=>rfl) (Reps.one (fun _ _=>rfl) (Reps.one (fun _ _=>rfl) (Reps.one (fun _ _=>rfl) (Reps.one (fun _ _=>rfl) (Reps.one (fun _ _=>rfl) (Reps.none _ _)))))))))))))
  case hf=>exact(show ∀ k_,w.heap.size≤k_→(fun k_=>(w.heap.size≤k_)) k_ from fun k_ h_=>(Nat.le_trans (below_size HB.out) h_)) _ (Nat.le_refl _)
  intro v20 w21 hn1 hb1 hg1 hat1
  have hbe:=MW.grown_below hg1
  have hba:=MW.base_of hat1
  replace HB:=za hb1
  have HN22:=za hn1
  clear hn1 hb1 hg1 hat1 hbe hba
  refine Kd.event_run rfl (v:=v20) (w1:=w21) (by kernel_rfl) ?_
  obtain rfl:=Option.some.inj HH.out
  clear HH
  go_wp2
  go_ret
  exact⟨_,by first|rfl|(simp;done)|(simp[*];done),(Kd.N_mono (ok:=(fun k_=>(w.heap.size≤k_))) HN22.out (fun k_ hk_=>hk_)),HB.out⟩
 replace HH:=zqe HH
 rcases HH with⟨HH,hk26,hk27⟩|⟨HH,hk31,hk32⟩
 ·repeat(first|(refine MW.region_stop (id:=9) ?_)|go_values|go_skip|go_guarded|go_step|go_upon)
  refine zg ?_
  refine MW.frame_eq ⟨[(.int .i64 a0),undef,(.slice none 0 0),(.int .i64 a0),(.bool false),(.bool false),undef,(.bool false),(.bool false),undef,(.bool false),(.bool false),undef,(.bool true),(.bool true),undef,undef,undef,undef,undef,undef,undef,undef].toArray,[]⟩ (by kernel_rfl) ?_
  refine Kd.N_lit (Kd.int .i32) w.heap.size 21 rfl (N':=15) rfl (xs:=((33:Int)::47::58::64::91::96::123::126::161::169::171::172::174::177::180::180::182::184::187::191::215::215::247::247::8208::8209::8260::8260::8722::8722::65281::65295::65306::65312::65339::65344::65371::65374::[])) (inner:=((.int .i32 33:Value)::.int .i32 47::.int .i32 58::.int .i32 64::.int .i32 91::.int .i32 96::.int .i32 123::.int .i32 126::.int .i32 161::.int .i32 169::.int .i32 171::.int .i32 172::.int .i32 174::.int .i32 177::.int .i32 180::.int .i32 180::.int .i32 182::.int .i32 184::.int .i32 187::.int .i32 191::.int .i32 215::.int .i32 215::.int .i32 247::.int .i32 247::.int .i32 8208::.int .i32 8209::.int .i32 8260::.int .i32 8260::.int .i32 8722::.int .i32 8722::.int .i32 65281::.int .i32 65295::.int .i32 65306::.int .i32 65312::.int .i32 65339::.int .i32 65344::.int .i32 65371::.int .i32 65374::[])) (ok:=(fun k_=>(w.heap.size≤k_))) (okp:=(fun k_=>(w.heap.size≤k_))) ?hr ?hp (fun _ hk_=>hk_) ?hf HB.out (below_size HB.out) (by first|simp|decide) ?_
  case hr=>kernel_rfl
  case hp=>exact(Reps.one (fun _ _=>rfl) (Reps.one (fun _ _=>rfl) (Reps.one (fun _ _=>rfl) (Reps.one (fun _ _=>rfl) (Reps.one (fun _ _=>rfl) (Reps.one (fun _ _=>rfl) (Reps.one (fun _ _=>rfl) (Reps.one (fun _ _=>rfl) (Reps.one (fun _ _=>rfl) (Reps.one (fun _ _=>rfl) (Reps.one (fun _ _=>rfl) (Reps.one (fun _ _=>rfl) (Reps.one (fun _ _=>rfl) (Reps.one (fun _ _=>rfl) (Reps.one (fun _ _=>rfl) (Reps.one (fun _ _=>rfl) (Reps.one (fun _ _=>rfl) (Reps.one (fun _ _=>rfl) (Reps.one (fun _ _=>rfl) (Reps.one (fun _ _=>rfl) (Reps.one (fun _ _=>rfl) (Reps.one (fun _ _=>rfl) (Reps.one (fun _ _=>rfl) (Reps.one (fun _ _=>rfl) (Reps.one (fun _ _=>rfl) (Reps.one (fun _ _=>rfl) (Reps.one (fun _ _=>rfl) (Reps.one (fun _ _=>rfl) (Reps.one (fun _ _=>rfl) (Reps.one (fun _ _=>rfl) (Reps.one (fun _ _=>rfl) (Reps.one (fun _ _=>rfl) (Reps.one (fun _ _=>rfl) (Reps.one (fun _ _=>rfl) (Reps.one (fun _ _=>rfl) (Reps.one (fun _ _=>rfl) (Reps.one (fun _ _=>rfl) (Reps.one (fun _ _=>rfl) (Reps.none _ _)))))))))))))))))))))))))))))))))))))))
  case hf=>exact(show ∀ k_,w.heap.size≤k_→(fun k_=>(w.heap.size≤k_)) k_ from fun k_ h_=>(Nat.le_trans (below_size HB.out) h_)) _ (Nat.le_refl _)
  intro v28 w29 hn1 hb1 hg1 hat1
  have hbe:=MW.grown_below hg1
  have hba:=MW.base_of hat1
  replace HB:=za hb1
  have HN30:=za hn1
  clear hn1 hb1 hg1 hat1 hbe hba
  refine Kd.event_run rfl (v:=v28) (w1:=w29) (by kernel_rfl) ?_
  obtain rfl:=Option.some.inj HH.out
  clear HH
  go_wp2
  go_ret
  exact⟨_,by first|rfl|(simp;done)|(simp[*];done),(Kd.N_mono (ok:=(fun k_=>(w.heap.size≤k_))) HN30.out (fun k_ hk_=>hk_)),HB.out⟩
 replace HH:=zqe HH
 rcases HH with⟨HH,hk34,hk35⟩|⟨HH,hk39,hk40⟩
 ·repeat(first|(refine MW.region_stop (id:=11) ?_)|go_values|go_skip|go_guarded|go_step|go_upon)
  refine zg ?_
  refine MW.frame_eq ⟨[(.int .i64 a0),undef,(.slice none 0 0),(.int .i64 a0),(.bool false),(.bool false),undef,(.bool false),(.bool false),undef,(.bool false),(.bool false),undef,(.bool false),(.bool false),undef,(.bool true),(.bool true),undef,undef,undef,undef,undef].toArray,[]⟩ (by kernel_rfl) ?_
  refine Kd.N_lit (Kd.int .i32) w.heap.size 21 rfl (N':=18) rfl (xs:=([9,13,32,32,133,133,160,160,8192,8202,8232,8233,8239,8239,8287,8287,12288,12288]:List Int)) (inner:=[.int .i32 9,.int .i32 13,.int .i32 32,.int .i32 32,.int .i32 133,.int .i32 133,.int .i32 160,.int .i32 160,.int .i32 8192,.int .i32 8202,.int .i32 8232,.int .i32 8233,.int .i32 8239,.int .i32 8239,.int .i32 8287,.int .i32 8287,.int .i32 12288,.int .i32 12288]) (ok:=(fun k_=>(w.heap.size≤k_))) (okp:=(fun k_=>(w.heap.size≤k_))) ?hr ?hp (fun _ hk_=>hk_) ?hf HB.out (below_size HB.out) (by first|simp|decide) ?_
  case hr=>kernel_rfl
  case hp=>exact(Reps.one (fun _ _=>rfl) (Reps.one (fun _ _=>rfl) (Reps.one (fun _ _=>rfl) (Reps.one (fun _ _=>rfl) (Reps.one (fun _ _=>rfl) (Reps.one (fun _ _=>rfl) (Reps.one (fun _ _=>rfl) (Reps.one (fun _ _=>rfl) (Reps.one (fun _ _=>rfl) (Reps.one (fun _ _=>rfl) (Reps.one (fun _ _=>rfl) (Reps.one (fun _ _=>rfl) (Reps.one (fun _ _=>rfl) (Reps.one (fun _ _=>rfl) (Reps.one (fun _ _=>rfl) (Reps.one (fun _ _=>rfl) (Reps.one (fun _ _=>rfl) (Reps.one (fun _ _=>rfl) (Reps.none _ _)))))))))))))))))))
  case hf=>exact(show ∀ k_,w.heap.size≤k_→(fun k_=>(w.heap.size≤k_)) k_ from fun k_ h_=>(Nat.le_trans (below_size HB.out) h_)) _ (Nat.le_refl _)
  intro v36 w37 hn1 hb1 hg1 hat1
  have hbe:=MW.grown_below hg1
  have hba:=MW.base_of hat1
  replace HB:=za hb1
  have HN38:=za hn1
  clear hn1 hb1 hg1 hat1 hbe hba
  refine Kd.event_run rfl (v:=v36) (w1:=w37) (by kernel_rfl) ?_
  obtain rfl:=Option.some.inj HH.out
  clear HH
  go_wp2
  go_ret
  exact⟨_,by first|rfl|(simp;done)|(simp[*];done),(Kd.N_mono (ok:=(fun k_=>(w.heap.size≤k_))) HN38.out (fun k_ hk_=>hk_)),HB.out⟩
 replace HH:=zqe HH
 rcases HH with⟨HH,hk42,hk43⟩|⟨HH,hk47,hk48⟩
 ·repeat(first|(refine MW.region_stop (id:=13) ?_)|go_values|go_skip|go_guarded|go_step|go_upon)
  refine zg ?_
  refine MW.frame_eq ⟨[(.int .i64 a0),undef,(.slice none 0 0),(.int .i64 a0),(.bool false),(.bool false),undef,(.bool false),(.bool false),undef,(.bool false),(.bool false),undef,(.bool false),(.bool false),undef,(.bool false),(.bool false),undef,(.bool true),(.bool true),undef,undef].toArray,[]⟩ (by kernel_rfl) ?_
  refine Kd.N_lit (Kd.int .i32) w.heap.size 21 rfl (N':=21) rfl (xs:=((0:Int)::8::14::31::127::132::134::159::173::173::847::847::8203::8207::8234::8238::8288::8291::8298::8303::65024::65039::65279::65279::65529::65532::[])) (inner:=((.int .i32 0:Value)::.int .i32 8::.int .i32 14::.int .i32 31::.int .i32 127::.int .i32 132::.int .i32 134::.int .i32 159::.int .i32 173::.int .i32 173::.int .i32 847::.int .i32 847::.int .i32 8203::.int .i32 8207::.int .i32 8234::.int .i32 8238::.int .i32 8288::.int .i32 8291::.int .i32 8298::.int .i32 8303::.int .i32 65024::.int .i32 65039::.int .i32 65279::.int .i32 65279::.int .i32 65529::.int .i32 65532::[])) (ok:=(fun k_=>(w.heap.size≤k_))) (okp:=(fun k_=>(w.heap.size≤k_))) ?hr ?hp (fun _ hk_=>hk_) ?hf HB.out (below_size HB.out) (by first|simp|decide) ?_
  case hr=>kernel_rfl
  case hp=>exact(Reps.one (fun _ _=>rfl) (Reps.one (fun _ _=>rfl) (Reps.one (fun _ _=>rfl) (Reps.one (fun _ _=>rfl) (Reps.one (fun _ _=>rfl) (Reps.one (fun _ _=>rfl) (Reps.one (fun _ _=>rfl) (Reps.one (fun _ _=>rfl) (Reps.one (fun _ _=>rfl) (Reps.one (fun _ _=>rfl) (Reps.one (fun _ _=>rfl) (Reps.one (fun _ _=>rfl) (Reps.one (fun _ _=>rfl) (Reps.one (fun _ _=>rfl) (Reps.one (fun _ _=>rfl) (Reps.one (fun _ _=>rfl) (Reps.one (fun _ _=>rfl) (Reps.one (fun _ _=>rfl) (Reps.one (fun _ _=>rfl) (Reps.one (fun _ _=>rfl) (Reps.one (fun _ _=>rfl) (Reps.one (fun _ _=>rfl) (Reps.one (fun _ _=>rfl) (Reps.one (fun _ _=>rfl) (Reps.one (fun _ _=>rfl) (Reps.one (fun _ _=>rfl) (Reps.none _ _)))))))))))))))))))))))))))
  case hf=>exact(show ∀ k_,w.heap.size≤k_→(fun k_=>(w.heap.size≤k_)) k_ from fun k_ h_=>(Nat.le_trans (below_size HB.out) h_)) _ (Nat.le_refl _)
  intro v44 w45 hn1 hb1 hg1 hat1
  have hbe:=MW.grown_below hg1
  have hba:=MW.base_of hat1
  replace HB:=za hb1
  have HN46:=za hn1
  clear hn1 hb1 hg1 hat1 hbe hba
  refine Kd.event_run rfl (v:=v44) (w1:=w45) (by kernel_rfl) ?_
  obtain rfl:=Option.some.inj HH.out
  clear HH
  go_wp2
  go_ret
  exact⟨_,by first|rfl|(simp;done)|(simp[*];done),(Kd.N_mono (ok:=(fun k_=>(w.heap.size≤k_))) HN46.out (fun k_ hk_=>hk_)),HB.out⟩
 go_wp2_with (((with_reducible refine gate_dst (N:=22) rfl ?_);(try(refine gate_guard (by rfl) ?_;dsimp only));refine Kd.N_lit (Kd.int .i32) w.heap.size 21 rfl (N':=22) rfl (xs:=([832,833,57344,63743,64976,65007,65533,65535]:List Int)) (inner:=[.int .i32 832,.int .i32 833,.int .i32 57344,.int .i32 63743,.int .i32 64976,.int .i32 65007,.int .i32 65533,.int .i32 65535]) (ok:=(fun k_=>(w.heap.size≤k_))) (okp:=(fun k_=>(w.heap.size≤k_))) ?hr ?hp (fun _ hk_=>hk_) ?hf HB.out (below_size HB.out) (by first|simp|decide) ?_;(case hr=>first|(go_simp;done)|(go_simp;rfl));(case hp=>exact(Reps.one (fun _ _=>rfl) (Reps.one (fun _ _=>rfl) (Reps.one (fun _ _=>rfl) (Reps.one (fun _ _=>rfl) (Reps.one (fun _ _=>rfl) (Reps.one (fun _ _=>rfl) (Reps.one (fun _ _=>rfl) (Reps.one (fun _ _=>rfl) (Reps.none _ _))))))))));(case hf=>exact(show ∀ k_,w.heap.size≤k_→(fun k_=>(w.heap.size≤k_)) k_ from fun k_ h_=>(Nat.le_trans (below_size HB.out) h_)) _ (Nat.le_refl _));intro v49 w50 hn1 hb1 hg1 hat1);replace hat1:=za hat1;refine stop_ ?_)
 refine zg ?_
 replace hat1:=hat1.out
 have hbe:=MW.grown_below hg1
 have hba:=MW.base_of hat1
 replace HB:=za hb1
 have HN51:=za hn1
 clear hn1 hb1 hg1 hat1 hbe hba
 obtain rfl:=Option.some.inj HH.out
 clear HH
 go_wp2
 go_ret
 exact⟨_,by first|rfl|(simp;done)|(simp[*];done),(Kd.N_mono (ok:=(fun k_=>(w.heap.size≤k_))) HN51.out (fun k_ hk_=>hk_)),HB.out⟩
end Go.Proofs.Ytkbiiijmgbjnkaa.GA

namespace Go.Proofs.Ytkbiiijmgbjnkaa.GA
open Go.RowKit Go.Proofs.Ytkbiiijmgbjnkaa Go.Proofs.Ytkbiiijmgbjnkaa.MW Go.Proofs.Ytkbiiijmgbjnkaa.MQ Go.Proofs.YtkbiiijmgbjnkaaW.PrintWords Go.Proofs.YtkbiiijmgbjnkaaW.PrintLast Go.Proofs.YtkbiiijmgbjnkaaW.PrintMore
set_option linter.unusedVariables false
set_option linter.unusedSimpArgs false
/-- The places ahead of n with their elements, the last one first. -/
def back.seq (l:List S38):Nat→List (Int × S38)
  |0=>[]
  |i+1=>((i:Int),rd_T38 l (i:Int))::back.seq l i
abbrev encB (x:Int × S38):Array Value:= #[.int .i64 x.1,.agg #[.int .i32 x.2.f0,.int .i32 x.2.f1,.int .i64 x.2.f2]]
set_option maxHeartbeats 8000000 in
set_option maxRecDepth 100000 in
theorem back.iter (K K':Nat→Prop) (Bl:Nat) (A0:Option Addr) (c0:Nat) (l0:List S38) (w:World) (hl:w.heap[Bl]? =some (.cells #[.slice A0 l0.length c0] 33 (0,0)))
    (hF:Kd.F k38 w K' A0 l0.length l0) (hc0:l0.length≤c0) (hlen:l0.length≤9223372036854775807) (hKl:K Bl) (hK':∀ k,K' k→K k):
    Iter Try.prog 52 #[.pointer (some ⟨Bl,0,none⟩)] encB (fun _=>False) K (back.seq l0 l0.length) w:=by
  intro l J Jx W hkw hJ hY h0
  have hlW:=(hkw.block Bl (blk_lt hl) (blk_lt hl)).trans hl
  have hFW:=Kd.F_step (Kd.F_bound hF) (fun k hk _=>hkw.block k hk.2 hk.2)
  replace hFW:=Kd.F_mono hFW (fun k hk=>hk.1)
  clear hF hkw hl
  have HY:=za hY
  have HJ:=za hJ
  have H0:=za h0
  have HF0:=za hFW
  have BKl:=za hlW
  have HK':=za hK'
  have HKl:=za hKl
  have HL0:=za hc0
  clear hY hJ h0 hFW hlW hK' hKl hc0
  have c1:=MB.lz1 BKl.out
  have hw0:wrap64 ((l0.length:Int) - 1)=(l0.length:Int) - 1:=by simp[wrap64];omega
  show Calls Try.prog 52 #[.func (.yield l) #[] #[],.pointer (some ⟨Bl,0,none⟩)] W _
  go_enter Try.func52,Try.ntmps52
  go_wp2
  go_loopg [3] l0.length (fun kq u3 w'=>∃ (i:Nat) (E:Nat→Prop) (pre:List (Int × S38)),u3=.int .i64 ((i:Int) - 1)∧i≤kq∧i≤l0.length∧Aside0 (back.seq l0 l0.length=pre++back.seq l0 i)∧Aside0 (Kd.F k38 w' K' A0 l0.length l0)∧Aside0 (w'.heap[Bl]? =some (.cells #[.slice A0 l0.length c0] 33 (0,0)))∧Aside0 (J E pre w'))
  case atStart=>exact⟨l0.length,(fun _=>False),[],rfl,Nat.le_refl _,Nat.le_refl _,⟨rfl⟩,HF0,BKl,H0⟩
  case round=>
    clear c1 HF0 BKl H0
    obtain⟨i,E,pre,rfl,hik,hil,HX,HF0,BKl,HJ0⟩:=hrel
    obtain⟨w1,rfl⟩:∃ wo_:World,wo_=wr:=⟨_,rfl⟩
    have c1:=MB.lz1 BKl.out
    rcases i with _|j
    · have p1:(0≤((0:Nat):Int) - 1)=False:=eq_false (by omega)
      have hX:back.seq l0 l0.length=pre:=by rw[HX.out];simp[back.seq]
      have hJ1:=Lib.hid HJ0.out
      rw[← hX] at hJ1
      clear HJ0 HX hX
      go_wp2
      go_end0
      exact⟨⟨_,rfl⟩,.inl ⟨_,hJ1.out⟩⟩
    · have e1:(((j+1:Nat):Int) - 1)=(j:Int):=by omega
      rw[e1]
      clear e1
      have p1:(0≤(j:Int))=True:=eq_true (by omega)
      have p2:((j:Int)<(l0.length:Int))=True:=eq_true (by omega)
      obtain⟨ad,e1,hx0,hx1,hx2⟩:=atF_T38 HF0.out (j:Int) (by omega) (by omega)
      subst e1
      rw[Int.toNat_natCast] at hx0 hx1 hx2
      have hX1:=za (show back.seq l0 l0.length=(pre++[((j:Int),rd_T38 l0 (j:Int))])++back.seq l0 j by rw[HX.out,List.append_assoc];rfl)
      obtain⟨fn,tmps,assign,body,hy,hR⟩:=HY.out E pre _ (back.seq l0 j) w1 HX.out HJ0.out
      dsimp only[encB] at hy hR
      clear HX HY
      have hw1:wrap64 ((j:Int) - 1)=(j:Int) - 1:=by simp[wrap64];omega
      repeat(first|(refine code_stop (id:=3) ?_)|go_values|go_skip|go_guarded|go_step|go_upon)
      refine zg ?_
      refine(wpIn_wide (n:=1)).1 ?_
      gi_wp2
      refine hR.mono ?_
      clear hR hy
      rintro e w8 (⟨rfl,hJ8,hk8⟩|⟨rfl,hJ8⟩)
      · have HF8:=za (Kd.F_step HF0.out (fun k_ hk_ hlt_=>hk8.block k_ (.inl (HK'.out k_ hk_)) hlt_))
        have BKl8:=za ((hk8.block Bl (.inl HKl.out) (blk_lt BKl.out)).trans BKl.out)
        have HJ8:=za hJ8
        clear hJ8 hk8 c1 HF0 BKl HJ0 hx0 hx1 hx2
        have c1:=MB.lz1 BKl8.out
        gi_wp2
        go_wp2
        go_roundg j
        case measure=>omega
        case rel=>exact⟨j,E,_,rfl,Nat.le_refl _,by omega,hX1,HF8,BKl8,HJ8⟩
      · have hJ9:=Lib.hid hJ8
        clear hJ8 c1 HJ0 hx0 hx1 hx2
        gi_wp2
        go_wp2
        refine bodyPost_ret (results_none rfl _ _ _) rfl ?_
        exact⟨⟨_,rfl⟩,.inr ⟨_,_,hJ9.out⟩⟩

/-- The number lies in the span. -/
def back.hit (F:Int) (x:S38):Bool:=decide (x.f0≤F) && decide (F≤x.f1)
/-- What the first of these spans that holds the number has. -/
def back.look (F H:Int):List (Int × S38)→Int
  |[]=>H
  |p::r=>if back.hit F p.2=true then p.2.f2 else back.look F H r
def back.find (l:List S38) (F H:Int):Int:=back.look F H (back.seq l l.length)
theorem back.look_none (F H:Int):∀ xs,(∀ p ∈ xs,back.hit F p.2=false)→back.look F H xs=H
  |[],_=>rfl
  |p::r,h=>by
    rw[back.look,if_neg (by rw[h p (by simp)];simp)]
    exact back.look_none F H r (fun q hq=>h q (by simp[hq]))
theorem back.look_hit (F H:Int) (p:Int × S38) (r:List (Int × S38)) (hp:back.hit F p.2=true):∀ xs,(∀ q ∈ xs,back.hit F q.2=false)→back.look F H (xs++p::r)=p.2.f2
  |[],_=>by rw[List.nil_append,back.look,if_pos hp]
  |q::t,h=>by
    rw[List.cons_append,back.look,if_neg (by rw[h q (by simp)];simp)]
    exact back.look_hit F H p r hp t (fun q' hq=>h q' (by simp[hq]))
set_option maxHeartbeats 2000000 in
/-- The loop from the last span on that stops at the first one that holds a number. -/
theorem back.law {Q:Exit→Act→World→Prop} {tmps:Array Value} {ds:List Nat} {w:World} {b:Nat} {g:Operand} {t0 t1 t9:Tmp} {La L1 L2:List Oper} {ida idb id1 id2 ix:Nat} {tc:Operand}
    (K':Nat→Prop) (Bl:Nat) (A0:Option Addr) (c0:Nat) (l0:List S38) (hl:w.heap[Bl]? =some (.cells #[.slice A0 l0.length c0] 33 (0,0)))
    (hF:Kd.F k38 w K' A0 l0.length l0) (hc0:l0.length≤c0) (hlen:l0.length≤9223372036854775807) (g7:Nat) (F T H:Int) (hg7:w.heap[g7]? =some (.cells #[.int .i32 F,.int .i32 T,.int .i64 H] 38 (0,0)))
    (hK7:∀ k,K' k→k≠g7) (hgl:Aside0 (g7≠Bl)) (hds:Aside0 (Ds b ds w)) (hb:b≤w.heap.size)
    (hg:(⟨tmps,ds.map markD⟩:Act).eval g=.func (.func 52) #[] #[.pointer (some ⟨Bl,0,none⟩)]) (hix:ix≠idb) (hQ:∀ a w,Q .normal a w→Q (.exit ix) a w)
    (hda:∀ o ∈ La,∀ c,o.op≠.defer c) (hd1:∀ o ∈ L1,∀ c,o.op≠.defer c) (hd2:∀ o ∈ L2,∀ c,o.op≠.defer c)
    (hA:∀ (i:Int) (x:S38) (W:World) (Q':Exit→Act→World→Prop),Aside0 (∀ g9 W',W.heap.size≤g9→W'.heap[g9]? =some (.cells #[.int .i32 x.f0,.int .i32 x.f1,.int .i64 x.f2] 38 (0,0))→Below W.heap.size W W'→
        Q' .normal ⟨((tmps.setIfInBounds t0 (.int .i64 i)).setIfInBounds t1 (.agg #[.int .i32 x.f0,.int .i32 x.f1,.int .i64 x.f2])).setIfInBounds t9 (.pointer (some ⟨g9,0,none⟩)),[]⟩ W')→
      wpList Try.prog La.toArray Q' La ⟨(tmps.setIfInBounds t0 (.int .i64 i)).setIfInBounds t1 (.agg #[.int .i32 x.f0,.int .i32 x.f1,.int .i64 x.f2]),[]⟩ W)
    (hB:∀ (i:Int) (x:S38) (g9:Nat) (W:World) (Q':Exit→Act→World→Prop),Aside0 (W.heap[g9]? =some (.cells #[.int .i32 x.f0,.int .i32 x.f1,.int .i64 x.f2] 38 (0,0)))→Aside0 (W.heap[g7]? =some (.cells #[.int .i32 F,.int .i32 T,.int .i64 H] 38 (0,0)))→
        Aside0 (∀ a',a'.eval tc=.bool (back.hit F x)→(∀ Q2:Exit→Act→World→Prop,Aside0 (∀ a2 W2,W2.heap[g7]? =some (.cells #[.int .i32 F,.int .i32 T,.int .i64 x.f2] 38 (0,0))→W.grownBy W2 (some g7)→Q2 .normal a2 W2)→back.hit F x=true→wpList Try.prog L2.toArray Q2 L2 a' W)→Q' .normal a' W)→
      wpList Try.prog L1.toArray Q' L1 ⟨((tmps.setIfInBounds t0 (.int .i64 i)).setIfInBounds t1 (.agg #[.int .i32 x.f0,.int .i32 x.f1,.int .i64 x.f2])).setIfInBounds t9 (.pointer (some ⟨g9,0,none⟩)),[]⟩ W)
    (hK:∀ (w':World) (ds':List Nat),Aside0 (w'.heap[g7]? =some (.cells #[.int .i32 F,.int .i32 T,.int .i64 (back.find l0 F H)] 38 (0,0)))→Kp (fun k=>k≠g7∧k<w.heap.size) w w'→Aside0 (Ds b ds' w')→Stop (Q .normal ⟨tmps,ds'.map markD⟩ w') (.mk _)):
    (Code.rangeFunc g #[t0,t1] (.region ida La.toArray false) (.block idb (.seq (.region id1 L1.toArray false) (.cond tc (.seq (.region id2 L2.toArray false) (.exit ix)) .skip)))).wp Try.prog Q ⟨tmps,ds.map markD⟩ w:=by
  have hg7lt:=blk_lt hg7
  have hfin:∀ (w':World) (D:Nat),D=w.heap.size→Kp (fun k=>k≠g7∧k<w.heap.size) w w'→w'.heap[D]? =some (.deferred (some []))→Ds b (D::ds) w':=by
    intro w' D hD hk hWD
    refine⟨List.nodup_cons.2 ⟨fun hm=>?_,hds.out.1⟩,fun D' hD'=>?_⟩
    · have:=blk_lt (hds.out.2 _ hm).2
      omega
    · rcases List.mem_cons.1 hD' with e|hm
      · rw[e];exact⟨by omega,hWD⟩
      · have hd':=hds.out.2 D' hm
        refine⟨hd'.1,(hk.block D' ⟨fun e=>?_,blk_lt hd'.2⟩ (blk_lt hd'.2)).trans hd'.2⟩
        have h5:=hd'.2
        rw[e,hg7] at h5
        cases h5
  refine range_law (enc:=encB) (E₀:=fun _=>False) (K:=fun k=>(K' k∧k<w.heap.size)∨k=Bl) (xs:=back.seq l0 l0.length) hg (enters_ Try.func52 (by kernel_rfl) rfl)
    (back.iter _ (fun k=>K' k∧k<w.heap.size) Bl A0 c0 l0 w hl (Kd.F_bound hF) hc0 hlen (.inr rfl) (fun k hk=>.inl hk)) (fun _=>rfl) (fun k e=>e.elim) (fun k hk=>hk.elim (fun h=>h.2) (fun e=>by rw[e];exact blk_lt hl))
    (fun E pre W=>W.heap[g7]? =some (.cells #[.int .i32 F,.int .i32 T,.int .i64 H] 38 (0,0))∧(∀ k,E k→w.heap.size≤k)∧Kp (fun k=>k≠g7∧k<w.heap.size) w W∧∀ p ∈ pre,back.hit F p.2=false)
    (fun c E pre W=>c=.exit ix∧W.heap[g7]? =some (.cells #[.int .i32 F,.int .i32 T,.int .i64 (back.find l0 F H)] 38 (0,0))∧(∀ k,E k→w.heap.size≤k)∧Kp (fun k=>k≠g7∧k<w.heap.size) w W) ⟨?_,?_⟩ ?_ ⟨hg7,fun k e=>e.elim,Kp.refl _ _,by simp⟩ ?_ ?_ ?_
  · rintro E s A A' row ⟨h1,h2,h3,h4⟩ hg' hr
    exact⟨(hg'.block g7 (blk_lt h1) (fun e=>by have:=h2 g7 (hr g7 e.symm);omega)).trans h1,h2,h3.trans (Kp.grown hg' (fun r e hk=>by have:=h2 r (hr r e);omega)),h4⟩
  · rintro E s A A' g' ⟨h1,h2,h3,h4⟩ hg' hge hlt
    refine⟨(hg'.block g7 (blk_lt h1) (by simp)).trans h1,fun k hk=>hk.elim (h2 k) (fun e=>?_),h3.trans (Kp.grown hg' (fun r e=>by cases e)),h4⟩
    have:=h3.size
    omega
  · rintro c E s A A' row ⟨h0,h1,h2,h3⟩ hg' hr
    exact⟨h0,(hg'.block g7 (blk_lt h1) (fun e=>by have:=h2 g7 (hr g7 e.symm);omega)).trans h1,h2,h3.trans (Kp.grown hg' (fun r e hk=>by have:=h2 r (hr r e);omega))⟩
  · rintro l E pre ⟨i,x⟩ rest W hxs ⟨h1,h2,h3,h4⟩ hEl hlt
    have hls:=h2 l hEl
    have hset:setAll #[t0,t1] (encB (i,x)) tmps=(tmps.setIfInBounds t0 (.int .i64 i)).setIfInBounds t1 (.agg #[.int .i32 x.f0,.int .i32 x.f1,.int .i64 x.f2]):=by first|rfl|(simp[setAll];done)|(simp[setAll,Array.zip,Array.zipWith];done)
    rw[hset]
    refine round_region (fun ⟨_,_,h⟩=>h) hda (hA i x W _ ⟨?_⟩)
    intro g9 W1 hg9 hx9 hb1
    refine⟨hb1.block l hlt,fun V hV=>?_⟩
    have h71:=(hb1.block g7 (blk_lt h1)).trans h1
    have hW1:W.heap.size≤W1.heap.size:=hb1.size
    have hx9V:=(hV.block g9 (blk_lt hx9) (fun e=>by injection e with e;omega)).trans hx9
    have h7V:=(hV.block g7 (blk_lt h71) (fun e=>by injection e with e;omega)).trans h71
    have hkW:Kp (fun k=>((((K' k∧k<w.heap.size)∨k=Bl)∨E k)∧k≠l)∧k<W.heap.size) W V:=by
      refine⟨hV.os.trans hb1.os,hV.tape.trans hb1.tape,hV.output.trans hb1.output,Nat.le_trans hb1.size hV.size,fun k hk hlt'=>?_⟩
      exact(hV.block k (by omega) (fun e=>hk.1.2 (Option.some.inj e))).trans (hb1.block k hk.2)
    have hkV:Kp (fun k=>k≠g7∧k<w.heap.size) w V:=h3.trans ⟨hkW.os,hkW.tape,hkW.output,hkW.size,fun k hk hlt'=>(hV.block k (by omega) (fun e=>by injection e with e;omega)).trans (hb1.block k hlt')⟩
    have hVl:V.heap[l]? =V.heap[l]? :=rfl
    refine wpIn_block (wpIn_seq (round_region (fun ⟨_,_,h⟩=>by first|exact h|exact inBlock_calm roundEnd_calm ⟨_,_,h⟩) hd1 (hB i x g9 V _ ⟨hx9V⟩ ⟨h7V⟩ ⟨?_⟩)))
    intro a' hc hL2
    show(Code.cond tc (.seq (.region id2 L2.toArray false) (.exit ix)) .skip).wpIn (Fence.wide.inRound l) 0 Try.prog (Exit.inBlock idb (roundEnd l E _ _ _ (pre++[(i,x)]) W V)) a' V
    refine wpIn_cond_split hc (fun ht=>?_) (fun hf=>?_)
    · refine wpIn_seq (round_region (fun ⟨_,_,h⟩=>by first|exact h|exact inBlock_calm roundEnd_calm ⟨_,_,h⟩) hd2 (hL2 _ ⟨?_⟩ ht))
      intro a2 W2 h72 hg2
      refine wpIn_exit ?_
      have hKp2:Kp (fun k=>(((K' k∧k<w.heap.size)∨k=Bl)∨E k)∧k≠l) W W2:=by
        refine⟨hg2.os.trans hkW.os,hg2.tape.trans hkW.tape,hg2.output.trans hkW.output,Nat.le_trans hkW.size hg2.size,fun k hk hlt'=>?_⟩
        refine(hg2.block k (Nat.lt_of_lt_of_le hlt' hkW.size) (fun e=>?_)).trans (hkW.block k ⟨hk,hlt'⟩ hlt')
        injection e with e
        rcases hk.1 with(h|h)|h
        · exact hK7 k h.1 e
        · exact hgl.out (by rw[← e,h])
        · have:=h2 k h;omega
      have hfind:back.find l0 F H=x.f2:=by
        unfold back.find
        rw[hxs]
        exact back.look_hit F H (i,x) rest ht pre h4
      have hend:roundEnd l E (fun k=>(K' k∧k<w.heap.size)∨k=Bl) (fun E pre W=>W.heap[g7]? =some (.cells #[.int .i32 F,.int .i32 T,.int .i64 H] 38 (0,0))∧(∀ k,E k→w.heap.size≤k)∧Kp (fun k=>k≠g7∧k<w.heap.size) w W∧∀ p ∈ pre,back.hit F p.2=false)
          (fun c E pre W=>c=.exit ix∧W.heap[g7]? =some (.cells #[.int .i32 F,.int .i32 T,.int .i64 (back.find l0 F H)] 38 (0,0))∧(∀ k,E k→w.heap.size≤k)∧Kp (fun k=>k≠g7∧k<w.heap.size) w W) (pre++[(i,x)]) W V (.exit ix) a2 W2:=
        ⟨hKp2,hg2.block l (Nat.lt_of_lt_of_le hlt hkW.size) (fun e=>by injection e with e;omega),rfl,by rw[hfind];exact h72,h2,hkV.trans (Kp.grown hg2 (fun r e hk=>hk.1 (Option.some.inj e).symm))⟩
      simpa [Exit.inBlock,hix] using hend
    · refine wpIn_skip ?_
      have hend:roundEnd l E (fun k=>(K' k∧k<w.heap.size)∨k=Bl) (fun E pre W=>W.heap[g7]? =some (.cells #[.int .i32 F,.int .i32 T,.int .i64 H] 38 (0,0))∧(∀ k,E k→w.heap.size≤k)∧Kp (fun k=>k≠g7∧k<w.heap.size) w W∧∀ p ∈ pre,back.hit F p.2=false)
          (fun c E pre W=>c=.exit ix∧W.heap[g7]? =some (.cells #[.int .i32 F,.int .i32 T,.int .i64 (back.find l0 F H)] 38 (0,0))∧(∀ k,E k→w.heap.size≤k)∧Kp (fun k=>k≠g7∧k<w.heap.size) w W) (pre++[(i,x)]) W V .normal a' V:=
        ⟨⟨hkW.os,hkW.tape,hkW.output,hkW.size,fun k hk hlt'=>hkW.block k ⟨hk,hlt'⟩ hlt'⟩,rfl,h7V,h2,hkV,fun p hp=>by
          rcases List.mem_append.1 hp with h|h
          · exact h4 p h
          · have:=List.mem_singleton.1 h
            rw[this];exact hf⟩
      simpa [Exit.inBlock] using hend
  · rintro E W ⟨h1,h2,h3,h4⟩ hED hWD
    exact(hK W (w.heap.size::ds) ⟨by unfold back.find;rw[back.look_none F H _ h4];exact h1⟩ h3 ⟨hfin W _ rfl h3 hWD⟩).out
  · rintro c E pre W ⟨rfl,h1,h2,h3⟩ hED hWD
    exact wp_exit (hQ _ _ (hK W (w.heap.size::ds) ⟨h1⟩ h3 ⟨hfin W _ rfl h3 hWD⟩).out)
/-- A row of spans reaches no other block. -/
theorem back.N_own {W:World} {base e:Nat} {ok:Nat→Prop} {v:Value} {xs:List S38} (h:Kd.N k38 e W base ok v xs):Kd.N k38 e W base (fun k=>some k=v.ownBlock) v xs:=by
  obtain⟨h0,rows,hl,hR,hf⟩:=h
  refine⟨fun k hk=>hk.symm,rows,hl,hR,fun j x c hx hc=>?_⟩
  rw[k38_open (Kd.FK_now (hf j x c hx hc))]
  exact k38_mkF _ _ x
/-- .. the marks' blocks are none of its. -/
theorem back.N_marks {W W9:World} {base e:Nat} {ds:List Nat} {ok:Nat→Prop} {v:Value} {xs:List S38} (h:Kd.N k38 e W base ok v xs) (hk:Kp (fun k=>k ∉ ds) W W9) (hd:∀ D ∈ ds,W.heap[D]? =some (.deferred (some []))):Kd.N k38 e W9 base ok v xs:=by
  refine Kd.N_mono (Kd.N_step (back.N_own h) (fun k hv hlt=>hk.block k (fun hm=>?_) hlt)) (fun k hv=>h.1 k hv.symm)
  obtain⟨cells,hc⟩:=Kd.N_typed h k hv.symm
  have:=hd k hm
  rw[hc] at this
  cases this
theorem back.below {W W1 W2:World} {g:Nat} (h:Below W.heap.size W W1) (hg:g=W.heap.size) (h2:W1.grownBy W2 (some g)):Below W.heap.size W W2:=
  ⟨h2.os.trans h.os,h2.tape.trans h.tape,h2.output.trans h.output,Nat.le_trans h.size h2.size,fun k hk=>(h2.block k (Nat.lt_of_lt_of_le hk h.size) (fun e=>by injection e with e;omega)).trans (h.block k hk)⟩
end Go.Proofs.Ytkbiiijmgbjnkaa.GA

namespace Go.Proofs.Ytkbiiijmgbjnkaa.GA
open Go.RowKit Go.Proofs.Ytkbiiijmgbjnkaa Go.Proofs.Ytkbiiijmgbjnkaa.MW Go.Proofs.YtkbiiijmgbjnkaaW.PrintWords Go.Proofs.YtkbiiijmgbjnkaaW.PrintLast Go.Proofs.YtkbiiijmgbjnkaaW.PrintMore
attribute [local go_sem] max2_int min2_int max_two min_two
set_option linter.unusedVariables false
set_option linter.unusedSimpArgs false
def span_piece_may.f (a0_0:Int) (a0_1:Int) (a0_2:Int):Option (Bool):=if a0_0≥0 then(if a0_0≤a0_1 then(some (decide (a0_1≤1114111))) else(some false)) else(some false)
set_option maxHeartbeats 8000000 in
set_option maxRecDepth 100000 in
theorem span_piece_may.calls (a0_0:Int) (a0_1:Int) (a0_2:Int) (r:Bool) (w:World) (h:span_piece_may.f a0_0 a0_1 a0_2=some r):
  Calls Try.prog 41 #[.agg #[.int .i32 a0_0,.int .i32 a0_1,.int .i64 a0_2]] w (fun e w'=>e=.returned (.bool r)∧Below w.heap.size w w'):=by
 unfold span_piece_may.f at h
 have HH:=za h
 clear h
 have HB:=za (Below.refl w.heap.size w)
 have hu48:=Try.underlying48
 go_enter Try.func41,Try.ntmps41
 go_wp2_with ((with_reducible refine gd 1 rfl ?_);refine zb 1 48 #[.int .i32 a0_0,.int .i32 a0_1,.int .i64 a0_2] (h:=?_);intro g1 hg w2 BKg1 hb)
 refine zg ?_
 replace HB:=zhb HB.out hb
 clear hg hb
 replace cBKg1:=MB.lz3 BKg1.out
 replace HH:=zqG HH
 rcases HH with⟨HH,hk7⟩|⟨HH,hk11⟩
 ·replace HH:=zqd HH
  rcases HH with⟨HH,hk9⟩|⟨HH,hk10⟩
  ·obtain rfl:=Option.some.inj HH.out
   clear HH
   go_wp2
   go_ret
   exact zfi HB.out
  obtain rfl:=Option.some.inj HH.out
  clear HH
  go_wp2
  go_ret
  exact zfi HB.out
 obtain rfl:=Option.some.inj HH.out
 clear HH
 go_wp2
 go_ret
 exact zfi HB.out

def span_Build_1.f (a0_0:Int) (a0_1:Int) (a0_2:Int):Option (Bool):=(span_piece_may.f a0_0 a0_1 a0_2).bind fun t6=>(some (!t6))
set_option maxHeartbeats 8000000 in
set_option maxRecDepth 100000 in
theorem span_Build_1.calls (a0_0:Int) (a0_1:Int) (a0_2:Int) (r:Bool) (w:World) (h:span_Build_1.f a0_0 a0_1 a0_2=some r):
  Calls Try.prog 43 #[.agg #[.int .i32 a0_0,.int .i32 a0_1,.int .i64 a0_2]] w (fun e w'=>e=.returned (.bool r)∧Below w.heap.size w w'):=by
 unfold span_Build_1.f at h
 have HH:=za h
 clear h
 have HB:=za (Below.refl w.heap.size w)
 have hu38:=Try.underlying38
 go_enter Try.func43,Try.ntmps43
 go_wp2_with ((with_reducible refine gd 1 rfl ?_);refine zb 1 38 #[.int .i32 a0_0,.int .i32 a0_1,.int .i64 a0_2] (h:=?_);intro g1 hg w2 BKg1 hb)
 refine zg ?_
 replace HB:=zhb HB.out hb
 clear hg hb
 replace cBKg1:=MB.lz3 BKg1.out
 replace HH:=zd HH
 obtain⟨t6,At7,HH⟩:=HH
 go_wp2_with ((with_reducible refine gc 41 rfl ?_);refine zc 41 (some 4) Try.func41 #[.agg #[.int .i32 a0_0,.int .i32 a0_1,.int .i64 a0_2]] (h:=?_);(with_reducible refine(span_piece_may.calls  a0_0 a0_1 a0_2 t6 _  At7.out).mono ?_);rintro e w8 ⟨rfl,hb⟩;refine⟨_,rfl,?_⟩)
 refine zg ?_
 replace BKg1:=zbb BKg1.out hb
 replace HB:=zhb HB.out hb
 clear hb
 replace cBKg1:=MB.lz3 BKg1.out
 obtain rfl:=Option.some.inj HH.out
 clear HH
 go_wp2
 go_ret
 exact zfi HB.out

def span_piece_start.f (a0_0:Int) (a0_1:Int) (a0_2:Int):Option (Int):=some a0_0
set_option maxHeartbeats 8000000 in
set_option maxRecDepth 100000 in
theorem span_piece_start.calls (a0_0:Int) (a0_1:Int) (a0_2:Int) (r:Int) (w:World) (h:span_piece_start.f a0_0 a0_1 a0_2=some r):
  Calls Try.prog 48 #[.agg #[.int .i32 a0_0,.int .i32 a0_1,.int .i64 a0_2]] w (fun e w'=>e=.returned (.int .i32 r)∧Below w.heap.size w w'):=by
 unfold span_piece_start.f at h
 have HH:=za h
 clear h
 have HB:=za (Below.refl w.heap.size w)
 have hu48:=Try.underlying48
 go_enter Try.func48,Try.ntmps48
 go_wp2_with ((with_reducible refine gd 1 rfl ?_);refine zb 1 48 #[.int .i32 a0_0,.int .i32 a0_1,.int .i64 a0_2] (h:=?_);intro g1 hg w2 BKg1 hb)
 refine zg ?_
 replace HB:=zhb HB.out hb
 clear hg hb
 replace cBKg1:=MB.lz3 BKg1.out
 obtain rfl:=Option.some.inj HH.out
 clear HH
 go_wp2
 go_ret
 exact zfi HB.out

def span_piece_behind.f (a0_0:Int) (a0_1:Int) (a0_2:Int):Option (Int):=some (wrap32 (a0_1+1))
set_option maxHeartbeats 8000000 in
set_option maxRecDepth 100000 in
theorem span_piece_behind.calls (a0_0:Int) (a0_1:Int) (a0_2:Int) (r:Int) (w:World) (h:span_piece_behind.f a0_0 a0_1 a0_2=some r):
  Calls Try.prog 49 #[.agg #[.int .i32 a0_0,.int .i32 a0_1,.int .i64 a0_2]] w (fun e w'=>e=.returned (.int .i32 r)∧Below w.heap.size w w'):=by
 unfold span_piece_behind.f at h
 have HH:=za h
 clear h
 have HB:=za (Below.refl w.heap.size w)
 have hu48:=Try.underlying48
 go_enter Try.func49,Try.ntmps49
 go_wp2_with ((with_reducible refine gd 1 rfl ?_);refine zb 1 48 #[.int .i32 a0_0,.int .i32 a0_1,.int .i64 a0_2] (h:=?_);intro g1 hg w2 BKg1 hb)
 refine zg ?_
 replace HB:=zhb HB.out hb
 clear hg hb
 replace cBKg1:=MB.lz3 BKg1.out
 obtain rfl:=Option.some.inj HH.out
 clear HH
 go_wp2
 go_ret
 exact zfi HB.out

def cmp_isNaN_rune.f (a0:Int):Option (Bool):=some (a0 != a0)
set_option maxHeartbeats 8000000 in
set_option maxRecDepth 100000 in
theorem cmp_isNaN_rune.calls (a0:Int) (r:Bool) (w:World) (h:cmp_isNaN_rune.f a0=some r):
  Calls Try.prog 71 #[.int .i32 a0] w (fun e w'=>e=.returned (.bool r)∧Drawn0 w w'):=by
 unfold cmp_isNaN_rune.f at h
 have HH:=za h
 clear h
 go_enter Try.func71,Try.ntmps71
 obtain rfl:=Option.some.inj HH.out
 clear HH
 go_wp2
 go_ret
 exact⟨by first|rfl|(simp;done)|(simp[*];done),by repeat(first|exact Drawn0.refl _|apply Drawn0.step)⟩

def cmp_Less_rune.f (a0:Int) (a1:Int):Option (Bool):=(cmp_isNaN_rune.f a0).bind fun t1=>(if t1=true then((cmp_isNaN_rune.f a1).bind fun t5=>(if t5=true then(some (decide (a0<a1))) else(some true))) else(some (decide (a0<a1))))
set_option maxHeartbeats 8000000 in
set_option maxRecDepth 100000 in
theorem cmp_Less_rune.calls (a0:Int) (a1:Int) (r:Bool) (w:World) (h:cmp_Less_rune.f a0 a1=some r):
  Calls Try.prog 61 #[.int .i32 a0,.int .i32 a1] w (fun e w'=>e=.returned (.bool r)∧Drawn0 w w'):=by
 unfold cmp_Less_rune.f at h
 have HH:=za h
 clear h
 go_enter Try.func61,Try.ntmps61
 replace HH:=zd HH
 obtain⟨t1,At2,HH⟩:=HH
 go_wp2_with ((with_reducible refine gc 71 rfl ?_);refine zc 71 (some 6) Try.func71 #[.int .i32 a0] (h:=?_);(with_reducible refine(cmp_isNaN_rune.calls  a0 t1 _  At2.out).mono ?_);rintro e w' ⟨rfl,⟨nd,rfl⟩⟩;refine⟨_,rfl,?_⟩)
 refine zg ?_
 by_cases c4:t1=true
 ·replace HH:=MW.hpos HH c4
  subst c4
  replace HH:=zd HH
  obtain⟨t5,At6,HH⟩:=HH
  go_wp2_with ((with_reducible refine gc 71 rfl ?_);refine zc 71 (some 9) Try.func71 #[.int .i32 a1] (h:=?_);(with_reducible refine(cmp_isNaN_rune.calls  a1 t5 _  At6.out).mono ?_);rintro e w' ⟨rfl,⟨nd,rfl⟩⟩;refine⟨_,rfl,?_⟩)
  refine zg ?_
  by_cases c8:t5=true
  ·replace HH:=MW.hpos HH c8
   subst c8
   obtain rfl:=Option.some.inj HH.out
   clear HH
   go_wp2
   go_ret
   exact⟨by first|rfl|(simp;done)|(simp[*];done),by repeat(first|exact Drawn0.refl _|apply Drawn0.step)⟩
  replace HH:=MW.hneg HH c8
  replace c8:=Bool.eq_false_iff.mpr c8
  subst c8
  obtain rfl:=Option.some.inj HH.out
  clear HH
  go_wp2
  go_ret
  exact⟨by first|rfl|(simp;done)|(simp[*];done),by repeat(first|exact Drawn0.refl _|apply Drawn0.step)⟩
 replace HH:=MW.hneg HH c4
 replace c4:=Bool.eq_false_iff.mpr c4
 subst c4
 obtain rfl:=Option.some.inj HH.out
 clear HH
 go_wp2
 go_ret
 exact⟨by first|rfl|(simp;done)|(simp[*];done),by repeat(first|exact Drawn0.refl _|apply Drawn0.step)⟩

mutual
def slices_insertionSortOrdered_rune.l0:Nat→Int→(List Int)→Int→Int→(List Int)→Option (List Int)
 |0,_,_,_,_,_=>none
 |k+1,x1,x2,a1,a2,l0=>if x1<a2 then((slices_insertionSortOrdered_rune.l1 k x1 x2 a1 a2 l0 x1)) else(some x2)
def slices_insertionSortOrdered_rune.l1:Nat→Int→(List Int)→Int→Int→(List Int)→Int→Option (List Int)
 |0,_,_,_,_,_,_=>none
 |k+1,x8,x9,a1,a2,l0,x1=>(if x8>a1 then(if 0≤x8 then(if x8<(l0.length:Int) then(if 0≤(wrap64 (x8 - 1)) then(if (wrap64 (x8 - 1))<(l0.length:Int) then((cmp_Less_rune.f (rd x9 x8) (rd x9 (wrap64 (x8 - 1)))).bind fun t29=>(some (t29))) else(none)) else(none)) else(none)) else(none)) else(some (false))).bind fun b12=>(if b12=true then(if 0≤(wrap64 (x8 - 1)) then(if (wrap64 (x8 - 1))<(l0.length:Int) then(if 0≤x8 then(if x8<(l0.length:Int) then((some (List.set x9 x8.toNat (rd x9 (wrap64 (x8 - 1))):List Int)).bind fun y52=>((some (List.set y52 (wrap64 (x8 - 1)).toNat (rd x9 x8):List Int)).bind fun y56=>((slices_insertionSortOrdered_rune.l1 k (wrap64 (x8 - 1)) y56 a1 a2 l0 x1)))) else(none)) else(none)) else(none)) else(none)) else((slices_insertionSortOrdered_rune.l0 k (wrap64 (x1+1)) x9 a1 a2 l0)))
end
def slices_insertionSortOrdered_rune.f (k:Nat) (l0:List Int) (a1:Int) (a2:Int):Option (List Int):=(slices_insertionSortOrdered_rune.l0 k (wrap64 (a1+1)) l0 a1 a2 l0)
theorem slices_insertionSortOrdered_rune.mono_l:∀ k,(∀ y0 y1 y2 y3 y4,LeO (slices_insertionSortOrdered_rune.l0 k y0 y1 y2 y3 y4) (slices_insertionSortOrdered_rune.l0 (k+1) y0 y1 y2 y3 y4))∧(∀ y0 y1 y2 y3 y4 y5,LeO (slices_insertionSortOrdered_rune.l1 k y0 y1 y2 y3 y4 y5) (slices_insertionSortOrdered_rune.l1 (k+1) y0 y1 y2 y3 y4 y5))
 |0=>⟨fun _ _ _ _ _ r h=>by simp[slices_insertionSortOrdered_rune.l0] at h,fun _ _ _ _ _ _ r h=>by simp[slices_insertionSortOrdered_rune.l1] at h⟩
 |k+1=>by
  obtain⟨ih0,ih1⟩:=slices_insertionSortOrdered_rune.mono_l k
  refine⟨?_,?_⟩
  ·intro y0 y1 y2 y3 y4
   unfold slices_insertionSortOrdered_rune.l0
   with_reducible repeat' first|exact ih0 _ _ _ _ _|exact ih1 _ _ _ _ _ _|exact LeO.refl _|exact LeO.none _|refine LeO.ite ?_ ?_|refine LeO.bind ?_ (fun _=>?_)
  intro y0 y1 y2 y3 y4 y5
  unfold slices_insertionSortOrdered_rune.l1
  with_reducible repeat' first|exact ih0 _ _ _ _ _|exact ih1 _ _ _ _ _ _|exact LeO.refl _|exact LeO.none _|refine LeO.ite ?_ ?_|refine LeO.bind ?_ (fun _=>?_)
theorem slices_insertionSortOrdered_rune.mono:∀ a0_ a1_ a2_ k,LeO (slices_insertionSortOrdered_rune.f k a0_ a1_ a2_) (slices_insertionSortOrdered_rune.f (k+1) a0_ a1_ a2_):=by
 intro a0_ a1_ a2_ k
 obtain⟨ih0,ih1⟩:=slices_insertionSortOrdered_rune.mono_l k
 unfold slices_insertionSortOrdered_rune.f
 with_reducible repeat' first|exact ih0 _ _ _ _ _|exact ih1 _ _ _ _ _ _|exact LeO.refl _|exact LeO.none _|refine LeO.ite ?_ ?_|refine LeO.bind ?_ (fun _=>?_)
set_option maxHeartbeats 8000000 in
set_option maxRecDepth 100000 in
theorem slices_insertionSortOrdered_rune.calls (k:Nat) (B_:Nat) (A0:Option Addr) (c0:Nat) (l0:List Int) (a1:Int) (a2:Int) (r:List Int) (w:World) (hB0:B_≤w.heap.size) (hn0:Kd.N (Kd.int .i32) 21 w B_ (fun k_=>some k_=((.slice A0 l0.length c0):Value).ownBlock) (.slice A0 l0.length c0) l0) (h:slices_insertionSortOrdered_rune.f k l0 a1 a2=some r):
  Calls Try.prog 55 #[(.slice A0 l0.length c0),.int .i64 a1,.int .i64 a2] w (fun e w'=>e=.returned (.tuple #[])∧Kd.N (Kd.int .i32) 21 w' B_ (fun k_=>some k_=((.slice A0 l0.length c0):Value).ownBlock∨w.heap.size≤k_) (.slice A0 l0.length c0) r∧(∀ k_:Nat,some k_≠((.slice A0 l0.length c0):Value).ownBlock→k_<w.heap.size→w'.heap[k_]? =w.heap[k_]?)∧Below B_ w w'):=by
 unfold slices_insertionSortOrdered_rune.f at h
 have HH:=za h
 clear h
 obtain⟨P0_,HPO⟩:∃ P0_:Nat→Prop,P0_=(fun k_=>some k_≠((.slice A0 l0.length c0):Value).ownBlock):=⟨_,rfl⟩
 have HFfr:=za (MB.frK_new w (fun k_ hk_=>by rw[HPO] at hk_;exact⟨trivial,hk_⟩):Kd.F (MB.frK w P0_) w (fun k_=>True∧some k_≠((.slice A0 l0.length c0):Value).ownBlock) (some ⟨0,0,none⟩) [()].length [()])
 replace HPO:=za HPO
 have hB_:=za hB0
 have HN0:=za (Kd.N_mono hn0 (fun k_ hk_=>⟨trivial,.inl hk_⟩):Kd.N (Kd.int .i32) 21 w B_ (fun k_=>True∧(some k_=((.slice A0 l0.length c0):Value).ownBlock∨w.heap.size≤k_)) (.slice A0 l0.length c0) l0)
 clear hn0
 have HB:=za (Below.refl B_ w)
 go_enter Try.func55,Try.ntmps55
 go_wp2
 go_loopg [6] k (fun kq u6 w'=>∃ (x1:Int) (x2:List Int),u6=.int .i64 x1∧Aside0 ((slices_insertionSortOrdered_rune.l0 kq x1 x2 a1 a2 l0)=some r)∧Aside0 (kq≤k)∧Aside0 (Kd.F (MB.frK w P0_) w' (fun k_=>True∧some k_≠((.slice A0 l0.length c0):Value).ownBlock) (some ⟨0,0,none⟩) [()].length [()])∧Aside0 (Kd.N (Kd.int .i32) 21 w' B_ (fun k_=>True∧(some k_=((.slice A0 l0.length c0):Value).ownBlock∨w.heap.size≤k_)) (.slice A0 l0.length c0) x2)∧Aside0 (Below B_ w w'))
 case atStart=>exact⟨wrap64 (a1+1),l0,(by first|rfl|(simp;done)|(simp[*];done)),HH,⟨Nat.le_refl _⟩,⟨HFfr.out⟩,⟨(Kd.N_mono (ok:=(fun k_=>True∧(some k_=((.slice A0 l0.length c0):Value).ownBlock∨w.heap.size≤k_))) HN0.out (fun k_ hk_=>hk_))⟩,⟨HB.out⟩⟩
 case round=>
  clear HH
  clear HFfr HN0 HB
  obtain⟨x1,x2,rfl,HA,HK0,HFfr,HN0,HB⟩:=hrel
  obtain⟨w4,rfl⟩:∃ wo_:World,wo_=wr:=⟨_,rfl⟩
  cases gk with
  |zero=>exact absurd HA.out (by simp[slices_insertionSortOrdered_rune.l0])
  |succ k3=>
   have H:=HA.out
   clear HA
   simp only[slices_insertionSortOrdered_rune.l0] at H
   have HH:=za H
   clear H
   replace HH:=zqt HH
   rcases HH with⟨HH,hk6,hk7⟩|⟨HH,hk65,hk66⟩
   ·go_wp2
    go_loopg [7] k3 (fun kq u7 w'=>∃ (x8:Int) (x9:List Int),u7=.int .i64 x8∧Aside0 ((slices_insertionSortOrdered_rune.l1 kq x8 x9 a1 a2 l0 x1)=some r)∧Aside0 (kq≤k3)∧Aside0 (Kd.F (MB.frK w P0_) w' (fun k_=>True∧some k_≠((.slice A0 l0.length c0):Value).ownBlock) (some ⟨0,0,none⟩) [()].length [()])∧Aside0 (Kd.N (Kd.int .i32) 21 w' B_ (fun k_=>True∧(some k_=((.slice A0 l0.length c0):Value).ownBlock∨w.heap.size≤k_)) (.slice A0 l0.length c0) x9)∧Aside0 (Below B_ w w'))
    case atStart=>exact⟨x1,x2,(by first|rfl|(simp;done)|(simp[*];done)),HH,⟨Nat.le_refl _⟩,⟨HFfr.out⟩,⟨(Kd.N_mono (ok:=(fun k_=>True∧(some k_=((.slice A0 l0.length c0):Value).ownBlock∨w.heap.size≤k_))) HN0.out (fun k_ hk_=>hk_))⟩,⟨HB.out⟩⟩
    case round=>
     clear hk6
     clear hk7
     clear HH
     clear HFfr HN0 HB
     obtain⟨x8,x9,rfl,HA,HK1,HFfr,HN0,HB⟩:=hrel
     obtain⟨w11,rfl⟩:∃ wo_:World,wo_=wr:=⟨_,rfl⟩
     cases gk with
     |zero=>exact absurd HA.out (by simp[slices_insertionSortOrdered_rune.l1])
     |succ k10=>
      have H:=HA.out
      clear HA
      simp only[slices_insertionSortOrdered_rune.l1] at H
      have HH:=za H
      clear H
      replace HH:=zd HH
      obtain⟨b12,At13,HH⟩:=HH
      go_wp2
      obtain⟨R_,hR_⟩:∃ R_:Act→World→Prop,R_=(fun a_ w_=>∃ u16 u17 u18 u19 u20 u21 u22 u23 u24 u25 u26 u27 u28 u29:Value,a_=(⟨[(.slice A0 l0.length c0),(.int .i64 a1),(.int .i64 a2),undef,undef,undef,(.int .i64 x1),(.int .i64 x8),(.int .i64 a1),(.int .i64 (wrap64 (a1+1))),(.int .i64 x1),(.int .i64 a2),(.bool true),u13,u14,(.int .i64 x1),u16,u17,u18,u19,u20,u21,u22,u23,u24,u25,u26,u27,u28,u29,.bool b12,u31,u32,u33,u34,u35,u36,u37,u38,u39,u40,u41,u42,u43,u44,u45,u46,u47,u48].toArray,[]⟩:Act)∧Drawn0 w11 w_):=⟨_,rfl⟩
      replace hR_:=za hR_
      refine MS.join R_ ?_ ?_
      ·clear HH
       have HH:=At13
       clear At13
       replace HH:=zqg HH
       rcases HH with⟨HH,hk16⟩|⟨HH,hk37⟩
       ·replace HH:=zqdo HH
        obtain⟨HH,hk18⟩:=HH
        replace HH:=zqto HH
        obtain⟨HH,hk20,hk21⟩:=HH
        have p22:0≤(x8:Int):=of_decide_eq_true (by first|(with_reducible assumption)|assumption)
        have q22:x8<(l0.length:Int):=of_decide_eq_true (by first|(with_reducible assumption)|assumption)
        obtain⟨ad22,e22,hx22_0⟩:=Kd.at_int (Kd.F_now (Kd.N_F HN0.out)) x8 p22 q22
        cases e22
        replace p22:=eq_true p22
        replace q22:=eq_true q22
        replace HH:=zqdo HH
        obtain⟨HH,hk24⟩:=HH
        replace HH:=zqto HH
        obtain⟨HH,hk26,hk27⟩:=HH
        have p28:0≤((wrap64 (x8 - 1)):Int):=of_decide_eq_true (by first|(with_reducible assumption)|assumption)
        have q28:(wrap64 (x8 - 1))<(l0.length:Int):=of_decide_eq_true (by first|(with_reducible assumption)|assumption)
        obtain⟨ad28,e28,hx28_0⟩:=Kd.at_int (Kd.F_now (Kd.N_F HN0.out)) (wrap64 (x8 - 1)) p28 q28
        cases e28
        replace p28:=eq_true p28
        replace q28:=eq_true q28
        replace HH:=zd HH
        obtain⟨t29,At30,HH⟩:=HH
        go_wp2
        go_quiet ((first|(go_at_call 61;first|exact Calls.quiet_of (MW.drawn (cmp_Less_rune.calls  (rd x9 x8) (rd x9 (wrap64 (x8 - 1))) t29 _  At30.out))|exact MW.quiet_far (MW.drawn (cmp_Less_rune.calls  (rd x9 x8) (rd x9 (wrap64 (x8 - 1))) t29 _  At30.out)))))
        obtain rfl:=Option.some.inj HH.out
        go_wp2
        refine MS.Joined.mk ?_
        rw[hR_.out]
        exact⟨_,_,_,_,_,_,_,_,_,_,_,_,_,_,rfl,by repeat(first|exact Drawn0.refl _|apply Drawn0.step)⟩
       go_wp2
       go_quiet ((first|(go_at_call 61;first|exact Calls.quiet_of (MW.drawn (cmp_Less_rune.calls  (rd x9 x8) (rd x9 (wrap64 (x8 - 1))) t29 _  At30.out))|exact MW.quiet_far (MW.drawn (cmp_Less_rune.calls  (rd x9 x8) (rd x9 (wrap64 (x8 - 1))) t29 _  At30.out)))))
       obtain rfl:=Option.some.inj HH.out
       go_wp2
       refine MS.Joined.mk ?_
       rw[hR_.out]
       exact⟨_,_,_,_,_,_,_,_,_,_,_,_,_,_,rfl,by repeat(first|exact Drawn0.refl _|apply Drawn0.step)⟩
      intro a_ w14 hd_
      rw[hR_.out] at hd_
      obtain⟨u16,u17,u18,u19,u20,u21,u22,u23,u24,u25,u26,u27,u28,u29,rfl,hd_⟩:=hd_
      have hb:=MS.drawn_below hd_
      clear At13 hd_ hR_ R_
      replace HFfr:=zfb HFfr.out hb
      replace HN0:=znb HN0.out hb
      replace HB:=za (MB.below_stepB hB_.out HB.out hb)
      clear hb
      by_cases c38:b12=true
      ·replace HH:=MW.hpos HH c38
       subst c38
       go_wp2
       have hwr_:∀ n_:Int,IntKind.i64.wrap n_=wrap64 n_:=fun n_=>IntWalk.i64_left n_
       refine wp_region_any (by kernel_rfl) ?_
       change wpAny _ _ _ _ 18 #[false,false,false,false,false,false,false,false,false,false,false,false,false,false,false,false,false,false] _ w14.drew
       obtain⟨w39,hw_⟩:∃ w_:World,w_=w14.drew:=⟨_,rfl⟩
       rw[← hw_]
       have hb:Below w14.heap.size w14 w39:=by rw[hw_];exact below_drew1 (Below.refl _ _)
       clear hw_
       replace HFfr:=zfb HFfr.out hb
       replace HN0:=znb HN0.out hb
       replace HB:=za (MB.below_stepB hB_.out HB.out hb)
       clear hb
       refine zt 0 ((.slice A0 l0.length c0)) #[_,_,_,_,_,_,_,_,_,_,_,_,_,_,_,_,_,_] ⟨[_,_,_,_,_,_,_,_,_,_,_,_,_,_,_,_,_,_,_,_,_,_,_,_,_,_,_,_,_,_,_,_,_,_,_,_,_,_,_,_,_,_,_,_,_,_,_,_,_].toArray,[]⟩ (h:=?_)
       refine zt 1 (.int .i64 x8) #[_,_,_,_,_,_,_,_,_,_,_,_,_,_,_,_,_,_] ⟨[_,_,_,_,_,_,_,_,_,_,_,_,_,_,_,_,_,_,_,_,_,_,_,_,_,_,_,_,_,_,_,_,_,_,_,_,_,_,_,_,_,_,_,_,_,_,_,_,_].toArray,[]⟩ (h:=?_)
       refine zt 2 ((.slice A0 l0.length c0)) #[_,_,_,_,_,_,_,_,_,_,_,_,_,_,_,_,_,_] ⟨[_,_,_,_,_,_,_,_,_,_,_,_,_,_,_,_,_,_,_,_,_,_,_,_,_,_,_,_,_,_,_,_,_,_,_,_,_,_,_,_,_,_,_,_,_,_,_,_,_].toArray,[]⟩ (h:=?_)
       refine zt 3 (.int .i64 x8) #[_,_,_,_,_,_,_,_,_,_,_,_,_,_,_,_,_,_] ⟨[_,_,_,_,_,_,_,_,_,_,_,_,_,_,_,_,_,_,_,_,_,_,_,_,_,_,_,_,_,_,_,_,_,_,_,_,_,_,_,_,_,_,_,_,_,_,_,_,_].toArray,[]⟩ (h:=?_)
       refine zt 4 (.int .i64 (wrap64 (x8 - 1))) #[_,_,_,_,_,_,_,_,_,_,_,_,_,_,_,_,_,_] ⟨[_,_,_,_,_,_,_,_,_,_,_,_,_,_,_,_,_,_,_,_,_,_,_,_,_,_,_,_,_,_,_,_,_,_,_,_,_,_,_,_,_,_,_,_,_,_,_,_,_].toArray,[]⟩ (h:=?_)
       refine zt 5 ((.slice A0 l0.length c0)) #[_,_,_,_,_,_,_,_,_,_,_,_,_,_,_,_,_,_] ⟨[_,_,_,_,_,_,_,_,_,_,_,_,_,_,_,_,_,_,_,_,_,_,_,_,_,_,_,_,_,_,_,_,_,_,_,_,_,_,_,_,_,_,_,_,_,_,_,_,_].toArray,[]⟩ (h:=?_)
       refine zt 6 (.int .i64 x8) #[_,_,_,_,_,_,_,_,_,_,_,_,_,_,_,_,_,_] ⟨[_,_,_,_,_,_,_,_,_,_,_,_,_,_,_,_,_,_,_,_,_,_,_,_,_,_,_,_,_,_,_,_,_,_,_,_,_,_,_,_,_,_,_,_,_,_,_,_,_].toArray,[]⟩ (h:=?_)
       refine zt 7 (.int .i64 (wrap64 (x8 - 1))) #[_,_,_,_,_,_,_,_,_,_,_,_,_,_,_,_,_,_] ⟨[_,_,_,_,_,_,_,_,_,_,_,_,_,_,_,_,_,_,_,_,_,_,_,_,_,_,_,_,_,_,_,_,_,_,_,_,_,_,_,_,_,_,_,_,_,_,_,_,_].toArray,[]⟩ (h:=?_)
       replace HH:=zqdo HH
       obtain⟨HH,hk41⟩:=HH
       (try simp only[hk41,Bool.not_true,Bool.not_false])
       replace HH:=zqto HH
       obtain⟨HH,hk43,hk44⟩:=HH
       (try simp only[hk43,Bool.not_true,Bool.not_false])
       (try simp only[hk44,Bool.not_true,Bool.not_false])
       have p45:0≤((wrap64 (x8 - 1)):Int):=of_decide_eq_true (by first|(with_reducible assumption)|assumption)
       have q45:(wrap64 (x8 - 1))<(l0.length:Int):=of_decide_eq_true (by first|(with_reducible assumption)|assumption)
       obtain⟨ad45,e45,hx45_0⟩:=Kd.at_int (Kd.F_now (Kd.N_F HN0.out)) (wrap64 (x8 - 1)) p45 q45
       cases e45
       replace p45:=eq_true p45
       replace q45:=eq_true q45
       refine zt 8 (.pointer (some (ad45.add ((wrap64 (x8 - 1)).toNat)))) #[_,_,_,_,_,_,_,_,_,_,_,_,_,_,_,_,_,_] ⟨[_,_,_,_,_,_,_,_,_,_,_,_,_,_,_,_,_,_,_,_,_,_,_,_,_,_,_,_,_,_,_,_,_,_,_,_,_,_,_,_,_,_,_,_,_,_,_,_,_].toArray,[]⟩ (h:=?_)
       refine zt 10 ((.slice (some ad45) l0.length c0)) #[_,_,_,_,_,_,_,_,_,_,_,_,_,_,_,_,_,_] ⟨[_,_,_,_,_,_,_,_,_,_,_,_,_,_,_,_,_,_,_,_,_,_,_,_,_,_,_,_,_,_,_,_,_,_,_,_,_,_,_,_,_,_,_,_,_,_,_,_,_].toArray,[]⟩ (h:=?_)
       refine zt 11 (.int .i64 x8) #[_,_,_,_,_,_,_,_,_,_,_,_,_,_,_,_,_,_] ⟨[_,_,_,_,_,_,_,_,_,_,_,_,_,_,_,_,_,_,_,_,_,_,_,_,_,_,_,_,_,_,_,_,_,_,_,_,_,_,_,_,_,_,_,_,_,_,_,_,_].toArray,[]⟩ (h:=?_)
       replace HH:=zqdo HH
       obtain⟨HH,hk47⟩:=HH
       (try simp only[hk47,Bool.not_true,Bool.not_false])
       replace HH:=zqto HH
       obtain⟨HH,hk49,hk50⟩:=HH
       (try simp only[hk49,Bool.not_true,Bool.not_false])
       (try simp only[hk50,Bool.not_true,Bool.not_false])
       have p51:0≤(x8:Int):=of_decide_eq_true (by first|(with_reducible assumption)|assumption)
       have q51:x8<(l0.length:Int):=of_decide_eq_true (by first|(with_reducible assumption)|assumption)
       obtain⟨ad51,e51,hx51_0⟩:=Kd.at_int (Kd.F_now (Kd.N_F HN0.out)) x8 p51 q51
       cases e51
       replace p51:=eq_true p51
       replace q51:=eq_true q51
       refine zt 12 (.pointer (some (ad45.add (x8.toNat)))) #[_,_,_,_,_,_,_,_,_,_,_,_,_,_,_,_,_,_] ⟨[_,_,_,_,_,_,_,_,_,_,_,_,_,_,_,_,_,_,_,_,_,_,_,_,_,_,_,_,_,_,_,_,_,_,_,_,_,_,_,_,_,_,_,_,_,_,_,_,_].toArray,[]⟩ (h:=?_)
       refine MW.any_two (i:=9) (j:=13) (vi:=.int .i32 (rd x9 (wrap64 (x8 - 1)))) (vj:=.int .i32 (rd x9 x8)) #[true,true,true,true,true,true,true,true,true,true,true,true,true,true,false,false,false,false] ⟨[(.slice (some ad45) l0.length c0),(.int .i64 a1),(.int .i64 a2),undef,undef,undef,(.int .i64 x1),(.int .i64 x8),(.int .i64 a1),(.int .i64 (wrap64 (a1+1))),(.int .i64 x1),(.int .i64 a2),(.bool true),u13,u14,(.int .i64 x1),u16,u17,u18,u19,u20,u21,u22,u23,u24,u25,u26,u27,u28,u29,(.bool true),u31,u32,(.slice (some ad45) l0.length c0),(.int .i64 x8),(.slice (some ad45) l0.length c0),(.int .i64 x8),(.int .i64 (wrap64 (x8 - 1))),(.slice (some ad45) l0.length c0),(.int .i64 x8),(.int .i64 (wrap64 (x8 - 1))),(.pointer (some (ad45.add ((wrap64 (x8 - 1)).toNat)))),(.int .i32 (rd x9 (wrap64 (x8 - 1)))),(.slice (some ad45) l0.length c0),(.int .i64 x8),(.pointer (some (ad45.add (x8.toNat)))),(.int .i32 (rd x9 x8)),u47,u48].toArray,[]⟩ (by decide) rfl rfl (by kernel_rfl) (by kernel_rfl) (by kernel_rfl) (by kernel_rfl) (by kernel_rfl) (by first|rfl|(go_simp;done)|(go_simp;rfl)) (by first|rfl|(go_simp;done)|(go_simp;rfl)) (by first|rfl|(go_simp;done)|(go_simp;rfl)) (by first|rfl|(go_simp;done)|(go_simp;rfl)) (by kernel_rfl) (by kernel_rfl) (by kernel_rfl) (by kernel_rfl) (by kernel_rfl) (by kernel_rfl) ?_
       refine zt 14 (.pointer (some (ad45.add (x8.toNat)))) #[_,_,_,_,_,_,_,_,_,_,_,_,_,_,_,_,_,_] ⟨[_,_,_,_,_,_,_,_,_,_,_,_,_,_,_,_,_,_,_,_,_,_,_,_,_,_,_,_,_,_,_,_,_,_,_,_,_,_,_,_,_,_,_,_,_,_,_,_,_].toArray,[]⟩ (h:=?_)
       refine MW.any_seq 15 3 rfl (by kernel_rfl) ?_
       simp only[List.drop_succ_cons,List.drop_zero]
       clear hwr_
       obtain⟨y52,hy52⟩:∃ y_:List Int,y_=(List.set x9 x8.toNat (rd x9 (wrap64 (x8 - 1)))):=⟨_,rfl⟩
       have H:((some (List.set y52 (wrap64 (x8 - 1)).toNat (rd x9 x8):List Int)).bind fun y56=>((slices_insertionSortOrdered_rune.l1 k10 (wrap64 (x8 - 1)) y56 a1 a2 l0 x1)))=some r:=by rw[hy52];exact HH.out
       replace HH:=za H
       clear H
       have NYy52:=za hy52
       clear hy52
       go_wp2_with (((with_reducible refine gate_store (t:=21) (p:=47) rfl ?_);(try(refine gate_guard (by rfl) ?_;dsimp only));refine MW.ev_set1 (n:=l0.length) B_ rfl rfl _ _ _ rfl 21 x8 x9 (rd x9 (wrap64 (x8 - 1))) (fun k_=>True∧(some k_=((.slice (some ad45) l0.length c0):Value).ownBlock∨w.heap.size≤k_)) (by rfl) (by rfl) (by kernel_rfl) HN0.out (of_decide_eq_true (by first|(with_reducible assumption)|assumption)) (of_decide_eq_true (by first|(with_reducible assumption)|assumption)) HB.out ?_;intro w53 hn1 hb1 hg1);refine stop_ ?_)
       refine zg ?_
       replace HFfr:=za (Kd.F_grown (ok:=(fun k_=>True∧some k_≠((.slice (some ad45) l0.length c0):Value).ownBlock)) HFfr.out hg1 (fun k_ hk_=>hk_.2))
       replace HB:=za hb1
       clear HN0
       have HN54:=za (by rw[NYy52.out];exact hn1:Kd.N (Kd.int .i32) 21 w53 B_ (fun k_=>True∧(some k_=((.slice (some ad45) l0.length c0):Value).ownBlock∨w.heap.size≤k_)) (.slice (some ad45) l0.length c0) y52)
       clear hn1 hb1 hg1
       clear hx45_0 p45 q45 hx51_0 p51 q51
       have p55:0≤((wrap64 (x8 - 1)):Int):=of_decide_eq_true (by first|(with_reducible assumption)|assumption)
       have q55:(wrap64 (x8 - 1))<(l0.length:Int):=of_decide_eq_true (by first|(with_reducible assumption)|assumption)
       obtain⟨ad55,e55,hx55_0⟩:=Kd.at_int (Kd.F_now (Kd.N_F HN54.out)) (wrap64 (x8 - 1)) p55 q55
       cases e55
       replace p55:=eq_true p55
       replace q55:=eq_true q55
       obtain⟨y56,hy56⟩:∃ y_:List Int,y_=(List.set y52 (wrap64 (x8 - 1)).toNat (rd x9 x8)):=⟨_,rfl⟩
       have H:((slices_insertionSortOrdered_rune.l1 k10 (wrap64 (x8 - 1)) y56 a1 a2 l0 x1))=some r:=by rw[hy56];exact HH.out
       replace HH:=za H
       clear H
       have NYy56:=za hy56
       clear hy56
       go_wp2_with (((with_reducible refine gate_store (t:=21) (p:=48) rfl ?_);(try(refine gate_guard (by rfl) ?_;dsimp only));refine MW.ev_set1 (n:=l0.length) B_ rfl rfl _ _ _ rfl 21 (wrap64 (x8 - 1)) y52 (rd x9 x8) (fun k_=>True∧(some k_=((.slice (some ad45) l0.length c0):Value).ownBlock∨w.heap.size≤k_)) (by rfl) (by rfl) (by kernel_rfl) HN54.out (of_decide_eq_true (by first|(with_reducible assumption)|assumption)) (of_decide_eq_true (by first|(with_reducible assumption)|assumption)) HB.out ?_;intro w57 hn1 hb1 hg1);refine stop_ ?_)
       refine zg ?_
       replace HFfr:=za (Kd.F_grown (ok:=(fun k_=>True∧some k_≠((.slice (some ad45) l0.length c0):Value).ownBlock)) HFfr.out hg1 (fun k_ hk_=>hk_.2))
       replace HB:=za hb1
       clear HN54
       have HN58:=za (by rw[NYy56.out];exact hn1:Kd.N (Kd.int .i32) 21 w57 B_ (fun k_=>True∧(some k_=((.slice (some ad45) l0.length c0):Value).ownBlock∨w.heap.size≤k_)) (.slice (some ad45) l0.length c0) y56)
       clear hn1 hb1 hg1
       clear hx55_0 p55 q55
       go_wp2
       go_roundg k10
       case measure=>have:=HK0.out;have:=HK1.out;omega
       case rel=>exact⟨wrap64 (x8 - 1),y56,(by first|rfl|(simp;done)|(simp[*];done)),HH,⟨by have:=HK0.out;have:=HK1.out;omega⟩,⟨HFfr.out⟩,⟨(Kd.N_mono (ok:=(fun k_=>True∧(some k_=((.slice (some ad45) l0.length c0):Value).ownBlock∨w.heap.size≤k_))) HN58.out (fun k_ hk_=>hk_))⟩,⟨HB.out⟩⟩
      replace HH:=MW.hneg HH c38
      replace c38:=Bool.eq_false_iff.mpr c38
      subst c38
      go_wp2
      go_roundg k10
      case measure=>have:=HK0.out;have:=HK1.out;omega
      case rel=>exact⟨wrap64 (x1+1),x9,(by first|rfl|(simp;done)|(simp[*];done)),HH,⟨by have:=HK0.out;have:=HK1.out;omega⟩,⟨HFfr.out⟩,⟨(Kd.N_mono (ok:=(fun k_=>True∧(some k_=((.slice A0 l0.length c0):Value).ownBlock∨w.heap.size≤k_))) HN0.out (fun k_ hk_=>hk_))⟩,⟨HB.out⟩⟩
   obtain rfl:=Option.some.inj HH.out
   clear HH
   go_wp2
   (first|go_end0|((try simp only[Exit.inBlock,Exit.then]);refine bodyPost_ret (results_none rfl _ _ _) rfl ?_))
   exact⟨by first|rfl|(simp;done)|(simp[*];done),(Kd.N_mono (ok:=(fun k_=>True∧(some k_=((.slice A0 l0.length c0):Value).ownBlock∨w.heap.size≤k_))) HN0.out (fun k_ hk_=>hk_.2)),(fun k_ hv_ hlt_=>MB.frK_out HFfr.out k_ (by rw[HPO.out];exact hv_) hlt_),HB.out⟩

def bits_Len32.f (a0:Int):Option (Int):=if a0≥65536 then(if (a0 / 65536)≥256 then(if 0≤(((a0 / 65536) / 256) % 256) then(if (((a0 / 65536) / 256) % 256)<256 then(some (wrap64 (24+(wrap64 (bt (⟨#[0,1,2,2,3,3,3,3,4,4,4,4,4,4,4,4,5,5,5,5,5,5,5,5,5,5,5,5,5,5,5,5,6,6,6,6,6,6,6,6,6,6,6,6,6,6,6,6,6,6,6,6,6,6,6,6,6,6,6,6,6,6,6,6,7,7,7,7,7,7,7,7,7,7,7,7,7,7,7,7,7,7,7,7,7,7,7,7,7,7,7,7,7,7,7,7,7,7,7,7,7,7,7,7,7,7,7,7,7,7,7,7,7,7,7,7,7,7,7,7,7,7,7,7,7,7,7,7,8,8,8,8,8,8,8,8,8,8,8,8,8,8,8,8,8,8,8,8,8,8,8,8,8,8,8,8,8,8,8,8,8,8,8,8,8,8,8,8,8,8,8,8,8,8,8,8,8,8,8,8,8,8,8,8,8,8,8,8,8,8,8,8,8,8,8,8,8,8,8,8,8,8,8,8,8,8,8,8,8,8,8,8,8,8,8,8,8,8,8,8,8,8,8,8,8,8,8,8,8,8,8,8,8,8,8,8,8,8,8,8,8,8,8,8,8,8,8,8,8,8,8,8,8,8,8,8]⟩:ByteArray) (((a0 / 65536) / 256) % 256)))))) else(none)) else(none)) else(if 0≤((a0 / 65536) % 256) then(if ((a0 / 65536) % 256)<256 then(some (wrap64 (16+(wrap64 (bt (⟨#[0,1,2,2,3,3,3,3,4,4,4,4,4,4,4,4,5,5,5,5,5,5,5,5,5,5,5,5,5,5,5,5,6,6,6,6,6,6,6,6,6,6,6,6,6,6,6,6,6,6,6,6,6,6,6,6,6,6,6,6,6,6,6,6,7,7,7,7,7,7,7,7,7,7,7,7,7,7,7,7,7,7,7,7,7,7,7,7,7,7,7,7,7,7,7,7,7,7,7,7,7,7,7,7,7,7,7,7,7,7,7,7,7,7,7,7,7,7,7,7,7,7,7,7,7,7,7,7,8,8,8,8,8,8,8,8,8,8,8,8,8,8,8,8,8,8,8,8,8,8,8,8,8,8,8,8,8,8,8,8,8,8,8,8,8,8,8,8,8,8,8,8,8,8,8,8,8,8,8,8,8,8,8,8,8,8,8,8,8,8,8,8,8,8,8,8,8,8,8,8,8,8,8,8,8,8,8,8,8,8,8,8,8,8,8,8,8,8,8,8,8,8,8,8,8,8,8,8,8,8,8,8,8,8,8,8,8,8,8,8,8,8,8,8,8,8,8,8,8,8,8,8,8,8,8,8]⟩:ByteArray) ((a0 / 65536) % 256)))))) else(none)) else(none))) else(if a0≥256 then(if 0≤((a0 / 256) % 256) then(if ((a0 / 256) % 256)<256 then(some (wrap64 (8+(wrap64 (bt (⟨#[0,1,2,2,3,3,3,3,4,4,4,4,4,4,4,4,5,5,5,5,5,5,5,5,5,5,5,5,5,5,5,5,6,6,6,6,6,6,6,6,6,6,6,6,6,6,6,6,6,6,6,6,6,6,6,6,6,6,6,6,6,6,6,6,7,7,7,7,7,7,7,7,7,7,7,7,7,7,7,7,7,7,7,7,7,7,7,7,7,7,7,7,7,7,7,7,7,7,7,7,7,7,7,7,7,7,7,7,7,7,7,7,7,7,7,7,7,7,7,7,7,7,7,7,7,7,7,7,8,8,8,8,8,8,8,8,8,8,8,8,8,8,8,8,8,8,8,8,8,8,8,8,8,8,8,8,8,8,8,8,8,8,8,8,8,8,8,8,8,8,8,8,8,8,8,8,8,8,8,8,8,8,8,8,8,8,8,8,8,8,8,8,8,8,8,8,8,8,8,8,8,8,8,8,8,8,8,8,8,8,8,8,8,8,8,8,8,8,8,8,8,8,8,8,8,8,8,8,8,8,8,8,8,8,8,8,8,8,8,8,8,8,8,8,8,8,8,8,8,8,8,8,8,8,8,8]⟩:ByteArray) ((a0 / 256) % 256)))))) else(none)) else(none)) else(if 0≤((a0) % 256) then(if ((a0) % 256)<256 then(some (wrap64 (0+(wrap64 (bt (⟨#[0,1,2,2,3,3,3,3,4,4,4,4,4,4,4,4,5,5,5,5,5,5,5,5,5,5,5,5,5,5,5,5,6,6,6,6,6,6,6,6,6,6,6,6,6,6,6,6,6,6,6,6,6,6,6,6,6,6,6,6,6,6,6,6,7,7,7,7,7,7,7,7,7,7,7,7,7,7,7,7,7,7,7,7,7,7,7,7,7,7,7,7,7,7,7,7,7,7,7,7,7,7,7,7,7,7,7,7,7,7,7,7,7,7,7,7,7,7,7,7,7,7,7,7,7,7,7,7,8,8,8,8,8,8,8,8,8,8,8,8,8,8,8,8,8,8,8,8,8,8,8,8,8,8,8,8,8,8,8,8,8,8,8,8,8,8,8,8,8,8,8,8,8,8,8,8,8,8,8,8,8,8,8,8,8,8,8,8,8,8,8,8,8,8,8,8,8,8,8,8,8,8,8,8,8,8,8,8,8,8,8,8,8,8,8,8,8,8,8,8,8,8,8,8,8,8,8,8,8,8,8,8,8,8,8,8,8,8,8,8,8,8,8,8,8,8,8,8,8,8,8,8,8,8,8,8]⟩:ByteArray) ((a0) % 256)))))) else(none)) else(none)))
set_option maxHeartbeats 8000000 in
set_option maxRecDepth 100000 in
theorem bits_Len32.calls (a0:Int) (r:Int) (w:World) (h:bits_Len32.f a0=some r):
  Calls Try.prog 64 #[.int .u32 a0] w (fun e w'=>e=.returned (.int .i64 r)∧Drawn0 w w'):=by
 unfold bits_Len32.f at h
 have HH:=za h
 clear h
 go_enter Try.func64,Try.ntmps64
 replace HH:=zqG HH
 rcases HH with⟨HH,hk2⟩|⟨HH,hk24⟩
 ·replace HH:=zqG HH
  rcases HH with⟨HH,hk4⟩|⟨HH,hk14⟩
  ·replace HH:=zqdo HH
   obtain⟨HH,hk6⟩:=HH
   replace HH:=zqto HH
   obtain⟨HH,hk8,hk9⟩:=HH
   have p10:0≤((((a0 / 65536) / 256) % 256):Int):=of_decide_eq_true (by first|(with_reducible assumption)|assumption)
   have q10:(((a0 / 65536) / 256) % 256)<(256:Int):=of_decide_eq_true (by first|(with_reducible assumption)|assumption)
   have hx10:=MW.bt_at' (⟨#[0,1,2,2,3,3,3,3,4,4,4,4,4,4,4,4,5,5,5,5,5,5,5,5,5,5,5,5,5,5,5,5,6,6,6,6,6,6,6,6,6,6,6,6,6,6,6,6,6,6,6,6,6,6,6,6,6,6,6,6,6,6,6,6,7,7,7,7,7,7,7,7,7,7,7,7,7,7,7,7,7,7,7,7,7,7,7,7,7,7,7,7,7,7,7,7,7,7,7,7,7,7,7,7,7,7,7,7,7,7,7,7,7,7,7,7,7,7,7,7,7,7,7,7,7,7,7,7,8,8,8,8,8,8,8,8,8,8,8,8,8,8,8,8,8,8,8,8,8,8,8,8,8,8,8,8,8,8,8,8,8,8,8,8,8,8,8,8,8,8,8,8,8,8,8,8,8,8,8,8,8,8,8,8,8,8,8,8,8,8,8,8,8,8,8,8,8,8,8,8,8,8,8,8,8,8,8,8,8,8,8,8,8,8,8,8,8,8,8,8,8,8,8,8,8,8,8,8,8,8,8,8,8,8,8,8,8,8,8,8,8,8,8,8,8,8,8,8,8,8,8,8,8,8,8,8]⟩:ByteArray) (((a0 / 65536) / 256) % 256)
   replace p10:=eq_true p10
   replace q10:=eq_true q10
   obtain rfl:=Option.some.inj HH.out
   clear HH
   go_wp2
   go_ret
   exact⟨by first|rfl|(simp;done)|(simp[*];done),by repeat(first|exact Drawn0.refl _|apply Drawn0.step)⟩
  replace HH:=zqdo HH
  obtain⟨HH,hk16⟩:=HH
  replace HH:=zqto HH
  obtain⟨HH,hk18,hk19⟩:=HH
  have p20:0≤(((a0 / 65536) % 256):Int):=of_decide_eq_true (by first|(with_reducible assumption)|assumption)
  have q20:((a0 / 65536) % 256)<(256:Int):=of_decide_eq_true (by first|(with_reducible assumption)|assumption)
  have hx20:=MW.bt_at' (⟨#[0,1,2,2,3,3,3,3,4,4,4,4,4,4,4,4,5,5,5,5,5,5,5,5,5,5,5,5,5,5,5,5,6,6,6,6,6,6,6,6,6,6,6,6,6,6,6,6,6,6,6,6,6,6,6,6,6,6,6,6,6,6,6,6,7,7,7,7,7,7,7,7,7,7,7,7,7,7,7,7,7,7,7,7,7,7,7,7,7,7,7,7,7,7,7,7,7,7,7,7,7,7,7,7,7,7,7,7,7,7,7,7,7,7,7,7,7,7,7,7,7,7,7,7,7,7,7,7,8,8,8,8,8,8,8,8,8,8,8,8,8,8,8,8,8,8,8,8,8,8,8,8,8,8,8,8,8,8,8,8,8,8,8,8,8,8,8,8,8,8,8,8,8,8,8,8,8,8,8,8,8,8,8,8,8,8,8,8,8,8,8,8,8,8,8,8,8,8,8,8,8,8,8,8,8,8,8,8,8,8,8,8,8,8,8,8,8,8,8,8,8,8,8,8,8,8,8,8,8,8,8,8,8,8,8,8,8,8,8,8,8,8,8,8,8,8,8,8,8,8,8,8,8,8,8,8]⟩:ByteArray) ((a0 / 65536) % 256)
  replace p20:=eq_true p20
  replace q20:=eq_true q20
  obtain rfl:=Option.some.inj HH.out
  clear HH
  go_wp2
  go_ret
  exact⟨by first|rfl|(simp;done)|(simp[*];done),by repeat(first|exact Drawn0.refl _|apply Drawn0.step)⟩
 replace HH:=zqG HH
 rcases HH with⟨HH,hk26⟩|⟨HH,hk36⟩
 ·replace HH:=zqdo HH
  obtain⟨HH,hk28⟩:=HH
  replace HH:=zqto HH
  obtain⟨HH,hk30,hk31⟩:=HH
  have p32:0≤(((a0 / 256) % 256):Int):=of_decide_eq_true (by first|(with_reducible assumption)|assumption)
  have q32:((a0 / 256) % 256)<(256:Int):=of_decide_eq_true (by first|(with_reducible assumption)|assumption)
  have hx32:=MW.bt_at' (⟨#[0,1,2,2,3,3,3,3,4,4,4,4,4,4,4,4,5,5,5,5,5,5,5,5,5,5,5,5,5,5,5,5,6,6,6,6,6,6,6,6,6,6,6,6,6,6,6,6,6,6,6,6,6,6,6,6,6,6,6,6,6,6,6,6,7,7,7,7,7,7,7,7,7,7,7,7,7,7,7,7,7,7,7,7,7,7,7,7,7,7,7,7,7,7,7,7,7,7,7,7,7,7,7,7,7,7,7,7,7,7,7,7,7,7,7,7,7,7,7,7,7,7,7,7,7,7,7,7,8,8,8,8,8,8,8,8,8,8,8,8,8,8,8,8,8,8,8,8,8,8,8,8,8,8,8,8,8,8,8,8,8,8,8,8,8,8,8,8,8,8,8,8,8,8,8,8,8,8,8,8,8,8,8,8,8,8,8,8,8,8,8,8,8,8,8,8,8,8,8,8,8,8,8,8,8,8,8,8,8,8,8,8,8,8,8,8,8,8,8,8,8,8,8,8,8,8,8,8,8,8,8,8,8,8,8,8,8,8,8,8,8,8,8,8,8,8,8,8,8,8,8,8,8,8,8,8]⟩:ByteArray) ((a0 / 256) % 256)
  replace p32:=eq_true p32
  replace q32:=eq_true q32
  obtain rfl:=Option.some.inj HH.out
  clear HH
  go_wp2
  go_ret
  exact⟨by first|rfl|(simp;done)|(simp[*];done),by repeat(first|exact Drawn0.refl _|apply Drawn0.step)⟩
 replace HH:=zqdo HH
 obtain⟨HH,hk38⟩:=HH
 replace HH:=zqto HH
 obtain⟨HH,hk40,hk41⟩:=HH
 have p42:0≤(((a0) % 256):Int):=of_decide_eq_true (by first|(with_reducible assumption)|assumption)
 have q42:((a0) % 256)<(256:Int):=of_decide_eq_true (by first|(with_reducible assumption)|assumption)
 have hx42:=MW.bt_at' (⟨#[0,1,2,2,3,3,3,3,4,4,4,4,4,4,4,4,5,5,5,5,5,5,5,5,5,5,5,5,5,5,5,5,6,6,6,6,6,6,6,6,6,6,6,6,6,6,6,6,6,6,6,6,6,6,6,6,6,6,6,6,6,6,6,6,7,7,7,7,7,7,7,7,7,7,7,7,7,7,7,7,7,7,7,7,7,7,7,7,7,7,7,7,7,7,7,7,7,7,7,7,7,7,7,7,7,7,7,7,7,7,7,7,7,7,7,7,7,7,7,7,7,7,7,7,7,7,7,7,8,8,8,8,8,8,8,8,8,8,8,8,8,8,8,8,8,8,8,8,8,8,8,8,8,8,8,8,8,8,8,8,8,8,8,8,8,8,8,8,8,8,8,8,8,8,8,8,8,8,8,8,8,8,8,8,8,8,8,8,8,8,8,8,8,8,8,8,8,8,8,8,8,8,8,8,8,8,8,8,8,8,8,8,8,8,8,8,8,8,8,8,8,8,8,8,8,8,8,8,8,8,8,8,8,8,8,8,8,8,8,8,8,8,8,8,8,8,8,8,8,8,8,8,8,8,8,8]⟩:ByteArray) ((a0) % 256)
 replace p42:=eq_true p42
 replace q42:=eq_true q42
 obtain rfl:=Option.some.inj HH.out
 clear HH
 go_wp2
 go_ret
 exact⟨by first|rfl|(simp;done)|(simp[*];done),by repeat(first|exact Drawn0.refl _|apply Drawn0.step)⟩

def bits_Len64.f (a0:Int):Option (Int):=if a0≥4294967296 then(if (a0 / 4294967296)≥65536 then(if ((a0 / 4294967296) / 65536)≥256 then(if 0≤((((a0 / 4294967296) / 65536) / 256) % 256) then(if ((((a0 / 4294967296) / 65536) / 256) % 256)<256 then(some (wrap64 (56+(wrap64 (bt (⟨#[0,1,2,2,3,3,3,3,4,4,4,4,4,4,4,4,5,5,5,5,5,5,5,5,5,5,5,5,5,5,5,5,6,6,6,6,6,6,6,6,6,6,6,6,6,6,6,6,6,6,6,6,6,6,6,6,6,6,6,6,6,6,6,6,7,7,7,7,7,7,7,7,7,7,7,7,7,7,7,7,7,7,7,7,7,7,7,7,7,7,7,7,7,7,7,7,7,7,7,7,7,7,7,7,7,7,7,7,7,7,7,7,7,7,7,7,7,7,7,7,7,7,7,7,7,7,7,7,8,8,8,8,8,8,8,8,8,8,8,8,8,8,8,8,8,8,8,8,8,8,8,8,8,8,8,8,8,8,8,8,8,8,8,8,8,8,8,8,8,8,8,8,8,8,8,8,8,8,8,8,8,8,8,8,8,8,8,8,8,8,8,8,8,8,8,8,8,8,8,8,8,8,8,8,8,8,8,8,8,8,8,8,8,8,8,8,8,8,8,8,8,8,8,8,8,8,8,8,8,8,8,8,8,8,8,8,8,8,8,8,8,8,8,8,8,8,8,8,8,8,8,8,8,8,8,8]⟩:ByteArray) ((((a0 / 4294967296) / 65536) / 256) % 256)))))) else(none)) else(none)) else(if 0≤(((a0 / 4294967296) / 65536) % 256) then(if (((a0 / 4294967296) / 65536) % 256)<256 then(some (wrap64 (48+(wrap64 (bt (⟨#[0,1,2,2,3,3,3,3,4,4,4,4,4,4,4,4,5,5,5,5,5,5,5,5,5,5,5,5,5,5,5,5,6,6,6,6,6,6,6,6,6,6,6,6,6,6,6,6,6,6,6,6,6,6,6,6,6,6,6,6,6,6,6,6,7,7,7,7,7,7,7,7,7,7,7,7,7,7,7,7,7,7,7,7,7,7,7,7,7,7,7,7,7,7,7,7,7,7,7,7,7,7,7,7,7,7,7,7,7,7,7,7,7,7,7,7,7,7,7,7,7,7,7,7,7,7,7,7,8,8,8,8,8,8,8,8,8,8,8,8,8,8,8,8,8,8,8,8,8,8,8,8,8,8,8,8,8,8,8,8,8,8,8,8,8,8,8,8,8,8,8,8,8,8,8,8,8,8,8,8,8,8,8,8,8,8,8,8,8,8,8,8,8,8,8,8,8,8,8,8,8,8,8,8,8,8,8,8,8,8,8,8,8,8,8,8,8,8,8,8,8,8,8,8,8,8,8,8,8,8,8,8,8,8,8,8,8,8,8,8,8,8,8,8,8,8,8,8,8,8,8,8,8,8,8,8]⟩:ByteArray) (((a0 / 4294967296) / 65536) % 256)))))) else(none)) else(none))) else(if (a0 / 4294967296)≥256 then(if 0≤(((a0 / 4294967296) / 256) % 256) then(if (((a0 / 4294967296) / 256) % 256)<256 then(some (wrap64 (40+(wrap64 (bt (⟨#[0,1,2,2,3,3,3,3,4,4,4,4,4,4,4,4,5,5,5,5,5,5,5,5,5,5,5,5,5,5,5,5,6,6,6,6,6,6,6,6,6,6,6,6,6,6,6,6,6,6,6,6,6,6,6,6,6,6,6,6,6,6,6,6,7,7,7,7,7,7,7,7,7,7,7,7,7,7,7,7,7,7,7,7,7,7,7,7,7,7,7,7,7,7,7,7,7,7,7,7,7,7,7,7,7,7,7,7,7,7,7,7,7,7,7,7,7,7,7,7,7,7,7,7,7,7,7,7,8,8,8,8,8,8,8,8,8,8,8,8,8,8,8,8,8,8,8,8,8,8,8,8,8,8,8,8,8,8,8,8,8,8,8,8,8,8,8,8,8,8,8,8,8,8,8,8,8,8,8,8,8,8,8,8,8,8,8,8,8,8,8,8,8,8,8,8,8,8,8,8,8,8,8,8,8,8,8,8,8,8,8,8,8,8,8,8,8,8,8,8,8,8,8,8,8,8,8,8,8,8,8,8,8,8,8,8,8,8,8,8,8,8,8,8,8,8,8,8,8,8,8,8,8,8,8,8]⟩:ByteArray) (((a0 / 4294967296) / 256) % 256)))))) else(none)) else(none)) else(if 0≤((a0 / 4294967296) % 256) then(if ((a0 / 4294967296) % 256)<256 then(some (wrap64 (32+(wrap64 (bt (⟨#[0,1,2,2,3,3,3,3,4,4,4,4,4,4,4,4,5,5,5,5,5,5,5,5,5,5,5,5,5,5,5,5,6,6,6,6,6,6,6,6,6,6,6,6,6,6,6,6,6,6,6,6,6,6,6,6,6,6,6,6,6,6,6,6,7,7,7,7,7,7,7,7,7,7,7,7,7,7,7,7,7,7,7,7,7,7,7,7,7,7,7,7,7,7,7,7,7,7,7,7,7,7,7,7,7,7,7,7,7,7,7,7,7,7,7,7,7,7,7,7,7,7,7,7,7,7,7,7,8,8,8,8,8,8,8,8,8,8,8,8,8,8,8,8,8,8,8,8,8,8,8,8,8,8,8,8,8,8,8,8,8,8,8,8,8,8,8,8,8,8,8,8,8,8,8,8,8,8,8,8,8,8,8,8,8,8,8,8,8,8,8,8,8,8,8,8,8,8,8,8,8,8,8,8,8,8,8,8,8,8,8,8,8,8,8,8,8,8,8,8,8,8,8,8,8,8,8,8,8,8,8,8,8,8,8,8,8,8,8,8,8,8,8,8,8,8,8,8,8,8,8,8,8,8,8,8]⟩:ByteArray) ((a0 / 4294967296) % 256)))))) else(none)) else(none)))) else(if a0≥65536 then(if (a0 / 65536)≥256 then(if 0≤(((a0 / 65536) / 256) % 256) then(if (((a0 / 65536) / 256) % 256)<256 then(some (wrap64 (24+(wrap64 (bt (⟨#[0,1,2,2,3,3,3,3,4,4,4,4,4,4,4,4,5,5,5,5,5,5,5,5,5,5,5,5,5,5,5,5,6,6,6,6,6,6,6,6,6,6,6,6,6,6,6,6,6,6,6,6,6,6,6,6,6,6,6,6,6,6,6,6,7,7,7,7,7,7,7,7,7,7,7,7,7,7,7,7,7,7,7,7,7,7,7,7,7,7,7,7,7,7,7,7,7,7,7,7,7,7,7,7,7,7,7,7,7,7,7,7,7,7,7,7,7,7,7,7,7,7,7,7,7,7,7,7,8,8,8,8,8,8,8,8,8,8,8,8,8,8,8,8,8,8,8,8,8,8,8,8,8,8,8,8,8,8,8,8,8,8,8,8,8,8,8,8,8,8,8,8,8,8,8,8,8,8,8,8,8,8,8,8,8,8,8,8,8,8,8,8,8,8,8,8,8,8,8,8,8,8,8,8,8,8,8,8,8,8,8,8,8,8,8,8,8,8,8,8,8,8,8,8,8,8,8,8,8,8,8,8,8,8,8,8,8,8,8,8,8,8,8,8,8,8,8,8,8,8,8,8,8,8,8,8]⟩:ByteArray) (((a0 / 65536) / 256) % 256)))))) else(none)) else(none)) else(if 0≤((a0 / 65536) % 256) then(if ((a0 / 65536) % 256)<256 then(some (wrap64 (16+(wrap64 (bt (⟨#[0,1,2,2,3,3,3,3,4,4,4,4,4,4,4,4,5,5,5,5,5,5,5,5,5,5,5,5,5,5,5,5,6,6,6,6,6,6,6,6,6,6,6,6,6,6,6,6,6,6,6,6,6,6,6,6,6,6,6,6,6,6,6,6,7,7,7,7,7,7,7,7,7,7,7,7,7,7,7,7,7,7,7,7,7,7,7,7,7,7,7,7,7,7,7,7,7,7,7,7,7,7,7,7,7,7,7,7,7,7,7,7,7,7,7,7,7,7,7,7,7,7,7,7,7,7,7,7,8,8,8,8,8,8,8,8,8,8,8,8,8,8,8,8,8,8,8,8,8,8,8,8,8,8,8,8,8,8,8,8,8,8,8,8,8,8,8,8,8,8,8,8,8,8,8,8,8,8,8,8,8,8,8,8,8,8,8,8,8,8,8,8,8,8,8,8,8,8,8,8,8,8,8,8,8,8,8,8,8,8,8,8,8,8,8,8,8,8,8,8,8,8,8,8,8,8,8,8,8,8,8,8,8,8,8,8,8,8,8,8,8,8,8,8,8,8,8,8,8,8,8,8,8,8,8,8]⟩:ByteArray) ((a0 / 65536) % 256)))))) else(none)) else(none))) else(if a0≥256 then(if 0≤((a0 / 256) % 256) then(if ((a0 / 256) % 256)<256 then(some (wrap64 (8+(wrap64 (bt (⟨#[0,1,2,2,3,3,3,3,4,4,4,4,4,4,4,4,5,5,5,5,5,5,5,5,5,5,5,5,5,5,5,5,6,6,6,6,6,6,6,6,6,6,6,6,6,6,6,6,6,6,6,6,6,6,6,6,6,6,6,6,6,6,6,6,7,7,7,7,7,7,7,7,7,7,7,7,7,7,7,7,7,7,7,7,7,7,7,7,7,7,7,7,7,7,7,7,7,7,7,7,7,7,7,7,7,7,7,7,7,7,7,7,7,7,7,7,7,7,7,7,7,7,7,7,7,7,7,7,8,8,8,8,8,8,8,8,8,8,8,8,8,8,8,8,8,8,8,8,8,8,8,8,8,8,8,8,8,8,8,8,8,8,8,8,8,8,8,8,8,8,8,8,8,8,8,8,8,8,8,8,8,8,8,8,8,8,8,8,8,8,8,8,8,8,8,8,8,8,8,8,8,8,8,8,8,8,8,8,8,8,8,8,8,8,8,8,8,8,8,8,8,8,8,8,8,8,8,8,8,8,8,8,8,8,8,8,8,8,8,8,8,8,8,8,8,8,8,8,8,8,8,8,8,8,8,8]⟩:ByteArray) ((a0 / 256) % 256)))))) else(none)) else(none)) else(if 0≤((a0) % 256) then(if ((a0) % 256)<256 then(some (wrap64 (0+(wrap64 (bt (⟨#[0,1,2,2,3,3,3,3,4,4,4,4,4,4,4,4,5,5,5,5,5,5,5,5,5,5,5,5,5,5,5,5,6,6,6,6,6,6,6,6,6,6,6,6,6,6,6,6,6,6,6,6,6,6,6,6,6,6,6,6,6,6,6,6,7,7,7,7,7,7,7,7,7,7,7,7,7,7,7,7,7,7,7,7,7,7,7,7,7,7,7,7,7,7,7,7,7,7,7,7,7,7,7,7,7,7,7,7,7,7,7,7,7,7,7,7,7,7,7,7,7,7,7,7,7,7,7,7,8,8,8,8,8,8,8,8,8,8,8,8,8,8,8,8,8,8,8,8,8,8,8,8,8,8,8,8,8,8,8,8,8,8,8,8,8,8,8,8,8,8,8,8,8,8,8,8,8,8,8,8,8,8,8,8,8,8,8,8,8,8,8,8,8,8,8,8,8,8,8,8,8,8,8,8,8,8,8,8,8,8,8,8,8,8,8,8,8,8,8,8,8,8,8,8,8,8,8,8,8,8,8,8,8,8,8,8,8,8,8,8,8,8,8,8,8,8,8,8,8,8,8,8,8,8,8,8]⟩:ByteArray) ((a0) % 256)))))) else(none)) else(none))))
set_option maxHeartbeats 8000000 in
set_option maxRecDepth 100000 in
theorem bits_Len64.calls (a0:Int) (r:Int) (w:World) (h:bits_Len64.f a0=some r):
  Calls Try.prog 65 #[.int .u64 a0] w (fun e w'=>e=.returned (.int .i64 r)∧Drawn0 w w'):=by
 unfold bits_Len64.f at h
 have HH:=za h
 clear h
 go_enter Try.func65,Try.ntmps65
 replace HH:=zqG HH
 rcases HH with⟨HH,hk2⟩|⟨HH,hk48⟩
 ·replace HH:=zqG HH
  rcases HH with⟨HH,hk4⟩|⟨HH,hk26⟩
  ·replace HH:=zqG HH
   rcases HH with⟨HH,hk6⟩|⟨HH,hk16⟩
   ·replace HH:=zqdo HH
    obtain⟨HH,hk8⟩:=HH
    replace HH:=zqto HH
    obtain⟨HH,hk10,hk11⟩:=HH
    have p12:0≤(((((a0 / 4294967296) / 65536) / 256) % 256):Int):=of_decide_eq_true (by first|(with_reducible assumption)|assumption)
    have q12:((((a0 / 4294967296) / 65536) / 256) % 256)<(256:Int):=of_decide_eq_true (by first|(with_reducible assumption)|assumption)
    have hx12:=MW.bt_at' (⟨#[0,1,2,2,3,3,3,3,4,4,4,4,4,4,4,4,5,5,5,5,5,5,5,5,5,5,5,5,5,5,5,5,6,6,6,6,6,6,6,6,6,6,6,6,6,6,6,6,6,6,6,6,6,6,6,6,6,6,6,6,6,6,6,6,7,7,7,7,7,7,7,7,7,7,7,7,7,7,7,7,7,7,7,7,7,7,7,7,7,7,7,7,7,7,7,7,7,7,7,7,7,7,7,7,7,7,7,7,7,7,7,7,7,7,7,7,7,7,7,7,7,7,7,7,7,7,7,7,8,8,8,8,8,8,8,8,8,8,8,8,8,8,8,8,8,8,8,8,8,8,8,8,8,8,8,8,8,8,8,8,8,8,8,8,8,8,8,8,8,8,8,8,8,8,8,8,8,8,8,8,8,8,8,8,8,8,8,8,8,8,8,8,8,8,8,8,8,8,8,8,8,8,8,8,8,8,8,8,8,8,8,8,8,8,8,8,8,8,8,8,8,8,8,8,8,8,8,8,8,8,8,8,8,8,8,8,8,8,8,8,8,8,8,8,8,8,8,8,8,8,8,8,8,8,8,8]⟩:ByteArray) ((((a0 / 4294967296) / 65536) / 256) % 256)
    replace p12:=eq_true p12
    replace q12:=eq_true q12
    obtain rfl:=Option.some.inj HH.out
    clear HH
    go_wp2
    go_ret
    exact⟨by first|rfl|(simp;done)|(simp[*];done),by repeat(first|exact Drawn0.refl _|apply Drawn0.step)⟩
   replace HH:=zqdo HH
   obtain⟨HH,hk18⟩:=HH
   replace HH:=zqto HH
   obtain⟨HH,hk20,hk21⟩:=HH
   have p22:0≤((((a0 / 4294967296) / 65536) % 256):Int):=of_decide_eq_true (by first|(with_reducible assumption)|assumption)
   have q22:(((a0 / 4294967296) / 65536) % 256)<(256:Int):=of_decide_eq_true (by first|(with_reducible assumption)|assumption)
   have hx22:=MW.bt_at' (⟨#[0,1,2,2,3,3,3,3,4,4,4,4,4,4,4,4,5,5,5,5,5,5,5,5,5,5,5,5,5,5,5,5,6,6,6,6,6,6,6,6,6,6,6,6,6,6,6,6,6,6,6,6,6,6,6,6,6,6,6,6,6,6,6,6,7,7,7,7,7,7,7,7,7,7,7,7,7,7,7,7,7,7,7,7,7,7,7,7,7,7,7,7,7,7,7,7,7,7,7,7,7,7,7,7,7,7,7,7,7,7,7,7,7,7,7,7,7,7,7,7,7,7,7,7,7,7,7,7,8,8,8,8,8,8,8,8,8,8,8,8,8,8,8,8,8,8,8,8,8,8,8,8,8,8,8,8,8,8,8,8,8,8,8,8,8,8,8,8,8,8,8,8,8,8,8,8,8,8,8,8,8,8,8,8,8,8,8,8,8,8,8,8,8,8,8,8,8,8,8,8,8,8,8,8,8,8,8,8,8,8,8,8,8,8,8,8,8,8,8,8,8,8,8,8,8,8,8,8,8,8,8,8,8,8,8,8,8,8,8,8,8,8,8,8,8,8,8,8,8,8,8,8,8,8,8,8]⟩:ByteArray) (((a0 / 4294967296) / 65536) % 256)
   replace p22:=eq_true p22
   replace q22:=eq_true q22
   obtain rfl:=Option.some.inj HH.out
   clear HH
   go_wp2
   go_ret
   exact⟨by first|rfl|(simp;done)|(simp[*];done),by repeat(first|exact Drawn0.refl _|apply Drawn0.step)⟩
  replace HH:=zqG HH
  rcases HH with⟨HH,hk28⟩|⟨HH,hk38⟩
  ·replace HH:=zqdo HH
   obtain⟨HH,hk30⟩:=HH
   replace HH:=zqto HH
   obtain⟨HH,hk32,hk33⟩:=HH
   have p34:0≤((((a0 / 4294967296) / 256) % 256):Int):=of_decide_eq_true (by first|(with_reducible assumption)|assumption)
   have q34:(((a0 / 4294967296) / 256) % 256)<(256:Int):=of_decide_eq_true (by first|(with_reducible assumption)|assumption)
   have hx34:=MW.bt_at' (⟨#[0,1,2,2,3,3,3,3,4,4,4,4,4,4,4,4,5,5,5,5,5,5,5,5,5,5,5,5,5,5,5,5,6,6,6,6,6,6,6,6,6,6,6,6,6,6,6,6,6,6,6,6,6,6,6,6,6,6,6,6,6,6,6,6,7,7,7,7,7,7,7,7,7,7,7,7,7,7,7,7,7,7,7,7,7,7,7,7,7,7,7,7,7,7,7,7,7,7,7,7,7,7,7,7,7,7,7,7,7,7,7,7,7,7,7,7,7,7,7,7,7,7,7,7,7,7,7,7,8,8,8,8,8,8,8,8,8,8,8,8,8,8,8,8,8,8,8,8,8,8,8,8,8,8,8,8,8,8,8,8,8,8,8,8,8,8,8,8,8,8,8,8,8,8,8,8,8,8,8,8,8,8,8,8,8,8,8,8,8,8,8,8,8,8,8,8,8,8,8,8,8,8,8,8,8,8,8,8,8,8,8,8,8,8,8,8,8,8,8,8,8,8,8,8,8,8,8,8,8,8,8,8,8,8,8,8,8,8,8,8,8,8,8,8,8,8,8,8,8,8,8,8,8,8,8,8]⟩:ByteArray) (((a0 / 4294967296) / 256) % 256)
   replace p34:=eq_true p34
   replace q34:=eq_true q34
   obtain rfl:=Option.some.inj HH.out
   clear HH
   go_wp2
   go_ret
   exact⟨by first|rfl|(simp;done)|(simp[*];done),by repeat(first|exact Drawn0.refl _|apply Drawn0.step)⟩
  replace HH:=zqdo HH
  obtain⟨HH,hk40⟩:=HH
  replace HH:=zqto HH
  obtain⟨HH,hk42,hk43⟩:=HH
  have p44:0≤(((a0 / 4294967296) % 256):Int):=of_decide_eq_true (by first|(with_reducible assumption)|assumption)
  have q44:((a0 / 4294967296) % 256)<(256:Int):=of_decide_eq_true (by first|(with_reducible assumption)|assumption)
  have hx44:=MW.bt_at' (⟨#[0,1,2,2,3,3,3,3,4,4,4,4,4,4,4,4,5,5,5,5,5,5,5,5,5,5,5,5,5,5,5,5,6,6,6,6,6,6,6,6,6,6,6,6,6,6,6,6,6,6,6,6,6,6,6,6,6,6,6,6,6,6,6,6,7,7,7,7,7,7,7,7,7,7,7,7,7,7,7,7,7,7,7,7,7,7,7,7,7,7,7,7,7,7,7,7,7,7,7,7,7,7,7,7,7,7,7,7,7,7,7,7,7,7,7,7,7,7,7,7,7,7,7,7,7,7,7,7,8,8,8,8,8,8,8,8,8,8,8,8,8,8,8,8,8,8,8,8,8,8,8,8,8,8,8,8,8,8,8,8,8,8,8,8,8,8,8,8,8,8,8,8,8,8,8,8,8,8,8,8,8,8,8,8,8,8,8,8,8,8,8,8,8,8,8,8,8,8,8,8,8,8,8,8,8,8,8,8,8,8,8,8,8,8,8,8,8,8,8,8,8,8,8,8,8,8,8,8,8,8,8,8,8,8,8,8,8,8,8,8,8,8,8,8,8,8,8,8,8,8,8,8,8,8,8,8]⟩:ByteArray) ((a0 / 4294967296) % 256)
  replace p44:=eq_true p44
  replace q44:=eq_true q44
  obtain rfl:=Option.some.inj HH.out
  clear HH
  go_wp2
  go_ret
  exact⟨by first|rfl|(simp;done)|(simp[*];done),by repeat(first|exact Drawn0.refl _|apply Drawn0.step)⟩
 replace HH:=zqG HH
 rcases HH with⟨HH,hk50⟩|⟨HH,hk72⟩
 ·replace HH:=zqG HH
  rcases HH with⟨HH,hk52⟩|⟨HH,hk62⟩
  ·replace HH:=zqdo HH
   obtain⟨HH,hk54⟩:=HH
   replace HH:=zqto HH
   obtain⟨HH,hk56,hk57⟩:=HH
   have p58:0≤((((a0 / 65536) / 256) % 256):Int):=of_decide_eq_true (by first|(with_reducible assumption)|assumption)
   have q58:(((a0 / 65536) / 256) % 256)<(256:Int):=of_decide_eq_true (by first|(with_reducible assumption)|assumption)
   have hx58:=MW.bt_at' (⟨#[0,1,2,2,3,3,3,3,4,4,4,4,4,4,4,4,5,5,5,5,5,5,5,5,5,5,5,5,5,5,5,5,6,6,6,6,6,6,6,6,6,6,6,6,6,6,6,6,6,6,6,6,6,6,6,6,6,6,6,6,6,6,6,6,7,7,7,7,7,7,7,7,7,7,7,7,7,7,7,7,7,7,7,7,7,7,7,7,7,7,7,7,7,7,7,7,7,7,7,7,7,7,7,7,7,7,7,7,7,7,7,7,7,7,7,7,7,7,7,7,7,7,7,7,7,7,7,7,8,8,8,8,8,8,8,8,8,8,8,8,8,8,8,8,8,8,8,8,8,8,8,8,8,8,8,8,8,8,8,8,8,8,8,8,8,8,8,8,8,8,8,8,8,8,8,8,8,8,8,8,8,8,8,8,8,8,8,8,8,8,8,8,8,8,8,8,8,8,8,8,8,8,8,8,8,8,8,8,8,8,8,8,8,8,8,8,8,8,8,8,8,8,8,8,8,8,8,8,8,8,8,8,8,8,8,8,8,8,8,8,8,8,8,8,8,8,8,8,8,8,8,8,8,8,8,8]⟩:ByteArray) (((a0 / 65536) / 256) % 256)
   replace p58:=eq_true p58
   replace q58:=eq_true q58
   obtain rfl:=Option.some.inj HH.out
   clear HH
   go_wp2
   go_ret
   exact⟨by first|rfl|(simp;done)|(simp[*];done),by repeat(first|exact Drawn0.refl _|apply Drawn0.step)⟩
  replace HH:=zqdo HH
  obtain⟨HH,hk64⟩:=HH
  replace HH:=zqto HH
  obtain⟨HH,hk66,hk67⟩:=HH
  have p68:0≤(((a0 / 65536) % 256):Int):=of_decide_eq_true (by first|(with_reducible assumption)|assumption)
  have q68:((a0 / 65536) % 256)<(256:Int):=of_decide_eq_true (by first|(with_reducible assumption)|assumption)
  have hx68:=MW.bt_at' (⟨#[0,1,2,2,3,3,3,3,4,4,4,4,4,4,4,4,5,5,5,5,5,5,5,5,5,5,5,5,5,5,5,5,6,6,6,6,6,6,6,6,6,6,6,6,6,6,6,6,6,6,6,6,6,6,6,6,6,6,6,6,6,6,6,6,7,7,7,7,7,7,7,7,7,7,7,7,7,7,7,7,7,7,7,7,7,7,7,7,7,7,7,7,7,7,7,7,7,7,7,7,7,7,7,7,7,7,7,7,7,7,7,7,7,7,7,7,7,7,7,7,7,7,7,7,7,7,7,7,8,8,8,8,8,8,8,8,8,8,8,8,8,8,8,8,8,8,8,8,8,8,8,8,8,8,8,8,8,8,8,8,8,8,8,8,8,8,8,8,8,8,8,8,8,8,8,8,8,8,8,8,8,8,8,8,8,8,8,8,8,8,8,8,8,8,8,8,8,8,8,8,8,8,8,8,8,8,8,8,8,8,8,8,8,8,8,8,8,8,8,8,8,8,8,8,8,8,8,8,8,8,8,8,8,8,8,8,8,8,8,8,8,8,8,8,8,8,8,8,8,8,8,8,8,8,8,8]⟩:ByteArray) ((a0 / 65536) % 256)
  replace p68:=eq_true p68
  replace q68:=eq_true q68
  obtain rfl:=Option.some.inj HH.out
  clear HH
  go_wp2
  go_ret
  exact⟨by first|rfl|(simp;done)|(simp[*];done),by repeat(first|exact Drawn0.refl _|apply Drawn0.step)⟩
 replace HH:=zqG HH
 rcases HH with⟨HH,hk74⟩|⟨HH,hk84⟩
 ·replace HH:=zqdo HH
  obtain⟨HH,hk76⟩:=HH
  replace HH:=zqto HH
  obtain⟨HH,hk78,hk79⟩:=HH
  have p80:0≤(((a0 / 256) % 256):Int):=of_decide_eq_true (by first|(with_reducible assumption)|assumption)
  have q80:((a0 / 256) % 256)<(256:Int):=of_decide_eq_true (by first|(with_reducible assumption)|assumption)
  have hx80:=MW.bt_at' (⟨#[0,1,2,2,3,3,3,3,4,4,4,4,4,4,4,4,5,5,5,5,5,5,5,5,5,5,5,5,5,5,5,5,6,6,6,6,6,6,6,6,6,6,6,6,6,6,6,6,6,6,6,6,6,6,6,6,6,6,6,6,6,6,6,6,7,7,7,7,7,7,7,7,7,7,7,7,7,7,7,7,7,7,7,7,7,7,7,7,7,7,7,7,7,7,7,7,7,7,7,7,7,7,7,7,7,7,7,7,7,7,7,7,7,7,7,7,7,7,7,7,7,7,7,7,7,7,7,7,8,8,8,8,8,8,8,8,8,8,8,8,8,8,8,8,8,8,8,8,8,8,8,8,8,8,8,8,8,8,8,8,8,8,8,8,8,8,8,8,8,8,8,8,8,8,8,8,8,8,8,8,8,8,8,8,8,8,8,8,8,8,8,8,8,8,8,8,8,8,8,8,8,8,8,8,8,8,8,8,8,8,8,8,8,8,8,8,8,8,8,8,8,8,8,8,8,8,8,8,8,8,8,8,8,8,8,8,8,8,8,8,8,8,8,8,8,8,8,8,8,8,8,8,8,8,8,8]⟩:ByteArray) ((a0 / 256) % 256)
  replace p80:=eq_true p80
  replace q80:=eq_true q80
  obtain rfl:=Option.some.inj HH.out
  clear HH
  go_wp2
  go_ret
  exact⟨by first|rfl|(simp;done)|(simp[*];done),by repeat(first|exact Drawn0.refl _|apply Drawn0.step)⟩
 replace HH:=zqdo HH
 obtain⟨HH,hk86⟩:=HH
 replace HH:=zqto HH
 obtain⟨HH,hk88,hk89⟩:=HH
 have p90:0≤(((a0) % 256):Int):=of_decide_eq_true (by first|(with_reducible assumption)|assumption)
 have q90:((a0) % 256)<(256:Int):=of_decide_eq_true (by first|(with_reducible assumption)|assumption)
 have hx90:=MW.bt_at' (⟨#[0,1,2,2,3,3,3,3,4,4,4,4,4,4,4,4,5,5,5,5,5,5,5,5,5,5,5,5,5,5,5,5,6,6,6,6,6,6,6,6,6,6,6,6,6,6,6,6,6,6,6,6,6,6,6,6,6,6,6,6,6,6,6,6,7,7,7,7,7,7,7,7,7,7,7,7,7,7,7,7,7,7,7,7,7,7,7,7,7,7,7,7,7,7,7,7,7,7,7,7,7,7,7,7,7,7,7,7,7,7,7,7,7,7,7,7,7,7,7,7,7,7,7,7,7,7,7,7,8,8,8,8,8,8,8,8,8,8,8,8,8,8,8,8,8,8,8,8,8,8,8,8,8,8,8,8,8,8,8,8,8,8,8,8,8,8,8,8,8,8,8,8,8,8,8,8,8,8,8,8,8,8,8,8,8,8,8,8,8,8,8,8,8,8,8,8,8,8,8,8,8,8,8,8,8,8,8,8,8,8,8,8,8,8,8,8,8,8,8,8,8,8,8,8,8,8,8,8,8,8,8,8,8,8,8,8,8,8,8,8,8,8,8,8,8,8,8,8,8,8,8,8,8,8,8,8]⟩:ByteArray) ((a0) % 256)
 replace p90:=eq_true p90
 replace q90:=eq_true q90
 obtain rfl:=Option.some.inj HH.out
 clear HH
 go_wp2
 go_ret
 exact⟨by first|rfl|(simp;done)|(simp[*];done),by repeat(first|exact Drawn0.refl _|apply Drawn0.step)⟩
end Go.Proofs.Ytkbiiijmgbjnkaa.GA
