import Derived.Test.YtkbiiijmgbjnkaaGA0
import Derived.Test.YtkbiiijmgbjnkaaMX
namespace Go.Proofs.Ytkbiiijmgbjnkaa.GA
open Go.RowKit Go.Proofs.Ytkbiiijmgbjnkaa Go.Proofs.Ytkbiiijmgbjnkaa.MW Go.Proofs.YtkbiiijmgbjnkaaW.PrintWords Go.Proofs.YtkbiiijmgbjnkaaW.PrintLast Go.Proofs.YtkbiiijmgbjnkaaW.PrintMore
attribute [local go_sem] max2_int min2_int max_two min_two
set_option maxHeartbeats 8000000
set_option maxRecDepth 100000
set_option linter.unusedVariables false
set_option linter.unusedSimpArgs false
def chars_bad.f (a0:Int):Option (Bool):=(some (if a0≥832 then((decide (a0≤833))) else(false):Bool)).bind fun b1=>((some (if b1=true then(true) else(if a0≥57344 then((decide (a0≤63743))) else(false)):Bool)).bind fun b4=>((some (if b4=true then(true) else(if a0≥64976 then((decide (a0≤65007))) else(false)):Bool)).bind fun b8=>((some (if b8=true then(true) else(if a0≥65533 then((decide (a0≤65535))) else(false)):Bool)).bind fun b12=>((some (if b12=true then(true) else(if a0>65535 then(if a0≤1114111 then(((Go.bits .and .i32 a0 65534)==65534)) else(false)) else(false)):Bool)).bind fun b16=>(some b16)))))
noncomputable def chars_bad.ops:List Oper:=match Try.f29.body with
 |some (.seq _ (.seq (.region _ o _) _))=>o.toList
 |_=>[]
theorem chars_bad.p0 {Q:Exit→Act→World→Prop} (OPS:Array Oper) (hO:OPS=chars_bad.ops.toArray) (a0:Int) (r:Bool) (w:World) (af0:Act) (hs:af0.tmps.size=46) (hd:af0.defers=[]) (ep0:af0.eval (.tmp 0)=.int .i32 a0) (h:((some (if a0≥832 then((decide (a0≤833))) else(false):Bool)).bind fun b1=>((some (if b1=true then(true) else(if a0≥57344 then((decide (a0≤63743))) else(false)):Bool)).bind fun b4=>((some (if b4=true then(true) else(if a0≥64976 then((decide (a0≤65007))) else(false)):Bool)).bind fun b8=>((some (if b8=true then(true) else(if a0≥65533 then((decide (a0≤65535))) else(false)):Bool)).bind fun b12=>((some (if b12=true then(true) else(if a0>65535 then(if a0≤1114111 then(((Go.bits .and .i32 a0 65534)==65534)) else(false)) else(false)):Bool)).bind fun b16=>(some b16))))))=some r) (fin:∀ a':Act,a'.tmps.size=46→a'.defers=[]→a'.eval (.tmp 2)=.bool r→Q .normal a' w):wpList Try.prog OPS Q (chars_bad.ops.drop 0) af0 w:=by
 have HH:=za h
 clear h
 have H2:(OPS[2]?).bind (·.dst)=some 5:=by rw[hO];rfl
 have H6:(OPS[6]?).bind (·.dst)=some 9:=by rw[hO];rfl
 have H9:(OPS[9]?).bind (·.dst)=some 12:=by rw[hO];rfl
 have H14:(OPS[14]?).bind (·.dst)=some 17:=by rw[hO];rfl
 have H17:(OPS[17]?).bind (·.dst)=some 20:=by rw[hO];rfl
 have H22:(OPS[22]?).bind (·.dst)=some 25:=by rw[hO];rfl
 have H25:(OPS[25]?).bind (·.dst)=some 28:=by rw[hO];rfl
 have H30:(OPS[30]?).bind (·.dst)=some 33:=by rw[hO];rfl
 have H33:(OPS[33]?).bind (·.dst)=some 36:=by rw[hO];rfl
 have H37:(OPS[37]?).bind (·.dst)=some 40:=by rw[hO];rfl
 replace hO:=(Stop.go hO:Stop _ (.mk _))
 replace fin:=(Stop.go fin:Stop _ (.mk _))
 simp only[chars_bad.ops,Try.f29,List.append_eq,List.cons_append,List.nil_append,List.drop_succ_cons,List.drop_zero,List.take_succ_cons,List.take_zero]
 obtain⟨E2,hE2⟩:∃ e_:Bool,e_=(if a0≥832 then((decide (a0≤833))) else(false)):=⟨_,rfl⟩
 replace hE2:=za hE2
 refine MW.list_cut 6 (fun a_ w_=>∃ b_:Bool,b_=E2∧a_.tmps.size=46∧a_.defers=[]∧a_.eval (.tmp 0)=.int .i32 a0∧a_.eval (.tmp 8)=.bool b_∧w=w_) (fun K_ hK_=>?seg) (fun af1 w_ hc_=>?rest)
 case seg=>
  simp only[List.take_succ_cons,List.take_zero,List.take_nil]
  clear HH
  by_cases c3:a0≥832
  ·refine yA 3 (.int .i32 a0) hs hd rfl (yM ep0) fun _ hs hd S0 N0=>?_
   refine yA 4 (.bool true) hs hd rfl (yC c3 S0) fun _ hs hd S1 N1=>?_
   refine yA 5 (.bool true) hs hd rfl (yM S1) fun _ hs hd S2 N2=>?_
   refine yA 6 (.int .i32 a0) hs hd (yW H2 S2) (yM (zN N2 (zN N1 (zN N0 ep0)))) fun _ hs hd S3 N3=>?_
   refine yA 7 (.bool (decide (a0≤833))) hs hd (yW H2 (zN N3 S2)) (yB S3) fun _ hs hd S4 N4=>?_
   refine yA 8 (.bool (decide (a0≤833))) hs hd rfl (yP (zN N4 (zN N3 S2)) S4) fun _ hs hd S5 N5=>?_
   exact wpList_nil (hK_ _ _ (Stop.go ⟨(decide (a0≤833)),Eq.trans (by first|rfl|(rw[if_pos c3];rfl)|(simp[*];done)) hE2.out.symm,hs,hd,(zN N5 (zN N4 (zN N3 (zN N2 (zN N1 (zN N0 ep0)))))),S5,rfl⟩))
  refine yA 3 (.int .i32 a0) hs hd rfl (yM ep0) fun _ hs hd S0 N0=>?_
  refine yA 4 (.bool false) hs hd rfl (yD c3 S0) fun _ hs hd S1 N1=>?_
  refine yA 5 (.bool false) hs hd rfl (yM S1) fun _ hs hd S2 N2=>?_
  refine yK 6 hs hd (yW H2 S2) fun _ hs hd S3 N3=>?_
  refine yK 7 hs hd (yW H2 (zN N3 S2)) fun _ hs hd S4 N4=>?_
  refine yA 8 (.bool false) hs hd rfl (yQ (zN N4 (zN N3 S2)) rfl) fun _ hs hd S5 N5=>?_
  exact wpList_nil (hK_ _ _ (Stop.go ⟨false,Eq.trans (by first|rfl|(rw[if_neg c3];rfl)|(simp[*];done)) hE2.out.symm,hs,hd,(zN N5 (zN N4 (zN N3 (zN N2 (zN N1 (zN N0 ep0)))))),S5,rfl⟩))
 case rest=>
  clear hs hd ep0
  obtain⟨b1,hb_,hs,hd,ep1,es1,rfl⟩:=hc_
  simp only[List.drop_succ_cons,List.drop_zero,List.drop_nil]
  have H:=MW.bind_step HH.out (hb_.trans hE2.out)
  replace HH:=za H
  clear H hb_ hE2
  obtain⟨E5,hE5⟩:∃ e_:Bool,e_=(if b1=true then(true) else(if a0≥57344 then((decide (a0≤63743))) else(false))):=⟨_,rfl⟩
  replace hE5:=za hE5
  refine MW.list_cut 8 (fun a_ w_=>∃ b_:Bool,b_=E5∧a_.tmps.size=46∧a_.defers=[]∧a_.eval (.tmp 0)=.int .i32 a0∧a_.eval (.tmp 16)=.bool b_∧w=w_) (fun K_ hK_=>?seg) (fun af2 w_ hc_=>?rest)
  case seg=>
   simp only[List.take_succ_cons,List.take_zero,List.take_nil]
   clear HH
   by_cases c6:b1=true
   ·subst c6
    refine yA 9 (.bool true) hs hd rfl (yM es1) fun _ hs hd S0 N0=>?_
    refine yK 10 hs hd (yW H6 S0) fun _ hs hd S1 N1=>?_
    refine yK 11 hs hd (yW H6 (zN N1 S0)) fun _ hs hd S2 N2=>?_
    refine yK 12 hs hd (yW H6 (zN N2 (zN N1 S0))) fun _ hs hd S3 N3=>?_
    refine yK 13 hs hd (yU H9 S3) fun _ hs hd S4 N4=>?_
    refine yK 14 hs hd (yU H9 (zN N4 S3)) fun _ hs hd S5 N5=>?_
    refine yK 15 hs hd (yW H6 (zN N5 (zN N4 (zN N3 (zN N2 (zN N1 S0)))))) fun _ hs hd S6 N6=>?_
    refine yA 16 (.bool true) hs hd rfl (yP (zN N6 (zN N5 (zN N4 (zN N3 (zN N2 (zN N1 S0)))))) rfl) fun _ hs hd S7 N7=>?_
    exact wpList_nil (hK_ _ _ (Stop.go ⟨true,Eq.trans (by first|rfl|(rw[];rfl)|(simp[*];done)) hE5.out.symm,hs,hd,(zN N7 (zN N6 (zN N5 (zN N4 (zN N3 (zN N2 (zN N1 (zN N0 ep1)))))))),S7,rfl⟩))
   replace c6:=Bool.eq_false_iff.mpr c6
   subst c6
   by_cases c7:a0≥57344
   ·refine yA 9 (.bool false) hs hd rfl (yM es1) fun _ hs hd S0 N0=>?_
    refine yA 10 (.int .i32 a0) hs hd (yW H6 S0) (yM (zN N0 ep1)) fun _ hs hd S1 N1=>?_
    refine yA 11 (.bool true) hs hd (yW H6 (zN N1 S0)) (yC c7 S1) fun _ hs hd S2 N2=>?_
    refine yA 12 (.bool true) hs hd (yW H6 (zN N2 (zN N1 S0))) (yM S2) fun _ hs hd S3 N3=>?_
    refine yA 13 (.int .i32 a0) hs hd (yW H9 S3) (yM (zN N3 (zN N2 (zN N1 (zN N0 ep1))))) fun _ hs hd S4 N4=>?_
    refine yA 14 (.bool (decide (a0≤63743))) hs hd (yW H9 (zN N4 S3)) (yB S4) fun _ hs hd S5 N5=>?_
    refine yA 15 (.bool (decide (a0≤63743))) hs hd (yW H6 (zN N5 (zN N4 (zN N3 (zN N2 (zN N1 S0)))))) (yP (zN N5 (zN N4 S3)) S5) fun _ hs hd S6 N6=>?_
    refine yA 16 (.bool (decide (a0≤63743))) hs hd rfl (yQ (zN N6 (zN N5 (zN N4 (zN N3 (zN N2 (zN N1 S0)))))) S6) fun _ hs hd S7 N7=>?_
    exact wpList_nil (hK_ _ _ (Stop.go ⟨(decide (a0≤63743)),Eq.trans (by first|rfl|(rw[if_pos c7];rfl)|(simp[*];done)) hE5.out.symm,hs,hd,(zN N7 (zN N6 (zN N5 (zN N4 (zN N3 (zN N2 (zN N1 (zN N0 ep1)))))))),S7,rfl⟩))
   refine yA 9 (.bool false) hs hd rfl (yM es1) fun _ hs hd S0 N0=>?_
   refine yA 10 (.int .i32 a0) hs hd (yW H6 S0) (yM (zN N0 ep1)) fun _ hs hd S1 N1=>?_
   refine yA 11 (.bool false) hs hd (yW H6 (zN N1 S0)) (yD c7 S1) fun _ hs hd S2 N2=>?_
   refine yA 12 (.bool false) hs hd (yW H6 (zN N2 (zN N1 S0))) (yM S2) fun _ hs hd S3 N3=>?_
   refine yK 13 hs hd (yW H9 S3) fun _ hs hd S4 N4=>?_
   refine yK 14 hs hd (yW H9 (zN N4 S3)) fun _ hs hd S5 N5=>?_
   refine yA 15 (.bool false) hs hd (yW H6 (zN N5 (zN N4 (zN N3 (zN N2 (zN N1 S0)))))) (yQ (zN N5 (zN N4 S3)) rfl) fun _ hs hd S6 N6=>?_
   refine yA 16 (.bool false) hs hd rfl (yQ (zN N6 (zN N5 (zN N4 (zN N3 (zN N2 (zN N1 S0)))))) S6) fun _ hs hd S7 N7=>?_
   exact wpList_nil (hK_ _ _ (Stop.go ⟨false,Eq.trans (by first|rfl|(rw[if_neg c7];rfl)|(simp[*];done)) hE5.out.symm,hs,hd,(zN N7 (zN N6 (zN N5 (zN N4 (zN N3 (zN N2 (zN N1 (zN N0 ep1)))))))),S7,rfl⟩))
  case rest=>
   clear hs hd ep1 es1
   obtain⟨b4,hb_,hs,hd,ep2,es2,rfl⟩:=hc_
   simp only[List.drop_succ_cons,List.drop_zero,List.drop_nil]
   have H:=MW.bind_step HH.out (hb_.trans hE5.out)
   replace HH:=za H
   clear H hb_ hE5
   obtain⟨E9,hE9⟩:∃ e_:Bool,e_=(if b4=true then(true) else(if a0≥64976 then((decide (a0≤65007))) else(false))):=⟨_,rfl⟩
   replace hE9:=za hE9
   refine MW.list_cut 8 (fun a_ w_=>∃ b_:Bool,b_=E9∧a_.tmps.size=46∧a_.defers=[]∧a_.eval (.tmp 0)=.int .i32 a0∧a_.eval (.tmp 24)=.bool b_∧w=w_) (fun K_ hK_=>?seg) (fun af3 w_ hc_=>?rest)
   case seg=>
    simp only[List.take_succ_cons,List.take_zero,List.take_nil]
    clear HH
    by_cases c10:b4=true
    ·subst c10
     refine yA 17 (.bool true) hs hd rfl (yM es2) fun _ hs hd S0 N0=>?_
     refine yK 18 hs hd (yW H14 S0) fun _ hs hd S1 N1=>?_
     refine yK 19 hs hd (yW H14 (zN N1 S0)) fun _ hs hd S2 N2=>?_
     refine yK 20 hs hd (yW H14 (zN N2 (zN N1 S0))) fun _ hs hd S3 N3=>?_
     refine yK 21 hs hd (yU H17 S3) fun _ hs hd S4 N4=>?_
     refine yK 22 hs hd (yU H17 (zN N4 S3)) fun _ hs hd S5 N5=>?_
     refine yK 23 hs hd (yW H14 (zN N5 (zN N4 (zN N3 (zN N2 (zN N1 S0)))))) fun _ hs hd S6 N6=>?_
     refine yA 24 (.bool true) hs hd rfl (yP (zN N6 (zN N5 (zN N4 (zN N3 (zN N2 (zN N1 S0)))))) rfl) fun _ hs hd S7 N7=>?_
     exact wpList_nil (hK_ _ _ (Stop.go ⟨true,Eq.trans (by first|rfl|(rw[];rfl)|(simp[*];done)) hE9.out.symm,hs,hd,(zN N7 (zN N6 (zN N5 (zN N4 (zN N3 (zN N2 (zN N1 (zN N0 ep2)))))))),S7,rfl⟩))
    replace c10:=Bool.eq_false_iff.mpr c10
    subst c10
    by_cases c11:a0≥64976
    ·refine yA 17 (.bool false) hs hd rfl (yM es2) fun _ hs hd S0 N0=>?_
     refine yA 18 (.int .i32 a0) hs hd (yW H14 S0) (yM (zN N0 ep2)) fun _ hs hd S1 N1=>?_
     refine yA 19 (.bool true) hs hd (yW H14 (zN N1 S0)) (yC c11 S1) fun _ hs hd S2 N2=>?_
     refine yA 20 (.bool true) hs hd (yW H14 (zN N2 (zN N1 S0))) (yM S2) fun _ hs hd S3 N3=>?_
     refine yA 21 (.int .i32 a0) hs hd (yW H17 S3) (yM (zN N3 (zN N2 (zN N1 (zN N0 ep2))))) fun _ hs hd S4 N4=>?_
     refine yA 22 (.bool (decide (a0≤65007))) hs hd (yW H17 (zN N4 S3)) (yB S4) fun _ hs hd S5 N5=>?_
     refine yA 23 (.bool (decide (a0≤65007))) hs hd (yW H14 (zN N5 (zN N4 (zN N3 (zN N2 (zN N1 S0)))))) (yP (zN N5 (zN N4 S3)) S5) fun _ hs hd S6 N6=>?_
     refine yA 24 (.bool (decide (a0≤65007))) hs hd rfl (yQ (zN N6 (zN N5 (zN N4 (zN N3 (zN N2 (zN N1 S0)))))) S6) fun _ hs hd S7 N7=>?_
     exact wpList_nil (hK_ _ _ (Stop.go ⟨(decide (a0≤65007)),Eq.trans (by first|rfl|(rw[if_pos c11];rfl)|(simp[*];done)) hE9.out.symm,hs,hd,(zN N7 (zN N6 (zN N5 (zN N4 (zN N3 (zN N2 (zN N1 (zN N0 ep2)))))))),S7,rfl⟩))
    refine yA 17 (.bool false) hs hd rfl (yM es2) fun _ hs hd S0 N0=>?_
    refine yA 18 (.int .i32 a0) hs hd (yW H14 S0) (yM (zN N0 ep2)) fun _ hs hd S1 N1=>?_
    refine yA 19 (.bool false) hs hd (yW H14 (zN N1 S0)) (yD c11 S1) fun _ hs hd S2 N2=>?_
    refine yA 20 (.bool false) hs hd (yW H14 (zN N2 (zN N1 S0))) (yM S2) fun _ hs hd S3 N3=>?_
    refine yK 21 hs hd (yW H17 S3) fun _ hs hd S4 N4=>?_
    refine yK 22 hs hd (yW H17 (zN N4 S3)) fun _ hs hd S5 N5=>?_
    refine yA 23 (.bool false) hs hd (yW H14 (zN N5 (zN N4 (zN N3 (zN N2 (zN N1 S0)))))) (yQ (zN N5 (zN N4 S3)) rfl) fun _ hs hd S6 N6=>?_
    refine yA 24 (.bool false) hs hd rfl (yQ (zN N6 (zN N5 (zN N4 (zN N3 (zN N2 (zN N1 S0)))))) S6) fun _ hs hd S7 N7=>?_
    exact wpList_nil (hK_ _ _ (Stop.go ⟨false,Eq.trans (by first|rfl|(rw[if_neg c11];rfl)|(simp[*];done)) hE9.out.symm,hs,hd,(zN N7 (zN N6 (zN N5 (zN N4 (zN N3 (zN N2 (zN N1 (zN N0 ep2)))))))),S7,rfl⟩))
   case rest=>
    clear hs hd ep2 es2
    obtain⟨b8,hb_,hs,hd,ep3,es3,rfl⟩:=hc_
    simp only[List.drop_succ_cons,List.drop_zero,List.drop_nil]
    have H:=MW.bind_step HH.out (hb_.trans hE9.out)
    replace HH:=za H
    clear H hb_ hE9
    obtain⟨E13,hE13⟩:∃ e_:Bool,e_=(if b8=true then(true) else(if a0≥65533 then((decide (a0≤65535))) else(false))):=⟨_,rfl⟩
    replace hE13:=za hE13
    refine MW.list_cut 8 (fun a_ w_=>∃ b_:Bool,b_=E13∧a_.tmps.size=46∧a_.defers=[]∧a_.eval (.tmp 0)=.int .i32 a0∧a_.eval (.tmp 32)=.bool b_∧w=w_) (fun K_ hK_=>?seg) (fun af4 w_ hc_=>?rest)
    case seg=>
     simp only[List.take_succ_cons,List.take_zero,List.take_nil]
     clear HH
     by_cases c14:b8=true
     ·subst c14
      refine yA 25 (.bool true) hs hd rfl (yM es3) fun _ hs hd S0 N0=>?_
      refine yK 26 hs hd (yW H22 S0) fun _ hs hd S1 N1=>?_
      refine yK 27 hs hd (yW H22 (zN N1 S0)) fun _ hs hd S2 N2=>?_
      refine yK 28 hs hd (yW H22 (zN N2 (zN N1 S0))) fun _ hs hd S3 N3=>?_
      refine yK 29 hs hd (yU H25 S3) fun _ hs hd S4 N4=>?_
      refine yK 30 hs hd (yU H25 (zN N4 S3)) fun _ hs hd S5 N5=>?_
      refine yK 31 hs hd (yW H22 (zN N5 (zN N4 (zN N3 (zN N2 (zN N1 S0)))))) fun _ hs hd S6 N6=>?_
      refine yA 32 (.bool true) hs hd rfl (yP (zN N6 (zN N5 (zN N4 (zN N3 (zN N2 (zN N1 S0)))))) rfl) fun _ hs hd S7 N7=>?_
      exact wpList_nil (hK_ _ _ (Stop.go ⟨true,Eq.trans (by first|rfl|(rw[];rfl)|(simp[*];done)) hE13.out.symm,hs,hd,(zN N7 (zN N6 (zN N5 (zN N4 (zN N3 (zN N2 (zN N1 (zN N0 ep3)))))))),S7,rfl⟩))
     replace c14:=Bool.eq_false_iff.mpr c14
     subst c14
     by_cases c15:a0≥65533
     ·refine yA 25 (.bool false) hs hd rfl (yM es3) fun _ hs hd S0 N0=>?_
      refine yA 26 (.int .i32 a0) hs hd (yW H22 S0) (yM (zN N0 ep3)) fun _ hs hd S1 N1=>?_
      refine yA 27 (.bool true) hs hd (yW H22 (zN N1 S0)) (yC c15 S1) fun _ hs hd S2 N2=>?_
      refine yA 28 (.bool true) hs hd (yW H22 (zN N2 (zN N1 S0))) (yM S2) fun _ hs hd S3 N3=>?_
      refine yA 29 (.int .i32 a0) hs hd (yW H25 S3) (yM (zN N3 (zN N2 (zN N1 (zN N0 ep3))))) fun _ hs hd S4 N4=>?_
      refine yA 30 (.bool (decide (a0≤65535))) hs hd (yW H25 (zN N4 S3)) (yB S4) fun _ hs hd S5 N5=>?_
      refine yA 31 (.bool (decide (a0≤65535))) hs hd (yW H22 (zN N5 (zN N4 (zN N3 (zN N2 (zN N1 S0)))))) (yP (zN N5 (zN N4 S3)) S5) fun _ hs hd S6 N6=>?_
      refine yA 32 (.bool (decide (a0≤65535))) hs hd rfl (yQ (zN N6 (zN N5 (zN N4 (zN N3 (zN N2 (zN N1 S0)))))) S6) fun _ hs hd S7 N7=>?_
      exact wpList_nil (hK_ _ _ (Stop.go ⟨(decide (a0≤65535)),Eq.trans (by first|rfl|(rw[if_pos c15];rfl)|(simp[*];done)) hE13.out.symm,hs,hd,(zN N7 (zN N6 (zN N5 (zN N4 (zN N3 (zN N2 (zN N1 (zN N0 ep3)))))))),S7,rfl⟩))
     refine yA 25 (.bool false) hs hd rfl (yM es3) fun _ hs hd S0 N0=>?_
     refine yA 26 (.int .i32 a0) hs hd (yW H22 S0) (yM (zN N0 ep3)) fun _ hs hd S1 N1=>?_
     refine yA 27 (.bool false) hs hd (yW H22 (zN N1 S0)) (yD c15 S1) fun _ hs hd S2 N2=>?_
     refine yA 28 (.bool false) hs hd (yW H22 (zN N2 (zN N1 S0))) (yM S2) fun _ hs hd S3 N3=>?_
     refine yK 29 hs hd (yW H25 S3) fun _ hs hd S4 N4=>?_
     refine yK 30 hs hd (yW H25 (zN N4 S3)) fun _ hs hd S5 N5=>?_
     refine yA 31 (.bool false) hs hd (yW H22 (zN N5 (zN N4 (zN N3 (zN N2 (zN N1 S0)))))) (yQ (zN N5 (zN N4 S3)) rfl) fun _ hs hd S6 N6=>?_
     refine yA 32 (.bool false) hs hd rfl (yQ (zN N6 (zN N5 (zN N4 (zN N3 (zN N2 (zN N1 S0)))))) S6) fun _ hs hd S7 N7=>?_
     exact wpList_nil (hK_ _ _ (Stop.go ⟨false,Eq.trans (by first|rfl|(rw[if_neg c15];rfl)|(simp[*];done)) hE13.out.symm,hs,hd,(zN N7 (zN N6 (zN N5 (zN N4 (zN N3 (zN N2 (zN N1 (zN N0 ep3)))))))),S7,rfl⟩))
    case rest=>
     clear hs hd ep3 es3
     obtain⟨b12,hb_,hs,hd,ep4,es4,rfl⟩:=hc_
     simp only[List.drop_succ_cons,List.drop_zero,List.drop_nil]
     have H:=MW.bind_step HH.out (hb_.trans hE13.out)
     replace HH:=za H
     clear H hb_ hE13
     obtain⟨E17,hE17⟩:∃ e_:Bool,e_=(if b12=true then(true) else(if a0>65535 then(if a0≤1114111 then(((Go.bits .and .i32 a0 65534)==65534)) else(false)) else(false))):=⟨_,rfl⟩
     replace hE17:=za hE17
     refine MW.list_cut 14 (fun a_ w_=>∃ b_:Bool,b_=E17∧a_.tmps.size=46∧a_.defers=[]∧a_.eval (.tmp 0)=.int .i32 a0∧a_.eval (.tmp 2)=.bool b_∧w=w_) (fun K_ hK_=>?seg) (fun af5 w_ hc_=>?rest)
     case seg=>
      simp only[List.take_succ_cons,List.take_zero,List.take_nil]
      clear HH
      by_cases c18:b12=true
      ·subst c18
       refine yA 33 (.bool true) hs hd rfl (yM es4) fun _ hs hd S0 N0=>?_
       refine yK 34 hs hd (yW H30 S0) fun _ hs hd S1 N1=>?_
       refine yK 35 hs hd (yW H30 (zN N1 S0)) fun _ hs hd S2 N2=>?_
       refine yK 36 hs hd (yW H30 (zN N2 (zN N1 S0))) fun _ hs hd S3 N3=>?_
       refine yK 37 hs hd (yU H33 S3) fun _ hs hd S4 N4=>?_
       refine yK 38 hs hd (yU H33 (zN N4 S3)) fun _ hs hd S5 N5=>?_
       refine yK 39 hs hd (yW H30 (zN N5 (zN N4 (zN N3 (zN N2 (zN N1 S0)))))) fun _ hs hd S6 N6=>?_
       refine yK 40 hs hd (yW H30 (zN N6 (zN N5 (zN N4 (zN N3 (zN N2 (zN N1 S0))))))) fun _ hs hd S7 N7=>?_
       refine yK 41 hs hd (yU H37 S7) fun _ hs hd S8 N8=>?_
       refine yK 42 hs hd (yU H37 (zN N8 S7)) fun _ hs hd S9 N9=>?_
       refine yK 43 hs hd (yU H37 (zN N9 (zN N8 S7))) fun _ hs hd S10 N10=>?_
       refine yK 44 hs hd (yW H30 (zN N10 (zN N9 (zN N8 (zN N7 (zN N6 (zN N5 (zN N4 (zN N3 (zN N2 (zN N1 S0))))))))))) fun _ hs hd S11 N11=>?_
       refine yA 45 (.bool true) hs hd rfl (yP (zN N11 (zN N10 (zN N9 (zN N8 (zN N7 (zN N6 (zN N5 (zN N4 (zN N3 (zN N2 (zN N1 S0))))))))))) rfl) fun _ hs hd S12 N12=>?_
       refine yA 2 (.bool true) hs hd rfl (MW.ab_assign rfl S12) fun _ hs hd S13 N13=>?_
       exact wpList_nil (hK_ _ _ (Stop.go ⟨true,Eq.trans (by first|rfl|(rw[];rfl)|(simp[*];done)) hE17.out.symm,hs,hd,(zN N13 (zN N12 (zN N11 (zN N10 (zN N9 (zN N8 (zN N7 (zN N6 (zN N5 (zN N4 (zN N3 (zN N2 (zN N1 (zN N0 ep4)))))))))))))),S13,rfl⟩))
      replace c18:=Bool.eq_false_iff.mpr c18
      subst c18
      by_cases c19:a0>65535
      ·by_cases c20:a0≤1114111
       ·refine yA 33 (.bool false) hs hd rfl (yM es4) fun _ hs hd S0 N0=>?_
        refine yA 34 (.int .i32 a0) hs hd (yW H30 S0) (yM (zN N0 ep4)) fun _ hs hd S1 N1=>?_
        refine yA 35 (.bool true) hs hd (yW H30 (zN N1 S0)) (yC c19 S1) fun _ hs hd S2 N2=>?_
        refine yA 36 (.bool true) hs hd (yW H30 (zN N2 (zN N1 S0))) (yM S2) fun _ hs hd S3 N3=>?_
        refine yA 37 (.int .i32 a0) hs hd (yW H33 S3) (yM (zN N3 (zN N2 (zN N1 (zN N0 ep4))))) fun _ hs hd S4 N4=>?_
        refine yA 38 (.bool true) hs hd (yW H33 (zN N4 S3)) (yC c20 S4) fun _ hs hd S5 N5=>?_
        refine yA 39 (.bool true) hs hd (yW H30 (zN N5 (zN N4 (zN N3 (zN N2 (zN N1 S0)))))) (yP (zN N5 (zN N4 S3)) S5) fun _ hs hd S6 N6=>?_
        refine yA 40 (.bool true) hs hd (yW H30 (zN N6 (zN N5 (zN N4 (zN N3 (zN N2 (zN N1 S0))))))) (yM S6) fun _ hs hd S7 N7=>?_
        refine yA 41 (.int .i32 a0) hs hd (yW H37 S7) (yM (zN N7 (zN N6 (zN N5 (zN N4 (zN N3 (zN N2 (zN N1 (zN N0 ep4))))))))) fun _ hs hd S8 N8=>?_
        refine yA 42 (.int .i32 (Go.bits .and .i32 a0 65534)) hs hd (yW H37 (zN N8 S7)) (yB S8) fun _ hs hd S9 N9=>?_
        refine yA 43 (.bool ((Go.bits .and .i32 a0 65534)==65534)) hs hd (yW H37 (zN N9 (zN N8 S7))) (yB S9) fun _ hs hd S10 N10=>?_
        refine yA 44 (.bool ((Go.bits .and .i32 a0 65534)==65534)) hs hd (yW H30 (zN N10 (zN N9 (zN N8 (zN N7 (zN N6 (zN N5 (zN N4 (zN N3 (zN N2 (zN N1 S0))))))))))) (yP (zN N10 (zN N9 (zN N8 S7))) S10) fun _ hs hd S11 N11=>?_
        refine yA 45 (.bool ((Go.bits .and .i32 a0 65534)==65534)) hs hd rfl (yQ (zN N11 (zN N10 (zN N9 (zN N8 (zN N7 (zN N6 (zN N5 (zN N4 (zN N3 (zN N2 (zN N1 S0))))))))))) S11) fun _ hs hd S12 N12=>?_
        refine yA 2 (.bool ((Go.bits .and .i32 a0 65534)==65534)) hs hd rfl (MW.ab_assign rfl S12) fun _ hs hd S13 N13=>?_
        exact wpList_nil (hK_ _ _ (Stop.go ⟨((Go.bits .and .i32 a0 65534)==65534),Eq.trans (by first|rfl|(rw[if_pos c19,if_pos c20];rfl)|(simp[*];done)) hE17.out.symm,hs,hd,(zN N13 (zN N12 (zN N11 (zN N10 (zN N9 (zN N8 (zN N7 (zN N6 (zN N5 (zN N4 (zN N3 (zN N2 (zN N1 (zN N0 ep4)))))))))))))),S13,rfl⟩))
       refine yA 33 (.bool false) hs hd rfl (yM es4) fun _ hs hd S0 N0=>?_
       refine yA 34 (.int .i32 a0) hs hd (yW H30 S0) (yM (zN N0 ep4)) fun _ hs hd S1 N1=>?_
       refine yA 35 (.bool true) hs hd (yW H30 (zN N1 S0)) (yC c19 S1) fun _ hs hd S2 N2=>?_
       refine yA 36 (.bool true) hs hd (yW H30 (zN N2 (zN N1 S0))) (yM S2) fun _ hs hd S3 N3=>?_
       refine yA 37 (.int .i32 a0) hs hd (yW H33 S3) (yM (zN N3 (zN N2 (zN N1 (zN N0 ep4))))) fun _ hs hd S4 N4=>?_
       refine yA 38 (.bool false) hs hd (yW H33 (zN N4 S3)) (yD c20 S4) fun _ hs hd S5 N5=>?_
       refine yA 39 (.bool false) hs hd (yW H30 (zN N5 (zN N4 (zN N3 (zN N2 (zN N1 S0)))))) (yP (zN N5 (zN N4 S3)) S5) fun _ hs hd S6 N6=>?_
       refine yA 40 (.bool false) hs hd (yW H30 (zN N6 (zN N5 (zN N4 (zN N3 (zN N2 (zN N1 S0))))))) (yM S6) fun _ hs hd S7 N7=>?_
       refine yK 41 hs hd (yW H37 S7) fun _ hs hd S8 N8=>?_
       refine yK 42 hs hd (yW H37 (zN N8 S7)) fun _ hs hd S9 N9=>?_
       refine yK 43 hs hd (yW H37 (zN N9 (zN N8 S7))) fun _ hs hd S10 N10=>?_
       refine yA 44 (.bool false) hs hd (yW H30 (zN N10 (zN N9 (zN N8 (zN N7 (zN N6 (zN N5 (zN N4 (zN N3 (zN N2 (zN N1 S0))))))))))) (yQ (zN N10 (zN N9 (zN N8 S7))) rfl) fun _ hs hd S11 N11=>?_
       refine yA 45 (.bool false) hs hd rfl (yQ (zN N11 (zN N10 (zN N9 (zN N8 (zN N7 (zN N6 (zN N5 (zN N4 (zN N3 (zN N2 (zN N1 S0))))))))))) S11) fun _ hs hd S12 N12=>?_
       refine yA 2 (.bool false) hs hd rfl (MW.ab_assign rfl S12) fun _ hs hd S13 N13=>?_
       exact wpList_nil (hK_ _ _ (Stop.go ⟨false,Eq.trans (by first|rfl|(rw[if_pos c19,if_neg c20];rfl)|(simp[*];done)) hE17.out.symm,hs,hd,(zN N13 (zN N12 (zN N11 (zN N10 (zN N9 (zN N8 (zN N7 (zN N6 (zN N5 (zN N4 (zN N3 (zN N2 (zN N1 (zN N0 ep4)))))))))))))),S13,rfl⟩))
      refine yA 33 (.bool false) hs hd rfl (yM es4) fun _ hs hd S0 N0=>?_
      refine yA 34 (.int .i32 a0) hs hd (yW H30 S0) (yM (zN N0 ep4)) fun _ hs hd S1 N1=>?_
      refine yA 35 (.bool false) hs hd (yW H30 (zN N1 S0)) (yD c19 S1) fun _ hs hd S2 N2=>?_
      refine yA 36 (.bool false) hs hd (yW H30 (zN N2 (zN N1 S0))) (yM S2) fun _ hs hd S3 N3=>?_
      refine yK 37 hs hd (yW H33 S3) fun _ hs hd S4 N4=>?_
      refine yK 38 hs hd (yW H33 (zN N4 S3)) fun _ hs hd S5 N5=>?_
      refine yA 39 (.bool false) hs hd (yW H30 (zN N5 (zN N4 (zN N3 (zN N2 (zN N1 S0)))))) (yQ (zN N5 (zN N4 S3)) rfl) fun _ hs hd S6 N6=>?_
      refine yA 40 (.bool false) hs hd (yW H30 (zN N6 (zN N5 (zN N4 (zN N3 (zN N2 (zN N1 S0))))))) (yM S6) fun _ hs hd S7 N7=>?_
      refine yK 41 hs hd (yW H37 S7) fun _ hs hd S8 N8=>?_
      refine yK 42 hs hd (yW H37 (zN N8 S7)) fun _ hs hd S9 N9=>?_
      refine yK 43 hs hd (yW H37 (zN N9 (zN N8 S7))) fun _ hs hd S10 N10=>?_
      refine yA 44 (.bool false) hs hd (yW H30 (zN N10 (zN N9 (zN N8 (zN N7 (zN N6 (zN N5 (zN N4 (zN N3 (zN N2 (zN N1 S0))))))))))) (yQ (zN N10 (zN N9 (zN N8 S7))) rfl) fun _ hs hd S11 N11=>?_
      refine yA 45 (.bool false) hs hd rfl (yQ (zN N11 (zN N10 (zN N9 (zN N8 (zN N7 (zN N6 (zN N5 (zN N4 (zN N3 (zN N2 (zN N1 S0))))))))))) S11) fun _ hs hd S12 N12=>?_
      refine yA 2 (.bool false) hs hd rfl (MW.ab_assign rfl S12) fun _ hs hd S13 N13=>?_
      exact wpList_nil (hK_ _ _ (Stop.go ⟨false,Eq.trans (by first|rfl|(rw[if_neg c19];rfl)|(simp[*];done)) hE17.out.symm,hs,hd,(zN N13 (zN N12 (zN N11 (zN N10 (zN N9 (zN N8 (zN N7 (zN N6 (zN N5 (zN N4 (zN N3 (zN N2 (zN N1 (zN N0 ep4)))))))))))))),S13,rfl⟩))
     case rest=>
      clear hs hd ep4 es4
      obtain⟨b16,hb_,hs,hd,ep5,es5,rfl⟩:=hc_
      simp only[List.drop_succ_cons,List.drop_zero,List.drop_nil]
      have H:=MW.bind_step HH.out (hb_.trans hE17.out)
      replace HH:=za H
      clear H hb_ hE17
      obtain rfl:=Option.some.inj HH.out
      exact wpList_nil (fin.out _ hs hd es5)
theorem chars_bad.calls (a0:Int) (r:Bool) (w:World) (h:chars_bad.f a0=some r):
  Calls Try.prog 29 #[.int .i32 a0] w (fun e w'=>e=.returned (.bool r)∧Drawn0 w w'):=by
 have HH:=za h
 clear h
 unfold chars_bad.f at HH
 go_enter Try.func29,Try.ntmps29
 repeat(first|(refine MW.region_ops (id:=1) ?_)|go_step)
 intro OPS hO
 refine chars_bad.p0 OPS hO a0 r w _ (by kernel_rfl) (by kernel_rfl) (by kernel_rfl) HH.out ?_
 intro a' hs hd es
 repeat go_step
 refine bodyPost_ret (results_tmp rfl _ _ _) hd ?_
 exact⟨congrArg Ending.returned es,Drawn0.refl _⟩
end Go.Proofs.Ytkbiiijmgbjnkaa.GA
