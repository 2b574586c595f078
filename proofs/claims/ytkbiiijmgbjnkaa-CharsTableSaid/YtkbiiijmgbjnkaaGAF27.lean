import Derived.Test.YtkbiiijmgbjnkaaGA0
import Derived.Test.YtkbiiijmgbjnkaaMX
namespace Go.Proofs.Ytkbiiijmgbjnkaa.GA
open Go.RowKit Go.Proofs.Ytkbiiijmgbjnkaa Go.Proofs.Ytkbiiijmgbjnkaa.MW Go.Proofs.YtkbiiijmgbjnkaaW.PrintWords Go.Proofs.YtkbiiijmgbjnkaaW.PrintLast Go.Proofs.YtkbiiijmgbjnkaaW.PrintMore
attribute [local go_sem] max2_int min2_int max_two min_two
set_option maxHeartbeats 8000000
set_option maxRecDepth 100000
set_option linter.unusedVariables false
set_option linter.unusedSimpArgs false
def chars_space.f (a0:Int):Option (Bool):=(some (if a0≥9 then((decide (a0≤13))) else(false):Bool)).bind fun b1=>((some (if b1=true then(true) else(if a0=32 then(true) else((a0==133))):Bool)).bind fun b4=>((some (if b4=true then(true) else(if a0=160 then(true) else(if a0≥8192 then((decide (a0≤8202))) else(false))):Bool)).bind fun b8=>((some (if b8=true then(true) else(if a0≥8232 then((decide (a0≤8233))) else(false)):Bool)).bind fun b13=>((some (if b13=true then(true) else(if a0=8239 then(true) else((a0==8287))):Bool)).bind fun b17=>((some (if b17=true then(true) else((a0==12288)):Bool)).bind fun b21=>(some b21))))))
noncomputable def chars_space.ops:List Oper:=match Try.f27.body with
 |some (.seq _ (.seq (.region _ o _) _))=>o.toList
 |_=>[]
theorem chars_space.p0 {Q:Exit→Act→World→Prop} (OPS:Array Oper) (hO:OPS=chars_space.ops.toArray) (a0:Int) (r:Bool) (w:World) (af0:Act) (hs:af0.tmps.size=49) (hd:af0.defers=[]) (ep0:af0.eval (.tmp 0)=.int .i32 a0) (h:((some (if a0≥9 then((decide (a0≤13))) else(false):Bool)).bind fun b1=>((some (if b1=true then(true) else(if a0=32 then(true) else((a0==133))):Bool)).bind fun b4=>((some (if b4=true then(true) else(if a0=160 then(true) else(if a0≥8192 then((decide (a0≤8202))) else(false))):Bool)).bind fun b8=>((some (if b8=true then(true) else(if a0≥8232 then((decide (a0≤8233))) else(false)):Bool)).bind fun b13=>((some (if b13=true then(true) else(if a0=8239 then(true) else((a0==8287))):Bool)).bind fun b17=>((some (if b17=true then(true) else((a0==12288)):Bool)).bind fun b21=>(some b21)))))))=some r) (fin:∀ a':Act,a'.tmps.size=49→a'.defers=[]→a'.eval (.tmp 2)=.bool r→Q .normal a' w):wpList Try.prog OPS Q (chars_space.ops.drop 0) af0 w:=by
 have HH:=za h
 clear h
 have H2:(OPS[2]?).bind (·.dst)=some 5:=by rw[hO];rfl
 have H6:(OPS[6]?).bind (·.dst)=some 9:=by rw[hO];rfl
 have H10:(OPS[10]?).bind (·.dst)=some 13:=by rw[hO];rfl
 have H14:(OPS[14]?).bind (·.dst)=some 17:=by rw[hO];rfl
 have H18:(OPS[18]?).bind (·.dst)=some 21:=by rw[hO];rfl
 have H21:(OPS[21]?).bind (·.dst)=some 24:=by rw[hO];rfl
 have H26:(OPS[26]?).bind (·.dst)=some 29:=by rw[hO];rfl
 have H29:(OPS[29]?).bind (·.dst)=some 32:=by rw[hO];rfl
 have H34:(OPS[34]?).bind (·.dst)=some 37:=by rw[hO];rfl
 have H38:(OPS[38]?).bind (·.dst)=some 41:=by rw[hO];rfl
 have H42:(OPS[42]?).bind (·.dst)=some 45:=by rw[hO];rfl
 replace hO:=(Stop.go hO:Stop _ (.mk _))
 replace fin:=(Stop.go fin:Stop _ (.mk _))
 simp only[chars_space.ops,Try.f27,List.append_eq,List.cons_append,List.nil_append,List.drop_succ_cons,List.drop_zero,List.take_succ_cons,List.take_zero]
 obtain⟨E2,hE2⟩:∃ e_:Bool,e_=(if a0≥9 then((decide (a0≤13))) else(false)):=⟨_,rfl⟩
 replace hE2:=za hE2
 refine MW.list_cut 6 (fun a_ w_=>∃ b_:Bool,b_=E2∧a_.tmps.size=49∧a_.defers=[]∧a_.eval (.tmp 0)=.int .i32 a0∧a_.eval (.tmp 8)=.bool b_∧w=w_) (fun K_ hK_=>?seg) (fun af1 w_ hc_=>?rest)
 case seg=>
  simp only[List.take_succ_cons,List.take_zero,List.take_nil]
  clear HH
  by_cases c3:a0≥9
  ·refine yA 3 (.int .i32 a0) hs hd rfl (yM ep0) fun _ hs hd S0 N0=>?_
   refine yA 4 (.bool true) hs hd rfl (yC c3 S0) fun _ hs hd S1 N1=>?_
   refine yA 5 (.bool true) hs hd rfl (yM S1) fun _ hs hd S2 N2=>?_
   refine yA 6 (.int .i32 a0) hs hd (yW H2 S2) (yM (zN N2 (zN N1 (zN N0 ep0)))) fun _ hs hd S3 N3=>?_
   refine yA 7 (.bool (decide (a0≤13))) hs hd (yW H2 (zN N3 S2)) (yB S3) fun _ hs hd S4 N4=>?_
   refine yA 8 (.bool (decide (a0≤13))) hs hd rfl (yP (zN N4 (zN N3 S2)) S4) fun _ hs hd S5 N5=>?_
   exact wpList_nil (hK_ _ _ (Stop.go ⟨(decide (a0≤13)),Eq.trans (by first|rfl|(rw[if_pos c3];rfl)|(simp[*];done)) hE2.out.symm,hs,hd,(zN N5 (zN N4 (zN N3 (zN N2 (zN N1 (zN N0 ep0)))))),S5,rfl⟩))
  refine yA 3 (.int .i32 a0) hs hd rfl (yM ep0) fun _ hs hd S0 N0=>?_
  refine yA 4 (.bool false) hs hd rfl (yD c3 S0) fun _ hs hd S1 N1=>?_
  refine yA 5 (.bool false) hs hd rfl (yM S1) fun _ hs hd S2 N2=>?_
  refine yK 6 hs hd (yW H2 S2) fun _ hs hd S3 N3=>?_
  refine yK 7 hs hd (yW H2 (zN N3 S2)) fun _ hs hd S4 N4=>?_
  refine yA 8 (.bool false) hs hd rfl (yQ (zN N4 (zN N3 S2)) rfl) fun _ hs hd S5 N5=>?_
  exact wpList_nil (hK_ _ _ (Stop.go ⟨false,Eq.trans (by first|rfl|(rw[if_neg c3];rfl)|(simp[*];done)) hE2.out.symm,hs,hd,(zN N5 (zN N4 (zN N3 (zN N2 (zN N1 (zN N0 ep0)))))),S5,rfl⟩))
 case rest=>
  clear hs hd ep0
  obtain⟨b1,hb_,hs,hd,ep1,es1,rfl⟩:=hc_
  simp only[List.drop_succ_cons,List.drop_zero,List.drop_nil]
  have H:=MW.bind_step HH.out (hb_.trans hE2.out)
  replace HH:=za H
  clear H hb_ hE2
  obtain⟨E5,hE5⟩:∃ e_:Bool,e_=(if b1=true then(true) else(if a0=32 then(true) else((a0==133)))):=⟨_,rfl⟩
  replace hE5:=za hE5
  refine MW.list_cut 8 (fun a_ w_=>∃ b_:Bool,b_=E5∧a_.tmps.size=49∧a_.defers=[]∧a_.eval (.tmp 0)=.int .i32 a0∧a_.eval (.tmp 16)=.bool b_∧w=w_) (fun K_ hK_=>?seg) (fun af2 w_ hc_=>?rest)
  case seg=>
   simp only[List.take_succ_cons,List.take_zero,List.take_nil]
   clear HH
   by_cases c6:b1=true
   ·subst c6
    refine yA 9 (.bool true) hs hd rfl (yM es1) fun _ hs hd S0 N0=>?_
    refine yK 10 hs hd (yW H6 S0) fun _ hs hd S1 N1=>?_
    refine yK 11 hs hd (yW H6 (zN N1 S0)) fun _ hs hd S2 N2=>?_
    refine yA 12 (.bool true) hs hd rfl (yP (zN N2 (zN N1 S0)) rfl) fun _ hs hd S3 N3=>?_
    refine yA 13 (.bool true) hs hd rfl (yM S3) fun _ hs hd S4 N4=>?_
    refine yK 14 hs hd (yW H10 S4) fun _ hs hd S5 N5=>?_
    refine yK 15 hs hd (yW H10 (zN N5 S4)) fun _ hs hd S6 N6=>?_
    refine yA 16 (.bool true) hs hd rfl (yP (zN N6 (zN N5 S4)) rfl) fun _ hs hd S7 N7=>?_
    exact wpList_nil (hK_ _ _ (Stop.go ⟨true,Eq.trans (by first|rfl|(rw[];rfl)|(simp[*];done)) hE5.out.symm,hs,hd,(zN N7 (zN N6 (zN N5 (zN N4 (zN N3 (zN N2 (zN N1 (zN N0 ep1)))))))),S7,rfl⟩))
   replace c6:=Bool.eq_false_iff.mpr c6
   subst c6
   by_cases c7:a0=32
   ·refine yA 9 (.bool false) hs hd rfl (yM es1) fun _ hs hd S0 N0=>?_
    refine yA 10 (.int .i32 a0) hs hd (yW H6 S0) (yM (zN N0 ep1)) fun _ hs hd S1 N1=>?_
    refine yA 11 (.bool true) hs hd (yW H6 (zN N1 S0)) (yC c7 S1) fun _ hs hd S2 N2=>?_
    refine yA 12 (.bool true) hs hd rfl (yQ (zN N2 (zN N1 S0)) S2) fun _ hs hd S3 N3=>?_
    refine yA 13 (.bool true) hs hd rfl (yM S3) fun _ hs hd S4 N4=>?_
    refine yK 14 hs hd (yW H10 S4) fun _ hs hd S5 N5=>?_
    refine yK 15 hs hd (yW H10 (zN N5 S4)) fun _ hs hd S6 N6=>?_
    refine yA 16 (.bool true) hs hd rfl (yP (zN N6 (zN N5 S4)) rfl) fun _ hs hd S7 N7=>?_
    exact wpList_nil (hK_ _ _ (Stop.go ⟨true,Eq.trans (by first|rfl|(rw[if_pos c7];rfl)|(simp[*];done)) hE5.out.symm,hs,hd,(zN N7 (zN N6 (zN N5 (zN N4 (zN N3 (zN N2 (zN N1 (zN N0 ep1)))))))),S7,rfl⟩))
   refine yA 9 (.bool false) hs hd rfl (yM es1) fun _ hs hd S0 N0=>?_
   refine yA 10 (.int .i32 a0) hs hd (yW H6 S0) (yM (zN N0 ep1)) fun _ hs hd S1 N1=>?_
   refine yA 11 (.bool false) hs hd (yW H6 (zN N1 S0)) (yD c7 S1) fun _ hs hd S2 N2=>?_
   refine yA 12 (.bool false) hs hd rfl (yQ (zN N2 (zN N1 S0)) S2) fun _ hs hd S3 N3=>?_
   refine yA 13 (.bool false) hs hd rfl (yM S3) fun _ hs hd S4 N4=>?_
   refine yA 14 (.int .i32 a0) hs hd (yW H10 S4) (yM (zN N4 (zN N3 (zN N2 (zN N1 (zN N0 ep1)))))) fun _ hs hd S5 N5=>?_
   refine yA 15 (.bool (a0==133)) hs hd (yW H10 (zN N5 S4)) (yB S5) fun _ hs hd S6 N6=>?_
   refine yA 16 (.bool (a0==133)) hs hd rfl (yQ (zN N6 (zN N5 S4)) S6) fun _ hs hd S7 N7=>?_
   exact wpList_nil (hK_ _ _ (Stop.go ⟨(a0==133),Eq.trans (by first|rfl|(rw[if_neg c7];rfl)|(simp[*];done)) hE5.out.symm,hs,hd,(zN N7 (zN N6 (zN N5 (zN N4 (zN N3 (zN N2 (zN N1 (zN N0 ep1)))))))),S7,rfl⟩))
  case rest=>
   clear hs hd ep1 es1
   obtain⟨b4,hb_,hs,hd,ep2,es2,rfl⟩:=hc_
   simp only[List.drop_succ_cons,List.drop_zero,List.drop_nil]
   have H:=MW.bind_step HH.out (hb_.trans hE5.out)
   replace HH:=za H
   clear H hb_ hE5
   obtain⟨E9,hE9⟩:∃ e_:Bool,e_=(if b4=true then(true) else(if a0=160 then(true) else(if a0≥8192 then((decide (a0≤8202))) else(false)))):=⟨_,rfl⟩
   replace hE9:=za hE9
   refine MW.list_cut 12 (fun a_ w_=>∃ b_:Bool,b_=E9∧a_.tmps.size=49∧a_.defers=[]∧a_.eval (.tmp 0)=.int .i32 a0∧a_.eval (.tmp 28)=.bool b_∧w=w_) (fun K_ hK_=>?seg) (fun af3 w_ hc_=>?rest)
   case seg=>
    simp only[List.take_succ_cons,List.take_zero,List.take_nil]
    clear HH
    by_cases c10:b4=true
    ·subst c10
     refine yA 17 (.bool true) hs hd rfl (yM es2) fun _ hs hd S0 N0=>?_
     refine yK 18 hs hd (yW H14 S0) fun _ hs hd S1 N1=>?_
     refine yK 19 hs hd (yW H14 (zN N1 S0)) fun _ hs hd S2 N2=>?_
     refine yA 20 (.bool true) hs hd rfl (yP (zN N2 (zN N1 S0)) rfl) fun _ hs hd S3 N3=>?_
     refine yA 21 (.bool true) hs hd rfl (yM S3) fun _ hs hd S4 N4=>?_
     refine yK 22 hs hd (yW H18 S4) fun _ hs hd S5 N5=>?_
     refine yK 23 hs hd (yW H18 (zN N5 S4)) fun _ hs hd S6 N6=>?_
     refine yK 24 hs hd (yW H18 (zN N6 (zN N5 S4))) fun _ hs hd S7 N7=>?_
     refine yK 25 hs hd (yU H21 S7) fun _ hs hd S8 N8=>?_
     refine yK 26 hs hd (yU H21 (zN N8 S7)) fun _ hs hd S9 N9=>?_
     refine yK 27 hs hd (yW H18 (zN N9 (zN N8 (zN N7 (zN N6 (zN N5 S4)))))) fun _ hs hd S10 N10=>?_
     refine yA 28 (.bool true) hs hd rfl (yP (zN N10 (zN N9 (zN N8 (zN N7 (zN N6 (zN N5 S4)))))) rfl) fun _ hs hd S11 N11=>?_
     exact wpList_nil (hK_ _ _ (Stop.go ⟨true,Eq.trans (by first|rfl|(rw[];rfl)|(simp[*];done)) hE9.out.symm,hs,hd,(zN N11 (zN N10 (zN N9 (zN N8 (zN N7 (zN N6 (zN N5 (zN N4 (zN N3 (zN N2 (zN N1 (zN N0 ep2)))))))))))),S11,rfl⟩))
    replace c10:=Bool.eq_false_iff.mpr c10
    subst c10
    by_cases c11:a0=160
    ·refine yA 17 (.bool false) hs hd rfl (yM es2) fun _ hs hd S0 N0=>?_
     refine yA 18 (.int .i32 a0) hs hd (yW H14 S0) (yM (zN N0 ep2)) fun _ hs hd S1 N1=>?_
     refine yA 19 (.bool true) hs hd (yW H14 (zN N1 S0)) (yC c11 S1) fun _ hs hd S2 N2=>?_
     refine yA 20 (.bool true) hs hd rfl (yQ (zN N2 (zN N1 S0)) S2) fun _ hs hd S3 N3=>?_
     refine yA 21 (.bool true) hs hd rfl (yM S3) fun _ hs hd S4 N4=>?_
     refine yK 22 hs hd (yW H18 S4) fun _ hs hd S5 N5=>?_
     refine yK 23 hs hd (yW H18 (zN N5 S4)) fun _ hs hd S6 N6=>?_
     refine yK 24 hs hd (yW H18 (zN N6 (zN N5 S4))) fun _ hs hd S7 N7=>?_
     refine yK 25 hs hd (yU H21 S7) fun _ hs hd S8 N8=>?_
     refine yK 26 hs hd (yU H21 (zN N8 S7)) fun _ hs hd S9 N9=>?_
     refine yK 27 hs hd (yW H18 (zN N9 (zN N8 (zN N7 (zN N6 (zN N5 S4)))))) fun _ hs hd S10 N10=>?_
     refine yA 28 (.bool true) hs hd rfl (yP (zN N10 (zN N9 (zN N8 (zN N7 (zN N6 (zN N5 S4)))))) rfl) fun _ hs hd S11 N11=>?_
     exact wpList_nil (hK_ _ _ (Stop.go ⟨true,Eq.trans (by first|rfl|(rw[if_pos c11];rfl)|(simp[*];done)) hE9.out.symm,hs,hd,(zN N11 (zN N10 (zN N9 (zN N8 (zN N7 (zN N6 (zN N5 (zN N4 (zN N3 (zN N2 (zN N1 (zN N0 ep2)))))))))))),S11,rfl⟩))
    by_cases c12:a0≥8192
    ·refine yA 17 (.bool false) hs hd rfl (yM es2) fun _ hs hd S0 N0=>?_
     refine yA 18 (.int .i32 a0) hs hd (yW H14 S0) (yM (zN N0 ep2)) fun _ hs hd S1 N1=>?_
     refine yA 19 (.bool false) hs hd (yW H14 (zN N1 S0)) (yD c11 S1) fun _ hs hd S2 N2=>?_
     refine yA 20 (.bool false) hs hd rfl (yQ (zN N2 (zN N1 S0)) S2) fun _ hs hd S3 N3=>?_
     refine yA 21 (.bool false) hs hd rfl (yM S3) fun _ hs hd S4 N4=>?_
     refine yA 22 (.int .i32 a0) hs hd (yW H18 S4) (yM (zN N4 (zN N3 (zN N2 (zN N1 (zN N0 ep2)))))) fun _ hs hd S5 N5=>?_
     refine yA 23 (.bool true) hs hd (yW H18 (zN N5 S4)) (yC c12 S5) fun _ hs hd S6 N6=>?_
     refine yA 24 (.bool true) hs hd (yW H18 (zN N6 (zN N5 S4))) (yM S6) fun _ hs hd S7 N7=>?_
     refine yA 25 (.int .i32 a0) hs hd (yW H21 S7) (yM (zN N7 (zN N6 (zN N5 (zN N4 (zN N3 (zN N2 (zN N1 (zN N0 ep2))))))))) fun _ hs hd S8 N8=>?_
     refine yA 26 (.bool (decide (a0≤8202))) hs hd (yW H21 (zN N8 S7)) (yB S8) fun _ hs hd S9 N9=>?_
     refine yA 27 (.bool (decide (a0≤8202))) hs hd (yW H18 (zN N9 (zN N8 (zN N7 (zN N6 (zN N5 S4)))))) (yP (zN N9 (zN N8 S7)) S9) fun _ hs hd S10 N10=>?_
     refine yA 28 (.bool (decide (a0≤8202))) hs hd rfl (yQ (zN N10 (zN N9 (zN N8 (zN N7 (zN N6 (zN N5 S4)))))) S10) fun _ hs hd S11 N11=>?_
     exact wpList_nil (hK_ _ _ (Stop.go ⟨(decide (a0≤8202)),Eq.trans (by first|rfl|(rw[if_neg c11,if_pos c12];rfl)|(simp[*];done)) hE9.out.symm,hs,hd,(zN N11 (zN N10 (zN N9 (zN N8 (zN N7 (zN N6 (zN N5 (zN N4 (zN N3 (zN N2 (zN N1 (zN N0 ep2)))))))))))),S11,rfl⟩))
    refine yA 17 (.bool false) hs hd rfl (yM es2) fun _ hs hd S0 N0=>?_
    refine yA 18 (.int .i32 a0) hs hd (yW H14 S0) (yM (zN N0 ep2)) fun _ hs hd S1 N1=>?_
    refine yA 19 (.bool false) hs hd (yW H14 (zN N1 S0)) (yD c11 S1) fun _ hs hd S2 N2=>?_
    refine yA 20 (.bool false) hs hd rfl (yQ (zN N2 (zN N1 S0)) S2) fun _ hs hd S3 N3=>?_
    refine yA 21 (.bool false) hs hd rfl (yM S3) fun _ hs hd S4 N4=>?_
    refine yA 22 (.int .i32 a0) hs hd (yW H18 S4) (yM (zN N4 (zN N3 (zN N2 (zN N1 (zN N0 ep2)))))) fun _ hs hd S5 N5=>?_
    refine yA 23 (.bool false) hs hd (yW H18 (zN N5 S4)) (yD c12 S5) fun _ hs hd S6 N6=>?_
    refine yA 24 (.bool false) hs hd (yW H18 (zN N6 (zN N5 S4))) (yM S6) fun _ hs hd S7 N7=>?_
    refine yK 25 hs hd (yW H21 S7) fun _ hs hd S8 N8=>?_
    refine yK 26 hs hd (yW H21 (zN N8 S7)) fun _ hs hd S9 N9=>?_
    refine yA 27 (.bool false) hs hd (yW H18 (zN N9 (zN N8 (zN N7 (zN N6 (zN N5 S4)))))) (yQ (zN N9 (zN N8 S7)) rfl) fun _ hs hd S10 N10=>?_
    refine yA 28 (.bool false) hs hd rfl (yQ (zN N10 (zN N9 (zN N8 (zN N7 (zN N6 (zN N5 S4)))))) S10) fun _ hs hd S11 N11=>?_
    exact wpList_nil (hK_ _ _ (Stop.go ⟨false,Eq.trans (by first|rfl|(rw[if_neg c11,if_neg c12];rfl)|(simp[*];done)) hE9.out.symm,hs,hd,(zN N11 (zN N10 (zN N9 (zN N8 (zN N7 (zN N6 (zN N5 (zN N4 (zN N3 (zN N2 (zN N1 (zN N0 ep2)))))))))))),S11,rfl⟩))
   case rest=>
    clear hs hd ep2 es2
    obtain⟨b8,hb_,hs,hd,ep3,es3,rfl⟩:=hc_
    simp only[List.drop_succ_cons,List.drop_zero,List.drop_nil]
    have H:=MW.bind_step HH.out (hb_.trans hE9.out)
    replace HH:=za H
    clear H hb_ hE9
    obtain⟨E14,hE14⟩:∃ e_:Bool,e_=(if b8=true then(true) else(if a0≥8232 then((decide (a0≤8233))) else(false))):=⟨_,rfl⟩
    replace hE14:=za hE14
    refine MW.list_cut 8 (fun a_ w_=>∃ b_:Bool,b_=E14∧a_.tmps.size=49∧a_.defers=[]∧a_.eval (.tmp 0)=.int .i32 a0∧a_.eval (.tmp 36)=.bool b_∧w=w_) (fun K_ hK_=>?seg) (fun af4 w_ hc_=>?rest)
    case seg=>
     simp only[List.take_succ_cons,List.take_zero,List.take_nil]
     clear HH
     by_cases c15:b8=true
     ·subst c15
      refine yA 29 (.bool true) hs hd rfl (yM es3) fun _ hs hd S0 N0=>?_
      refine yK 30 hs hd (yW H26 S0) fun _ hs hd S1 N1=>?_
      refine yK 31 hs hd (yW H26 (zN N1 S0)) fun _ hs hd S2 N2=>?_
      refine yK 32 hs hd (yW H26 (zN N2 (zN N1 S0))) fun _ hs hd S3 N3=>?_
      refine yK 33 hs hd (yU H29 S3) fun _ hs hd S4 N4=>?_
      refine yK 34 hs hd (yU H29 (zN N4 S3)) fun _ hs hd S5 N5=>?_
      refine yK 35 hs hd (yW H26 (zN N5 (zN N4 (zN N3 (zN N2 (zN N1 S0)))))) fun _ hs hd S6 N6=>?_
      refine yA 36 (.bool true) hs hd rfl (yP (zN N6 (zN N5 (zN N4 (zN N3 (zN N2 (zN N1 S0)))))) rfl) fun _ hs hd S7 N7=>?_
      exact wpList_nil (hK_ _ _ (Stop.go ⟨true,Eq.trans (by first|rfl|(rw[];rfl)|(simp[*];done)) hE14.out.symm,hs,hd,(zN N7 (zN N6 (zN N5 (zN N4 (zN N3 (zN N2 (zN N1 (zN N0 ep3)))))))),S7,rfl⟩))
     replace c15:=Bool.eq_false_iff.mpr c15
     subst c15
     by_cases c16:a0≥8232
     ·refine yA 29 (.bool false) hs hd rfl (yM es3) fun _ hs hd S0 N0=>?_
      refine yA 30 (.int .i32 a0) hs hd (yW H26 S0) (yM (zN N0 ep3)) fun _ hs hd S1 N1=>?_
      refine yA 31 (.bool true) hs hd (yW H26 (zN N1 S0)) (yC c16 S1) fun _ hs hd S2 N2=>?_
      refine yA 32 (.bool true) hs hd (yW H26 (zN N2 (zN N1 S0))) (yM S2) fun _ hs hd S3 N3=>?_
      refine yA 33 (.int .i32 a0) hs hd (yW H29 S3) (yM (zN N3 (zN N2 (zN N1 (zN N0 ep3))))) fun _ hs hd S4 N4=>?_
      refine yA 34 (.bool (decide (a0≤8233))) hs hd (yW H29 (zN N4 S3)) (yB S4) fun _ hs hd S5 N5=>?_
      refine yA 35 (.bool (decide (a0≤8233))) hs hd (yW H26 (zN N5 (zN N4 (zN N3 (zN N2 (zN N1 S0)))))) (yP (zN N5 (zN N4 S3)) S5) fun _ hs hd S6 N6=>?_
      refine yA 36 (.bool (decide (a0≤8233))) hs hd rfl (yQ (zN N6 (zN N5 (zN N4 (zN N3 (zN N2 (zN N1 S0)))))) S6) fun _ hs hd S7 N7=>?_
      exact wpList_nil (hK_ _ _ (Stop.go ⟨(decide (a0≤8233)),Eq.trans (by first|rfl|(rw[if_pos c16];rfl)|(simp[*];done)) hE14.out.symm,hs,hd,(zN N7 (zN N6 (zN N5 (zN N4 (zN N3 (zN N2 (zN N1 (zN N0 ep3)))))))),S7,rfl⟩))
     refine yA 29 (.bool false) hs hd rfl (yM es3) fun _ hs hd S0 N0=>?_
     refine yA 30 (.int .i32 a0) hs hd (yW H26 S0) (yM (zN N0 ep3)) fun _ hs hd S1 N1=>?_
     refine yA 31 (.bool false) hs hd (yW H26 (zN N1 S0)) (yD c16 S1) fun _ hs hd S2 N2=>?_
     refine yA 32 (.bool false) hs hd (yW H26 (zN N2 (zN N1 S0))) (yM S2) fun _ hs hd S3 N3=>?_
     refine yK 33 hs hd (yW H29 S3) fun _ hs hd S4 N4=>?_
     refine yK 34 hs hd (yW H29 (zN N4 S3)) fun _ hs hd S5 N5=>?_
     refine yA 35 (.bool false) hs hd (yW H26 (zN N5 (zN N4 (zN N3 (zN N2 (zN N1 S0)))))) (yQ (zN N5 (zN N4 S3)) rfl) fun _ hs hd S6 N6=>?_
     refine yA 36 (.bool false) hs hd rfl (yQ (zN N6 (zN N5 (zN N4 (zN N3 (zN N2 (zN N1 S0)))))) S6) fun _ hs hd S7 N7=>?_
     exact wpList_nil (hK_ _ _ (Stop.go ⟨false,Eq.trans (by first|rfl|(rw[if_neg c16];rfl)|(simp[*];done)) hE14.out.symm,hs,hd,(zN N7 (zN N6 (zN N5 (zN N4 (zN N3 (zN N2 (zN N1 (zN N0 ep3)))))))),S7,rfl⟩))
    case rest=>
     clear hs hd ep3 es3
     obtain⟨b13,hb_,hs,hd,ep4,es4,rfl⟩:=hc_
     simp only[List.drop_succ_cons,List.drop_zero,List.drop_nil]
     have H:=MW.bind_step HH.out (hb_.trans hE14.out)
     replace HH:=za H
     clear H hb_ hE14
     obtain⟨E18,hE18⟩:∃ e_:Bool,e_=(if b13=true then(true) else(if a0=8239 then(true) else((a0==8287)))):=⟨_,rfl⟩
     replace hE18:=za hE18
     refine MW.list_cut 8 (fun a_ w_=>∃ b_:Bool,b_=E18∧a_.tmps.size=49∧a_.defers=[]∧a_.eval (.tmp 0)=.int .i32 a0∧a_.eval (.tmp 44)=.bool b_∧w=w_) (fun K_ hK_=>?seg) (fun af5 w_ hc_=>?rest)
     case seg=>
      simp only[List.take_succ_cons,List.take_zero,List.take_nil]
      clear HH
      by_cases c19:b13=true
      ·subst c19
       refine yA 37 (.bool true) hs hd rfl (yM es4) fun _ hs hd S0 N0=>?_
       refine yK 38 hs hd (yW H34 S0) fun _ hs hd S1 N1=>?_
       refine yK 39 hs hd (yW H34 (zN N1 S0)) fun _ hs hd S2 N2=>?_
       refine yA 40 (.bool true) hs hd rfl (yP (zN N2 (zN N1 S0)) rfl) fun _ hs hd S3 N3=>?_
       refine yA 41 (.bool true) hs hd rfl (yM S3) fun _ hs hd S4 N4=>?_
       refine yK 42 hs hd (yW H38 S4) fun _ hs hd S5 N5=>?_
       refine yK 43 hs hd (yW H38 (zN N5 S4)) fun _ hs hd S6 N6=>?_
       refine yA 44 (.bool true) hs hd rfl (yP (zN N6 (zN N5 S4)) rfl) fun _ hs hd S7 N7=>?_
       exact wpList_nil (hK_ _ _ (Stop.go ⟨true,Eq.trans (by first|rfl|(rw[];rfl)|(simp[*];done)) hE18.out.symm,hs,hd,(zN N7 (zN N6 (zN N5 (zN N4 (zN N3 (zN N2 (zN N1 (zN N0 ep4)))))))),S7,rfl⟩))
      replace c19:=Bool.eq_false_iff.mpr c19
      subst c19
      by_cases c20:a0=8239
      ·refine yA 37 (.bool false) hs hd rfl (yM es4) fun _ hs hd S0 N0=>?_
       refine yA 38 (.int .i32 a0) hs hd (yW H34 S0) (yM (zN N0 ep4)) fun _ hs hd S1 N1=>?_
       refine yA 39 (.bool true) hs hd (yW H34 (zN N1 S0)) (yC c20 S1) fun _ hs hd S2 N2=>?_
       refine yA 40 (.bool true) hs hd rfl (yQ (zN N2 (zN N1 S0)) S2) fun _ hs hd S3 N3=>?_
       refine yA 41 (.bool true) hs hd rfl (yM S3) fun _ hs hd S4 N4=>?_
       refine yK 42 hs hd (yW H38 S4) fun _ hs hd S5 N5=>?_
       refine yK 43 hs hd (yW H38 (zN N5 S4)) fun _ hs hd S6 N6=>?_
       refine yA 44 (.bool true) hs hd rfl (yP (zN N6 (zN N5 S4)) rfl) fun _ hs hd S7 N7=>?_
       exact wpList_nil (hK_ _ _ (Stop.go ⟨true,Eq.trans (by first|rfl|(rw[if_pos c20];rfl)|(simp[*];done)) hE18.out.symm,hs,hd,(zN N7 (zN N6 (zN N5 (zN N4 (zN N3 (zN N2 (zN N1 (zN N0 ep4)))))))),S7,rfl⟩))
      refine yA 37 (.bool false) hs hd rfl (yM es4) fun _ hs hd S0 N0=>?_
      refine yA 38 (.int .i32 a0) hs hd (yW H34 S0) (yM (zN N0 ep4)) fun _ hs hd S1 N1=>?_
      refine yA 39 (.bool false) hs hd (yW H34 (zN N1 S0)) (yD c20 S1) fun _ hs hd S2 N2=>?_
      refine yA 40 (.bool false) hs hd rfl (yQ (zN N2 (zN N1 S0)) S2) fun _ hs hd S3 N3=>?_
      refine yA 41 (.bool false) hs hd rfl (yM S3) fun _ hs hd S4 N4=>?_
      refine yA 42 (.int .i32 a0) hs hd (yW H38 S4) (yM (zN N4 (zN N3 (zN N2 (zN N1 (zN N0 ep4)))))) fun _ hs hd S5 N5=>?_
      refine yA 43 (.bool (a0==8287)) hs hd (yW H38 (zN N5 S4)) (yB S5) fun _ hs hd S6 N6=>?_
      refine yA 44 (.bool (a0==8287)) hs hd rfl (yQ (zN N6 (zN N5 S4)) S6) fun _ hs hd S7 N7=>?_
      exact wpList_nil (hK_ _ _ (Stop.go ⟨(a0==8287),Eq.trans (by first|rfl|(rw[if_neg c20];rfl)|(simp[*];done)) hE18.out.symm,hs,hd,(zN N7 (zN N6 (zN N5 (zN N4 (zN N3 (zN N2 (zN N1 (zN N0 ep4)))))))),S7,rfl⟩))
     case rest=>
      clear hs hd ep4 es4
      obtain⟨b17,hb_,hs,hd,ep5,es5,rfl⟩:=hc_
      simp only[List.drop_succ_cons,List.drop_zero,List.drop_nil]
      have H:=MW.bind_step HH.out (hb_.trans hE18.out)
      replace HH:=za H
      clear H hb_ hE18
      obtain⟨E22,hE22⟩:∃ e_:Bool,e_=(if b17=true then(true) else((a0==12288))):=⟨_,rfl⟩
      replace hE22:=za hE22
      refine MW.list_cut 5 (fun a_ w_=>∃ b_:Bool,b_=E22∧a_.tmps.size=49∧a_.defers=[]∧a_.eval (.tmp 0)=.int .i32 a0∧a_.eval (.tmp 2)=.bool b_∧w=w_) (fun K_ hK_=>?seg) (fun af6 w_ hc_=>?rest)
      case seg=>
       simp only[List.take_succ_cons,List.take_zero,List.take_nil]
       clear HH
       by_cases c23:b17=true
       ·subst c23
        refine yA 45 (.bool true) hs hd rfl (yM es5) fun _ hs hd S0 N0=>?_
        refine yK 46 hs hd (yW H42 S0) fun _ hs hd S1 N1=>?_
        refine yK 47 hs hd (yW H42 (zN N1 S0)) fun _ hs hd S2 N2=>?_
        refine yA 48 (.bool true) hs hd rfl (yP (zN N2 (zN N1 S0)) rfl) fun _ hs hd S3 N3=>?_
        refine yA 2 (.bool true) hs hd rfl (MW.ab_assign rfl S3) fun _ hs hd S4 N4=>?_
        exact wpList_nil (hK_ _ _ (Stop.go ⟨true,Eq.trans (by first|rfl|(rw[];rfl)|(simp[*];done)) hE22.out.symm,hs,hd,(zN N4 (zN N3 (zN N2 (zN N1 (zN N0 ep5))))),S4,rfl⟩))
       replace c23:=Bool.eq_false_iff.mpr c23
       subst c23
       refine yA 45 (.bool false) hs hd rfl (yM es5) fun _ hs hd S0 N0=>?_
       refine yA 46 (.int .i32 a0) hs hd (yW H42 S0) (yM (zN N0 ep5)) fun _ hs hd S1 N1=>?_
       refine yA 47 (.bool (a0==12288)) hs hd (yW H42 (zN N1 S0)) (yB S1) fun _ hs hd S2 N2=>?_
       refine yA 48 (.bool (a0==12288)) hs hd rfl (yQ (zN N2 (zN N1 S0)) S2) fun _ hs hd S3 N3=>?_
       refine yA 2 (.bool (a0==12288)) hs hd rfl (MW.ab_assign rfl S3) fun _ hs hd S4 N4=>?_
       exact wpList_nil (hK_ _ _ (Stop.go ⟨(a0==12288),Eq.trans (by first|rfl|(rw[];rfl)|(simp[*];done)) hE22.out.symm,hs,hd,(zN N4 (zN N3 (zN N2 (zN N1 (zN N0 ep5))))),S4,rfl⟩))
      case rest=>
       clear hs hd ep5 es5
       obtain⟨b21,hb_,hs,hd,ep6,es6,rfl⟩:=hc_
       simp only[List.drop_succ_cons,List.drop_zero,List.drop_nil]
       have H:=MW.bind_step HH.out (hb_.trans hE22.out)
       replace HH:=za H
       clear H hb_ hE22
       obtain rfl:=Option.some.inj HH.out
       exact wpList_nil (fin.out _ hs hd es6)
theorem chars_space.calls (a0:Int) (r:Bool) (w:World) (h:chars_space.f a0=some r):
  Calls Try.prog 27 #[.int .i32 a0] w (fun e w'=>e=.returned (.bool r)∧Drawn0 w w'):=by
 have HH:=za h
 clear h
 unfold chars_space.f at HH
 go_enter Try.func27,Try.ntmps27
 repeat(first|(refine MW.region_ops (id:=1) ?_)|go_step)
 intro OPS hO
 refine chars_space.p0 OPS hO a0 r w _ (by kernel_rfl) (by kernel_rfl) (by kernel_rfl) HH.out ?_
 intro a' hs hd es
 repeat go_step
 refine bodyPost_ret (results_tmp rfl _ _ _) hd ?_
 exact⟨congrArg Ending.returned es,Drawn0.refl _⟩
end Go.Proofs.Ytkbiiijmgbjnkaa.GA
