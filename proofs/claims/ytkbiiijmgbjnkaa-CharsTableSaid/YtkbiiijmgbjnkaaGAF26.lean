import Derived.Test.YtkbiiijmgbjnkaaGA0
import Derived.Test.YtkbiiijmgbjnkaaMX
namespace Go.Proofs.Ytkbiiijmgbjnkaa.GA
open Go.RowKit Go.Proofs.Ytkbiiijmgbjnkaa Go.Proofs.Ytkbiiijmgbjnkaa.MW Go.Proofs.YtkbiiijmgbjnkaaW.PrintWords Go.Proofs.YtkbiiijmgbjnkaaW.PrintLast Go.Proofs.YtkbiiijmgbjnkaaW.PrintMore
attribute [local go_sem] max2_int min2_int max_two min_two
set_option maxHeartbeats 8000000
set_option maxRecDepth 100000
set_option linter.unusedVariables false
set_option linter.unusedSimpArgs false
def chars_sign.f (a0:Int):Option (Bool):=(some (if a0≥33 then((decide (a0≤47))) else(false):Bool)).bind fun b1=>((some (if b1=true then(true) else(if a0≥58 then((decide (a0≤64))) else(false)):Bool)).bind fun b4=>((some (if b4=true then(true) else(if a0≥91 then((decide (a0≤96))) else(false)):Bool)).bind fun b8=>((some (if b8=true then(true) else(if a0≥123 then((decide (a0≤126))) else(false)):Bool)).bind fun b12=>((some (if b12=true then(true) else(if a0≥161 then((decide (a0≤169))) else(false)):Bool)).bind fun b16=>((some (if b16=true then(true) else(if a0≥171 then((decide (a0≤172))) else(false)):Bool)).bind fun b20=>((some (if b20=true then(true) else(if a0≥174 then((decide (a0≤177))) else(false)):Bool)).bind fun b24=>((some (if b24=true then(true) else(if a0=180 then(true) else(if a0≥182 then((decide (a0≤184))) else(false))):Bool)).bind fun b28=>((some (if b28=true then(true) else(if a0≥187 then((decide (a0≤191))) else(false)):Bool)).bind fun b33=>((some (if b33=true then(true) else(if a0=215 then(true) else((a0==247))):Bool)).bind fun b37=>((some (if b37=true then(true) else(if a0≥8208 then((decide (a0≤8209))) else(false)):Bool)).bind fun b41=>((some (if b41=true then(true) else(if a0=8260 then(true) else((a0==8722))):Bool)).bind fun b45=>((some (if b45=true then(true) else(if a0≥65281 then((decide (a0≤65295))) else(false)):Bool)).bind fun b49=>((some (if b49=true then(true) else(if a0≥65306 then((decide (a0≤65312))) else(false)):Bool)).bind fun b53=>((some (if b53=true then(true) else(if a0≥65339 then((decide (a0≤65344))) else(false)):Bool)).bind fun b57=>((some (if b57=true then(true) else(if a0≥65371 then((decide (a0≤65374))) else(false)):Bool)).bind fun b61=>(some b61))))))))))))))))
noncomputable def chars_sign.ops:List Oper:=match Try.f26.body with
 |some (.seq _ (.seq (.region _ o _) _))=>o.toList
 |_=>[]
theorem chars_sign.p2 {Q:Exit→Act→World→Prop} (OPS:Array Oper) (hO:OPS=chars_sign.ops.toArray) (a0:Int) (r:Bool) (w:World) (af12:Act) (b45:Bool) (hs:af12.tmps.size=133) (hd:af12.defers=[]) (ep12:af12.eval (.tmp 0)=.int .i32 a0) (es12:af12.eval (.tmp 100)=.bool b45) (h:((some (if b45=true then(true) else(if a0≥65281 then((decide (a0≤65295))) else(false)):Bool)).bind fun b49=>((some (if b49=true then(true) else(if a0≥65306 then((decide (a0≤65312))) else(false)):Bool)).bind fun b53=>((some (if b53=true then(true) else(if a0≥65339 then((decide (a0≤65344))) else(false)):Bool)).bind fun b57=>((some (if b57=true then(true) else(if a0≥65371 then((decide (a0≤65374))) else(false)):Bool)).bind fun b61=>(some b61)))))=some r) (fin:∀ a':Act,a'.tmps.size=133→a'.defers=[]→a'.eval (.tmp 2)=.bool r→Q .normal a' w):wpList Try.prog OPS Q (chars_sign.ops.drop 98) af12 w:=by
 have HH:=za h
 clear h
 have H98:(OPS[98]?).bind (·.dst)=some 101:=by rw[hO];rfl
 have H101:(OPS[101]?).bind (·.dst)=some 104:=by rw[hO];rfl
 have H106:(OPS[106]?).bind (·.dst)=some 109:=by rw[hO];rfl
 have H109:(OPS[109]?).bind (·.dst)=some 112:=by rw[hO];rfl
 have H114:(OPS[114]?).bind (·.dst)=some 117:=by rw[hO];rfl
 have H117:(OPS[117]?).bind (·.dst)=some 120:=by rw[hO];rfl
 have H122:(OPS[122]?).bind (·.dst)=some 125:=by rw[hO];rfl
 have H125:(OPS[125]?).bind (·.dst)=some 128:=by rw[hO];rfl
 replace hO:=(Stop.go hO:Stop _ (.mk _))
 replace fin:=(Stop.go fin:Stop _ (.mk _))
 simp only[chars_sign.ops,Try.f26,List.append_eq,List.cons_append,List.nil_append,List.drop_succ_cons,List.drop_zero,List.take_succ_cons,List.take_zero]
 obtain⟨E50,hE50⟩:∃ e_:Bool,e_=(if b45=true then(true) else(if a0≥65281 then((decide (a0≤65295))) else(false))):=⟨_,rfl⟩
 replace hE50:=za hE50
 refine MW.list_cut 8 (fun a_ w_=>∃ b_:Bool,b_=E50∧a_.tmps.size=133∧a_.defers=[]∧a_.eval (.tmp 0)=.int .i32 a0∧a_.eval (.tmp 108)=.bool b_∧w=w_) (fun K_ hK_=>?seg) (fun af13 w_ hc_=>?rest)
 case seg=>
  simp only[List.take_succ_cons,List.take_zero,List.take_nil]
  clear HH
  by_cases c51:b45=true
  ·subst c51
   refine yA 101 (.bool true) hs hd rfl (yM es12) fun _ hs hd S0 N0=>?_
   refine yK 102 hs hd (yW H98 S0) fun _ hs hd S1 N1=>?_
   refine yK 103 hs hd (yW H98 (zN N1 S0)) fun _ hs hd S2 N2=>?_
   refine yK 104 hs hd (yW H98 (zN N2 (zN N1 S0))) fun _ hs hd S3 N3=>?_
   refine yK 105 hs hd (yU H101 S3) fun _ hs hd S4 N4=>?_
   refine yK 106 hs hd (yU H101 (zN N4 S3)) fun _ hs hd S5 N5=>?_
   refine yK 107 hs hd (yW H98 (zN N5 (zN N4 (zN N3 (zN N2 (zN N1 S0)))))) fun _ hs hd S6 N6=>?_
   refine yA 108 (.bool true) hs hd rfl (yP (zN N6 (zN N5 (zN N4 (zN N3 (zN N2 (zN N1 S0)))))) rfl) fun _ hs hd S7 N7=>?_
   exact wpList_nil (hK_ _ _ (Stop.go ⟨true,Eq.trans (by first|rfl|(rw[];rfl)|(simp[*];done)) hE50.out.symm,hs,hd,(zN N7 (zN N6 (zN N5 (zN N4 (zN N3 (zN N2 (zN N1 (zN N0 ep12)))))))),S7,rfl⟩))
  replace c51:=Bool.eq_false_iff.mpr c51
  subst c51
  by_cases c52:a0≥65281
  ·refine yA 101 (.bool false) hs hd rfl (yM es12) fun _ hs hd S0 N0=>?_
   refine yA 102 (.int .i32 a0) hs hd (yW H98 S0) (yM (zN N0 ep12)) fun _ hs hd S1 N1=>?_
   refine yA 103 (.bool true) hs hd (yW H98 (zN N1 S0)) (yC c52 S1) fun _ hs hd S2 N2=>?_
   refine yA 104 (.bool true) hs hd (yW H98 (zN N2 (zN N1 S0))) (yM S2) fun _ hs hd S3 N3=>?_
   refine yA 105 (.int .i32 a0) hs hd (yW H101 S3) (yM (zN N3 (zN N2 (zN N1 (zN N0 ep12))))) fun _ hs hd S4 N4=>?_
   refine yA 106 (.bool (decide (a0≤65295))) hs hd (yW H101 (zN N4 S3)) (yB S4) fun _ hs hd S5 N5=>?_
   refine yA 107 (.bool (decide (a0≤65295))) hs hd (yW H98 (zN N5 (zN N4 (zN N3 (zN N2 (zN N1 S0)))))) (yP (zN N5 (zN N4 S3)) S5) fun _ hs hd S6 N6=>?_
   refine yA 108 (.bool (decide (a0≤65295))) hs hd rfl (yQ (zN N6 (zN N5 (zN N4 (zN N3 (zN N2 (zN N1 S0)))))) S6) fun _ hs hd S7 N7=>?_
   exact wpList_nil (hK_ _ _ (Stop.go ⟨(decide (a0≤65295)),Eq.trans (by first|rfl|(rw[if_pos c52];rfl)|(simp[*];done)) hE50.out.symm,hs,hd,(zN N7 (zN N6 (zN N5 (zN N4 (zN N3 (zN N2 (zN N1 (zN N0 ep12)))))))),S7,rfl⟩))
  refine yA 101 (.bool false) hs hd rfl (yM es12) fun _ hs hd S0 N0=>?_
  refine yA 102 (.int .i32 a0) hs hd (yW H98 S0) (yM (zN N0 ep12)) fun _ hs hd S1 N1=>?_
  refine yA 103 (.bool false) hs hd (yW H98 (zN N1 S0)) (yD c52 S1) fun _ hs hd S2 N2=>?_
  refine yA 104 (.bool false) hs hd (yW H98 (zN N2 (zN N1 S0))) (yM S2) fun _ hs hd S3 N3=>?_
  refine yK 105 hs hd (yW H101 S3) fun _ hs hd S4 N4=>?_
  refine yK 106 hs hd (yW H101 (zN N4 S3)) fun _ hs hd S5 N5=>?_
  refine yA 107 (.bool false) hs hd (yW H98 (zN N5 (zN N4 (zN N3 (zN N2 (zN N1 S0)))))) (yQ (zN N5 (zN N4 S3)) rfl) fun _ hs hd S6 N6=>?_
  refine yA 108 (.bool false) hs hd rfl (yQ (zN N6 (zN N5 (zN N4 (zN N3 (zN N2 (zN N1 S0)))))) S6) fun _ hs hd S7 N7=>?_
  exact wpList_nil (hK_ _ _ (Stop.go ⟨false,Eq.trans (by first|rfl|(rw[if_neg c52];rfl)|(simp[*];done)) hE50.out.symm,hs,hd,(zN N7 (zN N6 (zN N5 (zN N4 (zN N3 (zN N2 (zN N1 (zN N0 ep12)))))))),S7,rfl⟩))
 case rest=>
  clear hs hd ep12 es12
  obtain⟨b49,hb_,hs,hd,ep13,es13,rfl⟩:=hc_
  simp only[List.drop_succ_cons,List.drop_zero,List.drop_nil]
  have H:=MW.bind_step HH.out (hb_.trans hE50.out)
  replace HH:=za H
  clear H hb_ hE50
  obtain⟨E54,hE54⟩:∃ e_:Bool,e_=(if b49=true then(true) else(if a0≥65306 then((decide (a0≤65312))) else(false))):=⟨_,rfl⟩
  replace hE54:=za hE54
  refine MW.list_cut 8 (fun a_ w_=>∃ b_:Bool,b_=E54∧a_.tmps.size=133∧a_.defers=[]∧a_.eval (.tmp 0)=.int .i32 a0∧a_.eval (.tmp 116)=.bool b_∧w=w_) (fun K_ hK_=>?seg) (fun af14 w_ hc_=>?rest)
  case seg=>
   simp only[List.take_succ_cons,List.take_zero,List.take_nil]
   clear HH
   by_cases c55:b49=true
   ·subst c55
    refine yA 109 (.bool true) hs hd rfl (yM es13) fun _ hs hd S0 N0=>?_
    refine yK 110 hs hd (yW H106 S0) fun _ hs hd S1 N1=>?_
    refine yK 111 hs hd (yW H106 (zN N1 S0)) fun _ hs hd S2 N2=>?_
    refine yK 112 hs hd (yW H106 (zN N2 (zN N1 S0))) fun _ hs hd S3 N3=>?_
    refine yK 113 hs hd (yU H109 S3) fun _ hs hd S4 N4=>?_
    refine yK 114 hs hd (yU H109 (zN N4 S3)) fun _ hs hd S5 N5=>?_
    refine yK 115 hs hd (yW H106 (zN N5 (zN N4 (zN N3 (zN N2 (zN N1 S0)))))) fun _ hs hd S6 N6=>?_
    refine yA 116 (.bool true) hs hd rfl (yP (zN N6 (zN N5 (zN N4 (zN N3 (zN N2 (zN N1 S0)))))) rfl) fun _ hs hd S7 N7=>?_
    exact wpList_nil (hK_ _ _ (Stop.go ⟨true,Eq.trans (by first|rfl|(rw[];rfl)|(simp[*];done)) hE54.out.symm,hs,hd,(zN N7 (zN N6 (zN N5 (zN N4 (zN N3 (zN N2 (zN N1 (zN N0 ep13)))))))),S7,rfl⟩))
   replace c55:=Bool.eq_false_iff.mpr c55
   subst c55
   by_cases c56:a0≥65306
   ·refine yA 109 (.bool false) hs hd rfl (yM es13) fun _ hs hd S0 N0=>?_
    refine yA 110 (.int .i32 a0) hs hd (yW H106 S0) (yM (zN N0 ep13)) fun _ hs hd S1 N1=>?_
    refine yA 111 (.bool true) hs hd (yW H106 (zN N1 S0)) (yC c56 S1) fun _ hs hd S2 N2=>?_
    refine yA 112 (.bool true) hs hd (yW H106 (zN N2 (zN N1 S0))) (yM S2) fun _ hs hd S3 N3=>?_
    refine yA 113 (.int .i32 a0) hs hd (yW H109 S3) (yM (zN N3 (zN N2 (zN N1 (zN N0 ep13))))) fun _ hs hd S4 N4=>?_
    refine yA 114 (.bool (decide (a0≤65312))) hs hd (yW H109 (zN N4 S3)) (yB S4) fun _ hs hd S5 N5=>?_
    refine yA 115 (.bool (decide (a0≤65312))) hs hd (yW H106 (zN N5 (zN N4 (zN N3 (zN N2 (zN N1 S0)))))) (yP (zN N5 (zN N4 S3)) S5) fun _ hs hd S6 N6=>?_
    refine yA 116 (.bool (decide (a0≤65312))) hs hd rfl (yQ (zN N6 (zN N5 (zN N4 (zN N3 (zN N2 (zN N1 S0)))))) S6) fun _ hs hd S7 N7=>?_
    exact wpList_nil (hK_ _ _ (Stop.go ⟨(decide (a0≤65312)),Eq.trans (by first|rfl|(rw[if_pos c56];rfl)|(simp[*];done)) hE54.out.symm,hs,hd,(zN N7 (zN N6 (zN N5 (zN N4 (zN N3 (zN N2 (zN N1 (zN N0 ep13)))))))),S7,rfl⟩))
   refine yA 109 (.bool false) hs hd rfl (yM es13) fun _ hs hd S0 N0=>?_
   refine yA 110 (.int .i32 a0) hs hd (yW H106 S0) (yM (zN N0 ep13)) fun _ hs hd S1 N1=>?_
   refine yA 111 (.bool false) hs hd (yW H106 (zN N1 S0)) (yD c56 S1) fun _ hs hd S2 N2=>?_
   refine yA 112 (.bool false) hs hd (yW H106 (zN N2 (zN N1 S0))) (yM S2) fun _ hs hd S3 N3=>?_
   refine yK 113 hs hd (yW H109 S3) fun _ hs hd S4 N4=>?_
   refine yK 114 hs hd (yW H109 (zN N4 S3)) fun _ hs hd S5 N5=>?_
   refine yA 115 (.bool false) hs hd (yW H106 (zN N5 (zN N4 (zN N3 (zN N2 (zN N1 S0)))))) (yQ (zN N5 (zN N4 S3)) rfl) fun _ hs hd S6 N6=>?_
   refine yA 116 (.bool false) hs hd rfl (yQ (zN N6 (zN N5 (zN N4 (zN N3 (zN N2 (zN N1 S0)))))) S6) fun _ hs hd S7 N7=>?_
   exact wpList_nil (hK_ _ _ (Stop.go ⟨false,Eq.trans (by first|rfl|(rw[if_neg c56];rfl)|(simp[*];done)) hE54.out.symm,hs,hd,(zN N7 (zN N6 (zN N5 (zN N4 (zN N3 (zN N2 (zN N1 (zN N0 ep13)))))))),S7,rfl⟩))
  case rest=>
   clear hs hd ep13 es13
   obtain⟨b53,hb_,hs,hd,ep14,es14,rfl⟩:=hc_
   simp only[List.drop_succ_cons,List.drop_zero,List.drop_nil]
   have H:=MW.bind_step HH.out (hb_.trans hE54.out)
   replace HH:=za H
   clear H hb_ hE54
   obtain⟨E58,hE58⟩:∃ e_:Bool,e_=(if b53=true then(true) else(if a0≥65339 then((decide (a0≤65344))) else(false))):=⟨_,rfl⟩
   replace hE58:=za hE58
   refine MW.list_cut 8 (fun a_ w_=>∃ b_:Bool,b_=E58∧a_.tmps.size=133∧a_.defers=[]∧a_.eval (.tmp 0)=.int .i32 a0∧a_.eval (.tmp 124)=.bool b_∧w=w_) (fun K_ hK_=>?seg) (fun af15 w_ hc_=>?rest)
   case seg=>
    simp only[List.take_succ_cons,List.take_zero,List.take_nil]
    clear HH
    by_cases c59:b53=true
    ·subst c59
     refine yA 117 (.bool true) hs hd rfl (yM es14) fun _ hs hd S0 N0=>?_
     refine yK 118 hs hd (yW H114 S0) fun _ hs hd S1 N1=>?_
     refine yK 119 hs hd (yW H114 (zN N1 S0)) fun _ hs hd S2 N2=>?_
     refine yK 120 hs hd (yW H114 (zN N2 (zN N1 S0))) fun _ hs hd S3 N3=>?_
     refine yK 121 hs hd (yU H117 S3) fun _ hs hd S4 N4=>?_
     refine yK 122 hs hd (yU H117 (zN N4 S3)) fun _ hs hd S5 N5=>?_
     refine yK 123 hs hd (yW H114 (zN N5 (zN N4 (zN N3 (zN N2 (zN N1 S0)))))) fun _ hs hd S6 N6=>?_
     refine yA 124 (.bool true) hs hd rfl (yP (zN N6 (zN N5 (zN N4 (zN N3 (zN N2 (zN N1 S0)))))) rfl) fun _ hs hd S7 N7=>?_
     exact wpList_nil (hK_ _ _ (Stop.go ⟨true,Eq.trans (by first|rfl|(rw[];rfl)|(simp[*];done)) hE58.out.symm,hs,hd,(zN N7 (zN N6 (zN N5 (zN N4 (zN N3 (zN N2 (zN N1 (zN N0 ep14)))))))),S7,rfl⟩))
    replace c59:=Bool.eq_false_iff.mpr c59
    subst c59
    by_cases c60:a0≥65339
    ·refine yA 117 (.bool false) hs hd rfl (yM es14) fun _ hs hd S0 N0=>?_
     refine yA 118 (.int .i32 a0) hs hd (yW H114 S0) (yM (zN N0 ep14)) fun _ hs hd S1 N1=>?_
     refine yA 119 (.bool true) hs hd (yW H114 (zN N1 S0)) (yC c60 S1) fun _ hs hd S2 N2=>?_
     refine yA 120 (.bool true) hs hd (yW H114 (zN N2 (zN N1 S0))) (yM S2) fun _ hs hd S3 N3=>?_
     refine yA 121 (.int .i32 a0) hs hd (yW H117 S3) (yM (zN N3 (zN N2 (zN N1 (zN N0 ep14))))) fun _ hs hd S4 N4=>?_
     refine yA 122 (.bool (decide (a0≤65344))) hs hd (yW H117 (zN N4 S3)) (yB S4) fun _ hs hd S5 N5=>?_
     refine yA 123 (.bool (decide (a0≤65344))) hs hd (yW H114 (zN N5 (zN N4 (zN N3 (zN N2 (zN N1 S0)))))) (yP (zN N5 (zN N4 S3)) S5) fun _ hs hd S6 N6=>?_
     refine yA 124 (.bool (decide (a0≤65344))) hs hd rfl (yQ (zN N6 (zN N5 (zN N4 (zN N3 (zN N2 (zN N1 S0)))))) S6) fun _ hs hd S7 N7=>?_
     exact wpList_nil (hK_ _ _ (Stop.go ⟨(decide (a0≤65344)),Eq.trans (by first|rfl|(rw[if_pos c60];rfl)|(simp[*];done)) hE58.out.symm,hs,hd,(zN N7 (zN N6 (zN N5 (zN N4 (zN N3 (zN N2 (zN N1 (zN N0 ep14)))))))),S7,rfl⟩))
    refine yA 117 (.bool false) hs hd rfl (yM es14) fun _ hs hd S0 N0=>?_
    refine yA 118 (.int .i32 a0) hs hd (yW H114 S0) (yM (zN N0 ep14)) fun _ hs hd S1 N1=>?_
    refine yA 119 (.bool false) hs hd (yW H114 (zN N1 S0)) (yD c60 S1) fun _ hs hd S2 N2=>?_
    refine yA 120 (.bool false) hs hd (yW H114 (zN N2 (zN N1 S0))) (yM S2) fun _ hs hd S3 N3=>?_
    refine yK 121 hs hd (yW H117 S3) fun _ hs hd S4 N4=>?_
    refine yK 122 hs hd (yW H117 (zN N4 S3)) fun _ hs hd S5 N5=>?_
    refine yA 123 (.bool false) hs hd (yW H114 (zN N5 (zN N4 (zN N3 (zN N2 (zN N1 S0)))))) (yQ (zN N5 (zN N4 S3)) rfl) fun _ hs hd S6 N6=>?_
    refine yA 124 (.bool false) hs hd rfl (yQ (zN N6 (zN N5 (zN N4 (zN N3 (zN N2 (zN N1 S0)))))) S6) fun _ hs hd S7 N7=>?_
    exact wpList_nil (hK_ _ _ (Stop.go ⟨false,Eq.trans (by first|rfl|(rw[if_neg c60];rfl)|(simp[*];done)) hE58.out.symm,hs,hd,(zN N7 (zN N6 (zN N5 (zN N4 (zN N3 (zN N2 (zN N1 (zN N0 ep14)))))))),S7,rfl⟩))
   case rest=>
    clear hs hd ep14 es14
    obtain⟨b57,hb_,hs,hd,ep15,es15,rfl⟩:=hc_
    simp only[List.drop_succ_cons,List.drop_zero,List.drop_nil]
    have H:=MW.bind_step HH.out (hb_.trans hE58.out)
    replace HH:=za H
    clear H hb_ hE58
    obtain⟨E62,hE62⟩:∃ e_:Bool,e_=(if b57=true then(true) else(if a0≥65371 then((decide (a0≤65374))) else(false))):=⟨_,rfl⟩
    replace hE62:=za hE62
    refine MW.list_cut 9 (fun a_ w_=>∃ b_:Bool,b_=E62∧a_.tmps.size=133∧a_.defers=[]∧a_.eval (.tmp 0)=.int .i32 a0∧a_.eval (.tmp 2)=.bool b_∧w=w_) (fun K_ hK_=>?seg) (fun af16 w_ hc_=>?rest)
    case seg=>
     simp only[List.take_succ_cons,List.take_zero,List.take_nil]
     clear HH
     by_cases c63:b57=true
     ·subst c63
      refine yA 125 (.bool true) hs hd rfl (yM es15) fun _ hs hd S0 N0=>?_
      refine yK 126 hs hd (yW H122 S0) fun _ hs hd S1 N1=>?_
      refine yK 127 hs hd (yW H122 (zN N1 S0)) fun _ hs hd S2 N2=>?_
      refine yK 128 hs hd (yW H122 (zN N2 (zN N1 S0))) fun _ hs hd S3 N3=>?_
      refine yK 129 hs hd (yU H125 S3) fun _ hs hd S4 N4=>?_
      refine yK 130 hs hd (yU H125 (zN N4 S3)) fun _ hs hd S5 N5=>?_
      refine yK 131 hs hd (yW H122 (zN N5 (zN N4 (zN N3 (zN N2 (zN N1 S0)))))) fun _ hs hd S6 N6=>?_
      refine yA 132 (.bool true) hs hd rfl (yP (zN N6 (zN N5 (zN N4 (zN N3 (zN N2 (zN N1 S0)))))) rfl) fun _ hs hd S7 N7=>?_
      refine yA 2 (.bool true) hs hd rfl (MW.ab_assign rfl S7) fun _ hs hd S8 N8=>?_
      exact wpList_nil (hK_ _ _ (Stop.go ⟨true,Eq.trans (by first|rfl|(rw[];rfl)|(simp[*];done)) hE62.out.symm,hs,hd,(zN N8 (zN N7 (zN N6 (zN N5 (zN N4 (zN N3 (zN N2 (zN N1 (zN N0 ep15))))))))),S8,rfl⟩))
     replace c63:=Bool.eq_false_iff.mpr c63
     subst c63
     by_cases c64:a0≥65371
     ·refine yA 125 (.bool false) hs hd rfl (yM es15) fun _ hs hd S0 N0=>?_
      refine yA 126 (.int .i32 a0) hs hd (yW H122 S0) (yM (zN N0 ep15)) fun _ hs hd S1 N1=>?_
      refine yA 127 (.bool true) hs hd (yW H122 (zN N1 S0)) (yC c64 S1) fun _ hs hd S2 N2=>?_
      refine yA 128 (.bool true) hs hd (yW H122 (zN N2 (zN N1 S0))) (yM S2) fun _ hs hd S3 N3=>?_
      refine yA 129 (.int .i32 a0) hs hd (yW H125 S3) (yM (zN N3 (zN N2 (zN N1 (zN N0 ep15))))) fun _ hs hd S4 N4=>?_
      refine yA 130 (.bool (decide (a0≤65374))) hs hd (yW H125 (zN N4 S3)) (yB S4) fun _ hs hd S5 N5=>?_
      refine yA 131 (.bool (decide (a0≤65374))) hs hd (yW H122 (zN N5 (zN N4 (zN N3 (zN N2 (zN N1 S0)))))) (yP (zN N5 (zN N4 S3)) S5) fun _ hs hd S6 N6=>?_
      refine yA 132 (.bool (decide (a0≤65374))) hs hd rfl (yQ (zN N6 (zN N5 (zN N4 (zN N3 (zN N2 (zN N1 S0)))))) S6) fun _ hs hd S7 N7=>?_
      refine yA 2 (.bool (decide (a0≤65374))) hs hd rfl (MW.ab_assign rfl S7) fun _ hs hd S8 N8=>?_
      exact wpList_nil (hK_ _ _ (Stop.go ⟨(decide (a0≤65374)),Eq.trans (by first|rfl|(rw[if_pos c64];rfl)|(simp[*];done)) hE62.out.symm,hs,hd,(zN N8 (zN N7 (zN N6 (zN N5 (zN N4 (zN N3 (zN N2 (zN N1 (zN N0 ep15))))))))),S8,rfl⟩))
     refine yA 125 (.bool false) hs hd rfl (yM es15) fun _ hs hd S0 N0=>?_
     refine yA 126 (.int .i32 a0) hs hd (yW H122 S0) (yM (zN N0 ep15)) fun _ hs hd S1 N1=>?_
     refine yA 127 (.bool false) hs hd (yW H122 (zN N1 S0)) (yD c64 S1) fun _ hs hd S2 N2=>?_
     refine yA 128 (.bool false) hs hd (yW H122 (zN N2 (zN N1 S0))) (yM S2) fun _ hs hd S3 N3=>?_
     refine yK 129 hs hd (yW H125 S3) fun _ hs hd S4 N4=>?_
     refine yK 130 hs hd (yW H125 (zN N4 S3)) fun _ hs hd S5 N5=>?_
     refine yA 131 (.bool false) hs hd (yW H122 (zN N5 (zN N4 (zN N3 (zN N2 (zN N1 S0)))))) (yQ (zN N5 (zN N4 S3)) rfl) fun _ hs hd S6 N6=>?_
     refine yA 132 (.bool false) hs hd rfl (yQ (zN N6 (zN N5 (zN N4 (zN N3 (zN N2 (zN N1 S0)))))) S6) fun _ hs hd S7 N7=>?_
     refine yA 2 (.bool false) hs hd rfl (MW.ab_assign rfl S7) fun _ hs hd S8 N8=>?_
     exact wpList_nil (hK_ _ _ (Stop.go ⟨false,Eq.trans (by first|rfl|(rw[if_neg c64];rfl)|(simp[*];done)) hE62.out.symm,hs,hd,(zN N8 (zN N7 (zN N6 (zN N5 (zN N4 (zN N3 (zN N2 (zN N1 (zN N0 ep15))))))))),S8,rfl⟩))
    case rest=>
     clear hs hd ep15 es15
     obtain⟨b61,hb_,hs,hd,ep16,es16,rfl⟩:=hc_
     simp only[List.drop_succ_cons,List.drop_zero,List.drop_nil]
     have H:=MW.bind_step HH.out (hb_.trans hE62.out)
     replace HH:=za H
     clear H hb_ hE62
     obtain rfl:=Option.some.inj HH.out
     exact wpList_nil (fin.out _ hs hd es16)
theorem chars_sign.p1 {Q:Exit→Act→World→Prop} (OPS:Array Oper) (hO:OPS=chars_sign.ops.toArray) (a0:Int) (r:Bool) (w:World) (af6:Act) (b20:Bool) (hs:af6.tmps.size=133) (hd:af6.defers=[]) (ep6:af6.eval (.tmp 0)=.int .i32 a0) (es6:af6.eval (.tmp 48)=.bool b20) (h:((some (if b20=true then(true) else(if a0≥174 then((decide (a0≤177))) else(false)):Bool)).bind fun b24=>((some (if b24=true then(true) else(if a0=180 then(true) else(if a0≥182 then((decide (a0≤184))) else(false))):Bool)).bind fun b28=>((some (if b28=true then(true) else(if a0≥187 then((decide (a0≤191))) else(false)):Bool)).bind fun b33=>((some (if b33=true then(true) else(if a0=215 then(true) else((a0==247))):Bool)).bind fun b37=>((some (if b37=true then(true) else(if a0≥8208 then((decide (a0≤8209))) else(false)):Bool)).bind fun b41=>((some (if b41=true then(true) else(if a0=8260 then(true) else((a0==8722))):Bool)).bind fun b45=>((some (if b45=true then(true) else(if a0≥65281 then((decide (a0≤65295))) else(false)):Bool)).bind fun b49=>((some (if b49=true then(true) else(if a0≥65306 then((decide (a0≤65312))) else(false)):Bool)).bind fun b53=>((some (if b53=true then(true) else(if a0≥65339 then((decide (a0≤65344))) else(false)):Bool)).bind fun b57=>((some (if b57=true then(true) else(if a0≥65371 then((decide (a0≤65374))) else(false)):Bool)).bind fun b61=>(some b61)))))))))))=some r) (fin:∀ a':Act,a'.tmps.size=133→a'.defers=[]→a'.eval (.tmp 2)=.bool r→Q .normal a' w):wpList Try.prog OPS Q (chars_sign.ops.drop 46) af6 w:=by
 have HH:=za h
 clear h
 have H46:(OPS[46]?).bind (·.dst)=some 49:=by rw[hO];rfl
 have H49:(OPS[49]?).bind (·.dst)=some 52:=by rw[hO];rfl
 have H54:(OPS[54]?).bind (·.dst)=some 57:=by rw[hO];rfl
 have H58:(OPS[58]?).bind (·.dst)=some 61:=by rw[hO];rfl
 have H61:(OPS[61]?).bind (·.dst)=some 64:=by rw[hO];rfl
 have H66:(OPS[66]?).bind (·.dst)=some 69:=by rw[hO];rfl
 have H69:(OPS[69]?).bind (·.dst)=some 72:=by rw[hO];rfl
 have H74:(OPS[74]?).bind (·.dst)=some 77:=by rw[hO];rfl
 have H78:(OPS[78]?).bind (·.dst)=some 81:=by rw[hO];rfl
 have H82:(OPS[82]?).bind (·.dst)=some 85:=by rw[hO];rfl
 have H85:(OPS[85]?).bind (·.dst)=some 88:=by rw[hO];rfl
 have H90:(OPS[90]?).bind (·.dst)=some 93:=by rw[hO];rfl
 have H94:(OPS[94]?).bind (·.dst)=some 97:=by rw[hO];rfl
 replace hO:=(Stop.go hO:Stop _ (.mk _))
 replace fin:=(Stop.go fin:Stop _ (.mk _))
 refine MW.list_cut 52 (fun a_ w_=>∃ b45:Bool,((some (if b45=true then(true) else(if a0≥65281 then((decide (a0≤65295))) else(false)):Bool)).bind fun b49=>((some (if b49=true then(true) else(if a0≥65306 then((decide (a0≤65312))) else(false)):Bool)).bind fun b53=>((some (if b53=true then(true) else(if a0≥65339 then((decide (a0≤65344))) else(false)):Bool)).bind fun b57=>((some (if b57=true then(true) else(if a0≥65371 then((decide (a0≤65374))) else(false)):Bool)).bind fun b61=>(some b61)))))=some r∧a_.tmps.size=133∧a_.defers=[]∧a_.eval (.tmp 0)=.int .i32 a0∧a_.eval (.tmp 100)=.bool b45∧w=w_) (fun KC_ hKC_=>?chunk) (fun a_ w_ hc_=>?next)
 case next=>
  obtain⟨b_,hb_,hs,hd,ep,es,rfl⟩:=hc_
  rw[List.drop_drop]
  exact chars_sign.p2 OPS hO.out a0 r _ _ b_ hs hd ep es hb_ fin.out
 simp only[chars_sign.ops,Try.f26,List.append_eq,List.cons_append,List.nil_append,List.drop_succ_cons,List.drop_zero,List.take_succ_cons,List.take_zero]
 obtain⟨E25,hE25⟩:∃ e_:Bool,e_=(if b20=true then(true) else(if a0≥174 then((decide (a0≤177))) else(false))):=⟨_,rfl⟩
 replace hE25:=za hE25
 refine MW.list_cut 8 (fun a_ w_=>∃ b_:Bool,b_=E25∧a_.tmps.size=133∧a_.defers=[]∧a_.eval (.tmp 0)=.int .i32 a0∧a_.eval (.tmp 56)=.bool b_∧w=w_) (fun K_ hK_=>?seg) (fun af7 w_ hc_=>?rest)
 case seg=>
  simp only[List.take_succ_cons,List.take_zero,List.take_nil]
  clear HH
  by_cases c26:b20=true
  ·subst c26
   refine yA 49 (.bool true) hs hd rfl (yM es6) fun _ hs hd S0 N0=>?_
   refine yK 50 hs hd (yW H46 S0) fun _ hs hd S1 N1=>?_
   refine yK 51 hs hd (yW H46 (zN N1 S0)) fun _ hs hd S2 N2=>?_
   refine yK 52 hs hd (yW H46 (zN N2 (zN N1 S0))) fun _ hs hd S3 N3=>?_
   refine yK 53 hs hd (yU H49 S3) fun _ hs hd S4 N4=>?_
   refine yK 54 hs hd (yU H49 (zN N4 S3)) fun _ hs hd S5 N5=>?_
   refine yK 55 hs hd (yW H46 (zN N5 (zN N4 (zN N3 (zN N2 (zN N1 S0)))))) fun _ hs hd S6 N6=>?_
   refine yA 56 (.bool true) hs hd rfl (yP (zN N6 (zN N5 (zN N4 (zN N3 (zN N2 (zN N1 S0)))))) rfl) fun _ hs hd S7 N7=>?_
   exact wpList_nil (hK_ _ _ (Stop.go ⟨true,Eq.trans (by first|rfl|(rw[];rfl)|(simp[*];done)) hE25.out.symm,hs,hd,(zN N7 (zN N6 (zN N5 (zN N4 (zN N3 (zN N2 (zN N1 (zN N0 ep6)))))))),S7,rfl⟩))
  replace c26:=Bool.eq_false_iff.mpr c26
  subst c26
  by_cases c27:a0≥174
  ·refine yA 49 (.bool false) hs hd rfl (yM es6) fun _ hs hd S0 N0=>?_
   refine yA 50 (.int .i32 a0) hs hd (yW H46 S0) (yM (zN N0 ep6)) fun _ hs hd S1 N1=>?_
   refine yA 51 (.bool true) hs hd (yW H46 (zN N1 S0)) (yC c27 S1) fun _ hs hd S2 N2=>?_
   refine yA 52 (.bool true) hs hd (yW H46 (zN N2 (zN N1 S0))) (yM S2) fun _ hs hd S3 N3=>?_
   refine yA 53 (.int .i32 a0) hs hd (yW H49 S3) (yM (zN N3 (zN N2 (zN N1 (zN N0 ep6))))) fun _ hs hd S4 N4=>?_
   refine yA 54 (.bool (decide (a0≤177))) hs hd (yW H49 (zN N4 S3)) (yB S4) fun _ hs hd S5 N5=>?_
   refine yA 55 (.bool (decide (a0≤177))) hs hd (yW H46 (zN N5 (zN N4 (zN N3 (zN N2 (zN N1 S0)))))) (yP (zN N5 (zN N4 S3)) S5) fun _ hs hd S6 N6=>?_
   refine yA 56 (.bool (decide (a0≤177))) hs hd rfl (yQ (zN N6 (zN N5 (zN N4 (zN N3 (zN N2 (zN N1 S0)))))) S6) fun _ hs hd S7 N7=>?_
   exact wpList_nil (hK_ _ _ (Stop.go ⟨(decide (a0≤177)),Eq.trans (by first|rfl|(rw[if_pos c27];rfl)|(simp[*];done)) hE25.out.symm,hs,hd,(zN N7 (zN N6 (zN N5 (zN N4 (zN N3 (zN N2 (zN N1 (zN N0 ep6)))))))),S7,rfl⟩))
  refine yA 49 (.bool false) hs hd rfl (yM es6) fun _ hs hd S0 N0=>?_
  refine yA 50 (.int .i32 a0) hs hd (yW H46 S0) (yM (zN N0 ep6)) fun _ hs hd S1 N1=>?_
  refine yA 51 (.bool false) hs hd (yW H46 (zN N1 S0)) (yD c27 S1) fun _ hs hd S2 N2=>?_
  refine yA 52 (.bool false) hs hd (yW H46 (zN N2 (zN N1 S0))) (yM S2) fun _ hs hd S3 N3=>?_
  refine yK 53 hs hd (yW H49 S3) fun _ hs hd S4 N4=>?_
  refine yK 54 hs hd (yW H49 (zN N4 S3)) fun _ hs hd S5 N5=>?_
  refine yA 55 (.bool false) hs hd (yW H46 (zN N5 (zN N4 (zN N3 (zN N2 (zN N1 S0)))))) (yQ (zN N5 (zN N4 S3)) rfl) fun _ hs hd S6 N6=>?_
  refine yA 56 (.bool false) hs hd rfl (yQ (zN N6 (zN N5 (zN N4 (zN N3 (zN N2 (zN N1 S0)))))) S6) fun _ hs hd S7 N7=>?_
  exact wpList_nil (hK_ _ _ (Stop.go ⟨false,Eq.trans (by first|rfl|(rw[if_neg c27];rfl)|(simp[*];done)) hE25.out.symm,hs,hd,(zN N7 (zN N6 (zN N5 (zN N4 (zN N3 (zN N2 (zN N1 (zN N0 ep6)))))))),S7,rfl⟩))
 case rest=>
  clear hs hd ep6 es6
  obtain⟨b24,hb_,hs,hd,ep7,es7,rfl⟩:=hc_
  simp only[List.drop_succ_cons,List.drop_zero,List.drop_nil]
  have H:=MW.bind_step HH.out (hb_.trans hE25.out)
  replace HH:=za H
  clear H hb_ hE25
  obtain⟨E29,hE29⟩:∃ e_:Bool,e_=(if b24=true then(true) else(if a0=180 then(true) else(if a0≥182 then((decide (a0≤184))) else(false)))):=⟨_,rfl⟩
  replace hE29:=za hE29
  refine MW.list_cut 12 (fun a_ w_=>∃ b_:Bool,b_=E29∧a_.tmps.size=133∧a_.defers=[]∧a_.eval (.tmp 0)=.int .i32 a0∧a_.eval (.tmp 68)=.bool b_∧w=w_) (fun K_ hK_=>?seg) (fun af8 w_ hc_=>?rest)
  case seg=>
   simp only[List.take_succ_cons,List.take_zero,List.take_nil]
   clear HH
   by_cases c30:b24=true
   ·subst c30
    refine yA 57 (.bool true) hs hd rfl (yM es7) fun _ hs hd S0 N0=>?_
    refine yK 58 hs hd (yW H54 S0) fun _ hs hd S1 N1=>?_
    refine yK 59 hs hd (yW H54 (zN N1 S0)) fun _ hs hd S2 N2=>?_
    refine yA 60 (.bool true) hs hd rfl (yP (zN N2 (zN N1 S0)) rfl) fun _ hs hd S3 N3=>?_
    refine yA 61 (.bool true) hs hd rfl (yM S3) fun _ hs hd S4 N4=>?_
    refine yK 62 hs hd (yW H58 S4) fun _ hs hd S5 N5=>?_
    refine yK 63 hs hd (yW H58 (zN N5 S4)) fun _ hs hd S6 N6=>?_
    refine yK 64 hs hd (yW H58 (zN N6 (zN N5 S4))) fun _ hs hd S7 N7=>?_
    refine yK 65 hs hd (yU H61 S7) fun _ hs hd S8 N8=>?_
    refine yK 66 hs hd (yU H61 (zN N8 S7)) fun _ hs hd S9 N9=>?_
    refine yK 67 hs hd (yW H58 (zN N9 (zN N8 (zN N7 (zN N6 (zN N5 S4)))))) fun _ hs hd S10 N10=>?_
    refine yA 68 (.bool true) hs hd rfl (yP (zN N10 (zN N9 (zN N8 (zN N7 (zN N6 (zN N5 S4)))))) rfl) fun _ hs hd S11 N11=>?_
    exact wpList_nil (hK_ _ _ (Stop.go ⟨true,Eq.trans (by first|rfl|(rw[];rfl)|(simp[*];done)) hE29.out.symm,hs,hd,(zN N11 (zN N10 (zN N9 (zN N8 (zN N7 (zN N6 (zN N5 (zN N4 (zN N3 (zN N2 (zN N1 (zN N0 ep7)))))))))))),S11,rfl⟩))
   replace c30:=Bool.eq_false_iff.mpr c30
   subst c30
   by_cases c31:a0=180
   ·refine yA 57 (.bool false) hs hd rfl (yM es7) fun _ hs hd S0 N0=>?_
    refine yA 58 (.int .i32 a0) hs hd (yW H54 S0) (yM (zN N0 ep7)) fun _ hs hd S1 N1=>?_
    refine yA 59 (.bool true) hs hd (yW H54 (zN N1 S0)) (yC c31 S1) fun _ hs hd S2 N2=>?_
    refine yA 60 (.bool true) hs hd rfl (yQ (zN N2 (zN N1 S0)) S2) fun _ hs hd S3 N3=>?_
    refine yA 61 (.bool true) hs hd rfl (yM S3) fun _ hs hd S4 N4=>?_
    refine yK 62 hs hd (yW H58 S4) fun _ hs hd S5 N5=>?_
    refine yK 63 hs hd (yW H58 (zN N5 S4)) fun _ hs hd S6 N6=>?_
    refine yK 64 hs hd (yW H58 (zN N6 (zN N5 S4))) fun _ hs hd S7 N7=>?_
    refine yK 65 hs hd (yU H61 S7) fun _ hs hd S8 N8=>?_
    refine yK 66 hs hd (yU H61 (zN N8 S7)) fun _ hs hd S9 N9=>?_
    refine yK 67 hs hd (yW H58 (zN N9 (zN N8 (zN N7 (zN N6 (zN N5 S4)))))) fun _ hs hd S10 N10=>?_
    refine yA 68 (.bool true) hs hd rfl (yP (zN N10 (zN N9 (zN N8 (zN N7 (zN N6 (zN N5 S4)))))) rfl) fun _ hs hd S11 N11=>?_
    exact wpList_nil (hK_ _ _ (Stop.go ⟨true,Eq.trans (by first|rfl|(rw[if_pos c31];rfl)|(simp[*];done)) hE29.out.symm,hs,hd,(zN N11 (zN N10 (zN N9 (zN N8 (zN N7 (zN N6 (zN N5 (zN N4 (zN N3 (zN N2 (zN N1 (zN N0 ep7)))))))))))),S11,rfl⟩))
   by_cases c32:a0≥182
   ·refine yA 57 (.bool false) hs hd rfl (yM es7) fun _ hs hd S0 N0=>?_
    refine yA 58 (.int .i32 a0) hs hd (yW H54 S0) (yM (zN N0 ep7)) fun _ hs hd S1 N1=>?_
    refine yA 59 (.bool false) hs hd (yW H54 (zN N1 S0)) (yD c31 S1) fun _ hs hd S2 N2=>?_
    refine yA 60 (.bool false) hs hd rfl (yQ (zN N2 (zN N1 S0)) S2) fun _ hs hd S3 N3=>?_
    refine yA 61 (.bool false) hs hd rfl (yM S3) fun _ hs hd S4 N4=>?_
    refine yA 62 (.int .i32 a0) hs hd (yW H58 S4) (yM (zN N4 (zN N3 (zN N2 (zN N1 (zN N0 ep7)))))) fun _ hs hd S5 N5=>?_
    refine yA 63 (.bool true) hs hd (yW H58 (zN N5 S4)) (yC c32 S5) fun _ hs hd S6 N6=>?_
    refine yA 64 (.bool true) hs hd (yW H58 (zN N6 (zN N5 S4))) (yM S6) fun _ hs hd S7 N7=>?_
    refine yA 65 (.int .i32 a0) hs hd (yW H61 S7) (yM (zN N7 (zN N6 (zN N5 (zN N4 (zN N3 (zN N2 (zN N1 (zN N0 ep7))))))))) fun _ hs hd S8 N8=>?_
    refine yA 66 (.bool (decide (a0≤184))) hs hd (yW H61 (zN N8 S7)) (yB S8) fun _ hs hd S9 N9=>?_
    refine yA 67 (.bool (decide (a0≤184))) hs hd (yW H58 (zN N9 (zN N8 (zN N7 (zN N6 (zN N5 S4)))))) (yP (zN N9 (zN N8 S7)) S9) fun _ hs hd S10 N10=>?_
    refine yA 68 (.bool (decide (a0≤184))) hs hd rfl (yQ (zN N10 (zN N9 (zN N8 (zN N7 (zN N6 (zN N5 S4)))))) S10) fun _ hs hd S11 N11=>?_
    exact wpList_nil (hK_ _ _ (Stop.go ⟨(decide (a0≤184)),Eq.trans (by first|rfl|(rw[if_neg c31,if_pos c32];rfl)|(simp[*];done)) hE29.out.symm,hs,hd,(zN N11 (zN N10 (zN N9 (zN N8 (zN N7 (zN N6 (zN N5 (zN N4 (zN N3 (zN N2 (zN N1 (zN N0 ep7)))))))))))),S11,rfl⟩))
   refine yA 57 (.bool false) hs hd rfl (yM es7) fun _ hs hd S0 N0=>?_
   refine yA 58 (.int .i32 a0) hs hd (yW H54 S0) (yM (zN N0 ep7)) fun _ hs hd S1 N1=>?_
   refine yA 59 (.bool false) hs hd (yW H54 (zN N1 S0)) (yD c31 S1) fun _ hs hd S2 N2=>?_
   refine yA 60 (.bool false) hs hd rfl (yQ (zN N2 (zN N1 S0)) S2) fun _ hs hd S3 N3=>?_
   refine yA 61 (.bool false) hs hd rfl (yM S3) fun _ hs hd S4 N4=>?_
   refine yA 62 (.int .i32 a0) hs hd (yW H58 S4) (yM (zN N4 (zN N3 (zN N2 (zN N1 (zN N0 ep7)))))) fun _ hs hd S5 N5=>?_
   refine yA 63 (.bool false) hs hd (yW H58 (zN N5 S4)) (yD c32 S5) fun _ hs hd S6 N6=>?_
   refine yA 64 (.bool false) hs hd (yW H58 (zN N6 (zN N5 S4))) (yM S6) fun _ hs hd S7 N7=>?_
   refine yK 65 hs hd (yW H61 S7) fun _ hs hd S8 N8=>?_
   refine yK 66 hs hd (yW H61 (zN N8 S7)) fun _ hs hd S9 N9=>?_
   refine yA 67 (.bool false) hs hd (yW H58 (zN N9 (zN N8 (zN N7 (zN N6 (zN N5 S4)))))) (yQ (zN N9 (zN N8 S7)) rfl) fun _ hs hd S10 N10=>?_
   refine yA 68 (.bool false) hs hd rfl (yQ (zN N10 (zN N9 (zN N8 (zN N7 (zN N6 (zN N5 S4)))))) S10) fun _ hs hd S11 N11=>?_
   exact wpList_nil (hK_ _ _ (Stop.go ⟨false,Eq.trans (by first|rfl|(rw[if_neg c31,if_neg c32];rfl)|(simp[*];done)) hE29.out.symm,hs,hd,(zN N11 (zN N10 (zN N9 (zN N8 (zN N7 (zN N6 (zN N5 (zN N4 (zN N3 (zN N2 (zN N1 (zN N0 ep7)))))))))))),S11,rfl⟩))
  case rest=>
   clear hs hd ep7 es7
   obtain⟨b28,hb_,hs,hd,ep8,es8,rfl⟩:=hc_
   simp only[List.drop_succ_cons,List.drop_zero,List.drop_nil]
   have H:=MW.bind_step HH.out (hb_.trans hE29.out)
   replace HH:=za H
   clear H hb_ hE29
   obtain⟨E34,hE34⟩:∃ e_:Bool,e_=(if b28=true then(true) else(if a0≥187 then((decide (a0≤191))) else(false))):=⟨_,rfl⟩
   replace hE34:=za hE34
   refine MW.list_cut 8 (fun a_ w_=>∃ b_:Bool,b_=E34∧a_.tmps.size=133∧a_.defers=[]∧a_.eval (.tmp 0)=.int .i32 a0∧a_.eval (.tmp 76)=.bool b_∧w=w_) (fun K_ hK_=>?seg) (fun af9 w_ hc_=>?rest)
   case seg=>
    simp only[List.take_succ_cons,List.take_zero,List.take_nil]
    clear HH
    by_cases c35:b28=true
    ·subst c35
     refine yA 69 (.bool true) hs hd rfl (yM es8) fun _ hs hd S0 N0=>?_
     refine yK 70 hs hd (yW H66 S0) fun _ hs hd S1 N1=>?_
     refine yK 71 hs hd (yW H66 (zN N1 S0)) fun _ hs hd S2 N2=>?_
     refine yK 72 hs hd (yW H66 (zN N2 (zN N1 S0))) fun _ hs hd S3 N3=>?_
     refine yK 73 hs hd (yU H69 S3) fun _ hs hd S4 N4=>?_
     refine yK 74 hs hd (yU H69 (zN N4 S3)) fun _ hs hd S5 N5=>?_
     refine yK 75 hs hd (yW H66 (zN N5 (zN N4 (zN N3 (zN N2 (zN N1 S0)))))) fun _ hs hd S6 N6=>?_
     refine yA 76 (.bool true) hs hd rfl (yP (zN N6 (zN N5 (zN N4 (zN N3 (zN N2 (zN N1 S0)))))) rfl) fun _ hs hd S7 N7=>?_
     exact wpList_nil (hK_ _ _ (Stop.go ⟨true,Eq.trans (by first|rfl|(rw[];rfl)|(simp[*];done)) hE34.out.symm,hs,hd,(zN N7 (zN N6 (zN N5 (zN N4 (zN N3 (zN N2 (zN N1 (zN N0 ep8)))))))),S7,rfl⟩))
    replace c35:=Bool.eq_false_iff.mpr c35
    subst c35
    by_cases c36:a0≥187
    ·refine yA 69 (.bool false) hs hd rfl (yM es8) fun _ hs hd S0 N0=>?_
     refine yA 70 (.int .i32 a0) hs hd (yW H66 S0) (yM (zN N0 ep8)) fun _ hs hd S1 N1=>?_
     refine yA 71 (.bool true) hs hd (yW H66 (zN N1 S0)) (yC c36 S1) fun _ hs hd S2 N2=>?_
     refine yA 72 (.bool true) hs hd (yW H66 (zN N2 (zN N1 S0))) (yM S2) fun _ hs hd S3 N3=>?_
     refine yA 73 (.int .i32 a0) hs hd (yW H69 S3) (yM (zN N3 (zN N2 (zN N1 (zN N0 ep8))))) fun _ hs hd S4 N4=>?_
     refine yA 74 (.bool (decide (a0≤191))) hs hd (yW H69 (zN N4 S3)) (yB S4) fun _ hs hd S5 N5=>?_
     refine yA 75 (.bool (decide (a0≤191))) hs hd (yW H66 (zN N5 (zN N4 (zN N3 (zN N2 (zN N1 S0)))))) (yP (zN N5 (zN N4 S3)) S5) fun _ hs hd S6 N6=>?_
     refine yA 76 (.bool (decide (a0≤191))) hs hd rfl (yQ (zN N6 (zN N5 (zN N4 (zN N3 (zN N2 (zN N1 S0)))))) S6) fun _ hs hd S7 N7=>?_
     exact wpList_nil (hK_ _ _ (Stop.go ⟨(decide (a0≤191)),Eq.trans (by first|rfl|(rw[if_pos c36];rfl)|(simp[*];done)) hE34.out.symm,hs,hd,(zN N7 (zN N6 (zN N5 (zN N4 (zN N3 (zN N2 (zN N1 (zN N0 ep8)))))))),S7,rfl⟩))
    refine yA 69 (.bool false) hs hd rfl (yM es8) fun _ hs hd S0 N0=>?_
    refine yA 70 (.int .i32 a0) hs hd (yW H66 S0) (yM (zN N0 ep8)) fun _ hs hd S1 N1=>?_
    refine yA 71 (.bool false) hs hd (yW H66 (zN N1 S0)) (yD c36 S1) fun _ hs hd S2 N2=>?_
    refine yA 72 (.bool false) hs hd (yW H66 (zN N2 (zN N1 S0))) (yM S2) fun _ hs hd S3 N3=>?_
    refine yK 73 hs hd (yW H69 S3) fun _ hs hd S4 N4=>?_
    refine yK 74 hs hd (yW H69 (zN N4 S3)) fun _ hs hd S5 N5=>?_
    refine yA 75 (.bool false) hs hd (yW H66 (zN N5 (zN N4 (zN N3 (zN N2 (zN N1 S0)))))) (yQ (zN N5 (zN N4 S3)) rfl) fun _ hs hd S6 N6=>?_
    refine yA 76 (.bool false) hs hd rfl (yQ (zN N6 (zN N5 (zN N4 (zN N3 (zN N2 (zN N1 S0)))))) S6) fun _ hs hd S7 N7=>?_
    exact wpList_nil (hK_ _ _ (Stop.go ⟨false,Eq.trans (by first|rfl|(rw[if_neg c36];rfl)|(simp[*];done)) hE34.out.symm,hs,hd,(zN N7 (zN N6 (zN N5 (zN N4 (zN N3 (zN N2 (zN N1 (zN N0 ep8)))))))),S7,rfl⟩))
   case rest=>
    clear hs hd ep8 es8
    obtain⟨b33,hb_,hs,hd,ep9,es9,rfl⟩:=hc_
    simp only[List.drop_succ_cons,List.drop_zero,List.drop_nil]
    have H:=MW.bind_step HH.out (hb_.trans hE34.out)
    replace HH:=za H
    clear H hb_ hE34
    obtain⟨E38,hE38⟩:∃ e_:Bool,e_=(if b33=true then(true) else(if a0=215 then(true) else((a0==247)))):=⟨_,rfl⟩
    replace hE38:=za hE38
    refine MW.list_cut 8 (fun a_ w_=>∃ b_:Bool,b_=E38∧a_.tmps.size=133∧a_.defers=[]∧a_.eval (.tmp 0)=.int .i32 a0∧a_.eval (.tmp 84)=.bool b_∧w=w_) (fun K_ hK_=>?seg) (fun af10 w_ hc_=>?rest)
    case seg=>
     simp only[List.take_succ_cons,List.take_zero,List.take_nil]
     clear HH
     by_cases c39:b33=true
     ·subst c39
      refine yA 77 (.bool true) hs hd rfl (yM es9) fun _ hs hd S0 N0=>?_
      refine yK 78 hs hd (yW H74 S0) fun _ hs hd S1 N1=>?_
      refine yK 79 hs hd (yW H74 (zN N1 S0)) fun _ hs hd S2 N2=>?_
      refine yA 80 (.bool true) hs hd rfl (yP (zN N2 (zN N1 S0)) rfl) fun _ hs hd S3 N3=>?_
      refine yA 81 (.bool true) hs hd rfl (yM S3) fun _ hs hd S4 N4=>?_
      refine yK 82 hs hd (yW H78 S4) fun _ hs hd S5 N5=>?_
      refine yK 83 hs hd (yW H78 (zN N5 S4)) fun _ hs hd S6 N6=>?_
      refine yA 84 (.bool true) hs hd rfl (yP (zN N6 (zN N5 S4)) rfl) fun _ hs hd S7 N7=>?_
      exact wpList_nil (hK_ _ _ (Stop.go ⟨true,Eq.trans (by first|rfl|(rw[];rfl)|(simp[*];done)) hE38.out.symm,hs,hd,(zN N7 (zN N6 (zN N5 (zN N4 (zN N3 (zN N2 (zN N1 (zN N0 ep9)))))))),S7,rfl⟩))
     replace c39:=Bool.eq_false_iff.mpr c39
     subst c39
     by_cases c40:a0=215
     ·refine yA 77 (.bool false) hs hd rfl (yM es9) fun _ hs hd S0 N0=>?_
      refine yA 78 (.int .i32 a0) hs hd (yW H74 S0) (yM (zN N0 ep9)) fun _ hs hd S1 N1=>?_
      refine yA 79 (.bool true) hs hd (yW H74 (zN N1 S0)) (yC c40 S1) fun _ hs hd S2 N2=>?_
      refine yA 80 (.bool true) hs hd rfl (yQ (zN N2 (zN N1 S0)) S2) fun _ hs hd S3 N3=>?_
      refine yA 81 (.bool true) hs hd rfl (yM S3) fun _ hs hd S4 N4=>?_
      refine yK 82 hs hd (yW H78 S4) fun _ hs hd S5 N5=>?_
      refine yK 83 hs hd (yW H78 (zN N5 S4)) fun _ hs hd S6 N6=>?_
      refine yA 84 (.bool true) hs hd rfl (yP (zN N6 (zN N5 S4)) rfl) fun _ hs hd S7 N7=>?_
      exact wpList_nil (hK_ _ _ (Stop.go ⟨true,Eq.trans (by first|rfl|(rw[if_pos c40];rfl)|(simp[*];done)) hE38.out.symm,hs,hd,(zN N7 (zN N6 (zN N5 (zN N4 (zN N3 (zN N2 (zN N1 (zN N0 ep9)))))))),S7,rfl⟩))
     refine yA 77 (.bool false) hs hd rfl (yM es9) fun _ hs hd S0 N0=>?_
     refine yA 78 (.int .i32 a0) hs hd (yW H74 S0) (yM (zN N0 ep9)) fun _ hs hd S1 N1=>?_
     refine yA 79 (.bool false) hs hd (yW H74 (zN N1 S0)) (yD c40 S1) fun _ hs hd S2 N2=>?_
     refine yA 80 (.bool false) hs hd rfl (yQ (zN N2 (zN N1 S0)) S2) fun _ hs hd S3 N3=>?_
     refine yA 81 (.bool false) hs hd rfl (yM S3) fun _ hs hd S4 N4=>?_
     refine yA 82 (.int .i32 a0) hs hd (yW H78 S4) (yM (zN N4 (zN N3 (zN N2 (zN N1 (zN N0 ep9)))))) fun _ hs hd S5 N5=>?_
     refine yA 83 (.bool (a0==247)) hs hd (yW H78 (zN N5 S4)) (yB S5) fun _ hs hd S6 N6=>?_
     refine yA 84 (.bool (a0==247)) hs hd rfl (yQ (zN N6 (zN N5 S4)) S6) fun _ hs hd S7 N7=>?_
     exact wpList_nil (hK_ _ _ (Stop.go ⟨(a0==247),Eq.trans (by first|rfl|(rw[if_neg c40];rfl)|(simp[*];done)) hE38.out.symm,hs,hd,(zN N7 (zN N6 (zN N5 (zN N4 (zN N3 (zN N2 (zN N1 (zN N0 ep9)))))))),S7,rfl⟩))
    case rest=>
     clear hs hd ep9 es9
     obtain⟨b37,hb_,hs,hd,ep10,es10,rfl⟩:=hc_
     simp only[List.drop_succ_cons,List.drop_zero,List.drop_nil]
     have H:=MW.bind_step HH.out (hb_.trans hE38.out)
     replace HH:=za H
     clear H hb_ hE38
     obtain⟨E42,hE42⟩:∃ e_:Bool,e_=(if b37=true then(true) else(if a0≥8208 then((decide (a0≤8209))) else(false))):=⟨_,rfl⟩
     replace hE42:=za hE42
     refine MW.list_cut 8 (fun a_ w_=>∃ b_:Bool,b_=E42∧a_.tmps.size=133∧a_.defers=[]∧a_.eval (.tmp 0)=.int .i32 a0∧a_.eval (.tmp 92)=.bool b_∧w=w_) (fun K_ hK_=>?seg) (fun af11 w_ hc_=>?rest)
     case seg=>
      simp only[List.take_succ_cons,List.take_zero,List.take_nil]
      clear HH
      by_cases c43:b37=true
      ·subst c43
       refine yA 85 (.bool true) hs hd rfl (yM es10) fun _ hs hd S0 N0=>?_
       refine yK 86 hs hd (yW H82 S0) fun _ hs hd S1 N1=>?_
       refine yK 87 hs hd (yW H82 (zN N1 S0)) fun _ hs hd S2 N2=>?_
       refine yK 88 hs hd (yW H82 (zN N2 (zN N1 S0))) fun _ hs hd S3 N3=>?_
       refine yK 89 hs hd (yU H85 S3) fun _ hs hd S4 N4=>?_
       refine yK 90 hs hd (yU H85 (zN N4 S3)) fun _ hs hd S5 N5=>?_
       refine yK 91 hs hd (yW H82 (zN N5 (zN N4 (zN N3 (zN N2 (zN N1 S0)))))) fun _ hs hd S6 N6=>?_
       refine yA 92 (.bool true) hs hd rfl (yP (zN N6 (zN N5 (zN N4 (zN N3 (zN N2 (zN N1 S0)))))) rfl) fun _ hs hd S7 N7=>?_
       exact wpList_nil (hK_ _ _ (Stop.go ⟨true,Eq.trans (by first|rfl|(rw[];rfl)|(simp[*];done)) hE42.out.symm,hs,hd,(zN N7 (zN N6 (zN N5 (zN N4 (zN N3 (zN N2 (zN N1 (zN N0 ep10)))))))),S7,rfl⟩))
      replace c43:=Bool.eq_false_iff.mpr c43
      subst c43
      by_cases c44:a0≥8208
      ·refine yA 85 (.bool false) hs hd rfl (yM es10) fun _ hs hd S0 N0=>?_
       refine yA 86 (.int .i32 a0) hs hd (yW H82 S0) (yM (zN N0 ep10)) fun _ hs hd S1 N1=>?_
       refine yA 87 (.bool true) hs hd (yW H82 (zN N1 S0)) (yC c44 S1) fun _ hs hd S2 N2=>?_
       refine yA 88 (.bool true) hs hd (yW H82 (zN N2 (zN N1 S0))) (yM S2) fun _ hs hd S3 N3=>?_
       refine yA 89 (.int .i32 a0) hs hd (yW H85 S3) (yM (zN N3 (zN N2 (zN N1 (zN N0 ep10))))) fun _ hs hd S4 N4=>?_
       refine yA 90 (.bool (decide (a0≤8209))) hs hd (yW H85 (zN N4 S3)) (yB S4) fun _ hs hd S5 N5=>?_
       refine yA 91 (.bool (decide (a0≤8209))) hs hd (yW H82 (zN N5 (zN N4 (zN N3 (zN N2 (zN N1 S0)))))) (yP (zN N5 (zN N4 S3)) S5) fun _ hs hd S6 N6=>?_
       refine yA 92 (.bool (decide (a0≤8209))) hs hd rfl (yQ (zN N6 (zN N5 (zN N4 (zN N3 (zN N2 (zN N1 S0)))))) S6) fun _ hs hd S7 N7=>?_
       exact wpList_nil (hK_ _ _ (Stop.go ⟨(decide (a0≤8209)),Eq.trans (by first|rfl|(rw[if_pos c44];rfl)|(simp[*];done)) hE42.out.symm,hs,hd,(zN N7 (zN N6 (zN N5 (zN N4 (zN N3 (zN N2 (zN N1 (zN N0 ep10)))))))),S7,rfl⟩))
      refine yA 85 (.bool false) hs hd rfl (yM es10) fun _ hs hd S0 N0=>?_
      refine yA 86 (.int .i32 a0) hs hd (yW H82 S0) (yM (zN N0 ep10)) fun _ hs hd S1 N1=>?_
      refine yA 87 (.bool false) hs hd (yW H82 (zN N1 S0)) (yD c44 S1) fun _ hs hd S2 N2=>?_
      refine yA 88 (.bool false) hs hd (yW H82 (zN N2 (zN N1 S0))) (yM S2) fun _ hs hd S3 N3=>?_
      refine yK 89 hs hd (yW H85 S3) fun _ hs hd S4 N4=>?_
      refine yK 90 hs hd (yW H85 (zN N4 S3)) fun _ hs hd S5 N5=>?_
      refine yA 91 (.bool false) hs hd (yW H82 (zN N5 (zN N4 (zN N3 (zN N2 (zN N1 S0)))))) (yQ (zN N5 (zN N4 S3)) rfl) fun _ hs hd S6 N6=>?_
      refine yA 92 (.bool false) hs hd rfl (yQ (zN N6 (zN N5 (zN N4 (zN N3 (zN N2 (zN N1 S0)))))) S6) fun _ hs hd S7 N7=>?_
      exact wpList_nil (hK_ _ _ (Stop.go ⟨false,Eq.trans (by first|rfl|(rw[if_neg c44];rfl)|(simp[*];done)) hE42.out.symm,hs,hd,(zN N7 (zN N6 (zN N5 (zN N4 (zN N3 (zN N2 (zN N1 (zN N0 ep10)))))))),S7,rfl⟩))
     case rest=>
      clear hs hd ep10 es10
      obtain⟨b41,hb_,hs,hd,ep11,es11,rfl⟩:=hc_
      simp only[List.drop_succ_cons,List.drop_zero,List.drop_nil]
      have H:=MW.bind_step HH.out (hb_.trans hE42.out)
      replace HH:=za H
      clear H hb_ hE42
      obtain⟨E46,hE46⟩:∃ e_:Bool,e_=(if b41=true then(true) else(if a0=8260 then(true) else((a0==8722)))):=⟨_,rfl⟩
      replace hE46:=za hE46
      refine MW.list_cut 8 (fun a_ w_=>∃ b_:Bool,b_=E46∧a_.tmps.size=133∧a_.defers=[]∧a_.eval (.tmp 0)=.int .i32 a0∧a_.eval (.tmp 100)=.bool b_∧w=w_) (fun K_ hK_=>?seg) (fun af12 w_ hc_=>?rest)
      case seg=>
       simp only[List.take_succ_cons,List.take_zero,List.take_nil]
       clear HH
       by_cases c47:b41=true
       ·subst c47
        refine yA 93 (.bool true) hs hd rfl (yM es11) fun _ hs hd S0 N0=>?_
        refine yK 94 hs hd (yW H90 S0) fun _ hs hd S1 N1=>?_
        refine yK 95 hs hd (yW H90 (zN N1 S0)) fun _ hs hd S2 N2=>?_
        refine yA 96 (.bool true) hs hd rfl (yP (zN N2 (zN N1 S0)) rfl) fun _ hs hd S3 N3=>?_
        refine yA 97 (.bool true) hs hd rfl (yM S3) fun _ hs hd S4 N4=>?_
        refine yK 98 hs hd (yW H94 S4) fun _ hs hd S5 N5=>?_
        refine yK 99 hs hd (yW H94 (zN N5 S4)) fun _ hs hd S6 N6=>?_
        refine yA 100 (.bool true) hs hd rfl (yP (zN N6 (zN N5 S4)) rfl) fun _ hs hd S7 N7=>?_
        exact wpList_nil (hK_ _ _ (Stop.go ⟨true,Eq.trans (by first|rfl|(rw[];rfl)|(simp[*];done)) hE46.out.symm,hs,hd,(zN N7 (zN N6 (zN N5 (zN N4 (zN N3 (zN N2 (zN N1 (zN N0 ep11)))))))),S7,rfl⟩))
       replace c47:=Bool.eq_false_iff.mpr c47
       subst c47
       by_cases c48:a0=8260
       ·refine yA 93 (.bool false) hs hd rfl (yM es11) fun _ hs hd S0 N0=>?_
        refine yA 94 (.int .i32 a0) hs hd (yW H90 S0) (yM (zN N0 ep11)) fun _ hs hd S1 N1=>?_
        refine yA 95 (.bool true) hs hd (yW H90 (zN N1 S0)) (yC c48 S1) fun _ hs hd S2 N2=>?_
        refine yA 96 (.bool true) hs hd rfl (yQ (zN N2 (zN N1 S0)) S2) fun _ hs hd S3 N3=>?_
        refine yA 97 (.bool true) hs hd rfl (yM S3) fun _ hs hd S4 N4=>?_
        refine yK 98 hs hd (yW H94 S4) fun _ hs hd S5 N5=>?_
        refine yK 99 hs hd (yW H94 (zN N5 S4)) fun _ hs hd S6 N6=>?_
        refine yA 100 (.bool true) hs hd rfl (yP (zN N6 (zN N5 S4)) rfl) fun _ hs hd S7 N7=>?_
        exact wpList_nil (hK_ _ _ (Stop.go ⟨true,Eq.trans (by first|rfl|(rw[if_pos c48];rfl)|(simp[*];done)) hE46.out.symm,hs,hd,(zN N7 (zN N6 (zN N5 (zN N4 (zN N3 (zN N2 (zN N1 (zN N0 ep11)))))))),S7,rfl⟩))
       refine yA 93 (.bool false) hs hd rfl (yM es11) fun _ hs hd S0 N0=>?_
       refine yA 94 (.int .i32 a0) hs hd (yW H90 S0) (yM (zN N0 ep11)) fun _ hs hd S1 N1=>?_
       refine yA 95 (.bool false) hs hd (yW H90 (zN N1 S0)) (yD c48 S1) fun _ hs hd S2 N2=>?_
       refine yA 96 (.bool false) hs hd rfl (yQ (zN N2 (zN N1 S0)) S2) fun _ hs hd S3 N3=>?_
       refine yA 97 (.bool false) hs hd rfl (yM S3) fun _ hs hd S4 N4=>?_
       refine yA 98 (.int .i32 a0) hs hd (yW H94 S4) (yM (zN N4 (zN N3 (zN N2 (zN N1 (zN N0 ep11)))))) fun _ hs hd S5 N5=>?_
       refine yA 99 (.bool (a0==8722)) hs hd (yW H94 (zN N5 S4)) (yB S5) fun _ hs hd S6 N6=>?_
       refine yA 100 (.bool (a0==8722)) hs hd rfl (yQ (zN N6 (zN N5 S4)) S6) fun _ hs hd S7 N7=>?_
       exact wpList_nil (hK_ _ _ (Stop.go ⟨(a0==8722),Eq.trans (by first|rfl|(rw[if_neg c48];rfl)|(simp[*];done)) hE46.out.symm,hs,hd,(zN N7 (zN N6 (zN N5 (zN N4 (zN N3 (zN N2 (zN N1 (zN N0 ep11)))))))),S7,rfl⟩))
      case rest=>
       clear hs hd ep11 es11
       obtain⟨b45,hb_,hs,hd,ep12,es12,rfl⟩:=hc_
       simp only[List.drop_succ_cons,List.drop_zero,List.drop_nil]
       have H:=MW.bind_step HH.out (hb_.trans hE46.out)
       replace HH:=za H
       clear H hb_ hE46
       exact wpList_nil (hKC_ _ _ (Stop.go ⟨b45,HH.out,hs,hd,ep12,es12,rfl⟩))
theorem chars_sign.p0 {Q:Exit→Act→World→Prop} (OPS:Array Oper) (hO:OPS=chars_sign.ops.toArray) (a0:Int) (r:Bool) (w:World) (af0:Act) (hs:af0.tmps.size=133) (hd:af0.defers=[]) (ep0:af0.eval (.tmp 0)=.int .i32 a0) (h:((some (if a0≥33 then((decide (a0≤47))) else(false):Bool)).bind fun b1=>((some (if b1=true then(true) else(if a0≥58 then((decide (a0≤64))) else(false)):Bool)).bind fun b4=>((some (if b4=true then(true) else(if a0≥91 then((decide (a0≤96))) else(false)):Bool)).bind fun b8=>((some (if b8=true then(true) else(if a0≥123 then((decide (a0≤126))) else(false)):Bool)).bind fun b12=>((some (if b12=true then(true) else(if a0≥161 then((decide (a0≤169))) else(false)):Bool)).bind fun b16=>((some (if b16=true then(true) else(if a0≥171 then((decide (a0≤172))) else(false)):Bool)).bind fun b20=>((some (if b20=true then(true) else(if a0≥174 then((decide (a0≤177))) else(false)):Bool)).bind fun b24=>((some (if b24=true then(true) else(if a0=180 then(true) else(if a0≥182 then((decide (a0≤184))) else(false))):Bool)).bind fun b28=>((some (if b28=true then(true) else(if a0≥187 then((decide (a0≤191))) else(false)):Bool)).bind fun b33=>((some (if b33=true then(true) else(if a0=215 then(true) else((a0==247))):Bool)).bind fun b37=>((some (if b37=true then(true) else(if a0≥8208 then((decide (a0≤8209))) else(false)):Bool)).bind fun b41=>((some (if b41=true then(true) else(if a0=8260 then(true) else((a0==8722))):Bool)).bind fun b45=>((some (if b45=true then(true) else(if a0≥65281 then((decide (a0≤65295))) else(false)):Bool)).bind fun b49=>((some (if b49=true then(true) else(if a0≥65306 then((decide (a0≤65312))) else(false)):Bool)).bind fun b53=>((some (if b53=true then(true) else(if a0≥65339 then((decide (a0≤65344))) else(false)):Bool)).bind fun b57=>((some (if b57=true then(true) else(if a0≥65371 then((decide (a0≤65374))) else(false)):Bool)).bind fun b61=>(some b61)))))))))))))))))=some r) (fin:∀ a':Act,a'.tmps.size=133→a'.defers=[]→a'.eval (.tmp 2)=.bool r→Q .normal a' w):wpList Try.prog OPS Q (chars_sign.ops.drop 0) af0 w:=by
 have HH:=za h
 clear h
 have H2:(OPS[2]?).bind (·.dst)=some 5:=by rw[hO];rfl
 have H6:(OPS[6]?).bind (·.dst)=some 9:=by rw[hO];rfl
 have H9:(OPS[9]?).bind (·.dst)=some 12:=by rw[hO];rfl
 have H14:(OPS[14]?).bind (·.dst)=some 17:=by rw[hO];rfl
 have H17:(OPS[17]?).bind (·.dst)=some 20:=by rw[hO];rfl
 have H22:(OPS[22]?).bind (·.dst)=some 25:=by rw[hO];rfl
 have H25:(OPS[25]?).bind (·.dst)=some 28:=by rw[hO];rfl
 have H30:(OPS[30]?).bind (·.dst)=some 33:=by rw[hO];rfl
 have H33:(OPS[33]?).bind (·.dst)=some 36:=by rw[hO];rfl
 have H38:(OPS[38]?).bind (·.dst)=some 41:=by rw[hO];rfl
 have H41:(OPS[41]?).bind (·.dst)=some 44:=by rw[hO];rfl
 replace hO:=(Stop.go hO:Stop _ (.mk _))
 replace fin:=(Stop.go fin:Stop _ (.mk _))
 refine MW.list_cut 46 (fun a_ w_=>∃ b20:Bool,((some (if b20=true then(true) else(if a0≥174 then((decide (a0≤177))) else(false)):Bool)).bind fun b24=>((some (if b24=true then(true) else(if a0=180 then(true) else(if a0≥182 then((decide (a0≤184))) else(false))):Bool)).bind fun b28=>((some (if b28=true then(true) else(if a0≥187 then((decide (a0≤191))) else(false)):Bool)).bind fun b33=>((some (if b33=true then(true) else(if a0=215 then(true) else((a0==247))):Bool)).bind fun b37=>((some (if b37=true then(true) else(if a0≥8208 then((decide (a0≤8209))) else(false)):Bool)).bind fun b41=>((some (if b41=true then(true) else(if a0=8260 then(true) else((a0==8722))):Bool)).bind fun b45=>((some (if b45=true then(true) else(if a0≥65281 then((decide (a0≤65295))) else(false)):Bool)).bind fun b49=>((some (if b49=true then(true) else(if a0≥65306 then((decide (a0≤65312))) else(false)):Bool)).bind fun b53=>((some (if b53=true then(true) else(if a0≥65339 then((decide (a0≤65344))) else(false)):Bool)).bind fun b57=>((some (if b57=true then(true) else(if a0≥65371 then((decide (a0≤65374))) else(false)):Bool)).bind fun b61=>(some b61)))))))))))=some r∧a_.tmps.size=133∧a_.defers=[]∧a_.eval (.tmp 0)=.int .i32 a0∧a_.eval (.tmp 48)=.bool b20∧w=w_) (fun KC_ hKC_=>?chunk) (fun a_ w_ hc_=>?next)
 case next=>
  obtain⟨b_,hb_,hs,hd,ep,es,rfl⟩:=hc_
  rw[List.drop_drop]
  exact chars_sign.p1 OPS hO.out a0 r _ _ b_ hs hd ep es hb_ fin.out
 simp only[chars_sign.ops,Try.f26,List.append_eq,List.cons_append,List.nil_append,List.drop_succ_cons,List.drop_zero,List.take_succ_cons,List.take_zero]
 obtain⟨E2,hE2⟩:∃ e_:Bool,e_=(if a0≥33 then((decide (a0≤47))) else(false)):=⟨_,rfl⟩
 replace hE2:=za hE2
 refine MW.list_cut 6 (fun a_ w_=>∃ b_:Bool,b_=E2∧a_.tmps.size=133∧a_.defers=[]∧a_.eval (.tmp 0)=.int .i32 a0∧a_.eval (.tmp 8)=.bool b_∧w=w_) (fun K_ hK_=>?seg) (fun af1 w_ hc_=>?rest)
 case seg=>
  simp only[List.take_succ_cons,List.take_zero,List.take_nil]
  clear HH
  by_cases c3:a0≥33
  ·refine yA 3 (.int .i32 a0) hs hd rfl (yM ep0) fun _ hs hd S0 N0=>?_
   refine yA 4 (.bool true) hs hd rfl (yC c3 S0) fun _ hs hd S1 N1=>?_
   refine yA 5 (.bool true) hs hd rfl (yM S1) fun _ hs hd S2 N2=>?_
   refine yA 6 (.int .i32 a0) hs hd (yW H2 S2) (yM (zN N2 (zN N1 (zN N0 ep0)))) fun _ hs hd S3 N3=>?_
   refine yA 7 (.bool (decide (a0≤47))) hs hd (yW H2 (zN N3 S2)) (yB S3) fun _ hs hd S4 N4=>?_
   refine yA 8 (.bool (decide (a0≤47))) hs hd rfl (yP (zN N4 (zN N3 S2)) S4) fun _ hs hd S5 N5=>?_
   exact wpList_nil (hK_ _ _ (Stop.go ⟨(decide (a0≤47)),Eq.trans (by first|rfl|(rw[if_pos c3];rfl)|(simp[*];done)) hE2.out.symm,hs,hd,(zN N5 (zN N4 (zN N3 (zN N2 (zN N1 (zN N0 ep0)))))),S5,rfl⟩))
  refine yA 3 (.int .i32 a0) hs hd rfl (yM ep0) fun _ hs hd S0 N0=>?_
  refine yA 4 (.bool false) hs hd rfl (yD c3 S0) fun _ hs hd S1 N1=>?_
  refine yA 5 (.bool false) hs hd rfl (yM S1) fun _ hs hd S2 N2=>?_
  refine yK 6 hs hd (yW H2 S2) fun _ hs hd S3 N3=>?_
  refine yK 7 hs hd (yW H2 (zN N3 S2)) fun _ hs hd S4 N4=>?_
  refine yA 8 (.bool false) hs hd rfl (yQ (zN N4 (zN N3 S2)) rfl) fun _ hs hd S5 N5=>?_
  exact wpList_nil (hK_ _ _ (Stop.go ⟨false,Eq.trans (by first|rfl|(rw[if_neg c3];rfl)|(simp[*];done)) hE2.out.symm,hs,hd,(zN N5 (zN N4 (zN N3 (zN N2 (zN N1 (zN N0 ep0)))))),S5,rfl⟩))
 case rest=>
  clear hs hd ep0
  obtain⟨b1,hb_,hs,hd,ep1,es1,rfl⟩:=hc_
  simp only[List.drop_succ_cons,List.drop_zero,List.drop_nil]
  have H:=MW.bind_step HH.out (hb_.trans hE2.out)
  replace HH:=za H
  clear H hb_ hE2
  obtain⟨E5,hE5⟩:∃ e_:Bool,e_=(if b1=true then(true) else(if a0≥58 then((decide (a0≤64))) else(false))):=⟨_,rfl⟩
  replace hE5:=za hE5
  refine MW.list_cut 8 (fun a_ w_=>∃ b_:Bool,b_=E5∧a_.tmps.size=133∧a_.defers=[]∧a_.eval (.tmp 0)=.int .i32 a0∧a_.eval (.tmp 16)=.bool b_∧w=w_) (fun K_ hK_=>?seg) (fun af2 w_ hc_=>?rest)
  case seg=>
   simp only[List.take_succ_cons,List.take_zero,List.take_nil]
   clear HH
   by_cases c6:b1=true
   ·subst c6
    refine yA 9 (.bool true) hs hd rfl (yM es1) fun _ hs hd S0 N0=>?_
    refine yK 10 hs hd (yW H6 S0) fun _ hs hd S1 N1=>?_
    refine yK 11 hs hd (yW H6 (zN N1 S0)) fun _ hs hd S2 N2=>?_
    refine yK 12 hs hd (yW H6 (zN N2 (zN N1 S0))) fun _ hs hd S3 N3=>?_
    refine yK 13 hs hd (yU H9 S3) fun _ hs hd S4 N4=>?_
    refine yK 14 hs hd (yU H9 (zN N4 S3)) fun _ hs hd S5 N5=>?_
    refine yK 15 hs hd (yW H6 (zN N5 (zN N4 (zN N3 (zN N2 (zN N1 S0)))))) fun _ hs hd S6 N6=>?_
    refine yA 16 (.bool true) hs hd rfl (yP (zN N6 (zN N5 (zN N4 (zN N3 (zN N2 (zN N1 S0)))))) rfl) fun _ hs hd S7 N7=>?_
    exact wpList_nil (hK_ _ _ (Stop.go ⟨true,Eq.trans (by first|rfl|(rw[];rfl)|(simp[*];done)) hE5.out.symm,hs,hd,(zN N7 (zN N6 (zN N5 (zN N4 (zN N3 (zN N2 (zN N1 (zN N0 ep1)))))))),S7,rfl⟩))
   replace c6:=Bool.eq_false_iff.mpr c6
   subst c6
   by_cases c7:a0≥58
   ·refine yA 9 (.bool false) hs hd rfl (yM es1) fun _ hs hd S0 N0=>?_
    refine yA 10 (.int .i32 a0) hs hd (yW H6 S0) (yM (zN N0 ep1)) fun _ hs hd S1 N1=>?_
    refine yA 11 (.bool true) hs hd (yW H6 (zN N1 S0)) (yC c7 S1) fun _ hs hd S2 N2=>?_
    refine yA 12 (.bool true) hs hd (yW H6 (zN N2 (zN N1 S0))) (yM S2) fun _ hs hd S3 N3=>?_
    refine yA 13 (.int .i32 a0) hs hd (yW H9 S3) (yM (zN N3 (zN N2 (zN N1 (zN N0 ep1))))) fun _ hs hd S4 N4=>?_
    refine yA 14 (.bool (decide (a0≤64))) hs hd (yW H9 (zN N4 S3)) (yB S4) fun _ hs hd S5 N5=>?_
    refine yA 15 (.bool (decide (a0≤64))) hs hd (yW H6 (zN N5 (zN N4 (zN N3 (zN N2 (zN N1 S0)))))) (yP (zN N5 (zN N4 S3)) S5) fun _ hs hd S6 N6=>?_
    refine yA 16 (.bool (decide (a0≤64))) hs hd rfl (yQ (zN N6 (zN N5 (zN N4 (zN N3 (zN N2 (zN N1 S0)))))) S6) fun _ hs hd S7 N7=>?_
    exact wpList_nil (hK_ _ _ (Stop.go ⟨(decide (a0≤64)),Eq.trans (by first|rfl|(rw[if_pos c7];rfl)|(simp[*];done)) hE5.out.symm,hs,hd,(zN N7 (zN N6 (zN N5 (zN N4 (zN N3 (zN N2 (zN N1 (zN N0 ep1)))))))),S7,rfl⟩))
   refine yA 9 (.bool false) hs hd rfl (yM es1) fun _ hs hd S0 N0=>?_
   refine yA 10 (.int .i32 a0) hs hd (yW H6 S0) (yM (zN N0 ep1)) fun _ hs hd S1 N1=>?_
   refine yA 11 (.bool false) hs hd (yW H6 (zN N1 S0)) (yD c7 S1) fun _ hs hd S2 N2=>?_
   refine yA 12 (.bool false) hs hd (yW H6 (zN N2 (zN N1 S0))) (yM S2) fun _ hs hd S3 N3=>?_
   refine yK 13 hs hd (yW H9 S3) fun _ hs hd S4 N4=>?_
   refine yK 14 hs hd (yW H9 (zN N4 S3)) fun _ hs hd S5 N5=>?_
   refine yA 15 (.bool false) hs hd (yW H6 (zN N5 (zN N4 (zN N3 (zN N2 (zN N1 S0)))))) (yQ (zN N5 (zN N4 S3)) rfl) fun _ hs hd S6 N6=>?_
   refine yA 16 (.bool false) hs hd rfl (yQ (zN N6 (zN N5 (zN N4 (zN N3 (zN N2 (zN N1 S0)))))) S6) fun _ hs hd S7 N7=>?_
   exact wpList_nil (hK_ _ _ (Stop.go ⟨false,Eq.trans (by first|rfl|(rw[if_neg c7];rfl)|(simp[*];done)) hE5.out.symm,hs,hd,(zN N7 (zN N6 (zN N5 (zN N4 (zN N3 (zN N2 (zN N1 (zN N0 ep1)))))))),S7,rfl⟩))
  case rest=>
   clear hs hd ep1 es1
   obtain⟨b4,hb_,hs,hd,ep2,es2,rfl⟩:=hc_
   simp only[List.drop_succ_cons,List.drop_zero,List.drop_nil]
   have H:=MW.bind_step HH.out (hb_.trans hE5.out)
   replace HH:=za H
   clear H hb_ hE5
   obtain⟨E9,hE9⟩:∃ e_:Bool,e_=(if b4=true then(true) else(if a0≥91 then((decide (a0≤96))) else(false))):=⟨_,rfl⟩
   replace hE9:=za hE9
   refine MW.list_cut 8 (fun a_ w_=>∃ b_:Bool,b_=E9∧a_.tmps.size=133∧a_.defers=[]∧a_.eval (.tmp 0)=.int .i32 a0∧a_.eval (.tmp 24)=.bool b_∧w=w_) (fun K_ hK_=>?seg) (fun af3 w_ hc_=>?rest)
   case seg=>
    simp only[List.take_succ_cons,List.take_zero,List.take_nil]
    clear HH
    by_cases c10:b4=true
    ·subst c10
     refine yA 17 (.bool true) hs hd rfl (yM es2) fun _ hs hd S0 N0=>?_
     refine yK 18 hs hd (yW H14 S0) fun _ hs hd S1 N1=>?_
     refine yK 19 hs hd (yW H14 (zN N1 S0)) fun _ hs hd S2 N2=>?_
     refine yK 20 hs hd (yW H14 (zN N2 (zN N1 S0))) fun _ hs hd S3 N3=>?_
     refine yK 21 hs hd (yU H17 S3) fun _ hs hd S4 N4=>?_
     refine yK 22 hs hd (yU H17 (zN N4 S3)) fun _ hs hd S5 N5=>?_
     refine yK 23 hs hd (yW H14 (zN N5 (zN N4 (zN N3 (zN N2 (zN N1 S0)))))) fun _ hs hd S6 N6=>?_
     refine yA 24 (.bool true) hs hd rfl (yP (zN N6 (zN N5 (zN N4 (zN N3 (zN N2 (zN N1 S0)))))) rfl) fun _ hs hd S7 N7=>?_
     exact wpList_nil (hK_ _ _ (Stop.go ⟨true,Eq.trans (by first|rfl|(rw[];rfl)|(simp[*];done)) hE9.out.symm,hs,hd,(zN N7 (zN N6 (zN N5 (zN N4 (zN N3 (zN N2 (zN N1 (zN N0 ep2)))))))),S7,rfl⟩))
    replace c10:=Bool.eq_false_iff.mpr c10
    subst c10
    by_cases c11:a0≥91
    ·refine yA 17 (.bool false) hs hd rfl (yM es2) fun _ hs hd S0 N0=>?_
     refine yA 18 (.int .i32 a0) hs hd (yW H14 S0) (yM (zN N0 ep2)) fun _ hs hd S1 N1=>?_
     refine yA 19 (.bool true) hs hd (yW H14 (zN N1 S0)) (yC c11 S1) fun _ hs hd S2 N2=>?_
     refine yA 20 (.bool true) hs hd (yW H14 (zN N2 (zN N1 S0))) (yM S2) fun _ hs hd S3 N3=>?_
     refine yA 21 (.int .i32 a0) hs hd (yW H17 S3) (yM (zN N3 (zN N2 (zN N1 (zN N0 ep2))))) fun _ hs hd S4 N4=>?_
     refine yA 22 (.bool (decide (a0≤96))) hs hd (yW H17 (zN N4 S3)) (yB S4) fun _ hs hd S5 N5=>?_
     refine yA 23 (.bool (decide (a0≤96))) hs hd (yW H14 (zN N5 (zN N4 (zN N3 (zN N2 (zN N1 S0)))))) (yP (zN N5 (zN N4 S3)) S5) fun _ hs hd S6 N6=>?_
     refine yA 24 (.bool (decide (a0≤96))) hs hd rfl (yQ (zN N6 (zN N5 (zN N4 (zN N3 (zN N2 (zN N1 S0)))))) S6) fun _ hs hd S7 N7=>?_
     exact wpList_nil (hK_ _ _ (Stop.go ⟨(decide (a0≤96)),Eq.trans (by first|rfl|(rw[if_pos c11];rfl)|(simp[*];done)) hE9.out.symm,hs,hd,(zN N7 (zN N6 (zN N5 (zN N4 (zN N3 (zN N2 (zN N1 (zN N0 ep2)))))))),S7,rfl⟩))
    refine yA 17 (.bool false) hs hd rfl (yM es2) fun _ hs hd S0 N0=>?_
    refine yA 18 (.int .i32 a0) hs hd (yW H14 S0) (yM (zN N0 ep2)) fun _ hs hd S1 N1=>?_
    refine yA 19 (.bool false) hs hd (yW H14 (zN N1 S0)) (yD c11 S1) fun _ hs hd S2 N2=>?_
    refine yA 20 (.bool false) hs hd (yW H14 (zN N2 (zN N1 S0))) (yM S2) fun _ hs hd S3 N3=>?_
    refine yK 21 hs hd (yW H17 S3) fun _ hs hd S4 N4=>?_
    refine yK 22 hs hd (yW H17 (zN N4 S3)) fun _ hs hd S5 N5=>?_
    refine yA 23 (.bool false) hs hd (yW H14 (zN N5 (zN N4 (zN N3 (zN N2 (zN N1 S0)))))) (yQ (zN N5 (zN N4 S3)) rfl) fun _ hs hd S6 N6=>?_
    refine yA 24 (.bool false) hs hd rfl (yQ (zN N6 (zN N5 (zN N4 (zN N3 (zN N2 (zN N1 S0)))))) S6) fun _ hs hd S7 N7=>?_
    exact wpList_nil (hK_ _ _ (Stop.go ⟨false,Eq.trans (by first|rfl|(rw[if_neg c11];rfl)|(simp[*];done)) hE9.out.symm,hs,hd,(zN N7 (zN N6 (zN N5 (zN N4 (zN N3 (zN N2 (zN N1 (zN N0 ep2)))))))),S7,rfl⟩))
   case rest=>
    clear hs hd ep2 es2
    obtain⟨b8,hb_,hs,hd,ep3,es3,rfl⟩:=hc_
    simp only[List.drop_succ_cons,List.drop_zero,List.drop_nil]
    have H:=MW.bind_step HH.out (hb_.trans hE9.out)
    replace HH:=za H
    clear H hb_ hE9
    obtain⟨E13,hE13⟩:∃ e_:Bool,e_=(if b8=true then(true) else(if a0≥123 then((decide (a0≤126))) else(false))):=⟨_,rfl⟩
    replace hE13:=za hE13
    refine MW.list_cut 8 (fun a_ w_=>∃ b_:Bool,b_=E13∧a_.tmps.size=133∧a_.defers=[]∧a_.eval (.tmp 0)=.int .i32 a0∧a_.eval (.tmp 32)=.bool b_∧w=w_) (fun K_ hK_=>?seg) (fun af4 w_ hc_=>?rest)
    case seg=>
     simp only[List.take_succ_cons,List.take_zero,List.take_nil]
     clear HH
     by_cases c14:b8=true
     ·subst c14
      refine yA 25 (.bool true) hs hd rfl (yM es3) fun _ hs hd S0 N0=>?_
      refine yK 26 hs hd (yW H22 S0) fun _ hs hd S1 N1=>?_
      refine yK 27 hs hd (yW H22 (zN N1 S0)) fun _ hs hd S2 N2=>?_
      refine yK 28 hs hd (yW H22 (zN N2 (zN N1 S0))) fun _ hs hd S3 N3=>?_
      refine yK 29 hs hd (yU H25 S3) fun _ hs hd S4 N4=>?_
      refine yK 30 hs hd (yU H25 (zN N4 S3)) fun _ hs hd S5 N5=>?_
      refine yK 31 hs hd (yW H22 (zN N5 (zN N4 (zN N3 (zN N2 (zN N1 S0)))))) fun _ hs hd S6 N6=>?_
      refine yA 32 (.bool true) hs hd rfl (yP (zN N6 (zN N5 (zN N4 (zN N3 (zN N2 (zN N1 S0)))))) rfl) fun _ hs hd S7 N7=>?_
      exact wpList_nil (hK_ _ _ (Stop.go ⟨true,Eq.trans (by first|rfl|(rw[];rfl)|(simp[*];done)) hE13.out.symm,hs,hd,(zN N7 (zN N6 (zN N5 (zN N4 (zN N3 (zN N2 (zN N1 (zN N0 ep3)))))))),S7,rfl⟩))
     replace c14:=Bool.eq_false_iff.mpr c14
     subst c14
     by_cases c15:a0≥123
     ·refine yA 25 (.bool false) hs hd rfl (yM es3) fun _ hs hd S0 N0=>?_
      refine yA 26 (.int .i32 a0) hs hd (yW H22 S0) (yM (zN N0 ep3)) fun _ hs hd S1 N1=>?_
      refine yA 27 (.bool true) hs hd (yW H22 (zN N1 S0)) (yC c15 S1) fun _ hs hd S2 N2=>?_
      refine yA 28 (.bool true) hs hd (yW H22 (zN N2 (zN N1 S0))) (yM S2) fun _ hs hd S3 N3=>?_
      refine yA 29 (.int .i32 a0) hs hd (yW H25 S3) (yM (zN N3 (zN N2 (zN N1 (zN N0 ep3))))) fun _ hs hd S4 N4=>?_
      refine yA 30 (.bool (decide (a0≤126))) hs hd (yW H25 (zN N4 S3)) (yB S4) fun _ hs hd S5 N5=>?_
      refine yA 31 (.bool (decide (a0≤126))) hs hd (yW H22 (zN N5 (zN N4 (zN N3 (zN N2 (zN N1 S0)))))) (yP (zN N5 (zN N4 S3)) S5) fun _ hs hd S6 N6=>?_
      refine yA 32 (.bool (decide (a0≤126))) hs hd rfl (yQ (zN N6 (zN N5 (zN N4 (zN N3 (zN N2 (zN N1 S0)))))) S6) fun _ hs hd S7 N7=>?_
      exact wpList_nil (hK_ _ _ (Stop.go ⟨(decide (a0≤126)),Eq.trans (by first|rfl|(rw[if_pos c15];rfl)|(simp[*];done)) hE13.out.symm,hs,hd,(zN N7 (zN N6 (zN N5 (zN N4 (zN N3 (zN N2 (zN N1 (zN N0 ep3)))))))),S7,rfl⟩))
     refine yA 25 (.bool false) hs hd rfl (yM es3) fun _ hs hd S0 N0=>?_
     refine yA 26 (.int .i32 a0) hs hd (yW H22 S0) (yM (zN N0 ep3)) fun _ hs hd S1 N1=>?_
     refine yA 27 (.bool false) hs hd (yW H22 (zN N1 S0)) (yD c15 S1) fun _ hs hd S2 N2=>?_
     refine yA 28 (.bool false) hs hd (yW H22 (zN N2 (zN N1 S0))) (yM S2) fun _ hs hd S3 N3=>?_
     refine yK 29 hs hd (yW H25 S3) fun _ hs hd S4 N4=>?_
     refine yK 30 hs hd (yW H25 (zN N4 S3)) fun _ hs hd S5 N5=>?_
     refine yA 31 (.bool false) hs hd (yW H22 (zN N5 (zN N4 (zN N3 (zN N2 (zN N1 S0)))))) (yQ (zN N5 (zN N4 S3)) rfl) fun _ hs hd S6 N6=>?_
     refine yA 32 (.bool false) hs hd rfl (yQ (zN N6 (zN N5 (zN N4 (zN N3 (zN N2 (zN N1 S0)))))) S6) fun _ hs hd S7 N7=>?_
     exact wpList_nil (hK_ _ _ (Stop.go ⟨false,Eq.trans (by first|rfl|(rw[if_neg c15];rfl)|(simp[*];done)) hE13.out.symm,hs,hd,(zN N7 (zN N6 (zN N5 (zN N4 (zN N3 (zN N2 (zN N1 (zN N0 ep3)))))))),S7,rfl⟩))
    case rest=>
     clear hs hd ep3 es3
     obtain⟨b12,hb_,hs,hd,ep4,es4,rfl⟩:=hc_
     simp only[List.drop_succ_cons,List.drop_zero,List.drop_nil]
     have H:=MW.bind_step HH.out (hb_.trans hE13.out)
     replace HH:=za H
     clear H hb_ hE13
     obtain⟨E17,hE17⟩:∃ e_:Bool,e_=(if b12=true then(true) else(if a0≥161 then((decide (a0≤169))) else(false))):=⟨_,rfl⟩
     replace hE17:=za hE17
     refine MW.list_cut 8 (fun a_ w_=>∃ b_:Bool,b_=E17∧a_.tmps.size=133∧a_.defers=[]∧a_.eval (.tmp 0)=.int .i32 a0∧a_.eval (.tmp 40)=.bool b_∧w=w_) (fun K_ hK_=>?seg) (fun af5 w_ hc_=>?rest)
     case seg=>
      simp only[List.take_succ_cons,List.take_zero,List.take_nil]
      clear HH
      by_cases c18:b12=true
      ·subst c18
       refine yA 33 (.bool true) hs hd rfl (yM es4) fun _ hs hd S0 N0=>?_
       refine yK 34 hs hd (yW H30 S0) fun _ hs hd S1 N1=>?_
       refine yK 35 hs hd (yW H30 (zN N1 S0)) fun _ hs hd S2 N2=>?_
       refine yK 36 hs hd (yW H30 (zN N2 (zN N1 S0))) fun _ hs hd S3 N3=>?_
       refine yK 37 hs hd (yU H33 S3) fun _ hs hd S4 N4=>?_
       refine yK 38 hs hd (yU H33 (zN N4 S3)) fun _ hs hd S5 N5=>?_
       refine yK 39 hs hd (yW H30 (zN N5 (zN N4 (zN N3 (zN N2 (zN N1 S0)))))) fun _ hs hd S6 N6=>?_
       refine yA 40 (.bool true) hs hd rfl (yP (zN N6 (zN N5 (zN N4 (zN N3 (zN N2 (zN N1 S0)))))) rfl) fun _ hs hd S7 N7=>?_
       exact wpList_nil (hK_ _ _ (Stop.go ⟨true,Eq.trans (by first|rfl|(rw[];rfl)|(simp[*];done)) hE17.out.symm,hs,hd,(zN N7 (zN N6 (zN N5 (zN N4 (zN N3 (zN N2 (zN N1 (zN N0 ep4)))))))),S7,rfl⟩))
      replace c18:=Bool.eq_false_iff.mpr c18
      subst c18
      by_cases c19:a0≥161
      ·refine yA 33 (.bool false) hs hd rfl (yM es4) fun _ hs hd S0 N0=>?_
       refine yA 34 (.int .i32 a0) hs hd (yW H30 S0) (yM (zN N0 ep4)) fun _ hs hd S1 N1=>?_
       refine yA 35 (.bool true) hs hd (yW H30 (zN N1 S0)) (yC c19 S1) fun _ hs hd S2 N2=>?_
       refine yA 36 (.bool true) hs hd (yW H30 (zN N2 (zN N1 S0))) (yM S2) fun _ hs hd S3 N3=>?_
       refine yA 37 (.int .i32 a0) hs hd (yW H33 S3) (yM (zN N3 (zN N2 (zN N1 (zN N0 ep4))))) fun _ hs hd S4 N4=>?_
       refine yA 38 (.bool (decide (a0≤169))) hs hd (yW H33 (zN N4 S3)) (yB S4) fun _ hs hd S5 N5=>?_
       refine yA 39 (.bool (decide (a0≤169))) hs hd (yW H30 (zN N5 (zN N4 (zN N3 (zN N2 (zN N1 S0)))))) (yP (zN N5 (zN N4 S3)) S5) fun _ hs hd S6 N6=>?_
       refine yA 40 (.bool (decide (a0≤169))) hs hd rfl (yQ (zN N6 (zN N5 (zN N4 (zN N3 (zN N2 (zN N1 S0)))))) S6) fun _ hs hd S7 N7=>?_
       exact wpList_nil (hK_ _ _ (Stop.go ⟨(decide (a0≤169)),Eq.trans (by first|rfl|(rw[if_pos c19];rfl)|(simp[*];done)) hE17.out.symm,hs,hd,(zN N7 (zN N6 (zN N5 (zN N4 (zN N3 (zN N2 (zN N1 (zN N0 ep4)))))))),S7,rfl⟩))
      refine yA 33 (.bool false) hs hd rfl (yM es4) fun _ hs hd S0 N0=>?_
      refine yA 34 (.int .i32 a0) hs hd (yW H30 S0) (yM (zN N0 ep4)) fun _ hs hd S1 N1=>?_
      refine yA 35 (.bool false) hs hd (yW H30 (zN N1 S0)) (yD c19 S1) fun _ hs hd S2 N2=>?_
      refine yA 36 (.bool false) hs hd (yW H30 (zN N2 (zN N1 S0))) (yM S2) fun _ hs hd S3 N3=>?_
      refine yK 37 hs hd (yW H33 S3) fun _ hs hd S4 N4=>?_
      refine yK 38 hs hd (yW H33 (zN N4 S3)) fun _ hs hd S5 N5=>?_
      refine yA 39 (.bool false) hs hd (yW H30 (zN N5 (zN N4 (zN N3 (zN N2 (zN N1 S0)))))) (yQ (zN N5 (zN N4 S3)) rfl) fun _ hs hd S6 N6=>?_
      refine yA 40 (.bool false) hs hd rfl (yQ (zN N6 (zN N5 (zN N4 (zN N3 (zN N2 (zN N1 S0)))))) S6) fun _ hs hd S7 N7=>?_
      exact wpList_nil (hK_ _ _ (Stop.go ⟨false,Eq.trans (by first|rfl|(rw[if_neg c19];rfl)|(simp[*];done)) hE17.out.symm,hs,hd,(zN N7 (zN N6 (zN N5 (zN N4 (zN N3 (zN N2 (zN N1 (zN N0 ep4)))))))),S7,rfl⟩))
     case rest=>
      clear hs hd ep4 es4
      obtain⟨b16,hb_,hs,hd,ep5,es5,rfl⟩:=hc_
      simp only[List.drop_succ_cons,List.drop_zero,List.drop_nil]
      have H:=MW.bind_step HH.out (hb_.trans hE17.out)
      replace HH:=za H
      clear H hb_ hE17
      obtain⟨E21,hE21⟩:∃ e_:Bool,e_=(if b16=true then(true) else(if a0≥171 then((decide (a0≤172))) else(false))):=⟨_,rfl⟩
      replace hE21:=za hE21
      refine MW.list_cut 8 (fun a_ w_=>∃ b_:Bool,b_=E21∧a_.tmps.size=133∧a_.defers=[]∧a_.eval (.tmp 0)=.int .i32 a0∧a_.eval (.tmp 48)=.bool b_∧w=w_) (fun K_ hK_=>?seg) (fun af6 w_ hc_=>?rest)
      case seg=>
       simp only[List.take_succ_cons,List.take_zero,List.take_nil]
       clear HH
       by_cases c22:b16=true
       ·subst c22
        refine yA 41 (.bool true) hs hd rfl (yM es5) fun _ hs hd S0 N0=>?_
        refine yK 42 hs hd (yW H38 S0) fun _ hs hd S1 N1=>?_
        refine yK 43 hs hd (yW H38 (zN N1 S0)) fun _ hs hd S2 N2=>?_
        refine yK 44 hs hd (yW H38 (zN N2 (zN N1 S0))) fun _ hs hd S3 N3=>?_
        refine yK 45 hs hd (yU H41 S3) fun _ hs hd S4 N4=>?_
        refine yK 46 hs hd (yU H41 (zN N4 S3)) fun _ hs hd S5 N5=>?_
        refine yK 47 hs hd (yW H38 (zN N5 (zN N4 (zN N3 (zN N2 (zN N1 S0)))))) fun _ hs hd S6 N6=>?_
        refine yA 48 (.bool true) hs hd rfl (yP (zN N6 (zN N5 (zN N4 (zN N3 (zN N2 (zN N1 S0)))))) rfl) fun _ hs hd S7 N7=>?_
        exact wpList_nil (hK_ _ _ (Stop.go ⟨true,Eq.trans (by first|rfl|(rw[];rfl)|(simp[*];done)) hE21.out.symm,hs,hd,(zN N7 (zN N6 (zN N5 (zN N4 (zN N3 (zN N2 (zN N1 (zN N0 ep5)))))))),S7,rfl⟩))
       replace c22:=Bool.eq_false_iff.mpr c22
       subst c22
       by_cases c23:a0≥171
       ·refine yA 41 (.bool false) hs hd rfl (yM es5) fun _ hs hd S0 N0=>?_
        refine yA 42 (.int .i32 a0) hs hd (yW H38 S0) (yM (zN N0 ep5)) fun _ hs hd S1 N1=>?_
        refine yA 43 (.bool true) hs hd (yW H38 (zN N1 S0)) (yC c23 S1) fun _ hs hd S2 N2=>?_
        refine yA 44 (.bool true) hs hd (yW H38 (zN N2 (zN N1 S0))) (yM S2) fun _ hs hd S3 N3=>?_
        refine yA 45 (.int .i32 a0) hs hd (yW H41 S3) (yM (zN N3 (zN N2 (zN N1 (zN N0 ep5))))) fun _ hs hd S4 N4=>?_
        refine yA 46 (.bool (decide (a0≤172))) hs hd (yW H41 (zN N4 S3)) (yB S4) fun _ hs hd S5 N5=>?_
        refine yA 47 (.bool (decide (a0≤172))) hs hd (yW H38 (zN N5 (zN N4 (zN N3 (zN N2 (zN N1 S0)))))) (yP (zN N5 (zN N4 S3)) S5) fun _ hs hd S6 N6=>?_
        refine yA 48 (.bool (decide (a0≤172))) hs hd rfl (yQ (zN N6 (zN N5 (zN N4 (zN N3 (zN N2 (zN N1 S0)))))) S6) fun _ hs hd S7 N7=>?_
        exact wpList_nil (hK_ _ _ (Stop.go ⟨(decide (a0≤172)),Eq.trans (by first|rfl|(rw[if_pos c23];rfl)|(simp[*];done)) hE21.out.symm,hs,hd,(zN N7 (zN N6 (zN N5 (zN N4 (zN N3 (zN N2 (zN N1 (zN N0 ep5)))))))),S7,rfl⟩))
       refine yA 41 (.bool false) hs hd rfl (yM es5) fun _ hs hd S0 N0=>?_
       refine yA 42 (.int .i32 a0) hs hd (yW H38 S0) (yM (zN N0 ep5)) fun _ hs hd S1 N1=>?_
       refine yA 43 (.bool false) hs hd (yW H38 (zN N1 S0)) (yD c23 S1) fun _ hs hd S2 N2=>?_
       refine yA 44 (.bool false) hs hd (yW H38 (zN N2 (zN N1 S0))) (yM S2) fun _ hs hd S3 N3=>?_
       refine yK 45 hs hd (yW H41 S3) fun _ hs hd S4 N4=>?_
       refine yK 46 hs hd (yW H41 (zN N4 S3)) fun _ hs hd S5 N5=>?_
       refine yA 47 (.bool false) hs hd (yW H38 (zN N5 (zN N4 (zN N3 (zN N2 (zN N1 S0)))))) (yQ (zN N5 (zN N4 S3)) rfl) fun _ hs hd S6 N6=>?_
       refine yA 48 (.bool false) hs hd rfl (yQ (zN N6 (zN N5 (zN N4 (zN N3 (zN N2 (zN N1 S0)))))) S6) fun _ hs hd S7 N7=>?_
       exact wpList_nil (hK_ _ _ (Stop.go ⟨false,Eq.trans (by first|rfl|(rw[if_neg c23];rfl)|(simp[*];done)) hE21.out.symm,hs,hd,(zN N7 (zN N6 (zN N5 (zN N4 (zN N3 (zN N2 (zN N1 (zN N0 ep5)))))))),S7,rfl⟩))
      case rest=>
       clear hs hd ep5 es5
       obtain⟨b20,hb_,hs,hd,ep6,es6,rfl⟩:=hc_
       simp only[List.drop_succ_cons,List.drop_zero,List.drop_nil]
       have H:=MW.bind_step HH.out (hb_.trans hE21.out)
       replace HH:=za H
       clear H hb_ hE21
       exact wpList_nil (hKC_ _ _ (Stop.go ⟨b20,HH.out,hs,hd,ep6,es6,rfl⟩))
theorem chars_sign.calls (a0:Int) (r:Bool) (w:World) (h:chars_sign.f a0=some r):
  Calls Try.prog 26 #[.int .i32 a0] w (fun e w'=>e=.returned (.bool r)∧Drawn0 w w'):=by
 have HH:=za h
 clear h
 unfold chars_sign.f at HH
 go_enter Try.func26,Try.ntmps26
 repeat(first|(refine MW.region_ops (id:=1) ?_)|go_step)
 intro OPS hO
 refine chars_sign.p0 OPS hO a0 r w _ (by kernel_rfl) (by kernel_rfl) (by kernel_rfl) HH.out ?_
 intro a' hs hd es
 repeat go_step
 refine bodyPost_ret (results_tmp rfl _ _ _) hd ?_
 exact⟨congrArg Ending.returned es,Drawn0.refl _⟩
end Go.Proofs.Ytkbiiijmgbjnkaa.GA
