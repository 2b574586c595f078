import Derived.Test.YtkbiiijmgbjnkaaGA0
import Derived.Test.YtkbiiijmgbjnkaaMX
namespace Go.Proofs.Ytkbiiijmgbjnkaa.GA
open Go.RowKit Go.Proofs.Ytkbiiijmgbjnkaa Go.Proofs.Ytkbiiijmgbjnkaa.MW Go.Proofs.YtkbiiijmgbjnkaaW.PrintWords Go.Proofs.YtkbiiijmgbjnkaaW.PrintLast Go.Proofs.YtkbiiijmgbjnkaaW.PrintMore
attribute [local go_sem] max2_int min2_int max_two min_two
set_option maxHeartbeats 8000000
set_option maxRecDepth 100000
set_option linter.unusedVariables false
set_option linter.unusedSimpArgs false
def chars_gone.f (a0:Int):Option (Bool):=(some (if a0≥0 then((decide (a0≤8))) else(false):Bool)).bind fun b1=>((some (if b1=true then(true) else(if a0≥14 then((decide (a0≤31))) else(false)):Bool)).bind fun b4=>((some (if b4=true then(true) else(if a0≥127 then((decide (a0≤132))) else(false)):Bool)).bind fun b8=>((some (if b8=true then(true) else(if a0≥134 then((decide (a0≤159))) else(false)):Bool)).bind fun b12=>((some (if b12=true then(true) else(if a0=173 then(true) else((a0==847))):Bool)).bind fun b16=>((some (if b16=true then(true) else(if a0≥8203 then((decide (a0≤8207))) else(false)):Bool)).bind fun b20=>((some (if b20=true then(true) else(if a0≥8234 then((decide (a0≤8238))) else(false)):Bool)).bind fun b24=>((some (if b24=true then(true) else(if a0≥8288 then((decide (a0≤8291))) else(false)):Bool)).bind fun b28=>((some (if b28=true then(true) else(if a0≥8298 then((decide (a0≤8303))) else(false)):Bool)).bind fun b32=>((some (if b32=true then(true) else(if a0≥65024 then((decide (a0≤65039))) else(false)):Bool)).bind fun b36=>((some (if b36=true then(true) else(if a0=65279 then(true) else(if a0≥65529 then((decide (a0≤65532))) else(false))):Bool)).bind fun b40=>(some b40)))))))))))
noncomputable def chars_gone.ops:List Oper:=match Try.f28.body with
 |some (.seq _ (.seq (.region _ o _) _))=>o.toList
 |_=>[]
theorem chars_gone.p1 {Q:Exit→Act→World→Prop} (OPS:Array Oper) (hO:OPS=chars_gone.ops.toArray) (a0:Int) (r:Bool) (w:World) (af6:Act) (b20:Bool) (hs:af6.tmps.size=93) (hd:af6.defers=[]) (ep6:af6.eval (.tmp 0)=.int .i32 a0) (es6:af6.eval (.tmp 48)=.bool b20) (h:((some (if b20=true then(true) else(if a0≥8234 then((decide (a0≤8238))) else(false)):Bool)).bind fun b24=>((some (if b24=true then(true) else(if a0≥8288 then((decide (a0≤8291))) else(false)):Bool)).bind fun b28=>((some (if b28=true then(true) else(if a0≥8298 then((decide (a0≤8303))) else(false)):Bool)).bind fun b32=>((some (if b32=true then(true) else(if a0≥65024 then((decide (a0≤65039))) else(false)):Bool)).bind fun b36=>((some (if b36=true then(true) else(if a0=65279 then(true) else(if a0≥65529 then((decide (a0≤65532))) else(false))):Bool)).bind fun b40=>(some b40))))))=some r) (fin:∀ a':Act,a'.tmps.size=93→a'.defers=[]→a'.eval (.tmp 2)=.bool r→Q .normal a' w):wpList Try.prog OPS Q (chars_gone.ops.drop 46) af6 w:=by
 have HH:=za h
 clear h
 have H46:(OPS[46]?).bind (·.dst)=some 49:=by rw[hO];rfl
 have H49:(OPS[49]?).bind (·.dst)=some 52:=by rw[hO];rfl
 have H54:(OPS[54]?).bind (·.dst)=some 57:=by rw[hO];rfl
 have H57:(OPS[57]?).bind (·.dst)=some 60:=by rw[hO];rfl
 have H62:(OPS[62]?).bind (·.dst)=some 65:=by rw[hO];rfl
 have H65:(OPS[65]?).bind (·.dst)=some 68:=by rw[hO];rfl
 have H70:(OPS[70]?).bind (·.dst)=some 73:=by rw[hO];rfl
 have H73:(OPS[73]?).bind (·.dst)=some 76:=by rw[hO];rfl
 have H78:(OPS[78]?).bind (·.dst)=some 81:=by rw[hO];rfl
 have H82:(OPS[82]?).bind (·.dst)=some 85:=by rw[hO];rfl
 have H85:(OPS[85]?).bind (·.dst)=some 88:=by rw[hO];rfl
 replace hO:=(Stop.go hO:Stop _ (.mk _))
 replace fin:=(Stop.go fin:Stop _ (.mk _))
 simp only[chars_gone.ops,Try.f28,List.append_eq,List.cons_append,List.nil_append,List.drop_succ_cons,List.drop_zero,List.take_succ_cons,List.take_zero]
 obtain⟨E25,hE25⟩:∃ e_:Bool,e_=(if b20=true then(true) else(if a0≥8234 then((decide (a0≤8238))) else(false))):=⟨_,rfl⟩
 replace hE25:=za hE25
 refine MW.list_cut 8 (fun a_ w_=>∃ b_:Bool,b_=E25∧a_.tmps.size=93∧a_.defers=[]∧a_.eval (.tmp 0)=.int .i32 a0∧a_.eval (.tmp 56)=.bool b_∧w=w_) (fun K_ hK_=>?seg) (fun af7 w_ hc_=>?rest)
 case seg=>
  simp only[List.take_succ_cons,List.take_zero,List.take_nil]
  clear HH
  by_cases c26:b20=true
  ·subst c26
   refine yA 49 (.bool true) hs hd rfl (yM es6) fun _ hs hd S0 N0=>?_
   refine yK 50 hs hd (yW H46 S0) fun _ hs hd S1 N1=>?_
   refine yK 51 hs hd (yW H46 (zN N1 S0)) fun _ hs hd S2 N2=>?_
   refine yK 52 hs hd (yW H46 (zN N2 (zN N1 S0))) fun _ hs hd S3 N3=>?_
   refine yK 53 hs hd (yU H49 S3) fun _ hs hd S4 N4=>?_
   refine yK 54 hs hd (yU H49 (zN N4 S3)) fun _ hs hd S5 N5=>?_
   refine yK 55 hs hd (yW H46 (zN N5 (zN N4 (zN N3 (zN N2 (zN N1 S0)))))) fun _ hs hd S6 N6=>?_
   refine yA 56 (.bool true) hs hd rfl (yP (zN N6 (zN N5 (zN N4 (zN N3 (zN N2 (zN N1 S0)))))) rfl) fun _ hs hd S7 N7=>?_
   exact wpList_nil (hK_ _ _ (Stop.go ⟨true,Eq.trans (by first|rfl|(rw[];rfl)|(simp[*];done)) hE25.out.symm,hs,hd,(zN N7 (zN N6 (zN N5 (zN N4 (zN N3 (zN N2 (zN N1 (zN N0 ep6)))))))),S7,rfl⟩))
  replace c26:=Bool.eq_false_iff.mpr c26
  subst c26
  by_cases c27:a0≥8234
  ·refine yA 49 (.bool false) hs hd rfl (yM es6) fun _ hs hd S0 N0=>?_
   refine yA 50 (.int .i32 a0) hs hd (yW H46 S0) (yM (zN N0 ep6)) fun _ hs hd S1 N1=>?_
   refine yA 51 (.bool true) hs hd (yW H46 (zN N1 S0)) (yC c27 S1) fun _ hs hd S2 N2=>?_
   refine yA 52 (.bool true) hs hd (yW H46 (zN N2 (zN N1 S0))) (yM S2) fun _ hs hd S3 N3=>?_
   refine yA 53 (.int .i32 a0) hs hd (yW H49 S3) (yM (zN N3 (zN N2 (zN N1 (zN N0 ep6))))) fun _ hs hd S4 N4=>?_
   refine yA 54 (.bool (decide (a0≤8238))) hs hd (yW H49 (zN N4 S3)) (yB S4) fun _ hs hd S5 N5=>?_
   refine yA 55 (.bool (decide (a0≤8238))) hs hd (yW H46 (zN N5 (zN N4 (zN N3 (zN N2 (zN N1 S0)))))) (yP (zN N5 (zN N4 S3)) S5) fun _ hs hd S6 N6=>?_
   refine yA 56 (.bool (decide (a0≤8238))) hs hd rfl (yQ (zN N6 (zN N5 (zN N4 (zN N3 (zN N2 (zN N1 S0)))))) S6) fun _ hs hd S7 N7=>?_
   exact wpList_nil (hK_ _ _ (Stop.go ⟨(decide (a0≤8238)),Eq.trans (by first|rfl|(rw[if_pos c27];rfl)|(simp[*];done)) hE25.out.symm,hs,hd,(zN N7 (zN N6 (zN N5 (zN N4 (zN N3 (zN N2 (zN N1 (zN N0 ep6)))))))),S7,rfl⟩))
  refine yA 49 (.bool false) hs hd rfl (yM es6) fun _ hs hd S0 N0=>?_
  refine yA 50 (.int .i32 a0) hs hd (yW H46 S0) (yM (zN N0 ep6)) fun _ hs hd S1 N1=>?_
  refine yA 51 (.bool false) hs hd (yW H46 (zN N1 S0)) (yD c27 S1) fun _ hs hd S2 N2=>?_
  refine yA 52 (.bool false) hs hd (yW H46 (zN N2 (zN N1 S0))) (yM S2) fun _ hs hd S3 N3=>?_
  refine yK 53 hs hd (yW H49 S3) fun _ hs hd S4 N4=>?_
  refine yK 54 hs hd (yW H49 (zN N4 S3)) fun _ hs hd S5 N5=>?_
  refine yA 55 (.bool false) hs hd (yW H46 (zN N5 (zN N4 (zN N3 (zN N2 (zN N1 S0)))))) (yQ (zN N5 (zN N4 S3)) rfl) fun _ hs hd S6 N6=>?_
  refine yA 56 (.bool false) hs hd rfl (yQ (zN N6 (zN N5 (zN N4 (zN N3 (zN N2 (zN N1 S0)))))) S6) fun _ hs hd S7 N7=>?_
  exact wpList_nil (hK_ _ _ (Stop.go ⟨false,Eq.trans (by first|rfl|(rw[if_neg c27];rfl)|(simp[*];done)) hE25.out.symm,hs,hd,(zN N7 (zN N6 (zN N5 (zN N4 (zN N3 (zN N2 (zN N1 (zN N0 ep6)))))))),S7,rfl⟩))
 case rest=>
  clear hs hd ep6 es6
  obtain⟨b24,hb_,hs,hd,ep7,es7,rfl⟩:=hc_
  simp only[List.drop_succ_cons,List.drop_zero,List.drop_nil]
  have H:=MW.bind_step HH.out (hb_.trans hE25.out)
  replace HH:=za H
  clear H hb_ hE25
  obtain⟨E29,hE29⟩:∃ e_:Bool,e_=(if b24=true then(true) else(if a0≥8288 then((decide (a0≤8291))) else(false))):=⟨_,rfl⟩
  replace hE29:=za hE29
  refine MW.list_cut 8 (fun a_ w_=>∃ b_:Bool,b_=E29∧a_.tmps.size=93∧a_.defers=[]∧a_.eval (.tmp 0)=.int .i32 a0∧a_.eval (.tmp 64)=.bool b_∧w=w_) (fun K_ hK_=>?seg) (fun af8 w_ hc_=>?rest)
  case seg=>
   simp only[List.take_succ_cons,List.take_zero,List.take_nil]
   clear HH
   by_cases c30:b24=true
   ·subst c30
    refine yA 57 (.bool true) hs hd rfl (yM es7) fun _ hs hd S0 N0=>?_
    refine yK 58 hs hd (yW H54 S0) fun _ hs hd S1 N1=>?_
    refine yK 59 hs hd (yW H54 (zN N1 S0)) fun _ hs hd S2 N2=>?_
    refine yK 60 hs hd (yW H54 (zN N2 (zN N1 S0))) fun _ hs hd S3 N3=>?_
    refine yK 61 hs hd (yU H57 S3) fun _ hs hd S4 N4=>?_
    refine yK 62 hs hd (yU H57 (zN N4 S3)) fun _ hs hd S5 N5=>?_
    refine yK 63 hs hd (yW H54 (zN N5 (zN N4 (zN N3 (zN N2 (zN N1 S0)))))) fun _ hs hd S6 N6=>?_
    refine yA 64 (.bool true) hs hd rfl (yP (zN N6 (zN N5 (zN N4 (zN N3 (zN N2 (zN N1 S0)))))) rfl) fun _ hs hd S7 N7=>?_
    exact wpList_nil (hK_ _ _ (Stop.go ⟨true,Eq.trans (by first|rfl|(rw[];rfl)|(simp[*];done)) hE29.out.symm,hs,hd,(zN N7 (zN N6 (zN N5 (zN N4 (zN N3 (zN N2 (zN N1 (zN N0 ep7)))))))),S7,rfl⟩))
   replace c30:=Bool.eq_false_iff.mpr c30
   subst c30
   by_cases c31:a0≥8288
   ·refine yA 57 (.bool false) hs hd rfl (yM es7) fun _ hs hd S0 N0=>?_
    refine yA 58 (.int .i32 a0) hs hd (yW H54 S0) (yM (zN N0 ep7)) fun _ hs hd S1 N1=>?_
    refine yA 59 (.bool true) hs hd (yW H54 (zN N1 S0)) (yC c31 S1) fun _ hs hd S2 N2=>?_
    refine yA 60 (.bool true) hs hd (yW H54 (zN N2 (zN N1 S0))) (yM S2) fun _ hs hd S3 N3=>?_
    refine yA 61 (.int .i32 a0) hs hd (yW H57 S3) (yM (zN N3 (zN N2 (zN N1 (zN N0 ep7))))) fun _ hs hd S4 N4=>?_
    refine yA 62 (.bool (decide (a0≤8291))) hs hd (yW H57 (zN N4 S3)) (yB S4) fun _ hs hd S5 N5=>?_
    refine yA 63 (.bool (decide (a0≤8291))) hs hd (yW H54 (zN N5 (zN N4 (zN N3 (zN N2 (zN N1 S0)))))) (yP (zN N5 (zN N4 S3)) S5) fun _ hs hd S6 N6=>?_
    refine yA 64 (.bool (decide (a0≤8291))) hs hd rfl (yQ (zN N6 (zN N5 (zN N4 (zN N3 (zN N2 (zN N1 S0)))))) S6) fun _ hs hd S7 N7=>?_
    exact wpList_nil (hK_ _ _ (Stop.go ⟨(decide (a0≤8291)),Eq.trans (by first|rfl|(rw[if_pos c31];rfl)|(simp[*];done)) hE29.out.symm,hs,hd,(zN N7 (zN N6 (zN N5 (zN N4 (zN N3 (zN N2 (zN N1 (zN N0 ep7)))))))),S7,rfl⟩))
   refine yA 57 (.bool false) hs hd rfl (yM es7) fun _ hs hd S0 N0=>?_
   refine yA 58 (.int .i32 a0) hs hd (yW H54 S0) (yM (zN N0 ep7)) fun _ hs hd S1 N1=>?_
   refine yA 59 (.bool false) hs hd (yW H54 (zN N1 S0)) (yD c31 S1) fun _ hs hd S2 N2=>?_
   refine yA 60 (.bool false) hs hd (yW H54 (zN N2 (zN N1 S0))) (yM S2) fun _ hs hd S3 N3=>?_
   refine yK 61 hs hd (yW H57 S3) fun _ hs hd S4 N4=>?_
   refine yK 62 hs hd (yW H57 (zN N4 S3)) fun _ hs hd S5 N5=>?_
   refine yA 63 (.bool false) hs hd (yW H54 (zN N5 (zN N4 (zN N3 (zN N2 (zN N1 S0)))))) (yQ (zN N5 (zN N4 S3)) rfl) fun _ hs hd S6 N6=>?_
   refine yA 64 (.bool false) hs hd rfl (yQ (zN N6 (zN N5 (zN N4 (zN N3 (zN N2 (zN N1 S0)))))) S6) fun _ hs hd S7 N7=>?_
   exact wpList_nil (hK_ _ _ (Stop.go ⟨false,Eq.trans (by first|rfl|(rw[if_neg c31];rfl)|(simp[*];done)) hE29.out.symm,hs,hd,(zN N7 (zN N6 (zN N5 (zN N4 (zN N3 (zN N2 (zN N1 (zN N0 ep7)))))))),S7,rfl⟩))
  case rest=>
   clear hs hd ep7 es7
   obtain⟨b28,hb_,hs,hd,ep8,es8,rfl⟩:=hc_
   simp only[List.drop_succ_cons,List.drop_zero,List.drop_nil]
   have H:=MW.bind_step HH.out (hb_.trans hE29.out)
   replace HH:=za H
   clear H hb_ hE29
   obtain⟨E33,hE33⟩:∃ e_:Bool,e_=(if b28=true then(true) else(if a0≥8298 then((decide (a0≤8303))) else(false))):=⟨_,rfl⟩
   replace hE33:=za hE33
   refine MW.list_cut 8 (fun a_ w_=>∃ b_:Bool,b_=E33∧a_.tmps.size=93∧a_.defers=[]∧a_.eval (.tmp 0)=.int .i32 a0∧a_.eval (.tmp 72)=.bool b_∧w=w_) (fun K_ hK_=>?seg) (fun af9 w_ hc_=>?rest)
   case seg=>
    simp only[List.take_succ_cons,List.take_zero,List.take_nil]
    clear HH
    by_cases c34:b28=true
    ·subst c34
     refine yA 65 (.bool true) hs hd rfl (yM es8) fun _ hs hd S0 N0=>?_
     refine yK 66 hs hd (yW H62 S0) fun _ hs hd S1 N1=>?_
     refine yK 67 hs hd (yW H62 (zN N1 S0)) fun _ hs hd S2 N2=>?_
     refine yK 68 hs hd (yW H62 (zN N2 (zN N1 S0))) fun _ hs hd S3 N3=>?_
     refine yK 69 hs hd (yU H65 S3) fun _ hs hd S4 N4=>?_
     refine yK 70 hs hd (yU H65 (zN N4 S3)) fun _ hs hd S5 N5=>?_
     refine yK 71 hs hd (yW H62 (zN N5 (zN N4 (zN N3 (zN N2 (zN N1 S0)))))) fun _ hs hd S6 N6=>?_
     refine yA 72 (.bool true) hs hd rfl (yP (zN N6 (zN N5 (zN N4 (zN N3 (zN N2 (zN N1 S0)))))) rfl) fun _ hs hd S7 N7=>?_
     exact wpList_nil (hK_ _ _ (Stop.go ⟨true,Eq.trans (by first|rfl|(rw[];rfl)|(simp[*];done)) hE33.out.symm,hs,hd,(zN N7 (zN N6 (zN N5 (zN N4 (zN N3 (zN N2 (zN N1 (zN N0 ep8)))))))),S7,rfl⟩))
    replace c34:=Bool.eq_false_iff.mpr c34
    subst c34
    by_cases c35:a0≥8298
    ·refine yA 65 (.bool false) hs hd rfl (yM es8) fun _ hs hd S0 N0=>?_
     refine yA 66 (.int .i32 a0) hs hd (yW H62 S0) (yM (zN N0 ep8)) fun _ hs hd S1 N1=>?_
     refine yA 67 (.bool true) hs hd (yW H62 (zN N1 S0)) (yC c35 S1) fun _ hs hd S2 N2=>?_
     refine yA 68 (.bool true) hs hd (yW H62 (zN N2 (zN N1 S0))) (yM S2) fun _ hs hd S3 N3=>?_
     refine yA 69 (.int .i32 a0) hs hd (yW H65 S3) (yM (zN N3 (zN N2 (zN N1 (zN N0 ep8))))) fun _ hs hd S4 N4=>?_
     refine yA 70 (.bool (decide (a0≤8303))) hs hd (yW H65 (zN N4 S3)) (yB S4) fun _ hs hd S5 N5=>?_
     refine yA 71 (.bool (decide (a0≤8303))) hs hd (yW H62 (zN N5 (zN N4 (zN N3 (zN N2 (zN N1 S0)))))) (yP (zN N5 (zN N4 S3)) S5) fun _ hs hd S6 N6=>?_
     refine yA 72 (.bool (decide (a0≤8303))) hs hd rfl (yQ (zN N6 (zN N5 (zN N4 (zN N3 (zN N2 (zN N1 S0)))))) S6) fun _ hs hd S7 N7=>?_
     exact wpList_nil (hK_ _ _ (Stop.go ⟨(decide (a0≤8303)),Eq.trans (by first|rfl|(rw[if_pos c35];rfl)|(simp[*];done)) hE33.out.symm,hs,hd,(zN N7 (zN N6 (zN N5 (zN N4 (zN N3 (zN N2 (zN N1 (zN N0 ep8)))))))),S7,rfl⟩))
    refine yA 65 (.bool false) hs hd rfl (yM es8) fun _ hs hd S0 N0=>?_
    refine yA 66 (.int .i32 a0) hs hd (yW H62 S0) (yM (zN N0 ep8)) fun _ hs hd S1 N1=>?_
    refine yA 67 (.bool false) hs hd (yW H62 (zN N1 S0)) (yD c35 S1) fun _ hs hd S2 N2=>?_
    refine yA 68 (.bool false) hs hd (yW H62 (zN N2 (zN N1 S0))) (yM S2) fun _ hs hd S3 N3=>?_
    refine yK 69 hs hd (yW H65 S3) fun _ hs hd S4 N4=>?_
    refine yK 70 hs hd (yW H65 (zN N4 S3)) fun _ hs hd S5 N5=>?_
    refine yA 71 (.bool false) hs hd (yW H62 (zN N5 (zN N4 (zN N3 (zN N2 (zN N1 S0)))))) (yQ (zN N5 (zN N4 S3)) rfl) fun _ hs hd S6 N6=>?_
    refine yA 72 (.bool false) hs hd rfl (yQ (zN N6 (zN N5 (zN N4 (zN N3 (zN N2 (zN N1 S0)))))) S6) fun _ hs hd S7 N7=>?_
    exact wpList_nil (hK_ _ _ (Stop.go ⟨false,Eq.trans (by first|rfl|(rw[if_neg c35];rfl)|(simp[*];done)) hE33.out.symm,hs,hd,(zN N7 (zN N6 (zN N5 (zN N4 (zN N3 (zN N2 (zN N1 (zN N0 ep8)))))))),S7,rfl⟩))
   case rest=>
    clear hs hd ep8 es8
    obtain⟨b32,hb_,hs,hd,ep9,es9,rfl⟩:=hc_
    simp only[List.drop_succ_cons,List.drop_zero,List.drop_nil]
    have H:=MW.bind_step HH.out (hb_.trans hE33.out)
    replace HH:=za H
    clear H hb_ hE33
    obtain⟨E37,hE37⟩:∃ e_:Bool,e_=(if b32=true then(true) else(if a0≥65024 then((decide (a0≤65039))) else(false))):=⟨_,rfl⟩
    replace hE37:=za hE37
    refine MW.list_cut 8 (fun a_ w_=>∃ b_:Bool,b_=E37∧a_.tmps.size=93∧a_.defers=[]∧a_.eval (.tmp 0)=.int .i32 a0∧a_.eval (.tmp 80)=.bool b_∧w=w_) (fun K_ hK_=>?seg) (fun af10 w_ hc_=>?rest)
    case seg=>
     simp only[List.take_succ_cons,List.take_zero,List.take_nil]
     clear HH
     by_cases c38:b32=true
     ·subst c38
      refine yA 73 (.bool true) hs hd rfl (yM es9) fun _ hs hd S0 N0=>?_
      refine yK 74 hs hd (yW H70 S0) fun _ hs hd S1 N1=>?_
      refine yK 75 hs hd (yW H70 (zN N1 S0)) fun _ hs hd S2 N2=>?_
      refine yK 76 hs hd (yW H70 (zN N2 (zN N1 S0))) fun _ hs hd S3 N3=>?_
      refine yK 77 hs hd (yU H73 S3) fun _ hs hd S4 N4=>?_
      refine yK 78 hs hd (yU H73 (zN N4 S3)) fun _ hs hd S5 N5=>?_
      refine yK 79 hs hd (yW H70 (zN N5 (zN N4 (zN N3 (zN N2 (zN N1 S0)))))) fun _ hs hd S6 N6=>?_
      refine yA 80 (.bool true) hs hd rfl (yP (zN N6 (zN N5 (zN N4 (zN N3 (zN N2 (zN N1 S0)))))) rfl) fun _ hs hd S7 N7=>?_
      exact wpList_nil (hK_ _ _ (Stop.go ⟨true,Eq.trans (by first|rfl|(rw[];rfl)|(simp[*];done)) hE37.out.symm,hs,hd,(zN N7 (zN N6 (zN N5 (zN N4 (zN N3 (zN N2 (zN N1 (zN N0 ep9)))))))),S7,rfl⟩))
     replace c38:=Bool.eq_false_iff.mpr c38
     subst c38
     by_cases c39:a0≥65024
     ·refine yA 73 (.bool false) hs hd rfl (yM es9) fun _ hs hd S0 N0=>?_
      refine yA 74 (.int .i32 a0) hs hd (yW H70 S0) (yM (zN N0 ep9)) fun _ hs hd S1 N1=>?_
      refine yA 75 (.bool true) hs hd (yW H70 (zN N1 S0)) (yC c39 S1) fun _ hs hd S2 N2=>?_
      refine yA 76 (.bool true) hs hd (yW H70 (zN N2 (zN N1 S0))) (yM S2) fun _ hs hd S3 N3=>?_
      refine yA 77 (.int .i32 a0) hs hd (yW H73 S3) (yM (zN N3 (zN N2 (zN N1 (zN N0 ep9))))) fun _ hs hd S4 N4=>?_
      refine yA 78 (.bool (decide (a0≤65039))) hs hd (yW H73 (zN N4 S3)) (yB S4) fun _ hs hd S5 N5=>?_
      refine yA 79 (.bool (decide (a0≤65039))) hs hd (yW H70 (zN N5 (zN N4 (zN N3 (zN N2 (zN N1 S0)))))) (yP (zN N5 (zN N4 S3)) S5) fun _ hs hd S6 N6=>?_
      refine yA 80 (.bool (decide (a0≤65039))) hs hd rfl (yQ (zN N6 (zN N5 (zN N4 (zN N3 (zN N2 (zN N1 S0)))))) S6) fun _ hs hd S7 N7=>?_
      exact wpList_nil (hK_ _ _ (Stop.go ⟨(decide (a0≤65039)),Eq.trans (by first|rfl|(rw[if_pos c39];rfl)|(simp[*];done)) hE37.out.symm,hs,hd,(zN N7 (zN N6 (zN N5 (zN N4 (zN N3 (zN N2 (zN N1 (zN N0 ep9)))))))),S7,rfl⟩))
     refine yA 73 (.bool false) hs hd rfl (yM es9) fun _ hs hd S0 N0=>?_
     refine yA 74 (.int .i32 a0) hs hd (yW H70 S0) (yM (zN N0 ep9)) fun _ hs hd S1 N1=>?_
     refine yA 75 (.bool false) hs hd (yW H70 (zN N1 S0)) (yD c39 S1) fun _ hs hd S2 N2=>?_
     refine yA 76 (.bool false) hs hd (yW H70 (zN N2 (zN N1 S0))) (yM S2) fun _ hs hd S3 N3=>?_
     refine yK 77 hs hd (yW H73 S3) fun _ hs hd S4 N4=>?_
     refine yK 78 hs hd (yW H73 (zN N4 S3)) fun _ hs hd S5 N5=>?_
     refine yA 79 (.bool false) hs hd (yW H70 (zN N5 (zN N4 (zN N3 (zN N2 (zN N1 S0)))))) (yQ (zN N5 (zN N4 S3)) rfl) fun _ hs hd S6 N6=>?_
     refine yA 80 (.bool false) hs hd rfl (yQ (zN N6 (zN N5 (zN N4 (zN N3 (zN N2 (zN N1 S0)))))) S6) fun _ hs hd S7 N7=>?_
     exact wpList_nil (hK_ _ _ (Stop.go ⟨false,Eq.trans (by first|rfl|(rw[if_neg c39];rfl)|(simp[*];done)) hE37.out.symm,hs,hd,(zN N7 (zN N6 (zN N5 (zN N4 (zN N3 (zN N2 (zN N1 (zN N0 ep9)))))))),S7,rfl⟩))
    case rest=>
     clear hs hd ep9 es9
     obtain⟨b36,hb_,hs,hd,ep10,es10,rfl⟩:=hc_
     simp only[List.drop_succ_cons,List.drop_zero,List.drop_nil]
     have H:=MW.bind_step HH.out (hb_.trans hE37.out)
     replace HH:=za H
     clear H hb_ hE37
     obtain⟨E41,hE41⟩:∃ e_:Bool,e_=(if b36=true then(true) else(if a0=65279 then(true) else(if a0≥65529 then((decide (a0≤65532))) else(false)))):=⟨_,rfl⟩
     replace hE41:=za hE41
     refine MW.list_cut 13 (fun a_ w_=>∃ b_:Bool,b_=E41∧a_.tmps.size=93∧a_.defers=[]∧a_.eval (.tmp 0)=.int .i32 a0∧a_.eval (.tmp 2)=.bool b_∧w=w_) (fun K_ hK_=>?seg) (fun af11 w_ hc_=>?rest)
     case seg=>
      simp only[List.take_succ_cons,List.take_zero,List.take_nil]
      clear HH
      by_cases c42:b36=true
      ·subst c42
       refine yA 81 (.bool true) hs hd rfl (yM es10) fun _ hs hd S0 N0=>?_
       refine yK 82 hs hd (yW H78 S0) fun _ hs hd S1 N1=>?_
       refine yK 83 hs hd (yW H78 (zN N1 S0)) fun _ hs hd S2 N2=>?_
       refine yA 84 (.bool true) hs hd rfl (yP (zN N2 (zN N1 S0)) rfl) fun _ hs hd S3 N3=>?_
       refine yA 85 (.bool true) hs hd rfl (yM S3) fun _ hs hd S4 N4=>?_
       refine yK 86 hs hd (yW H82 S4) fun _ hs hd S5 N5=>?_
       refine yK 87 hs hd (yW H82 (zN N5 S4)) fun _ hs hd S6 N6=>?_
       refine yK 88 hs hd (yW H82 (zN N6 (zN N5 S4))) fun _ hs hd S7 N7=>?_
       refine yK 89 hs hd (yU H85 S7) fun _ hs hd S8 N8=>?_
       refine yK 90 hs hd (yU H85 (zN N8 S7)) fun _ hs hd S9 N9=>?_
       refine yK 91 hs hd (yW H82 (zN N9 (zN N8 (zN N7 (zN N6 (zN N5 S4)))))) fun _ hs hd S10 N10=>?_
       refine yA 92 (.bool true) hs hd rfl (yP (zN N10 (zN N9 (zN N8 (zN N7 (zN N6 (zN N5 S4)))))) rfl) fun _ hs hd S11 N11=>?_
       refine yA 2 (.bool true) hs hd rfl (MW.ab_assign rfl S11) fun _ hs hd S12 N12=>?_
       exact wpList_nil (hK_ _ _ (Stop.go ⟨true,Eq.trans (by first|rfl|(rw[];rfl)|(simp[*];done)) hE41.out.symm,hs,hd,(zN N12 (zN N11 (zN N10 (zN N9 (zN N8 (zN N7 (zN N6 (zN N5 (zN N4 (zN N3 (zN N2 (zN N1 (zN N0 ep10))))))))))))),S12,rfl⟩))
      replace c42:=Bool.eq_false_iff.mpr c42
      subst c42
      by_cases c43:a0=65279
      ·refine yA 81 (.bool false) hs hd rfl (yM es10) fun _ hs hd S0 N0=>?_
       refine yA 82 (.int .i32 a0) hs hd (yW H78 S0) (yM (zN N0 ep10)) fun _ hs hd S1 N1=>?_
       refine yA 83 (.bool true) hs hd (yW H78 (zN N1 S0)) (yC c43 S1) fun _ hs hd S2 N2=>?_
       refine yA 84 (.bool true) hs hd rfl (yQ (zN N2 (zN N1 S0)) S2) fun _ hs hd S3 N3=>?_
       refine yA 85 (.bool true) hs hd rfl (yM S3) fun _ hs hd S4 N4=>?_
       refine yK 86 hs hd (yW H82 S4) fun _ hs hd S5 N5=>?_
       refine yK 87 hs hd (yW H82 (zN N5 S4)) fun _ hs hd S6 N6=>?_
       refine yK 88 hs hd (yW H82 (zN N6 (zN N5 S4))) fun _ hs hd S7 N7=>?_
       refine yK 89 hs hd (yU H85 S7) fun _ hs hd S8 N8=>?_
       refine yK 90 hs hd (yU H85 (zN N8 S7)) fun _ hs hd S9 N9=>?_
       refine yK 91 hs hd (yW H82 (zN N9 (zN N8 (zN N7 (zN N6 (zN N5 S4)))))) fun _ hs hd S10 N10=>?_
       refine yA 92 (.bool true) hs hd rfl (yP (zN N10 (zN N9 (zN N8 (zN N7 (zN N6 (zN N5 S4)))))) rfl) fun _ hs hd S11 N11=>?_
       refine yA 2 (.bool true) hs hd rfl (MW.ab_assign rfl S11) fun _ hs hd S12 N12=>?_
       exact wpList_nil (hK_ _ _ (Stop.go ⟨true,Eq.trans (by first|rfl|(rw[if_pos c43];rfl)|(simp[*];done)) hE41.out.symm,hs,hd,(zN N12 (zN N11 (zN N10 (zN N9 (zN N8 (zN N7 (zN N6 (zN N5 (zN N4 (zN N3 (zN N2 (zN N1 (zN N0 ep10))))))))))))),S12,rfl⟩))
      by_cases c44:a0≥65529
      ·refine yA 81 (.bool false) hs hd rfl (yM es10) fun _ hs hd S0 N0=>?_
       refine yA 82 (.int .i32 a0) hs hd (yW H78 S0) (yM (zN N0 ep10)) fun _ hs hd S1 N1=>?_
       refine yA 83 (.bool false) hs hd (yW H78 (zN N1 S0)) (yD c43 S1) fun _ hs hd S2 N2=>?_
       refine yA 84 (.bool false) hs hd rfl (yQ (zN N2 (zN N1 S0)) S2) fun _ hs hd S3 N3=>?_
       refine yA 85 (.bool false) hs hd rfl (yM S3) fun _ hs hd S4 N4=>?_
       refine yA 86 (.int .i32 a0) hs hd (yW H82 S4) (yM (zN N4 (zN N3 (zN N2 (zN N1 (zN N0 ep10)))))) fun _ hs hd S5 N5=>?_
       refine yA 87 (.bool true) hs hd (yW H82 (zN N5 S4)) (yC c44 S5) fun _ hs hd S6 N6=>?_
       refine yA 88 (.bool true) hs hd (yW H82 (zN N6 (zN N5 S4))) (yM S6) fun _ hs hd S7 N7=>?_
       refine yA 89 (.int .i32 a0) hs hd (yW H85 S7) (yM (zN N7 (zN N6 (zN N5 (zN N4 (zN N3 (zN N2 (zN N1 (zN N0 ep10))))))))) fun _ hs hd S8 N8=>?_
       refine yA 90 (.bool (decide (a0≤65532))) hs hd (yW H85 (zN N8 S7)) (yB S8) fun _ hs hd S9 N9=>?_
       refine yA 91 (.bool (decide (a0≤65532))) hs hd (yW H82 (zN N9 (zN N8 (zN N7 (zN N6 (zN N5 S4)))))) (yP (zN N9 (zN N8 S7)) S9) fun _ hs hd S10 N10=>?_
       refine yA 92 (.bool (decide (a0≤65532))) hs hd rfl (yQ (zN N10 (zN N9 (zN N8 (zN N7 (zN N6 (zN N5 S4)))))) S10) fun _ hs hd S11 N11=>?_
       refine yA 2 (.bool (decide (a0≤65532))) hs hd rfl (MW.ab_assign rfl S11) fun _ hs hd S12 N12=>?_
       exact wpList_nil (hK_ _ _ (Stop.go ⟨(decide (a0≤65532)),Eq.trans (by first|rfl|(rw[if_neg c43,if_pos c44];rfl)|(simp[*];done)) hE41.out.symm,hs,hd,(zN N12 (zN N11 (zN N10 (zN N9 (zN N8 (zN N7 (zN N6 (zN N5 (zN N4 (zN N3 (zN N2 (zN N1 (zN N0 ep10))))))))))))),S12,rfl⟩))
      refine yA 81 (.bool false) hs hd rfl (yM es10) fun _ hs hd S0 N0=>?_
      refine yA 82 (.int .i32 a0) hs hd (yW H78 S0) (yM (zN N0 ep10)) fun _ hs hd S1 N1=>?_
      refine yA 83 (.bool false) hs hd (yW H78 (zN N1 S0)) (yD c43 S1) fun _ hs hd S2 N2=>?_
      refine yA 84 (.bool false) hs hd rfl (yQ (zN N2 (zN N1 S0)) S2) fun _ hs hd S3 N3=>?_
      refine yA 85 (.bool false) hs hd rfl (yM S3) fun _ hs hd S4 N4=>?_
      refine yA 86 (.int .i32 a0) hs hd (yW H82 S4) (yM (zN N4 (zN N3 (zN N2 (zN N1 (zN N0 ep10)))))) fun _ hs hd S5 N5=>?_
      refine yA 87 (.bool false) hs hd (yW H82 (zN N5 S4)) (yD c44 S5) fun _ hs hd S6 N6=>?_
      refine yA 88 (.bool false) hs hd (yW H82 (zN N6 (zN N5 S4))) (yM S6) fun _ hs hd S7 N7=>?_
      refine yK 89 hs hd (yW H85 S7) fun _ hs hd S8 N8=>?_
      refine yK 90 hs hd (yW H85 (zN N8 S7)) fun _ hs hd S9 N9=>?_
      refine yA 91 (.bool false) hs hd (yW H82 (zN N9 (zN N8 (zN N7 (zN N6 (zN N5 S4)))))) (yQ (zN N9 (zN N8 S7)) rfl) fun _ hs hd S10 N10=>?_
      refine yA 92 (.bool false) hs hd rfl (yQ (zN N10 (zN N9 (zN N8 (zN N7 (zN N6 (zN N5 S4)))))) S10) fun _ hs hd S11 N11=>?_
      refine yA 2 (.bool false) hs hd rfl (MW.ab_assign rfl S11) fun _ hs hd S12 N12=>?_
      exact wpList_nil (hK_ _ _ (Stop.go ⟨false,Eq.trans (by first|rfl|(rw[if_neg c43,if_neg c44];rfl)|(simp[*];done)) hE41.out.symm,hs,hd,(zN N12 (zN N11 (zN N10 (zN N9 (zN N8 (zN N7 (zN N6 (zN N5 (zN N4 (zN N3 (zN N2 (zN N1 (zN N0 ep10))))))))))))),S12,rfl⟩))
     case rest=>
      clear hs hd ep10 es10
      obtain⟨b40,hb_,hs,hd,ep11,es11,rfl⟩:=hc_
      simp only[List.drop_succ_cons,List.drop_zero,List.drop_nil]
      have H:=MW.bind_step HH.out (hb_.trans hE41.out)
      replace HH:=za H
      clear H hb_ hE41
      obtain rfl:=Option.some.inj HH.out
      exact wpList_nil (fin.out _ hs hd es11)
theorem chars_gone.p0 {Q:Exit→Act→World→Prop} (OPS:Array Oper) (hO:OPS=chars_gone.ops.toArray) (a0:Int) (r:Bool) (w:World) (af0:Act) (hs:af0.tmps.size=93) (hd:af0.defers=[]) (ep0:af0.eval (.tmp 0)=.int .i32 a0) (h:((some (if a0≥0 then((decide (a0≤8))) else(false):Bool)).bind fun b1=>((some (if b1=true then(true) else(if a0≥14 then((decide (a0≤31))) else(false)):Bool)).bind fun b4=>((some (if b4=true then(true) else(if a0≥127 then((decide (a0≤132))) else(false)):Bool)).bind fun b8=>((some (if b8=true then(true) else(if a0≥134 then((decide (a0≤159))) else(false)):Bool)).bind fun b12=>((some (if b12=true then(true) else(if a0=173 then(true) else((a0==847))):Bool)).bind fun b16=>((some (if b16=true then(true) else(if a0≥8203 then((decide (a0≤8207))) else(false)):Bool)).bind fun b20=>((some (if b20=true then(true) else(if a0≥8234 then((decide (a0≤8238))) else(false)):Bool)).bind fun b24=>((some (if b24=true then(true) else(if a0≥8288 then((decide (a0≤8291))) else(false)):Bool)).bind fun b28=>((some (if b28=true then(true) else(if a0≥8298 then((decide (a0≤8303))) else(false)):Bool)).bind fun b32=>((some (if b32=true then(true) else(if a0≥65024 then((decide (a0≤65039))) else(false)):Bool)).bind fun b36=>((some (if b36=true then(true) else(if a0=65279 then(true) else(if a0≥65529 then((decide (a0≤65532))) else(false))):Bool)).bind fun b40=>(some b40))))))))))))=some r) (fin:∀ a':Act,a'.tmps.size=93→a'.defers=[]→a'.eval (.tmp 2)=.bool r→Q .normal a' w):wpList Try.prog OPS Q (chars_gone.ops.drop 0) af0 w:=by
 have HH:=za h
 clear h
 have H2:(OPS[2]?).bind (·.dst)=some 5:=by rw[hO];rfl
 have H6:(OPS[6]?).bind (·.dst)=some 9:=by rw[hO];rfl
 have H9:(OPS[9]?).bind (·.dst)=some 12:=by rw[hO];rfl
 have H14:(OPS[14]?).bind (·.dst)=some 17:=by rw[hO];rfl
 have H17:(OPS[17]?).bind (·.dst)=some 20:=by rw[hO];rfl
 have H22:(OPS[22]?).bind (·.dst)=some 25:=by rw[hO];rfl
 have H25:(OPS[25]?).bind (·.dst)=some 28:=by rw[hO];rfl
 have H30:(OPS[30]?).bind (·.dst)=some 33:=by rw[hO];rfl
 have H34:(OPS[34]?).bind (·.dst)=some 37:=by rw[hO];rfl
 have H38:(OPS[38]?).bind (·.dst)=some 41:=by rw[hO];rfl
 have H41:(OPS[41]?).bind (·.dst)=some 44:=by rw[hO];rfl
 replace hO:=(Stop.go hO:Stop _ (.mk _))
 replace fin:=(Stop.go fin:Stop _ (.mk _))
 refine MW.list_cut 46 (fun a_ w_=>∃ b20:Bool,((some (if b20=true then(true) else(if a0≥8234 then((decide (a0≤8238))) else(false)):Bool)).bind fun b24=>((some (if b24=true then(true) else(if a0≥8288 then((decide (a0≤8291))) else(false)):Bool)).bind fun b28=>((some (if b28=true then(true) else(if a0≥8298 then((decide (a0≤8303))) else(false)):Bool)).bind fun b32=>((some (if b32=true then(true) else(if a0≥65024 then((decide (a0≤65039))) else(false)):Bool)).bind fun b36=>((some (if b36=true then(true) else(if a0=65279 then(true) else(if a0≥65529 then((decide (a0≤65532))) else(false))):Bool)).bind fun b40=>(some b40))))))=some r∧a_.tmps.size=93∧a_.defers=[]∧a_.eval (.tmp 0)=.int .i32 a0∧a_.eval (.tmp 48)=.bool b20∧w=w_) (fun KC_ hKC_=>?chunk) (fun a_ w_ hc_=>?next)
 case next=>
  obtain⟨b_,hb_,hs,hd,ep,es,rfl⟩:=hc_
  rw[List.drop_drop]
  exact chars_gone.p1 OPS hO.out a0 r _ _ b_ hs hd ep es hb_ fin.out
 simp only[chars_gone.ops,Try.f28,List.append_eq,List.cons_append,List.nil_append,List.drop_succ_cons,List.drop_zero,List.take_succ_cons,List.take_zero]
 obtain⟨E2,hE2⟩:∃ e_:Bool,e_=(if a0≥0 then((decide (a0≤8))) else(false)):=⟨_,rfl⟩
 replace hE2:=za hE2
 refine MW.list_cut 6 (fun a_ w_=>∃ b_:Bool,b_=E2∧a_.tmps.size=93∧a_.defers=[]∧a_.eval (.tmp 0)=.int .i32 a0∧a_.eval (.tmp 8)=.bool b_∧w=w_) (fun K_ hK_=>?seg) (fun af1 w_ hc_=>?rest)
 case seg=>
  simp only[List.take_succ_cons,List.take_zero,List.take_nil]
  clear HH
  by_cases c3:a0≥0
  ·refine yA 3 (.int .i32 a0) hs hd rfl (yM ep0) fun _ hs hd S0 N0=>?_
   refine yA 4 (.bool true) hs hd rfl (yC c3 S0) fun _ hs hd S1 N1=>?_
   refine yA 5 (.bool true) hs hd rfl (yM S1) fun _ hs hd S2 N2=>?_
   refine yA 6 (.int .i32 a0) hs hd (yW H2 S2) (yM (zN N2 (zN N1 (zN N0 ep0)))) fun _ hs hd S3 N3=>?_
   refine yA 7 (.bool (decide (a0≤8))) hs hd (yW H2 (zN N3 S2)) (yB S3) fun _ hs hd S4 N4=>?_
   refine yA 8 (.bool (decide (a0≤8))) hs hd rfl (yP (zN N4 (zN N3 S2)) S4) fun _ hs hd S5 N5=>?_
   exact wpList_nil (hK_ _ _ (Stop.go ⟨(decide (a0≤8)),Eq.trans (by first|rfl|(rw[if_pos c3];rfl)|(simp[*];done)) hE2.out.symm,hs,hd,(zN N5 (zN N4 (zN N3 (zN N2 (zN N1 (zN N0 ep0)))))),S5,rfl⟩))
  refine yA 3 (.int .i32 a0) hs hd rfl (yM ep0) fun _ hs hd S0 N0=>?_
  refine yA 4 (.bool false) hs hd rfl (yD c3 S0) fun _ hs hd S1 N1=>?_
  refine yA 5 (.bool false) hs hd rfl (yM S1) fun _ hs hd S2 N2=>?_
  refine yK 6 hs hd (yW H2 S2) fun _ hs hd S3 N3=>?_
  refine yK 7 hs hd (yW H2 (zN N3 S2)) fun _ hs hd S4 N4=>?_
  refine yA 8 (.bool false) hs hd rfl (yQ (zN N4 (zN N3 S2)) rfl) fun _ hs hd S5 N5=>?_
  exact wpList_nil (hK_ _ _ (Stop.go ⟨false,Eq.trans (by first|rfl|(rw[if_neg c3];rfl)|(simp[*];done)) hE2.out.symm,hs,hd,(zN N5 (zN N4 (zN N3 (zN N2 (zN N1 (zN N0 ep0)))))),S5,rfl⟩))
 case rest=>
  clear hs hd ep0
  obtain⟨b1,hb_,hs,hd,ep1,es1,rfl⟩:=hc_
  simp only[List.drop_succ_cons,List.drop_zero,List.drop_nil]
  have H:=MW.bind_step HH.out (hb_.trans hE2.out)
  replace HH:=za H
  clear H hb_ hE2
  obtain⟨E5,hE5⟩:∃ e_:Bool,e_=(if b1=true then(true) else(if a0≥14 then((decide (a0≤31))) else(false))):=⟨_,rfl⟩
  replace hE5:=za hE5
  refine MW.list_cut 8 (fun a_ w_=>∃ b_:Bool,b_=E5∧a_.tmps.size=93∧a_.defers=[]∧a_.eval (.tmp 0)=.int .i32 a0∧a_.eval (.tmp 16)=.bool b_∧w=w_) (fun K_ hK_=>?seg) (fun af2 w_ hc_=>?rest)
  case seg=>
   simp only[List.take_succ_cons,List.take_zero,List.take_nil]
   clear HH
   by_cases c6:b1=true
   ·subst c6
    refine yA 9 (.bool true) hs hd rfl (yM es1) fun _ hs hd S0 N0=>?_
    refine yK 10 hs hd (yW H6 S0) fun _ hs hd S1 N1=>?_
    refine yK 11 hs hd (yW H6 (zN N1 S0)) fun _ hs hd S2 N2=>?_
    refine yK 12 hs hd (yW H6 (zN N2 (zN N1 S0))) fun _ hs hd S3 N3=>?_
    refine yK 13 hs hd (yU H9 S3) fun _ hs hd S4 N4=>?_
    refine yK 14 hs hd (yU H9 (zN N4 S3)) fun _ hs hd S5 N5=>?_
    refine yK 15 hs hd (yW H6 (zN N5 (zN N4 (zN N3 (zN N2 (zN N1 S0)))))) fun _ hs hd S6 N6=>?_
    refine yA 16 (.bool true) hs hd rfl (yP (zN N6 (zN N5 (zN N4 (zN N3 (zN N2 (zN N1 S0)))))) rfl) fun _ hs hd S7 N7=>?_
    exact wpList_nil (hK_ _ _ (Stop.go ⟨true,Eq.trans (by first|rfl|(rw[];rfl)|(simp[*];done)) hE5.out.symm,hs,hd,(zN N7 (zN N6 (zN N5 (zN N4 (zN N3 (zN N2 (zN N1 (zN N0 ep1)))))))),S7,rfl⟩))
   replace c6:=Bool.eq_false_iff.mpr c6
   subst c6
   by_cases c7:a0≥14
   ·refine yA 9 (.bool false) hs hd rfl (yM es1) fun _ hs hd S0 N0=>?_
    refine yA 10 (.int .i32 a0) hs hd (yW H6 S0) (yM (zN N0 ep1)) fun _ hs hd S1 N1=>?_
    refine yA 11 (.bool true) hs hd (yW H6 (zN N1 S0)) (yC c7 S1) fun _ hs hd S2 N2=>?_
    refine yA 12 (.bool true) hs hd (yW H6 (zN N2 (zN N1 S0))) (yM S2) fun _ hs hd S3 N3=>?_
    refine yA 13 (.int .i32 a0) hs hd (yW H9 S3) (yM (zN N3 (zN N2 (zN N1 (zN N0 ep1))))) fun _ hs hd S4 N4=>?_
    refine yA 14 (.bool (decide (a0≤31))) hs hd (yW H9 (zN N4 S3)) (yB S4) fun _ hs hd S5 N5=>?_
    refine yA 15 (.bool (decide (a0≤31))) hs hd (yW H6 (zN N5 (zN N4 (zN N3 (zN N2 (zN N1 S0)))))) (yP (zN N5 (zN N4 S3)) S5) fun _ hs hd S6 N6=>?_
    refine yA 16 (.bool (decide (a0≤31))) hs hd rfl (yQ (zN N6 (zN N5 (zN N4 (zN N3 (zN N2 (zN N1 S0)))))) S6) fun _ hs hd S7 N7=>?_
    exact wpList_nil (hK_ _ _ (Stop.go ⟨(decide (a0≤31)),Eq.trans (by first|rfl|(rw[if_pos c7];rfl)|(simp[*];done)) hE5.out.symm,hs,hd,(zN N7 (zN N6 (zN N5 (zN N4 (zN N3 (zN N2 (zN N1 (zN N0 ep1)))))))),S7,rfl⟩))
   refine yA 9 (.bool false) hs hd rfl (yM es1) fun _ hs hd S0 N0=>?_
   refine yA 10 (.int .i32 a0) hs hd (yW H6 S0) (yM (zN N0 ep1)) fun _ hs hd S1 N1=>?_
   refine yA 11 (.bool false) hs hd (yW H6 (zN N1 S0)) (yD c7 S1) fun _ hs hd S2 N2=>?_
   refine yA 12 (.bool false) hs hd (yW H6 (zN N2 (zN N1 S0))) (yM S2) fun _ hs hd S3 N3=>?_
   refine yK 13 hs hd (yW H9 S3) fun _ hs hd S4 N4=>?_
   refine yK 14 hs hd (yW H9 (zN N4 S3)) fun _ hs hd S5 N5=>?_
   refine yA 15 (.bool false) hs hd (yW H6 (zN N5 (zN N4 (zN N3 (zN N2 (zN N1 S0)))))) (yQ (zN N5 (zN N4 S3)) rfl) fun _ hs hd S6 N6=>?_
   refine yA 16 (.bool false) hs hd rfl (yQ (zN N6 (zN N5 (zN N4 (zN N3 (zN N2 (zN N1 S0)))))) S6) fun _ hs hd S7 N7=>?_
   exact wpList_nil (hK_ _ _ (Stop.go ⟨false,Eq.trans (by first|rfl|(rw[if_neg c7];rfl)|(simp[*];done)) hE5.out.symm,hs,hd,(zN N7 (zN N6 (zN N5 (zN N4 (zN N3 (zN N2 (zN N1 (zN N0 ep1)))))))),S7,rfl⟩))
  case rest=>
   clear hs hd ep1 es1
   obtain⟨b4,hb_,hs,hd,ep2,es2,rfl⟩:=hc_
   simp only[List.drop_succ_cons,List.drop_zero,List.drop_nil]
   have H:=MW.bind_step HH.out (hb_.trans hE5.out)
   replace HH:=za H
   clear H hb_ hE5
   obtain⟨E9,hE9⟩:∃ e_:Bool,e_=(if b4=true then(true) else(if a0≥127 then((decide (a0≤132))) else(false))):=⟨_,rfl⟩
   replace hE9:=za hE9
   refine MW.list_cut 8 (fun a_ w_=>∃ b_:Bool,b_=E9∧a_.tmps.size=93∧a_.defers=[]∧a_.eval (.tmp 0)=.int .i32 a0∧a_.eval (.tmp 24)=.bool b_∧w=w_) (fun K_ hK_=>?seg) (fun af3 w_ hc_=>?rest)
   case seg=>
    simp only[List.take_succ_cons,List.take_zero,List.take_nil]
    clear HH
    by_cases c10:b4=true
    ·subst c10
     refine yA 17 (.bool true) hs hd rfl (yM es2) fun _ hs hd S0 N0=>?_
     refine yK 18 hs hd (yW H14 S0) fun _ hs hd S1 N1=>?_
     refine yK 19 hs hd (yW H14 (zN N1 S0)) fun _ hs hd S2 N2=>?_
     refine yK 20 hs hd (yW H14 (zN N2 (zN N1 S0))) fun _ hs hd S3 N3=>?_
     refine yK 21 hs hd (yU H17 S3) fun _ hs hd S4 N4=>?_
     refine yK 22 hs hd (yU H17 (zN N4 S3)) fun _ hs hd S5 N5=>?_
     refine yK 23 hs hd (yW H14 (zN N5 (zN N4 (zN N3 (zN N2 (zN N1 S0)))))) fun _ hs hd S6 N6=>?_
     refine yA 24 (.bool true) hs hd rfl (yP (zN N6 (zN N5 (zN N4 (zN N3 (zN N2 (zN N1 S0)))))) rfl) fun _ hs hd S7 N7=>?_
     exact wpList_nil (hK_ _ _ (Stop.go ⟨true,Eq.trans (by first|rfl|(rw[];rfl)|(simp[*];done)) hE9.out.symm,hs,hd,(zN N7 (zN N6 (zN N5 (zN N4 (zN N3 (zN N2 (zN N1 (zN N0 ep2)))))))),S7,rfl⟩))
    replace c10:=Bool.eq_false_iff.mpr c10
    subst c10
    by_cases c11:a0≥127
    ·refine yA 17 (.bool false) hs hd rfl (yM es2) fun _ hs hd S0 N0=>?_
     refine yA 18 (.int .i32 a0) hs hd (yW H14 S0) (yM (zN N0 ep2)) fun _ hs hd S1 N1=>?_
     refine yA 19 (.bool true) hs hd (yW H14 (zN N1 S0)) (yC c11 S1) fun _ hs hd S2 N2=>?_
     refine yA 20 (.bool true) hs hd (yW H14 (zN N2 (zN N1 S0))) (yM S2) fun _ hs hd S3 N3=>?_
     refine yA 21 (.int .i32 a0) hs hd (yW H17 S3) (yM (zN N3 (zN N2 (zN N1 (zN N0 ep2))))) fun _ hs hd S4 N4=>?_
     refine yA 22 (.bool (decide (a0≤132))) hs hd (yW H17 (zN N4 S3)) (yB S4) fun _ hs hd S5 N5=>?_
     refine yA 23 (.bool (decide (a0≤132))) hs hd (yW H14 (zN N5 (zN N4 (zN N3 (zN N2 (zN N1 S0)))))) (yP (zN N5 (zN N4 S3)) S5) fun _ hs hd S6 N6=>?_
     refine yA 24 (.bool (decide (a0≤132))) hs hd rfl (yQ (zN N6 (zN N5 (zN N4 (zN N3 (zN N2 (zN N1 S0)))))) S6) fun _ hs hd S7 N7=>?_
     exact wpList_nil (hK_ _ _ (Stop.go ⟨(decide (a0≤132)),Eq.trans (by first|rfl|(rw[if_pos c11];rfl)|(simp[*];done)) hE9.out.symm,hs,hd,(zN N7 (zN N6 (zN N5 (zN N4 (zN N3 (zN N2 (zN N1 (zN N0 ep2)))))))),S7,rfl⟩))
    refine yA 17 (.bool false) hs hd rfl (yM es2) fun _ hs hd S0 N0=>?_
    refine yA 18 (.int .i32 a0) hs hd (yW H14 S0) (yM (zN N0 ep2)) fun _ hs hd S1 N1=>?_
    refine yA 19 (.bool false) hs hd (yW H14 (zN N1 S0)) (yD c11 S1) fun _ hs hd S2 N2=>?_
    refine yA 20 (.bool false) hs hd (yW H14 (zN N2 (zN N1 S0))) (yM S2) fun _ hs hd S3 N3=>?_
    refine yK 21 hs hd (yW H17 S3) fun _ hs hd S4 N4=>?_
    refine yK 22 hs hd (yW H17 (zN N4 S3)) fun _ hs hd S5 N5=>?_
    refine yA 23 (.bool false) hs hd (yW H14 (zN N5 (zN N4 (zN N3 (zN N2 (zN N1 S0)))))) (yQ (zN N5 (zN N4 S3)) rfl) fun _ hs hd S6 N6=>?_
    refine yA 24 (.bool false) hs hd rfl (yQ (zN N6 (zN N5 (zN N4 (zN N3 (zN N2 (zN N1 S0)))))) S6) fun _ hs hd S7 N7=>?_
    exact wpList_nil (hK_ _ _ (Stop.go ⟨false,Eq.trans (by first|rfl|(rw[if_neg c11];rfl)|(simp[*];done)) hE9.out.symm,hs,hd,(zN N7 (zN N6 (zN N5 (zN N4 (zN N3 (zN N2 (zN N1 (zN N0 ep2)))))))),S7,rfl⟩))
   case rest=>
    clear hs hd ep2 es2
    obtain⟨b8,hb_,hs,hd,ep3,es3,rfl⟩:=hc_
    simp only[List.drop_succ_cons,List.drop_zero,List.drop_nil]
    have H:=MW.bind_step HH.out (hb_.trans hE9.out)
    replace HH:=za H
    clear H hb_ hE9
    obtain⟨E13,hE13⟩:∃ e_:Bool,e_=(if b8=true then(true) else(if a0≥134 then((decide (a0≤159))) else(false))):=⟨_,rfl⟩
    replace hE13:=za hE13
    refine MW.list_cut 8 (fun a_ w_=>∃ b_:Bool,b_=E13∧a_.tmps.size=93∧a_.defers=[]∧a_.eval (.tmp 0)=.int .i32 a0∧a_.eval (.tmp 32)=.bool b_∧w=w_) (fun K_ hK_=>?seg) (fun af4 w_ hc_=>?rest)
    case seg=>
     simp only[List.take_succ_cons,List.take_zero,List.take_nil]
     clear HH
     by_cases c14:b8=true
     ·subst c14
      refine yA 25 (.bool true) hs hd rfl (yM es3) fun _ hs hd S0 N0=>?_
      refine yK 26 hs hd (yW H22 S0) fun _ hs hd S1 N1=>?_
      refine yK 27 hs hd (yW H22 (zN N1 S0)) fun _ hs hd S2 N2=>?_
      refine yK 28 hs hd (yW H22 (zN N2 (zN N1 S0))) fun _ hs hd S3 N3=>?_
      refine yK 29 hs hd (yU H25 S3) fun _ hs hd S4 N4=>?_
      refine yK 30 hs hd (yU H25 (zN N4 S3)) fun _ hs hd S5 N5=>?_
      refine yK 31 hs hd (yW H22 (zN N5 (zN N4 (zN N3 (zN N2 (zN N1 S0)))))) fun _ hs hd S6 N6=>?_
      refine yA 32 (.bool true) hs hd rfl (yP (zN N6 (zN N5 (zN N4 (zN N3 (zN N2 (zN N1 S0)))))) rfl) fun _ hs hd S7 N7=>?_
      exact wpList_nil (hK_ _ _ (Stop.go ⟨true,Eq.trans (by first|rfl|(rw[];rfl)|(simp[*];done)) hE13.out.symm,hs,hd,(zN N7 (zN N6 (zN N5 (zN N4 (zN N3 (zN N2 (zN N1 (zN N0 ep3)))))))),S7,rfl⟩))
     replace c14:=Bool.eq_false_iff.mpr c14
     subst c14
     by_cases c15:a0≥134
     ·refine yA 25 (.bool false) hs hd rfl (yM es3) fun _ hs hd S0 N0=>?_
      refine yA 26 (.int .i32 a0) hs hd (yW H22 S0) (yM (zN N0 ep3)) fun _ hs hd S1 N1=>?_
      refine yA 27 (.bool true) hs hd (yW H22 (zN N1 S0)) (yC c15 S1) fun _ hs hd S2 N2=>?_
      refine yA 28 (.bool true) hs hd (yW H22 (zN N2 (zN N1 S0))) (yM S2) fun _ hs hd S3 N3=>?_
      refine yA 29 (.int .i32 a0) hs hd (yW H25 S3) (yM (zN N3 (zN N2 (zN N1 (zN N0 ep3))))) fun _ hs hd S4 N4=>?_
      refine yA 30 (.bool (decide (a0≤159))) hs hd (yW H25 (zN N4 S3)) (yB S4) fun _ hs hd S5 N5=>?_
      refine yA 31 (.bool (decide (a0≤159))) hs hd (yW H22 (zN N5 (zN N4 (zN N3 (zN N2 (zN N1 S0)))))) (yP (zN N5 (zN N4 S3)) S5) fun _ hs hd S6 N6=>?_
      refine yA 32 (.bool (decide (a0≤159))) hs hd rfl (yQ (zN N6 (zN N5 (zN N4 (zN N3 (zN N2 (zN N1 S0)))))) S6) fun _ hs hd S7 N7=>?_
      exact wpList_nil (hK_ _ _ (Stop.go ⟨(decide (a0≤159)),Eq.trans (by first|rfl|(rw[if_pos c15];rfl)|(simp[*];done)) hE13.out.symm,hs,hd,(zN N7 (zN N6 (zN N5 (zN N4 (zN N3 (zN N2 (zN N1 (zN N0 ep3)))))))),S7,rfl⟩))
     refine yA 25 (.bool false) hs hd rfl (yM es3) fun _ hs hd S0 N0=>?_
     refine yA 26 (.int .i32 a0) hs hd (yW H22 S0) (yM (zN N0 ep3)) fun _ hs hd S1 N1=>?_
     refine yA 27 (.bool false) hs hd (yW H22 (zN N1 S0)) (yD c15 S1) fun _ hs hd S2 N2=>?_
     refine yA 28 (.bool false) hs hd (yW H22 (zN N2 (zN N1 S0))) (yM S2) fun _ hs hd S3 N3=>?_
     refine yK 29 hs hd (yW H25 S3) fun _ hs hd S4 N4=>?_
     refine yK 30 hs hd (yW H25 (zN N4 S3)) fun _ hs hd S5 N5=>?_
     refine yA 31 (.bool false) hs hd (yW H22 (zN N5 (zN N4 (zN N3 (zN N2 (zN N1 S0)))))) (yQ (zN N5 (zN N4 S3)) rfl) fun _ hs hd S6 N6=>?_
     refine yA 32 (.bool false) hs hd rfl (yQ (zN N6 (zN N5 (zN N4 (zN N3 (zN N2 (zN N1 S0)))))) S6) fun _ hs hd S7 N7=>?_
     exact wpList_nil (hK_ _ _ (Stop.go ⟨false,Eq.trans (by first|rfl|(rw[if_neg c15];rfl)|(simp[*];done)) hE13.out.symm,hs,hd,(zN N7 (zN N6 (zN N5 (zN N4 (zN N3 (zN N2 (zN N1 (zN N0 ep3)))))))),S7,rfl⟩))
    case rest=>
     clear hs hd ep3 es3
     obtain⟨b12,hb_,hs,hd,ep4,es4,rfl⟩:=hc_
     simp only[List.drop_succ_cons,List.drop_zero,List.drop_nil]
     have H:=MW.bind_step HH.out (hb_.trans hE13.out)
     replace HH:=za H
     clear H hb_ hE13
     obtain⟨E17,hE17⟩:∃ e_:Bool,e_=(if b12=true then(true) else(if a0=173 then(true) else((a0==847)))):=⟨_,rfl⟩
     replace hE17:=za hE17
     refine MW.list_cut 8 (fun a_ w_=>∃ b_:Bool,b_=E17∧a_.tmps.size=93∧a_.defers=[]∧a_.eval (.tmp 0)=.int .i32 a0∧a_.eval (.tmp 40)=.bool b_∧w=w_) (fun K_ hK_=>?seg) (fun af5 w_ hc_=>?rest)
     case seg=>
      simp only[List.take_succ_cons,List.take_zero,List.take_nil]
      clear HH
      by_cases c18:b12=true
      ·subst c18
       refine yA 33 (.bool true) hs hd rfl (yM es4) fun _ hs hd S0 N0=>?_
       refine yK 34 hs hd (yW H30 S0) fun _ hs hd S1 N1=>?_
       refine yK 35 hs hd (yW H30 (zN N1 S0)) fun _ hs hd S2 N2=>?_
       refine yA 36 (.bool true) hs hd rfl (yP (zN N2 (zN N1 S0)) rfl) fun _ hs hd S3 N3=>?_
       refine yA 37 (.bool true) hs hd rfl (yM S3) fun _ hs hd S4 N4=>?_
       refine yK 38 hs hd (yW H34 S4) fun _ hs hd S5 N5=>?_
       refine yK 39 hs hd (yW H34 (zN N5 S4)) fun _ hs hd S6 N6=>?_
       refine yA 40 (.bool true) hs hd rfl (yP (zN N6 (zN N5 S4)) rfl) fun _ hs hd S7 N7=>?_
       exact wpList_nil (hK_ _ _ (Stop.go ⟨true,Eq.trans (by first|rfl|(rw[];rfl)|(simp[*];done)) hE17.out.symm,hs,hd,(zN N7 (zN N6 (zN N5 (zN N4 (zN N3 (zN N2 (zN N1 (zN N0 ep4)))))))),S7,rfl⟩))
      replace c18:=Bool.eq_false_iff.mpr c18
      subst c18
      by_cases c19:a0=173
      ·refine yA 33 (.bool false) hs hd rfl (yM es4) fun _ hs hd S0 N0=>?_
       refine yA 34 (.int .i32 a0) hs hd (yW H30 S0) (yM (zN N0 ep4)) fun _ hs hd S1 N1=>?_
       refine yA 35 (.bool true) hs hd (yW H30 (zN N1 S0)) (yC c19 S1) fun _ hs hd S2 N2=>?_
       refine yA 36 (.bool true) hs hd rfl (yQ (zN N2 (zN N1 S0)) S2) fun _ hs hd S3 N3=>?_
       refine yA 37 (.bool true) hs hd rfl (yM S3) fun _ hs hd S4 N4=>?_
       refine yK 38 hs hd (yW H34 S4) fun _ hs hd S5 N5=>?_
       refine yK 39 hs hd (yW H34 (zN N5 S4)) fun _ hs hd S6 N6=>?_
       refine yA 40 (.bool true) hs hd rfl (yP (zN N6 (zN N5 S4)) rfl) fun _ hs hd S7 N7=>?_
       exact wpList_nil (hK_ _ _ (Stop.go ⟨true,Eq.trans (by first|rfl|(rw[if_pos c19];rfl)|(simp[*];done)) hE17.out.symm,hs,hd,(zN N7 (zN N6 (zN N5 (zN N4 (zN N3 (zN N2 (zN N1 (zN N0 ep4)))))))),S7,rfl⟩))
      refine yA 33 (.bool false) hs hd rfl (yM es4) fun _ hs hd S0 N0=>?_
      refine yA 34 (.int .i32 a0) hs hd (yW H30 S0) (yM (zN N0 ep4)) fun _ hs hd S1 N1=>?_
      refine yA 35 (.bool false) hs hd (yW H30 (zN N1 S0)) (yD c19 S1) fun _ hs hd S2 N2=>?_
      refine yA 36 (.bool false) hs hd rfl (yQ (zN N2 (zN N1 S0)) S2) fun _ hs hd S3 N3=>?_
      refine yA 37 (.bool false) hs hd rfl (yM S3) fun _ hs hd S4 N4=>?_
      refine yA 38 (.int .i32 a0) hs hd (yW H34 S4) (yM (zN N4 (zN N3 (zN N2 (zN N1 (zN N0 ep4)))))) fun _ hs hd S5 N5=>?_
      refine yA 39 (.bool (a0==847)) hs hd (yW H34 (zN N5 S4)) (yB S5) fun _ hs hd S6 N6=>?_
      refine yA 40 (.bool (a0==847)) hs hd rfl (yQ (zN N6 (zN N5 S4)) S6) fun _ hs hd S7 N7=>?_
      exact wpList_nil (hK_ _ _ (Stop.go ⟨(a0==847),Eq.trans (by first|rfl|(rw[if_neg c19];rfl)|(simp[*];done)) hE17.out.symm,hs,hd,(zN N7 (zN N6 (zN N5 (zN N4 (zN N3 (zN N2 (zN N1 (zN N0 ep4)))))))),S7,rfl⟩))
     case rest=>
      clear hs hd ep4 es4
      obtain⟨b16,hb_,hs,hd,ep5,es5,rfl⟩:=hc_
      simp only[List.drop_succ_cons,List.drop_zero,List.drop_nil]
      have H:=MW.bind_step HH.out (hb_.trans hE17.out)
      replace HH:=za H
      clear H hb_ hE17
      obtain⟨E21,hE21⟩:∃ e_:Bool,e_=(if b16=true then(true) else(if a0≥8203 then((decide (a0≤8207))) else(false))):=⟨_,rfl⟩
      replace hE21:=za hE21
      refine MW.list_cut 8 (fun a_ w_=>∃ b_:Bool,b_=E21∧a_.tmps.size=93∧a_.defers=[]∧a_.eval (.tmp 0)=.int .i32 a0∧a_.eval (.tmp 48)=.bool b_∧w=w_) (fun K_ hK_=>?seg) (fun af6 w_ hc_=>?rest)
      case seg=>
       simp only[List.take_succ_cons,List.take_zero,List.take_nil]
       clear HH
       by_cases c22:b16=true
       ·subst c22
        refine yA 41 (.bool true) hs hd rfl (yM es5) fun _ hs hd S0 N0=>?_
        refine yK 42 hs hd (yW H38 S0) fun _ hs hd S1 N1=>?_
        refine yK 43 hs hd (yW H38 (zN N1 S0)) fun _ hs hd S2 N2=>?_
        refine yK 44 hs hd (yW H38 (zN N2 (zN N1 S0))) fun _ hs hd S3 N3=>?_
        refine yK 45 hs hd (yU H41 S3) fun _ hs hd S4 N4=>?_
        refine yK 46 hs hd (yU H41 (zN N4 S3)) fun _ hs hd S5 N5=>?_
        refine yK 47 hs hd (yW H38 (zN N5 (zN N4 (zN N3 (zN N2 (zN N1 S0)))))) fun _ hs hd S6 N6=>?_
        refine yA 48 (.bool true) hs hd rfl (yP (zN N6 (zN N5 (zN N4 (zN N3 (zN N2 (zN N1 S0)))))) rfl) fun _ hs hd S7 N7=>?_
        exact wpList_nil (hK_ _ _ (Stop.go ⟨true,Eq.trans (by first|rfl|(rw[];rfl)|(simp[*];done)) hE21.out.symm,hs,hd,(zN N7 (zN N6 (zN N5 (zN N4 (zN N3 (zN N2 (zN N1 (zN N0 ep5)))))))),S7,rfl⟩))
       replace c22:=Bool.eq_false_iff.mpr c22
       subst c22
       by_cases c23:a0≥8203
       ·refine yA 41 (.bool false) hs hd rfl (yM es5) fun _ hs hd S0 N0=>?_
        refine yA 42 (.int .i32 a0) hs hd (yW H38 S0) (yM (zN N0 ep5)) fun _ hs hd S1 N1=>?_
        refine yA 43 (.bool true) hs hd (yW H38 (zN N1 S0)) (yC c23 S1) fun _ hs hd S2 N2=>?_
        refine yA 44 (.bool true) hs hd (yW H38 (zN N2 (zN N1 S0))) (yM S2) fun _ hs hd S3 N3=>?_
        refine yA 45 (.int .i32 a0) hs hd (yW H41 S3) (yM (zN N3 (zN N2 (zN N1 (zN N0 ep5))))) fun _ hs hd S4 N4=>?_
        refine yA 46 (.bool (decide (a0≤8207))) hs hd (yW H41 (zN N4 S3)) (yB S4) fun _ hs hd S5 N5=>?_
        refine yA 47 (.bool (decide (a0≤8207))) hs hd (yW H38 (zN N5 (zN N4 (zN N3 (zN N2 (zN N1 S0)))))) (yP (zN N5 (zN N4 S3)) S5) fun _ hs hd S6 N6=>?_
        refine yA 48 (.bool (decide (a0≤8207))) hs hd rfl (yQ (zN N6 (zN N5 (zN N4 (zN N3 (zN N2 (zN N1 S0)))))) S6) fun _ hs hd S7 N7=>?_
        exact wpList_nil (hK_ _ _ (Stop.go ⟨(decide (a0≤8207)),Eq.trans (by first|rfl|(rw[if_pos c23];rfl)|(simp[*];done)) hE21.out.symm,hs,hd,(zN N7 (zN N6 (zN N5 (zN N4 (zN N3 (zN N2 (zN N1 (zN N0 ep5)))))))),S7,rfl⟩))
       refine yA 41 (.bool false) hs hd rfl (yM es5) fun _ hs hd S0 N0=>?_
       refine yA 42 (.int .i32 a0) hs hd (yW H38 S0) (yM (zN N0 ep5)) fun _ hs hd S1 N1=>?_
       refine yA 43 (.bool false) hs hd (yW H38 (zN N1 S0)) (yD c23 S1) fun _ hs hd S2 N2=>?_
       refine yA 44 (.bool false) hs hd (yW H38 (zN N2 (zN N1 S0))) (yM S2) fun _ hs hd S3 N3=>?_
       refine yK 45 hs hd (yW H41 S3) fun _ hs hd S4 N4=>?_
       refine yK 46 hs hd (yW H41 (zN N4 S3)) fun _ hs hd S5 N5=>?_
       refine yA 47 (.bool false) hs hd (yW H38 (zN N5 (zN N4 (zN N3 (zN N2 (zN N1 S0)))))) (yQ (zN N5 (zN N4 S3)) rfl) fun _ hs hd S6 N6=>?_
       refine yA 48 (.bool false) hs hd rfl (yQ (zN N6 (zN N5 (zN N4 (zN N3 (zN N2 (zN N1 S0)))))) S6) fun _ hs hd S7 N7=>?_
       exact wpList_nil (hK_ _ _ (Stop.go ⟨false,Eq.trans (by first|rfl|(rw[if_neg c23];rfl)|(simp[*];done)) hE21.out.symm,hs,hd,(zN N7 (zN N6 (zN N5 (zN N4 (zN N3 (zN N2 (zN N1 (zN N0 ep5)))))))),S7,rfl⟩))
      case rest=>
       clear hs hd ep5 es5
       obtain⟨b20,hb_,hs,hd,ep6,es6,rfl⟩:=hc_
       simp only[List.drop_succ_cons,List.drop_zero,List.drop_nil]
       have H:=MW.bind_step HH.out (hb_.trans hE21.out)
       replace HH:=za H
       clear H hb_ hE21
       exact wpList_nil (hKC_ _ _ (Stop.go ⟨b20,HH.out,hs,hd,ep6,es6,rfl⟩))
theorem chars_gone.calls (a0:Int) (r:Bool) (w:World) (h:chars_gone.f a0=some r):
  Calls Try.prog 28 #[.int .i32 a0] w (fun e w'=>e=.returned (.bool r)∧Drawn0 w w'):=by
 have HH:=za h
 clear h
 unfold chars_gone.f at HH
 go_enter Try.func28,Try.ntmps28
 repeat(first|(refine MW.region_ops (id:=1) ?_)|go_step)
 intro OPS hO
 refine chars_gone.p0 OPS hO a0 r w _ (by kernel_rfl) (by kernel_rfl) (by kernel_rfl) HH.out ?_
 intro a' hs hd es
 repeat go_step
 refine bodyPost_ret (results_tmp rfl _ _ _) hd ?_
 exact⟨congrArg Ending.returned es,Drawn0.refl _⟩
end Go.Proofs.Ytkbiiijmgbjnkaa.GA
