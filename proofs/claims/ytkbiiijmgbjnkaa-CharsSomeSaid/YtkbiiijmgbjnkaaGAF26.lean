import Derived.Test.YtkbiiijmgbjnkaaGA0
import Derived.Test.YtkbiiijmgbjnkaaMX
namespace Go.Proofs.Ytkbiiijmgbjnkaa.GA
open Go.RowKit Go.Proofs.Ytkbiiijmgbjnkaa Go.Proofs.Ytkbiiijmgbjnkaa.MW Go.Proofs.YtkbiiijmgbjnkaaW.PrintWords Go.Proofs.YtkbiiijmgbjnkaaW.PrintLast Go.Proofs.YtkbiiijmgbjnkaaW.PrintMore
attribute [local go_sem] max2_int min2_int max_two min_two
set_option maxHeartbeats 8000000
set_option maxRecDepth 100000
set_option linter.unusedVariables false
set_option linter.unusedSimpArgs false
def chars_sign.f (a0:Int):Option (Bool):=(some (if a0≥33 then((decide (a0≤47))) else(false):Bool)).bind fun b1=>((some (if b1=true then(true) else(if a0≥58 then((decide (a0≤64))) else(false)):Bool)).bind fun b4=>((some (if b4=true then(true) else(if a0≥91 then((decide (a0≤96))) else(false)):Bool)).bind fun b8=>((some (if b8=true then(true) else(if a0≥123 then((decide (a0≤126))) else(false)):Bool)).bind fun b12=>((some (if b12=true then(true) else(if a0≥161 then((decide (a0≤169))) else(false)):Bool)).bind fun b16=>((some (if b16=true then(true) else(if a0≥171 then((decide (a0≤172))) else(false)):Bool)).bind fun b20=>((some (if b20=true then(true) else(if a0≥174 then((decide (a0≤177))) else(false)):Bool)).bind fun b24=>((some (if b24=true then(true) else(if a0=180 then(true) else(if a0≥182 then((decide (a0≤184))) else(false))):Bool)).bind fun b28=>((some (if b28=true then(true) else(if a0≥187 then((decide (a0≤191))) else(false)):Bool)).bind fun b33=>((some (if b33=true then(true) else(if a0=215 then(true) else((a0==247))):Bool)).bind fun b37=>((some (if b37=true then(true) else(if a0≥8208 then((decide (a0≤8209))) else(false)):Bool)).bind fun b41=>((some (if b41=true then(true) else(if a0=8260 then(true) else((a0==8722))):Bool)).bind fun b45=>((some (if b45=true then(true) else(if a0≥65281 then((decide (a0≤65295))) else(false)):Bool)).bind fun b49=>((some (if b49=true then(true) else(if a0≥65306 then((decide (a0≤65312))) else(false)):Bool)).bind fun b53=>((some (if b53=true then(true) else(if a0≥65339 then((decide (a0≤65344))) else(false)):Bool)).bind fun b57=>((some (if b57=true then(true) else(if a0≥65371 then((decide (a0≤65374))) else(false)):Bool)).bind fun b61=>(some b61))))))))))))))))
noncomputable def chars_sign.ops:List Oper:=match Try.f26.body with
 |some (.seq _ (.seq (.region _ o _) _))=>o.toList
 |_=>[]
theorem chars_sign.p2 {Q:Exit→Act→World→Prop} (OPS:Array Oper) (hO:OPS=chars_sign.ops.toArray) (a0:Int) (r:Bool) (w:World) (af12:Act) (b45:Bool) (hs:af12.tmps.size=133) (hd:af12.defers=[]) (ep12:af12.eval (.tmp 0)=.int .i32 a0) (es12:af12.eval (.tmp 100)=.bool b45) (h:((some (if b45=true then(true) else(if a0≥65281 then((decide (a0≤65295))) else(false)):Bool)).bind fun b49=>((some (if b49=true then(true) else(if a0≥65306 then((decide (a0≤65312))) else(false)):Bool)).bind fun b53=>((some (if b53=true then(true) else(if a0≥65339 then((decide (a0≤65344))) else(false)):Bool)).bind fun b57=>((some (if b57=true then(true) else(if a0≥65371 then((decide (a0≤65374))) else(false)):Bool)).bind fun b61=>(some b61)))))=some r) (fin:∀ a':Act,a'.tmps.size=133→a'.defers=[]→a'.eval (.tmp 2)=.bool r→Q .normal a' w):wpList Try.prog OPS Q (chars_sign.ops.drop 98) af12 w:=by
 have HH:=za h
 clear h
 have H98:(OPS[98]?).bind (·.dst)=some 101:=by rw[hO];rfl
 have H101:(OPS[101]?).bind (·.dst)=some 104:=by rw[hO];rfl
 have H106:(OPS[106]?).bind (·.dst)=some 109:=by rw[hO];rfl
 have H109:(OPS[109]?).bind (·.dst)=some 112:=by rw[hO];rfl
 have H114:(OPS[114]?).bind (·.dst)=some 117:=by rw[hO];rfl
 have H117:(OPS[117]?).bind (·.dst)=some 120:=by rw[hO];rfl
 have H122:(OPS[122]?).bind (·.dst)=some 125:=by rw[hO];rfl
 have H125:(OPS[125]?).bind (·.dst)=some 128:=by rw[hO];rfl
 replace hO:=(Stop.go hO:Stop _ (.mk _))
 replace fin:=(Stop.go fin:Stop _ (.mk _))
 simp only[chars_sign.ops,Try.f26,List.append_eq,List.cons_append,List.nil_append,List.drop_succ_cons,List.drop_zero,List.take_succ_cons,List.take_zero]
 obtain⟨E50,hE50⟩:∃ e_:Bool,e_=(if b45=true then(true) else(if a0≥65281 then((decide (a0≤65295))) else(false))):=⟨_,rfl⟩
 replace hE50:=za hE50
 refine MW.list_cut 8 (fun a_ w_=>∃ b_:Bool,b_=E50∧a_.tmps.size=133∧a_.defers=[]∧a_.eval (.tmp 0)=.int .i32 a0∧a_.eval (.tmp 108)=.bool b_∧w=w_) (fun K_ hK_=>?seg) (fun af13 w_ hc_=>?rest)
 case seg=>
  simp only[List.take_succ_cons,List.take_zero,List.take_nil]
  clear HH
  by_cases c51:b45=true
  ·subst c51
   refine MW.ad 101 (.bool true) rfl hs hd rfl rfl (MW.ab_move rfl es12) fun _ hs hd S0 N0=>?_
   refine MW.ak 102 rfl hs hd rfl (MW.ab_want rfl H98 S0 rfl) fun _ hs hd S1 N1=>?_
   refine MW.ak 103 rfl hs hd rfl (MW.ab_want rfl H98 (zN N1 S0) rfl) fun _ hs hd S2 N2=>?_
   refine MW.ak 104 rfl hs hd rfl (MW.ab_want rfl H98 (zN N2 (zN N1 S0)) rfl) fun _ hs hd S3 N3=>?_
   refine MW.ak 105 rfl hs hd rfl (MW.ab_undef rfl H101 S3) fun _ hs hd S4 N4=>?_
   refine MW.ak 106 rfl hs hd rfl (MW.ab_undef rfl H101 (zN N4 S3)) fun _ hs hd S5 N5=>?_
   refine MW.ak 107 rfl hs hd rfl (MW.ab_want rfl H98 (zN N5 (zN N4 (zN N3 (zN N2 (zN N1 S0))))) rfl) fun _ hs hd S6 N6=>?_
   refine MW.ad 108 (.bool true) rfl hs hd rfl rfl (MW.ab_pick_t rfl (zN N6 (zN N5 (zN N4 (zN N3 (zN N2 (zN N1 S0)))))) rfl) fun _ hs hd S7 N7=>?_
   exact wpList_nil (hK_ _ _ (Stop.go ⟨true,Eq.trans (by first|rfl|(rw[];rfl)|(simp[*];done)) hE50.out.symm,hs,hd,(zN N7 (zN N6 (zN N5 (zN N4 (zN N3 (zN N2 (zN N1 (zN N0 ep12)))))))),S7,rfl⟩))
  replace c51:=Bool.eq_false_iff.mpr c51
  subst c51
  by_cases c52:a0≥65281
  ·refine MW.ad 101 (.bool false) rfl hs hd rfl rfl (MW.ab_move rfl es12) fun _ hs hd S0 N0=>?_
   refine MW.ad 102 (.int .i32 a0) rfl hs hd rfl (MW.ab_want rfl H98 S0 rfl) (MW.ab_move rfl (zN N0 ep12)) fun _ hs hd S1 N1=>?_
   refine MW.ad 103 (.bool true) rfl hs hd rfl (MW.ab_want rfl H98 (zN N1 S0) rfl) (MW.ab_cmp_t c52 rfl S1 (by kernel_rfl)) fun _ hs hd S2 N2=>?_
   refine MW.ad 104 (.bool true) rfl hs hd rfl (MW.ab_want rfl H98 (zN N2 (zN N1 S0)) rfl) (MW.ab_move rfl S2) fun _ hs hd S3 N3=>?_
   refine MW.ad 105 (.int .i32 a0) rfl hs hd rfl (MW.ab_want rfl H101 S3 rfl) (MW.ab_move rfl (zN N3 (zN N2 (zN N1 (zN N0 ep12))))) fun _ hs hd S4 N4=>?_
   refine MW.ad 106 (.bool (decide (a0≤65295))) rfl hs hd rfl (MW.ab_want rfl H101 (zN N4 S3) rfl) (MW.ab_bin rfl S4 (by kernel_rfl)) fun _ hs hd S5 N5=>?_
   refine MW.ad 107 (.bool (decide (a0≤65295))) rfl hs hd rfl (MW.ab_want rfl H98 (zN N5 (zN N4 (zN N3 (zN N2 (zN N1 S0))))) rfl) (MW.ab_pick_t rfl (zN N5 (zN N4 S3)) S5) fun _ hs hd S6 N6=>?_
   refine MW.ad 108 (.bool (decide (a0≤65295))) rfl hs hd rfl rfl (MW.ab_pick_f rfl (zN N6 (zN N5 (zN N4 (zN N3 (zN N2 (zN N1 S0)))))) S6) fun _ hs hd S7 N7=>?_
   exact wpList_nil (hK_ _ _ (Stop.go ⟨(decide (a0≤65295)),Eq.trans (by first|rfl|(rw[if_pos c52];rfl)|(simp[*];done)) hE50.out.symm,hs,hd,(zN N7 (zN N6 (zN N5 (zN N4 (zN N3 (zN N2 (zN N1 (zN N0 ep12)))))))),S7,rfl⟩))
  refine MW.ad 101 (.bool false) rfl hs hd rfl rfl (MW.ab_move rfl es12) fun _ hs hd S0 N0=>?_
  refine MW.ad 102 (.int .i32 a0) rfl hs hd rfl (MW.ab_want rfl H98 S0 rfl) (MW.ab_move rfl (zN N0 ep12)) fun _ hs hd S1 N1=>?_
  refine MW.ad 103 (.bool false) rfl hs hd rfl (MW.ab_want rfl H98 (zN N1 S0) rfl) (MW.ab_cmp_f c52 rfl S1 (by kernel_rfl)) fun _ hs hd S2 N2=>?_
  refine MW.ad 104 (.bool false) rfl hs hd rfl (MW.ab_want rfl H98 (zN N2 (zN N1 S0)) rfl) (MW.ab_move rfl S2) fun _ hs hd S3 N3=>?_
  refine MW.ak 105 rfl hs hd rfl (MW.ab_want rfl H101 S3 rfl) fun _ hs hd S4 N4=>?_
  refine MW.ak 106 rfl hs hd rfl (MW.ab_want rfl H101 (zN N4 S3) rfl) fun _ hs hd S5 N5=>?_
  refine MW.ad 107 (.bool false) rfl hs hd rfl (MW.ab_want rfl H98 (zN N5 (zN N4 (zN N3 (zN N2 (zN N1 S0))))) rfl) (MW.ab_pick_f rfl (zN N5 (zN N4 S3)) rfl) fun _ hs hd S6 N6=>?_
  refine MW.ad 108 (.bool false) rfl hs hd rfl rfl (MW.ab_pick_f rfl (zN N6 (zN N5 (zN N4 (zN N3 (zN N2 (zN N1 S0)))))) S6) fun _ hs hd S7 N7=>?_
  exact wpList_nil (hK_ _ _ (Stop.go ⟨false,Eq.trans (by first|rfl|(rw[if_neg c52];rfl)|(simp[*];done)) hE50.out.symm,hs,hd,(zN N7 (zN N6 (zN N5 (zN N4 (zN N3 (zN N2 (zN N1 (zN N0 ep12)))))))),S7,rfl⟩))
 case rest=>
  clear hs hd ep12 es12
  obtain⟨b49,hb_,hs,hd,ep13,es13,rfl⟩:=hc_
  simp only[List.drop_succ_cons,List.drop_zero,List.drop_nil]
  have H:=MW.bind_step HH.out (hb_.trans hE50.out)
  replace HH:=za H
  clear H hb_ hE50
  obtain⟨E54,hE54⟩:∃ e_:Bool,e_=(if b49=true then(true) else(if a0≥65306 then((decide (a0≤65312))) else(false))):=⟨_,rfl⟩
  replace hE54:=za hE54
  refine MW.list_cut 8 (fun a_ w_=>∃ b_:Bool,b_=E54∧a_.tmps.size=133∧a_.defers=[]∧a_.eval (.tmp 0)=.int .i32 a0∧a_.eval (.tmp 116)=.bool b_∧w=w_) (fun K_ hK_=>?seg) (fun af14 w_ hc_=>?rest)
  case seg=>
   simp only[List.take_succ_cons,List.take_zero,List.take_nil]
   clear HH
   by_cases c55:b49=true
   ·subst c55
    refine MW.ad 109 (.bool true) rfl hs hd rfl rfl (MW.ab_move rfl es13) fun _ hs hd S0 N0=>?_
    refine MW.ak 110 rfl hs hd rfl (MW.ab_want rfl H106 S0 rfl) fun _ hs hd S1 N1=>?_
    refine MW.ak 111 rfl hs hd rfl (MW.ab_want rfl H106 (zN N1 S0) rfl) fun _ hs hd S2 N2=>?_
    refine MW.ak 112 rfl hs hd rfl (MW.ab_want rfl H106 (zN N2 (zN N1 S0)) rfl) fun _ hs hd S3 N3=>?_
    refine MW.ak 113 rfl hs hd rfl (MW.ab_undef rfl H109 S3) fun _ hs hd S4 N4=>?_
    refine MW.ak 114 rfl hs hd rfl (MW.ab_undef rfl H109 (zN N4 S3)) fun _ hs hd S5 N5=>?_
    refine MW.ak 115 rfl hs hd rfl (MW.ab_want rfl H106 (zN N5 (zN N4 (zN N3 (zN N2 (zN N1 S0))))) rfl) fun _ hs hd S6 N6=>?_
    refine MW.ad 116 (.bool true) rfl hs hd rfl rfl (MW.ab_pick_t rfl (zN N6 (zN N5 (zN N4 (zN N3 (zN N2 (zN N1 S0)))))) rfl) fun _ hs hd S7 N7=>?_
    exact wpList_nil (hK_ _ _ (Stop.go ⟨true,Eq.trans (by first|rfl|(rw[];rfl)|(simp[*];done)) hE54.out.symm,hs,hd,(zN N7 (zN N6 (zN N5 (zN N4 (zN N3 (zN N2 (zN N1 (zN N0 ep13)))))))),S7,rfl⟩))
   replace c55:=Bool.eq_false_iff.mpr c55
   subst c55
   by_cases c56:a0≥65306
   ·refine MW.ad 109 (.bool false) rfl hs hd rfl rfl (MW.ab_move rfl es13) fun _ hs hd S0 N0=>?_
    refine MW.ad 110 (.int .i32 a0) rfl hs hd rfl (MW.ab_want rfl H106 S0 rfl) (MW.ab_move rfl (zN N0 ep13)) fun _ hs hd S1 N1=>?_
    refine MW.ad 111 (.bool true) rfl hs hd rfl (MW.ab_want rfl H106 (zN N1 S0) rfl) (MW.ab_cmp_t c56 rfl S1 (by kernel_rfl)) fun _ hs hd S2 N2=>?_
    refine MW.ad 112 (.bool true) rfl hs hd rfl (MW.ab_want rfl H106 (zN N2 (zN N1 S0)) rfl) (MW.ab_move rfl S2) fun _ hs hd S3 N3=>?_
    refine MW.ad 113 (.int .i32 a0) rfl hs hd rfl (MW.ab_want rfl H109 S3 rfl) (MW.ab_move rfl (zN N3 (zN N2 (zN N1 (zN N0 ep13))))) fun _ hs hd S4 N4=>?_
    refine MW.ad 114 (.bool (decide (a0≤65312))) rfl hs hd rfl (MW.ab_want rfl H109 (zN N4 S3) rfl) (MW.ab_bin rfl S4 (by kernel_rfl)) fun _ hs hd S5 N5=>?_
    refine MW.ad 115 (.bool (decide (a0≤65312))) rfl hs hd rfl (MW.ab_want rfl H106 (zN N5 (zN N4 (zN N3 (zN N2 (zN N1 S0))))) rfl) (MW.ab_pick_t rfl (zN N5 (zN N4 S3)) S5) fun _ hs hd S6 N6=>?_
    refine MW.ad 116 (.bool (decide (a0≤65312))) rfl hs hd rfl rfl (MW.ab_pick_f rfl (zN N6 (zN N5 (zN N4 (zN N3 (zN N2 (zN N1 S0)))))) S6) fun _ hs hd S7 N7=>?_
    exact wpList_nil (hK_ _ _ (Stop.go ⟨(decide (a0≤65312)),Eq.trans (by first|rfl|(rw[if_pos c56];rfl)|(simp[*];done)) hE54.out.symm,hs,hd,(zN N7 (zN N6 (zN N5 (zN N4 (zN N3 (zN N2 (zN N1 (zN N0 ep13)))))))),S7,rfl⟩))
   refine MW.ad 109 (.bool false) rfl hs hd rfl rfl (MW.ab_move rfl es13) fun _ hs hd S0 N0=>?_
   refine MW.ad 110 (.int .i32 a0) rfl hs hd rfl (MW.ab_want rfl H106 S0 rfl) (MW.ab_move rfl (zN N0 ep13)) fun _ hs hd S1 N1=>?_
   refine MW.ad 111 (.bool false) rfl hs hd rfl (MW.ab_want rfl H106 (zN N1 S0) rfl) (MW.ab_cmp_f c56 rfl S1 (by kernel_rfl)) fun _ hs hd S2 N2=>?_
   refine MW.ad 112 (.bool false) rfl hs hd rfl (MW.ab_want rfl H106 (zN N2 (zN N1 S0)) rfl) (MW.ab_move rfl S2) fun _ hs hd S3 N3=>?_
   refine MW.ak 113 rfl hs hd rfl (MW.ab_want rfl H109 S3 rfl) fun _ hs hd S4 N4=>?_
   refine MW.ak 114 rfl hs hd rfl (MW.ab_want rfl H109 (zN N4 S3) rfl) fun _ hs hd S5 N5=>?_
   refine MW.ad 115 (.bool false) rfl hs hd rfl (MW.ab_want rfl H106 (zN N5 (zN N4 (zN N3 (zN N2 (zN N1 S0))))) rfl) (MW.ab_pick_f rfl (zN N5 (zN N4 S3)) rfl) fun _ hs hd S6 N6=>?_
   refine MW.ad 116 (.bool false) rfl hs hd rfl rfl (MW.ab_pick_f rfl (zN N6 (zN N5 (zN N4 (zN N3 (zN N2 (zN N1 S0)))))) S6) fun _ hs hd S7 N7=>?_
   exact wpList_nil (hK_ _ _ (Stop.go ⟨false,Eq.trans (by first|rfl|(rw[if_neg c56];rfl)|(simp[*];done)) hE54.out.symm,hs,hd,(zN N7 (zN N6 (zN N5 (zN N4 (zN N3 (zN N2 (zN N1 (zN N0 ep13)))))))),S7,rfl⟩))
  case rest=>
   clear hs hd ep13 es13
   obtain⟨b53,hb_,hs,hd,ep14,es14,rfl⟩:=hc_
   simp only[List.drop_succ_cons,List.drop_zero,List.drop_nil]
   have H:=MW.bind_step HH.out (hb_.trans hE54.out)
   replace HH:=za H
   clear H hb_ hE54
   obtain⟨E58,hE58⟩:∃ e_:Bool,e_=(if b53=true then(true) else(if a0≥65339 then((decide (a0≤65344))) else(false))):=⟨_,rfl⟩
   replace hE58:=za hE58
   refine MW.list_cut 8 (fun a_ w_=>∃ b_:Bool,b_=E58∧a_.tmps.size=133∧a_.defers=[]∧a_.eval (.tmp 0)=.int .i32 a0∧a_.eval (.tmp 124)=.bool b_∧w=w_) (fun K_ hK_=>?seg) (fun af15 w_ hc_=>?rest)
   case seg=>
    simp only[List.take_succ_cons,List.take_zero,List.take_nil]
    clear HH
    by_cases c59:b53=true
    ·subst c59
     refine MW.ad 117 (.bool true) rfl hs hd rfl rfl (MW.ab_move rfl es14) fun _ hs hd S0 N0=>?_
     refine MW.ak 118 rfl hs hd rfl (MW.ab_want rfl H114 S0 rfl) fun _ hs hd S1 N1=>?_
     refine MW.ak 119 rfl hs hd rfl (MW.ab_want rfl H114 (zN N1 S0) rfl) fun _ hs hd S2 N2=>?_
     refine MW.ak 120 rfl hs hd rfl (MW.ab_want rfl H114 (zN N2 (zN N1 S0)) rfl) fun _ hs hd S3 N3=>?_
     refine MW.ak 121 rfl hs hd rfl (MW.ab_undef rfl H117 S3) fun _ hs hd S4 N4=>?_
     refine MW.ak 122 rfl hs hd rfl (MW.ab_undef rfl H117 (zN N4 S3)) fun _ hs hd S5 N5=>?_
     refine MW.ak 123 rfl hs hd rfl (MW.ab_want rfl H114 (zN N5 (zN N4 (zN N3 (zN N2 (zN N1 S0))))) rfl) fun _ hs hd S6 N6=>?_
     refine MW.ad 124 (.bool true) rfl hs hd rfl rfl (MW.ab_pick_t rfl (zN N6 (zN N5 (zN N4 (zN N3 (zN N2 (zN N1 S0)))))) rfl) fun _ hs hd S7 N7=>?_
     exact wpList_nil (hK_ _ _ (Stop.go ⟨true,Eq.trans (by first|rfl|(rw[];rfl)|(simp[*];done)) hE58.out.symm,hs,hd,(zN N7 (zN N6 (zN N5 (zN N4 (zN N3 (zN N2 (zN N1 (zN N0 ep14)))))))),S7,rfl⟩))
    replace c59:=Bool.eq_false_iff.mpr c59
    subst c59
    by_cases c60:a0≥65339
    ·refine MW.ad 117 (.bool false) rfl hs hd rfl rfl (MW.ab_move rfl es14) fun _ hs hd S0 N0=>?_
     refine MW.ad 118 (.int .i32 a0) rfl hs hd rfl (MW.ab_want rfl H114 S0 rfl) (MW.ab_move rfl (zN N0 ep14)) fun _ hs hd S1 N1=>?_
     refine MW.ad 119 (.bool true) rfl hs hd rfl (MW.ab_want rfl H114 (zN N1 S0) rfl) (MW.ab_cmp_t c60 rfl S1 (by kernel_rfl)) fun _ hs hd S2 N2=>?_
     refine MW.ad 120 (.bool true) rfl hs hd rfl (MW.ab_want rfl H114 (zN N2 (zN N1 S0)) rfl) (MW.ab_move rfl S2) fun _ hs hd S3 N3=>?_
     refine MW.ad 121 (.int .i32 a0) rfl hs hd rfl (MW.ab_want rfl H117 S3 rfl) (MW.ab_move rfl (zN N3 (zN N2 (zN N1 (zN N0 ep14))))) fun _ hs hd S4 N4=>?_
     refine MW.ad 122 (.bool (decide (a0≤65344))) rfl hs hd rfl (MW.ab_want rfl H117 (zN N4 S3) rfl) (MW.ab_bin rfl S4 (by kernel_rfl)) fun _ hs hd S5 N5=>?_
     refine MW.ad 123 (.bool (decide (a0≤65344))) rfl hs hd rfl (MW.ab_want rfl H114 (zN N5 (zN N4 (zN N3 (zN N2 (zN N1 S0))))) rfl) (MW.ab_pick_t rfl (zN N5 (zN N4 S3)) S5) fun _ hs hd S6 N6=>?_
     refine MW.ad 124 (.bool (decide (a0≤65344))) rfl hs hd rfl rfl (MW.ab_pick_f rfl (zN N6 (zN N5 (zN N4 (zN N3 (zN N2 (zN N1 S0)))))) S6) fun _ hs hd S7 N7=>?_
     exact wpList_nil (hK_ _ _ (Stop.go ⟨(decide (a0≤65344)),Eq.trans (by first|rfl|(rw[if_pos c60];rfl)|(simp[*];done)) hE58.out.symm,hs,hd,(zN N7 (zN N6 (zN N5 (zN N4 (zN N3 (zN N2 (zN N1 (zN N0 ep14)))))))),S7,rfl⟩))
    refine MW.ad 117 (.bool false) rfl hs hd rfl rfl (MW.ab_move rfl es14) fun _ hs hd S0 N0=>?_
    refine MW.ad 118 (.int .i32 a0) rfl hs hd rfl (MW.ab_want rfl H114 S0 rfl) (MW.ab_move rfl (zN N0 ep14)) fun _ hs hd S1 N1=>?_
    refine MW.ad 119 (.bool false) rfl hs hd rfl (MW.ab_want rfl H114 (zN N1 S0) rfl) (MW.ab_cmp_f c60 rfl S1 (by kernel_rfl)) fun _ hs hd S2 N2=>?_
    refine MW.ad 120 (.bool false) rfl hs hd rfl (MW.ab_want rfl H114 (zN N2 (zN N1 S0)) rfl) (MW.ab_move rfl S2) fun _ hs hd S3 N3=>?_
    refine MW.ak 121 rfl hs hd rfl (MW.ab_want rfl H117 S3 rfl) fun _ hs hd S4 N4=>?_
    refine MW.ak 122 rfl hs hd rfl (MW.ab_want rfl H117 (zN N4 S3) rfl) fun _ hs hd S5 N5=>?_
    refine MW.ad 123 (.bool false) rfl hs hd rfl (MW.ab_want rfl H114 (zN N5 (zN N4 (zN N3 (zN N2 (zN N1 S0))))) rfl) (MW.ab_pick_f rfl (zN N5 (zN N4 S3)) rfl) fun _ hs hd S6 N6=>?_
    refine MW.ad 124 (.bool false) rfl hs hd rfl rfl (MW.ab_pick_f rfl (zN N6 (zN N5 (zN N4 (zN N3 (zN N2 (zN N1 S0)))))) S6) fun _ hs hd S7 N7=>?_
    exact wpList_nil (hK_ _ _ (Stop.go ⟨false,Eq.trans (by first|rfl|(rw[if_neg c60];rfl)|(simp[*];done)) hE58.out.symm,hs,hd,(zN N7 (zN N6 (zN N5 (zN N4 (zN N3 (zN N2 (zN N1 (zN N0 ep14)))))))),S7,rfl⟩))
   case rest=>
    clear hs hd ep14 es14
    obtain⟨b57,hb_,hs,hd,ep15,es15,rfl⟩:=hc_
    simp only[List.drop_succ_cons,List.drop_zero,List.drop_nil]
    have H:=MW.bind_step HH.out (hb_.trans hE58.out)
    replace HH:=za H
    clear H hb_ hE58
    obtain⟨E62,hE62⟩:∃ e_:Bool,e_=(if b57=true then(true) else(if a0≥65371 then((decide (a0≤65374))) else(false))):=⟨_,rfl⟩
    replace hE62:=za hE62
    refine MW.list_cut 9 (fun a_ w_=>∃ b_:Bool,b_=E62∧a_.tmps.size=133∧a_.defers=[]∧a_.eval (.tmp 0)=.int .i32 a0∧a_.eval (.tmp 2)=.bool b_∧w=w_) (fun K_ hK_=>?seg) (fun af16 w_ hc_=>?rest)
    case seg=>
     simp only[List.take_succ_cons,List.take_zero,List.take_nil]
     clear HH
     by_cases c63:b57=true
     ·subst c63
      refine MW.ad 125 (.bool true) rfl hs hd rfl rfl (MW.ab_move rfl es15) fun _ hs hd S0 N0=>?_
      refine MW.ak 126 rfl hs hd rfl (MW.ab_want rfl H122 S0 rfl) fun _ hs hd S1 N1=>?_
      refine MW.ak 127 rfl hs hd rfl (MW.ab_want rfl H122 (zN N1 S0) rfl) fun _ hs hd S2 N2=>?_
      refine MW.ak 128 rfl hs hd rfl (MW.ab_want rfl H122 (zN N2 (zN N1 S0)) rfl) fun _ hs hd S3 N3=>?_
      refine MW.ak 129 rfl hs hd rfl (MW.ab_undef rfl H125 S3) fun _ hs hd S4 N4=>?_
      refine MW.ak 130 rfl hs hd rfl (MW.ab_undef rfl H125 (zN N4 S3)) fun _ hs hd S5 N5=>?_
      refine MW.ak 131 rfl hs hd rfl (MW.ab_want rfl H122 (zN N5 (zN N4 (zN N3 (zN N2 (zN N1 S0))))) rfl) fun _ hs hd S6 N6=>?_
      refine MW.ad 132 (.bool true) rfl hs hd rfl rfl (MW.ab_pick_t rfl (zN N6 (zN N5 (zN N4 (zN N3 (zN N2 (zN N1 S0)))))) rfl) fun _ hs hd S7 N7=>?_
      refine MW.ad 2 (.bool true) rfl hs hd rfl rfl (MW.ab_assign rfl S7) fun _ hs hd S8 N8=>?_
      exact wpList_nil (hK_ _ _ (Stop.go ⟨true,Eq.trans (by first|rfl|(rw[];rfl)|(simp[*];done)) hE62.out.symm,hs,hd,(zN N8 (zN N7 (zN N6 (zN N5 (zN N4 (zN N3 (zN N2 (zN N1 (zN N0 ep15))))))))),S8,rfl⟩))
     replace c63:=Bool.eq_false_iff.mpr c63
     subst c63
     by_cases c64:a0≥65371
     ·refine MW.ad 125 (.bool false) rfl hs hd rfl rfl (MW.ab_move rfl es15) fun _ hs hd S0 N0=>?_
      refine MW.ad 126 (.int .i32 a0) rfl hs hd rfl (MW.ab_want rfl H122 S0 rfl) (MW.ab_move rfl (zN N0 ep15)) fun _ hs hd S1 N1=>?_
      refine MW.ad 127 (.bool true) rfl hs hd rfl (MW.ab_want rfl H122 (zN N1 S0) rfl) (MW.ab_cmp_t c64 rfl S1 (by kernel_rfl)) fun _ hs hd S2 N2=>?_
      refine MW.ad 128 (.bool true) rfl hs hd rfl (MW.ab_want rfl H122 (zN N2 (zN N1 S0)) rfl) (MW.ab_move rfl S2) fun _ hs hd S3 N3=>?_
      refine MW.ad 129 (.int .i32 a0) rfl hs hd rfl (MW.ab_want rfl H125 S3 rfl) (MW.ab_move rfl (zN N3 (zN N2 (zN N1 (zN N0 ep15))))) fun _ hs hd S4 N4=>?_
      refine MW.ad 130 (.bool (decide (a0≤65374))) rfl hs hd rfl (MW.ab_want rfl H125 (zN N4 S3) rfl) (MW.ab_bin rfl S4 (by kernel_rfl)) fun _ hs hd S5 N5=>?_
      refine MW.ad 131 (.bool (decide (a0≤65374))) rfl hs hd rfl (MW.ab_want rfl H122 (zN N5 (zN N4 (zN N3 (zN N2 (zN N1 S0))))) rfl) (MW.ab_pick_t rfl (zN N5 (zN N4 S3)) S5) fun _ hs hd S6 N6=>?_
      refine MW.ad 132 (.bool (decide (a0≤65374))) rfl hs hd rfl rfl (MW.ab_pick_f rfl (zN N6 (zN N5 (zN N4 (zN N3 (zN N2 (zN N1 S0)))))) S6) fun _ hs hd S7 N7=>?_
      refine MW.ad 2 (.bool (decide (a0≤65374))) rfl hs hd rfl rfl (MW.ab_assign rfl S7) fun _ hs hd S8 N8=>?_
      exact wpList_nil (hK_ _ _ (Stop.go ⟨(decide (a0≤65374)),Eq.trans (by first|rfl|(rw[if_pos c64];rfl)|(simp[*];done)) hE62.out.symm,hs,hd,(zN N8 (zN N7 (zN N6 (zN N5 (zN N4 (zN N3 (zN N2 (zN N1 (zN N0 ep15))))))))),S8,rfl⟩))
     refine MW.ad 125 (.bool false) rfl hs hd rfl rfl (MW.ab_move rfl es15) fun _ hs hd S0 N0=>?_
     refine MW.ad 126 (.int .i32 a0) rfl hs hd rfl (MW.ab_want rfl H122 S0 rfl) (MW.ab_move rfl (zN N0 ep15)) fun _ hs hd S1 N1=>?_
     refine MW.ad 127 (.bool false) rfl hs hd rfl (MW.ab_want rfl H122 (zN N1 S0) rfl) (MW.ab_cmp_f c64 rfl S1 (by kernel_rfl)) fun _ hs hd S2 N2=>?_
     refine MW.ad 128 (.bool false) rfl hs hd rfl (MW.ab_want rfl H122 (zN N2 (zN N1 S0)) rfl) (MW.ab_move rfl S2) fun _ hs hd S3 N3=>?_
     refine MW.ak 129 rfl hs hd rfl (MW.ab_want rfl H125 S3 rfl) fun _ hs hd S4 N4=>?_
     refine MW.ak 130 rfl hs hd rfl (MW.ab_want rfl H125 (zN N4 S3) rfl) fun _ hs hd S5 N5=>?_
     refine MW.ad 131 (.bool false) rfl hs hd rfl (MW.ab_want rfl H122 (zN N5 (zN N4 (zN N3 (zN N2 (zN N1 S0))))) rfl) (MW.ab_pick_f rfl (zN N5 (zN N4 S3)) rfl) fun _ hs hd S6 N6=>?_
     refine MW.ad 132 (.bool false) rfl hs hd rfl rfl (MW.ab_pick_f rfl (zN N6 (zN N5 (zN N4 (zN N3 (zN N2 (zN N1 S0)))))) S6) fun _ hs hd S7 N7=>?_
     refine MW.ad 2 (.bool false) rfl hs hd rfl rfl (MW.ab_assign rfl S7) fun _ hs hd S8 N8=>?_
     exact wpList_nil (hK_ _ _ (Stop.go ⟨false,Eq.trans (by first|rfl|(rw[if_neg c64];rfl)|(simp[*];done)) hE62.out.symm,hs,hd,(zN N8 (zN N7 (zN N6 (zN N5 (zN N4 (zN N3 (zN N2 (zN N1 (zN N0 ep15))))))))),S8,rfl⟩))
    case rest=>
     clear hs hd ep15 es15
     obtain⟨b61,hb_,hs,hd,ep16,es16,rfl⟩:=hc_
     simp only[List.drop_succ_cons,List.drop_zero,List.drop_nil]
     have H:=MW.bind_step HH.out (hb_.trans hE62.out)
     replace HH:=za H
     clear H hb_ hE62
     obtain rfl:=Option.some.inj HH.out
     exact wpList_nil (fin.out _ hs hd es16)
theorem chars_sign.p1 {Q:Exit→Act→World→Prop} (OPS:Array Oper) (hO:OPS=chars_sign.ops.toArray) (a0:Int) (r:Bool) (w:World) (af6:Act) (b20:Bool) (hs:af6.tmps.size=133) (hd:af6.defers=[]) (ep6:af6.eval (.tmp 0)=.int .i32 a0) (es6:af6.eval (.tmp 48)=.bool b20) (h:((some (if b20=true then(true) else(if a0≥174 then((decide (a0≤177))) else(false)):Bool)).bind fun b24=>((some (if b24=true then(true) else(if a0=180 then(true) else(if a0≥182 then((decide (a0≤184))) else(false))):Bool)).bind fun b28=>((some (if b28=true then(true) else(if a0≥187 then((decide (a0≤191))) else(false)):Bool)).bind fun b33=>((some (if b33=true then(true) else(if a0=215 then(true) else((a0==247))):Bool)).bind fun b37=>((some (if b37=true then(true) else(if a0≥8208 then((decide (a0≤8209))) else(false)):Bool)).bind fun b41=>((some (if b41=true then(true) else(if a0=8260 then(true) else((a0==8722))):Bool)).bind fun b45=>((some (if b45=true then(true) else(if a0≥65281 then((decide (a0≤65295))) else(false)):Bool)).bind fun b49=>((some (if b49=true then(true) else(if a0≥65306 then((decide (a0≤65312))) else(false)):Bool)).bind fun b53=>((some (if b53=true then(true) else(if a0≥65339 then((decide (a0≤65344))) else(false)):Bool)).bind fun b57=>((some (if b57=true then(true) else(if a0≥65371 then((decide (a0≤65374))) else(false)):Bool)).bind fun b61=>(some b61)))))))))))=some r) (fin:∀ a':Act,a'.tmps.size=133→a'.defers=[]→a'.eval (.tmp 2)=.bool r→Q .normal a' w):wpList Try.prog OPS Q (chars_sign.ops.drop 46) af6 w:=by
 have HH:=za h
 clear h
 have H46:(OPS[46]?).bind (·.dst)=some 49:=by rw[hO];rfl
 have H49:(OPS[49]?).bind (·.dst)=some 52:=by rw[hO];rfl
 have H54:(OPS[54]?).bind (·.dst)=some 57:=by rw[hO];rfl
 have H58:(OPS[58]?).bind (·.dst)=some 61:=by rw[hO];rfl
 have H61:(OPS[61]?).bind (·.dst)=some 64:=by rw[hO];rfl
 have H66:(OPS[66]?).bind (·.dst)=some 69:=by rw[hO];rfl
 have H69:(OPS[69]?).bind (·.dst)=some 72:=by rw[hO];rfl
 have H74:(OPS[74]?).bind (·.dst)=some 77:=by rw[hO];rfl
 have H78:(OPS[78]?).bind (·.dst)=some 81:=by rw[hO];rfl
 have H82:(OPS[82]?).bind (·.dst)=some 85:=by rw[hO];rfl
 have H85:(OPS[85]?).bind (·.dst)=some 88:=by rw[hO];rfl
 have H90:(OPS[90]?).bind (·.dst)=some 93:=by rw[hO];rfl
 have H94:(OPS[94]?).bind (·.dst)=some 97:=by rw[hO];rfl
 replace hO:=(Stop.go hO:Stop _ (.mk _))
 replace fin:=(Stop.go fin:Stop _ (.mk _))
 refine MW.list_cut 52 (fun a_ w_=>∃ b45:Bool,((some (if b45=true then(true) else(if a0≥65281 then((decide (a0≤65295))) else(false)):Bool)).bind fun b49=>((some (if b49=true then(true) else(if a0≥65306 then((decide (a0≤65312))) else(false)):Bool)).bind fun b53=>((some (if b53=true then(true) else(if a0≥65339 then((decide (a0≤65344))) else(false)):Bool)).bind fun b57=>((some (if b57=true then(true) else(if a0≥65371 then((decide (a0≤65374))) else(false)):Bool)).bind fun b61=>(some b61)))))=some r∧a_.tmps.size=133∧a_.defers=[]∧a_.eval (.tmp 0)=.int .i32 a0∧a_.eval (.tmp 100)=.bool b45∧w=w_) (fun KC_ hKC_=>?chunk) (fun a_ w_ hc_=>?next)
 case next=>
  obtain⟨b_,hb_,hs,hd,ep,es,rfl⟩:=hc_
  rw[List.drop_drop]
  exact chars_sign.p2 OPS hO.out a0 r _ _ b_ hs hd ep es hb_ fin.out
 simp only[chars_sign.ops,Try.f26,List.append_eq,List.cons_append,List.nil_append,List.drop_succ_cons,List.drop_zero,List.take_succ_cons,List.take_zero]
 obtain⟨E25,hE25⟩:∃ e_:Bool,e_=(if b20=true then(true) else(if a0≥174 then((decide (a0≤177))) else(false))):=⟨_,rfl⟩
 replace hE25:=za hE25
 refine MW.list_cut 8 (fun a_ w_=>∃ b_:Bool,b_=E25∧a_.tmps.size=133∧a_.defers=[]∧a_.eval (.tmp 0)=.int .i32 a0∧a_.eval (.tmp 56)=.bool b_∧w=w_) (fun K_ hK_=>?seg) (fun af7 w_ hc_=>?rest)
 case seg=>
  simp only[List.take_succ_cons,List.take_zero,List.take_nil]
  clear HH
  by_cases c26:b20=true
  ·subst c26
   refine MW.ad 49 (.bool true) rfl hs hd rfl rfl (MW.ab_move rfl es6) fun _ hs hd S0 N0=>?_
   refine MW.ak 50 rfl hs hd rfl (MW.ab_want rfl H46 S0 rfl) fun _ hs hd S1 N1=>?_
   refine MW.ak 51 rfl hs hd rfl (MW.ab_want rfl H46 (zN N1 S0) rfl) fun _ hs hd S2 N2=>?_
   refine MW.ak 52 rfl hs hd rfl (MW.ab_want rfl H46 (zN N2 (zN N1 S0)) rfl) fun _ hs hd S3 N3=>?_
   refine MW.ak 53 rfl hs hd rfl (MW.ab_undef rfl H49 S3) fun _ hs hd S4 N4=>?_
   refine MW.ak 54 rfl hs hd rfl (MW.ab_undef rfl H49 (zN N4 S3)) fun _ hs hd S5 N5=>?_
   refine MW.ak 55 rfl hs hd rfl (MW.ab_want rfl H46 (zN N5 (zN N4 (zN N3 (zN N2 (zN N1 S0))))) rfl) fun _ hs hd S6 N6=>?_
   refine MW.ad 56 (.bool true) rfl hs hd rfl rfl (MW.ab_pick_t rfl (zN N6 (zN N5 (zN N4 (zN N3 (zN N2 (zN N1 S0)))))) rfl) fun _ hs hd S7 N7=>?_
   exact wpList_nil (hK_ _ _ (Stop.go ⟨true,Eq.trans (by first|rfl|(rw[];rfl)|(simp[*];done)) hE25.out.symm,hs,hd,(zN N7 (zN N6 (zN N5 (zN N4 (zN N3 (zN N2 (zN N1 (zN N0 ep6)))))))),S7,rfl⟩))
  replace c26:=Bool.eq_false_iff.mpr c26
  subst c26
  by_cases c27:a0≥174
  ·refine MW.ad 49 (.bool false) rfl hs hd rfl rfl (MW.ab_move rfl es6) fun _ hs hd S0 N0=>?_
   refine MW.ad 50 (.int .i32 a0) rfl hs hd rfl (MW.ab_want rfl H46 S0 rfl) (MW.ab_move rfl (zN N0 ep6)) fun _ hs hd S1 N1=>?_
   refine MW.ad 51 (.bool true) rfl hs hd rfl (MW.ab_want rfl H46 (zN N1 S0) rfl) (MW.ab_cmp_t c27 rfl S1 (by kernel_rfl)) fun _ hs hd S2 N2=>?_
   refine MW.ad 52 (.bool true) rfl hs hd rfl (MW.ab_want rfl H46 (zN N2 (zN N1 S0)) rfl) (MW.ab_move rfl S2) fun _ hs hd S3 N3=>?_
   refine MW.ad 53 (.int .i32 a0) rfl hs hd rfl (MW.ab_want rfl H49 S3 rfl) (MW.ab_move rfl (zN N3 (zN N2 (zN N1 (zN N0 ep6))))) fun _ hs hd S4 N4=>?_
   refine MW.ad 54 (.bool (decide (a0≤177))) rfl hs hd rfl (MW.ab_want rfl H49 (zN N4 S3) rfl) (MW.ab_bin rfl S4 (by kernel_rfl)) fun _ hs hd S5 N5=>?_
   refine MW.ad 55 (.bool (decide (a0≤177))) rfl hs hd rfl (MW.ab_want rfl H46 (zN N5 (zN N4 (zN N3 (zN N2 (zN N1 S0))))) rfl) (MW.ab_pick_t rfl (zN N5 (zN N4 S3)) S5) fun _ hs hd S6 N6=>?_
   refine MW.ad 56 (.bool (decide (a0≤177))) rfl hs hd rfl rfl (MW.ab_pick_f rfl (zN N6 (zN N5 (zN N4 (zN N3 (zN N2 (zN N1 S0)))))) S6) fun _ hs hd S7 N7=>?_
   exact wpList_nil (hK_ _ _ (Stop.go ⟨(decide (a0≤177)),Eq.trans (by first|rfl|(rw[if_pos c27];rfl)|(simp[*];done)) hE25.out.symm,hs,hd,(zN N7 (zN N6 (zN N5 (zN N4 (zN N3 (zN N2 (zN N1 (zN N0 ep6)))))))),S7,rfl⟩))
  refine MW.ad 49 (.bool false) rfl hs hd rfl rfl (MW.ab_move rfl es6) fun _ hs hd S0 N0=>?_
  refine MW.ad 50 (.int .i32 a0) rfl hs hd rfl (MW.ab_want rfl H46 S0 rfl) (MW.ab_move rfl (zN N0 ep6)) fun _ hs hd S1 N1=>?_
  refine MW.ad 51 (.bool false) rfl hs hd rfl (MW.ab_want rfl H46 (zN N1 S0) rfl) (MW.ab_cmp_f c27 rfl S1 (by kernel_rfl)) fun _ hs hd S2 N2=>?_
  refine MW.ad 52 (.bool false) rfl hs hd rfl (MW.ab_want rfl H46 (zN N2 (zN N1 S0)) rfl) (MW.ab_move rfl S2) fun _ hs hd S3 N3=>?_
  refine MW.ak 53 rfl hs hd rfl (MW.ab_want rfl H49 S3 rfl) fun _ hs hd S4 N4=>?_
  refine MW.ak 54 rfl hs hd rfl (MW.ab_want rfl H49 (zN N4 S3) rfl) fun _ hs hd S5 N5=>?_
  refine MW.ad 55 (.bool false) rfl hs hd rfl (MW.ab_want rfl H46 (zN N5 (zN N4 (zN N3 (zN N2 (zN N1 S0))))) rfl) (MW.ab_pick_f rfl (zN N5 (zN N4 S3)) rfl) fun _ hs hd S6 N6=>?_
  refine MW.ad 56 (.bool false) rfl hs hd rfl rfl (MW.ab_pick_f rfl (zN N6 (zN N5 (zN N4 (zN N3 (zN N2 (zN N1 S0)))))) S6) fun _ hs hd S7 N7=>?_
  exact wpList_nil (hK_ _ _ (Stop.go ⟨false,Eq.trans (by first|rfl|(rw[if_neg c27];rfl)|(simp[*];done)) hE25.out.symm,hs,hd,(zN N7 (zN N6 (zN N5 (zN N4 (zN N3 (zN N2 (zN N1 (zN N0 ep6)))))))),S7,rfl⟩))
 case rest=>
  clear hs hd ep6 es6
  obtain⟨b24,hb_,hs,hd,ep7,es7,rfl⟩:=hc_
  simp only[List.drop_succ_cons,List.drop_zero,List.drop_nil]
  have H:=MW.bind_step HH.out (hb_.trans hE25.out)
  replace HH:=za H
  clear H hb_ hE25
  obtain⟨E29,hE29⟩:∃ e_:Bool,e_=(if b24=true then(true) else(if a0=180 then(true) else(if a0≥182 then((decide (a0≤184))) else(false)))):=⟨_,rfl⟩
  replace hE29:=za hE29
  refine MW.list_cut 12 (fun a_ w_=>∃ b_:Bool,b_=E29∧a_.tmps.size=133∧a_.defers=[]∧a_.eval (.tmp 0)=.int .i32 a0∧a_.eval (.tmp 68)=.bool b_∧w=w_) (fun K_ hK_=>?seg) (fun af8 w_ hc_=>?rest)
  case seg=>
   simp only[List.take_succ_cons,List.take_zero,List.take_nil]
   clear HH
   by_cases c30:b24=true
   ·subst c30
    refine MW.ad 57 (.bool true) rfl hs hd rfl rfl (MW.ab_move rfl es7) fun _ hs hd S0 N0=>?_
    refine MW.ak 58 rfl hs hd rfl (MW.ab_want rfl H54 S0 rfl) fun _ hs hd S1 N1=>?_
    refine MW.ak 59 rfl hs hd rfl (MW.ab_want rfl H54 (zN N1 S0) rfl) fun _ hs hd S2 N2=>?_
    refine MW.ad 60 (.bool true) rfl hs hd rfl rfl (MW.ab_pick_t rfl (zN N2 (zN N1 S0)) rfl) fun _ hs hd S3 N3=>?_
    refine MW.ad 61 (.bool true) rfl hs hd rfl rfl (MW.ab_move rfl S3) fun _ hs hd S4 N4=>?_
    refine MW.ak 62 rfl hs hd rfl (MW.ab_want rfl H58 S4 rfl) fun _ hs hd S5 N5=>?_
    refine MW.ak 63 rfl hs hd rfl (MW.ab_want rfl H58 (zN N5 S4) rfl) fun _ hs hd S6 N6=>?_
    refine MW.ak 64 rfl hs hd rfl (MW.ab_want rfl H58 (zN N6 (zN N5 S4)) rfl) fun _ hs hd S7 N7=>?_
    refine MW.ak 65 rfl hs hd rfl (MW.ab_undef rfl H61 S7) fun _ hs hd S8 N8=>?_
    refine MW.ak 66 rfl hs hd rfl (MW.ab_undef rfl H61 (zN N8 S7)) fun _ hs hd S9 N9=>?_
    refine MW.ak 67 rfl hs hd rfl (MW.ab_want rfl H58 (zN N9 (zN N8 (zN N7 (zN N6 (zN N5 S4))))) rfl) fun _ hs hd S10 N10=>?_
    refine MW.ad 68 (.bool true) rfl hs hd rfl rfl (MW.ab_pick_t rfl (zN N10 (zN N9 (zN N8 (zN N7 (zN N6 (zN N5 S4)))))) rfl) fun _ hs hd S11 N11=>?_
    exact wpList_nil (hK_ _ _ (Stop.go ⟨true,Eq.trans (by first|rfl|(rw[];rfl)|(simp[*];done)) hE29.out.symm,hs,hd,(zN N11 (zN N10 (zN N9 (zN N8 (zN N7 (zN N6 (zN N5 (zN N4 (zN N3 (zN N2 (zN N1 (zN N0 ep7)))))))))))),S11,rfl⟩))
   replace c30:=Bool.eq_false_iff.mpr c30
   subst c30
   by_cases c31:a0=180
   ·refine MW.ad 57 (.bool false) rfl hs hd rfl rfl (MW.ab_move rfl es7) fun _ hs hd S0 N0=>?_
    refine MW.ad 58 (.int .i32 a0) rfl hs hd rfl (MW.ab_want rfl H54 S0 rfl) (MW.ab_move rfl (zN N0 ep7)) fun _ hs hd S1 N1=>?_
    refine MW.ad 59 (.bool true) rfl hs hd rfl (MW.ab_want rfl H54 (zN N1 S0) rfl) (MW.ab_cmp_t c31 rfl S1 (by kernel_rfl)) fun _ hs hd S2 N2=>?_
    refine MW.ad 60 (.bool true) rfl hs hd rfl rfl (MW.ab_pick_f rfl (zN N2 (zN N1 S0)) S2) fun _ hs hd S3 N3=>?_
    refine MW.ad 61 (.bool true) rfl hs hd rfl rfl (MW.ab_move rfl S3) fun _ hs hd S4 N4=>?_
    refine MW.ak 62 rfl hs hd rfl (MW.ab_want rfl H58 S4 rfl) fun _ hs hd S5 N5=>?_
    refine MW.ak 63 rfl hs hd rfl (MW.ab_want rfl H58 (zN N5 S4) rfl) fun _ hs hd S6 N6=>?_
    refine MW.ak 64 rfl hs hd rfl (MW.ab_want rfl H58 (zN N6 (zN N5 S4)) rfl) fun _ hs hd S7 N7=>?_
    refine MW.ak 65 rfl hs hd rfl (MW.ab_undef rfl H61 S7) fun _ hs hd S8 N8=>?_
    refine MW.ak 66 rfl hs hd rfl (MW.ab_undef rfl H61 (zN N8 S7)) fun _ hs hd S9 N9=>?_
    refine MW.ak 67 rfl hs hd rfl (MW.ab_want rfl H58 (zN N9 (zN N8 (zN N7 (zN N6 (zN N5 S4))))) rfl) fun _ hs hd S10 N10=>?_
    refine MW.ad 68 (.bool true) rfl hs hd rfl rfl (MW.ab_pick_t rfl (zN N10 (zN N9 (zN N8 (zN N7 (zN N6 (zN N5 S4)))))) rfl) fun _ hs hd S11 N11=>?_
    exact wpList_nil (hK_ _ _ (Stop.go ⟨true,Eq.trans (by first|rfl|(rw[if_pos c31];rfl)|(simp[*];done)) hE29.out.symm,hs,hd,(zN N11 (zN N10 (zN N9 (zN N8 (zN N7 (zN N6 (zN N5 (zN N4 (zN N3 (zN N2 (zN N1 (zN N0 ep7)))))))))))),S11,rfl⟩))
   by_cases c32:a0≥182
   ·refine MW.ad 57 (.bool false) rfl hs hd rfl rfl (MW.ab_move rfl es7) fun _ hs hd S0 N0=>?_
    refine MW.ad 58 (.int .i32 a0) rfl hs hd rfl (MW.ab_want rfl H54 S0 rfl) (MW.ab_move rfl (zN N0 ep7)) fun _ hs hd S1 N1=>?_
    refine MW.ad 59 (.bool false) rfl hs hd rfl (MW.ab_want rfl H54 (zN N1 S0) rfl) (MW.ab_cmp_f c31 rfl S1 (by kernel_rfl)) fun _ hs hd S2 N2=>?_
    refine MW.ad 60 (.bool false) rfl hs hd rfl rfl (MW.ab_pick_f rfl (zN N2 (zN N1 S0)) S2) fun _ hs hd S3 N3=>?_
    refine MW.ad 61 (.bool false) rfl hs hd rfl rfl (MW.ab_move rfl S3) fun _ hs hd S4 N4=>?_
    refine MW.ad 62 (.int .i32 a0) rfl hs hd rfl (MW.ab_want rfl H58 S4 rfl) (MW.ab_move rfl (zN N4 (zN N3 (zN N2 (zN N1 (zN N0 ep7)))))) fun _ hs hd S5 N5=>?_
    refine MW.ad 63 (.bool true) rfl hs hd rfl (MW.ab_want rfl H58 (zN N5 S4) rfl) (MW.ab_cmp_t c32 rfl S5 (by kernel_rfl)) fun _ hs hd S6 N6=>?_
    refine MW.ad 64 (.bool true) rfl hs hd rfl (MW.ab_want rfl H58 (zN N6 (zN N5 S4)) rfl) (MW.ab_move rfl S6) fun _ hs hd S7 N7=>?_
    refine MW.ad 65 (.int .i32 a0) rfl hs hd rfl (MW.ab_want rfl H61 S7 rfl) (MW.ab_move rfl (zN N7 (zN N6 (zN N5 (zN N4 (zN N3 (zN N2 (zN N1 (zN N0 ep7))))))))) fun _ hs hd S8 N8=>?_
    refine MW.ad 66 (.bool (decide (a0≤184))) rfl hs hd rfl (MW.ab_want rfl H61 (zN N8 S7) rfl) (MW.ab_bin rfl S8 (by kernel_rfl)) fun _ hs hd S9 N9=>?_
    refine MW.ad 67 (.bool (decide (a0≤184))) rfl hs hd rfl (MW.ab_want rfl H58 (zN N9 (zN N8 (zN N7 (zN N6 (zN N5 S4))))) rfl) (MW.ab_pick_t rfl (zN N9 (zN N8 S7)) S9) fun _ hs hd S10 N10=>?_
    refine MW.ad 68 (.bool (decide (a0≤184))) rfl hs hd rfl rfl (MW.ab_pick_f rfl (zN N10 (zN N9 (zN N8 (zN N7 (zN N6 (zN N5 S4)))))) S10) fun _ hs hd S11 N11=>?_
    exact wpList_nil (hK_ _ _ (Stop.go ⟨(decide (a0≤184)),Eq.trans (by first|rfl|(rw[if_neg c31,if_pos c32];rfl)|(simp[*];done)) hE29.out.symm,hs,hd,(zN N11 (zN N10 (zN N9 (zN N8 (zN N7 (zN N6 (zN N5 (zN N4 (zN N3 (zN N2 (zN N1 (zN N0 ep7)))))))))))),S11,rfl⟩))
   refine MW.ad 57 (.bool false) rfl hs hd rfl rfl (MW.ab_move rfl es7) fun _ hs hd S0 N0=>?_
   refine MW.ad 58 (.int .i32 a0) rfl hs hd rfl (MW.ab_want rfl H54 S0 rfl) (MW.ab_move rfl (zN N0 ep7)) fun _ hs hd S1 N1=>?_
   refine MW.ad 59 (.bool false) rfl hs hd rfl (MW.ab_want rfl H54 (zN N1 S0) rfl) (MW.ab_cmp_f c31 rfl S1 (by kernel_rfl)) fun _ hs hd S2 N2=>?_
   refine MW.ad 60 (.bool false) rfl hs hd rfl rfl (MW.ab_pick_f rfl (zN N2 (zN N1 S0)) S2) fun _ hs hd S3 N3=>?_
   refine MW.ad 61 (.bool false) rfl hs hd rfl rfl (MW.ab_move rfl S3) fun _ hs hd S4 N4=>?_
   refine MW.ad 62 (.int .i32 a0) rfl hs hd rfl (MW.ab_want rfl H58 S4 rfl) (MW.ab_move rfl (zN N4 (zN N3 (zN N2 (zN N1 (zN N0 ep7)))))) fun _ hs hd S5 N5=>?_
   refine MW.ad 63 (.bool false) rfl hs hd rfl (MW.ab_want rfl H58 (zN N5 S4) rfl) (MW.ab_cmp_f c32 rfl S5 (by kernel_rfl)) fun _ hs hd S6 N6=>?_
   refine MW.ad 64 (.bool false) rfl hs hd rfl (MW.ab_want rfl H58 (zN N6 (zN N5 S4)) rfl) (MW.ab_move rfl S6) fun _ hs hd S7 N7=>?_
   refine MW.ak 65 rfl hs hd rfl (MW.ab_want rfl H61 S7 rfl) fun _ hs hd S8 N8=>?_
   refine MW.ak 66 rfl hs hd rfl (MW.ab_want rfl H61 (zN N8 S7) rfl) fun _ hs hd S9 N9=>?_
   refine MW.ad 67 (.bool false) rfl hs hd rfl (MW.ab_want rfl H58 (zN N9 (zN N8 (zN N7 (zN N6 (zN N5 S4))))) rfl) (MW.ab_pick_f rfl (zN N9 (zN N8 S7)) rfl) fun _ hs hd S10 N10=>?_
   refine MW.ad 68 (.bool false) rfl hs hd rfl rfl (MW.ab_pick_f rfl (zN N10 (zN N9 (zN N8 (zN N7 (zN N6 (zN N5 S4)))))) S10) fun _ hs hd S11 N11=>?_
   exact wpList_nil (hK_ _ _ (Stop.go ⟨false,Eq.trans (by first|rfl|(rw[if_neg c31,if_neg c32];rfl)|(simp[*];done)) hE29.out.symm,hs,hd,(zN N11 (zN N10 (zN N9 (zN N8 (zN N7 (zN N6 (zN N5 (zN N4 (zN N3 (zN N2 (zN N1 (zN N0 ep7)))))))))))),S11,rfl⟩))
  case rest=>
   clear hs hd ep7 es7
   obtain⟨b28,hb_,hs,hd,ep8,es8,rfl⟩:=hc_
   simp only[List.drop_succ_cons,List.drop_zero,List.drop_nil]
   have H:=MW.bind_step HH.out (hb_.trans hE29.out)
   replace HH:=za H
   clear H hb_ hE29
   obtain⟨E34,hE34⟩:∃ e_:Bool,e_=(if b28=true then(true) else(if a0≥187 then((decide (a0≤191))) else(false))):=⟨_,rfl⟩
   replace hE34:=za hE34
   refine MW.list_cut 8 (fun a_ w_=>∃ b_:Bool,b_=E34∧a_.tmps.size=133∧a_.defers=[]∧a_.eval (.tmp 0)=.int .i32 a0∧a_.eval (.tmp 76)=.bool b_∧w=w_) (fun K_ hK_=>?seg) (fun af9 w_ hc_=>?rest)
   case seg=>
    simp only[List.take_succ_cons,List.take_zero,List.take_nil]
    clear HH
    by_cases c35:b28=true
    ·subst c35
     refine MW.ad 69 (.bool true) rfl hs hd rfl rfl (MW.ab_move rfl es8) fun _ hs hd S0 N0=>?_
     refine MW.ak 70 rfl hs hd rfl (MW.ab_want rfl H66 S0 rfl) fun _ hs hd S1 N1=>?_
     refine MW.ak 71 rfl hs hd rfl (MW.ab_want rfl H66 (zN N1 S0) rfl) fun _ hs hd S2 N2=>?_
     refine MW.ak 72 rfl hs hd rfl (MW.ab_want rfl H66 (zN N2 (zN N1 S0)) rfl) fun _ hs hd S3 N3=>?_
     refine MW.ak 73 rfl hs hd rfl (MW.ab_undef rfl H69 S3) fun _ hs hd S4 N4=>?_
     refine MW.ak 74 rfl hs hd rfl (MW.ab_undef rfl H69 (zN N4 S3)) fun _ hs hd S5 N5=>?_
     refine MW.ak 75 rfl hs hd rfl (MW.ab_want rfl H66 (zN N5 (zN N4 (zN N3 (zN N2 (zN N1 S0))))) rfl) fun _ hs hd S6 N6=>?_
     refine MW.ad 76 (.bool true) rfl hs hd rfl rfl (MW.ab_pick_t rfl (zN N6 (zN N5 (zN N4 (zN N3 (zN N2 (zN N1 S0)))))) rfl) fun _ hs hd S7 N7=>?_
     exact wpList_nil (hK_ _ _ (Stop.go ⟨true,Eq.trans (by first|rfl|(rw[];rfl)|(simp[*];done)) hE34.out.symm,hs,hd,(zN N7 (zN N6 (zN N5 (zN N4 (zN N3 (zN N2 (zN N1 (zN N0 ep8)))))))),S7,rfl⟩))
    replace c35:=Bool.eq_false_iff.mpr c35
    subst c35
    by_cases c36:a0≥187
    ·refine MW.ad 69 (.bool false) rfl hs hd rfl rfl (MW.ab_move rfl es8) fun _ hs hd S0 N0=>?_
     refine MW.ad 70 (.int .i32 a0) rfl hs hd rfl (MW.ab_want rfl H66 S0 rfl) (MW.ab_move rfl (zN N0 ep8)) fun _ hs hd S1 N1=>?_
     refine MW.ad 71 (.bool true) rfl hs hd rfl (MW.ab_want rfl H66 (zN N1 S0) rfl) (MW.ab_cmp_t c36 rfl S1 (by kernel_rfl)) fun _ hs hd S2 N2=>?_
     refine MW.ad 72 (.bool true) rfl hs hd rfl (MW.ab_want rfl H66 (zN N2 (zN N1 S0)) rfl) (MW.ab_move rfl S2) fun _ hs hd S3 N3=>?_
     refine MW.ad 73 (.int .i32 a0) rfl hs hd rfl (MW.ab_want rfl H69 S3 rfl) (MW.ab_move rfl (zN N3 (zN N2 (zN N1 (zN N0 ep8))))) fun _ hs hd S4 N4=>?_
     refine MW.ad 74 (.bool (decide (a0≤191))) rfl hs hd rfl (MW.ab_want rfl H69 (zN N4 S3) rfl) (MW.ab_bin rfl S4 (by kernel_rfl)) fun _ hs hd S5 N5=>?_
     refine MW.ad 75 (.bool (decide (a0≤191))) rfl hs hd rfl (MW.ab_want rfl H66 (zN N5 (zN N4 (zN N3 (zN N2 (zN N1 S0))))) rfl) (MW.ab_pick_t rfl (zN N5 (zN N4 S3)) S5) fun _ hs hd S6 N6=>?_
     refine MW.ad 76 (.bool (decide (a0≤191))) rfl hs hd rfl rfl (MW.ab_pick_f rfl (zN N6 (zN N5 (zN N4 (zN N3 (zN N2 (zN N1 S0)))))) S6) fun _ hs hd S7 N7=>?_
     exact wpList_nil (hK_ _ _ (Stop.go ⟨(decide (a0≤191)),Eq.trans (by first|rfl|(rw[if_pos c36];rfl)|(simp[*];done)) hE34.out.symm,hs,hd,(zN N7 (zN N6 (zN N5 (zN N4 (zN N3 (zN N2 (zN N1 (zN N0 ep8)))))))),S7,rfl⟩))
    refine MW.ad 69 (.bool false) rfl hs hd rfl rfl (MW.ab_move rfl es8) fun _ hs hd S0 N0=>?_
    refine MW.ad 70 (.int .i32 a0) rfl hs hd rfl (MW.ab_want rfl H66 S0 rfl) (MW.ab_move rfl (zN N0 ep8)) fun _ hs hd S1 N1=>?_
    refine MW.ad 71 (.bool false) rfl hs hd rfl (MW.ab_want rfl H66 (zN N1 S0) rfl) (MW.ab_cmp_f c36 rfl S1 (by kernel_rfl)) fun _ hs hd S2 N2=>?_
    refine MW.ad 72 (.bool false) rfl hs hd rfl (MW.ab_want rfl H66 (zN N2 (zN N1 S0)) rfl) (MW.ab_move rfl S2) fun _ hs hd S3 N3=>?_
    refine MW.ak 73 rfl hs hd rfl (MW.ab_want rfl H69 S3 rfl) fun _ hs hd S4 N4=>?_
    refine MW.ak 74 rfl hs hd rfl (MW.ab_want rfl H69 (zN N4 S3) rfl) fun _ hs hd S5 N5=>?_
    refine MW.ad 75 (.bool false) rfl hs hd rfl (MW.ab_want rfl H66 (zN N5 (zN N4 (zN N3 (zN N2 (zN N1 S0))))) rfl) (MW.ab_pick_f rfl (zN N5 (zN N4 S3)) rfl) fun _ hs hd S6 N6=>?_
    refine MW.ad 76 (.bool false) rfl hs hd rfl rfl (MW.ab_pick_f rfl (zN N6 (zN N5 (zN N4 (zN N3 (zN N2 (zN N1 S0)))))) S6) fun _ hs hd S7 N7=>?_
    exact wpList_nil (hK_ _ _ (Stop.go ⟨false,Eq.trans (by first|rfl|(rw[if_neg c36];rfl)|(simp[*];done)) hE34.out.symm,hs,hd,(zN N7 (zN N6 (zN N5 (zN N4 (zN N3 (zN N2 (zN N1 (zN N0 ep8)))))))),S7,rfl⟩))
   case rest=>
    clear hs hd ep8 es8
    obtain⟨b33,hb_,hs,hd,ep9,es9,rfl⟩:=hc_
    simp only[List.drop_succ_cons,List.drop_zero,List.drop_nil]
    have H:=MW.bind_step HH.out (hb_.trans hE34.out)
    replace HH:=za H
    clear H hb_ hE34
    obtain⟨E38,hE38⟩:∃ e_:Bool,e_=(if b33=true then(true) else(if a0=215 then(true) else((a0==247)))):=⟨_,rfl⟩
    replace hE38:=za hE38
    refine MW.list_cut 8 (fun a_ w_=>∃ b_:Bool,b_=E38∧a_.tmps.size=133∧a_.defers=[]∧a_.eval (.tmp 0)=.int .i32 a0∧a_.eval (.tmp 84)=.bool b_∧w=w_) (fun K_ hK_=>?seg) (fun af10 w_ hc_=>?rest)
    case seg=>
     simp only[List.take_succ_cons,List.take_zero,List.take_nil]
     clear HH
     by_cases c39:b33=true
     ·subst c39
      refine MW.ad 77 (.bool true) rfl hs hd rfl rfl (MW.ab_move rfl es9) fun _ hs hd S0 N0=>?_
      refine MW.ak 78 rfl hs hd rfl (MW.ab_want rfl H74 S0 rfl) fun _ hs hd S1 N1=>?_
      refine MW.ak 79 rfl hs hd rfl (MW.ab_want rfl H74 (zN N1 S0) rfl) fun _ hs hd S2 N2=>?_
      refine MW.ad 80 (.bool true) rfl hs hd rfl rfl (MW.ab_pick_t rfl (zN N2 (zN N1 S0)) rfl) fun _ hs hd S3 N3=>?_
      refine MW.ad 81 (.bool true) rfl hs hd rfl rfl (MW.ab_move rfl S3) fun _ hs hd S4 N4=>?_
      refine MW.ak 82 rfl hs hd rfl (MW.ab_want rfl H78 S4 rfl) fun _ hs hd S5 N5=>?_
      refine MW.ak 83 rfl hs hd rfl (MW.ab_want rfl H78 (zN N5 S4) rfl) fun _ hs hd S6 N6=>?_
      refine MW.ad 84 (.bool true) rfl hs hd rfl rfl (MW.ab_pick_t rfl (zN N6 (zN N5 S4)) rfl) fun _ hs hd S7 N7=>?_
      exact wpList_nil (hK_ _ _ (Stop.go ⟨true,Eq.trans (by first|rfl|(rw[];rfl)|(simp[*];done)) hE38.out.symm,hs,hd,(zN N7 (zN N6 (zN N5 (zN N4 (zN N3 (zN N2 (zN N1 (zN N0 ep9)))))))),S7,rfl⟩))
     replace c39:=Bool.eq_false_iff.mpr c39
     subst c39
     by_cases c40:a0=215
     ·refine MW.ad 77 (.bool false) rfl hs hd rfl rfl (MW.ab_move rfl es9) fun _ hs hd S0 N0=>?_
      refine MW.ad 78 (.int .i32 a0) rfl hs hd rfl (MW.ab_want rfl H74 S0 rfl) (MW.ab_move rfl (zN N0 ep9)) fun _ hs hd S1 N1=>?_
      refine MW.ad 79 (.bool true) rfl hs hd rfl (MW.ab_want rfl H74 (zN N1 S0) rfl) (MW.ab_cmp_t c40 rfl S1 (by kernel_rfl)) fun _ hs hd S2 N2=>?_
      refine MW.ad 80 (.bool true) rfl hs hd rfl rfl (MW.ab_pick_f rfl (zN N2 (zN N1 S0)) S2) fun _ hs hd S3 N3=>?_
      refine MW.ad 81 (.bool true) rfl hs hd rfl rfl (MW.ab_move rfl S3) fun _ hs hd S4 N4=>?_
      refine MW.ak 82 rfl hs hd rfl (MW.ab_want rfl H78 S4 rfl) fun _ hs hd S5 N5=>?_
      refine MW.ak 83 rfl hs hd rfl (MW.ab_want rfl H78 (zN N5 S4) rfl) fun _ hs hd S6 N6=>?_
      refine MW.ad 84 (.bool true) rfl hs hd rfl rfl (MW.ab_pick_t rfl (zN N6 (zN N5 S4)) rfl) fun _ hs hd S7 N7=>?_
      exact wpList_nil (hK_ _ _ (Stop.go ⟨true,Eq.trans (by first|rfl|(rw[if_pos c40];rfl)|(simp[*];done)) hE38.out.symm,hs,hd,(zN N7 (zN N6 (zN N5 (zN N4 (zN N3 (zN N2 (zN N1 (zN N0 ep9)))))))),S7,rfl⟩))
     refine MW.ad 77 (.bool false) rfl hs hd rfl rfl (MW.ab_move rfl es9) fun _ hs hd S0 N0=>?_
     refine MW.ad 78 (.int .i32 a0) rfl hs hd rfl (MW.ab_want rfl H74 S0 rfl) (MW.ab_move rfl (zN N0 ep9)) fun _ hs hd S1 N1=>?_
     refine MW.ad 79 (.bool false) rfl hs hd rfl (MW.ab_want rfl H74 (zN N1 S0) rfl) (MW.ab_cmp_f c40 rfl S1 (by kernel_rfl)) fun _ hs hd S2 N2=>?_
     refine MW.ad 80 (.bool false) rfl hs hd rfl rfl (MW.ab_pick_f rfl (zN N2 (zN N1 S0)) S2) fun _ hs hd S3 N3=>?_
     refine MW.ad 81 (.bool false) rfl hs hd rfl rfl (MW.ab_move rfl S3) fun _ hs hd S4 N4=>?_
     refine MW.ad 82 (.int .i32 a0) rfl hs hd rfl (MW.ab_want rfl H78 S4 rfl) (MW.ab_move rfl (zN N4 (zN N3 (zN N2 (zN N1 (zN N0 ep9)))))) fun _ hs hd S5 N5=>?_
     refine MW.ad 83 (.bool (a0==247)) rfl hs hd rfl (MW.ab_want rfl H78 (zN N5 S4) rfl) (MW.ab_bin rfl S5 (by kernel_rfl)) fun _ hs hd S6 N6=>?_
     refine MW.ad 84 (.bool (a0==247)) rfl hs hd rfl rfl (MW.ab_pick_f rfl (zN N6 (zN N5 S4)) S6) fun _ hs hd S7 N7=>?_
     exact wpList_nil (hK_ _ _ (Stop.go ⟨(a0==247),Eq.trans (by first|rfl|(rw[if_neg c40];rfl)|(simp[*];done)) hE38.out.symm,hs,hd,(zN N7 (zN N6 (zN N5 (zN N4 (zN N3 (zN N2 (zN N1 (zN N0 ep9)))))))),S7,rfl⟩))
    case rest=>
     clear hs hd ep9 es9
     obtain⟨b37,hb_,hs,hd,ep10,es10,rfl⟩:=hc_
     simp only[List.drop_succ_cons,List.drop_zero,List.drop_nil]
     have H:=MW.bind_step HH.out (hb_.trans hE38.out)
     replace HH:=za H
     clear H hb_ hE38
     obtain⟨E42,hE42⟩:∃ e_:Bool,e_=(if b37=true then(true) else(if a0≥8208 then((decide (a0≤8209))) else(false))):=⟨_,rfl⟩
     replace hE42:=za hE42
     refine MW.list_cut 8 (fun a_ w_=>∃ b_:Bool,b_=E42∧a_.tmps.size=133∧a_.defers=[]∧a_.eval (.tmp 0)=.int .i32 a0∧a_.eval (.tmp 92)=.bool b_∧w=w_) (fun K_ hK_=>?seg) (fun af11 w_ hc_=>?rest)
     case seg=>
      simp only[List.take_succ_cons,List.take_zero,List.take_nil]
      clear HH
      by_cases c43:b37=true
      ·subst c43
       refine MW.ad 85 (.bool true) rfl hs hd rfl rfl (MW.ab_move rfl es10) fun _ hs hd S0 N0=>?_
       refine MW.ak 86 rfl hs hd rfl (MW.ab_want rfl H82 S0 rfl) fun _ hs hd S1 N1=>?_
       refine MW.ak 87 rfl hs hd rfl (MW.ab_want rfl H82 (zN N1 S0) rfl) fun _ hs hd S2 N2=>?_
       refine MW.ak 88 rfl hs hd rfl (MW.ab_want rfl H82 (zN N2 (zN N1 S0)) rfl) fun _ hs hd S3 N3=>?_
       refine MW.ak 89 rfl hs hd rfl (MW.ab_undef rfl H85 S3) fun _ hs hd S4 N4=>?_
       refine MW.ak 90 rfl hs hd rfl (MW.ab_undef rfl H85 (zN N4 S3)) fun _ hs hd S5 N5=>?_
       refine MW.ak 91 rfl hs hd rfl (MW.ab_want rfl H82 (zN N5 (zN N4 (zN N3 (zN N2 (zN N1 S0))))) rfl) fun _ hs hd S6 N6=>?_
       refine MW.ad 92 (.bool true) rfl hs hd rfl rfl (MW.ab_pick_t rfl (zN N6 (zN N5 (zN N4 (zN N3 (zN N2 (zN N1 S0)))))) rfl) fun _ hs hd S7 N7=>?_
       exact wpList_nil (hK_ _ _ (Stop.go ⟨true,Eq.trans (by first|rfl|(rw[];rfl)|(simp[*];done)) hE42.out.symm,hs,hd,(zN N7 (zN N6 (zN N5 (zN N4 (zN N3 (zN N2 (zN N1 (zN N0 ep10)))))))),S7,rfl⟩))
      replace c43:=Bool.eq_false_iff.mpr c43
      subst c43
      by_cases c44:a0≥8208
      ·refine MW.ad 85 (.bool false) rfl hs hd rfl rfl (MW.ab_move rfl es10) fun _ hs hd S0 N0=>?_
       refine MW.ad 86 (.int .i32 a0) rfl hs hd rfl (MW.ab_want rfl H82 S0 rfl) (MW.ab_move rfl (zN N0 ep10)) fun _ hs hd S1 N1=>?_
       refine MW.ad 87 (.bool true) rfl hs hd rfl (MW.ab_want rfl H82 (zN N1 S0) rfl) (MW.ab_cmp_t c44 rfl S1 (by kernel_rfl)) fun _ hs hd S2 N2=>?_
       refine MW.ad 88 (.bool true) rfl hs hd rfl (MW.ab_want rfl H82 (zN N2 (zN N1 S0)) rfl) (MW.ab_move rfl S2) fun _ hs hd S3 N3=>?_
       refine MW.ad 89 (.int .i32 a0) rfl hs hd rfl (MW.ab_want rfl H85 S3 rfl) (MW.ab_move rfl (zN N3 (zN N2 (zN N1 (zN N0 ep10))))) fun _ hs hd S4 N4=>?_
       refine MW.ad 90 (.bool (decide (a0≤8209))) rfl hs hd rfl (MW.ab_want rfl H85 (zN N4 S3) rfl) (MW.ab_bin rfl S4 (by kernel_rfl)) fun _ hs hd S5 N5=>?_
       refine MW.ad 91 (.bool (decide (a0≤8209))) rfl hs hd rfl (MW.ab_want rfl H82 (zN N5 (zN N4 (zN N3 (zN N2 (zN N1 S0))))) rfl) (MW.ab_pick_t rfl (zN N5 (zN N4 S3)) S5) fun _ hs hd S6 N6=>?_
       refine MW.ad 92 (.bool (decide (a0≤8209))) rfl hs hd rfl rfl (MW.ab_pick_f rfl (zN N6 (zN N5 (zN N4 (zN N3 (zN N2 (zN N1 S0)))))) S6) fun _ hs hd S7 N7=>?_
       exact wpList_nil (hK_ _ _ (Stop.go ⟨(decide (a0≤8209)),Eq.trans (by first|rfl|(rw[if_pos c44];rfl)|(simp[*];done)) hE42.out.symm,hs,hd,(zN N7 (zN N6 (zN N5 (zN N4 (zN N3 (zN N2 (zN N1 (zN N0 ep10)))))))),S7,rfl⟩))
      refine MW.ad 85 (.bool false) rfl hs hd rfl rfl (MW.ab_move rfl es10) fun _ hs hd S0 N0=>?_
      refine MW.ad 86 (.int .i32 a0) rfl hs hd rfl (MW.ab_want rfl H82 S0 rfl) (MW.ab_move rfl (zN N0 ep10)) fun _ hs hd S1 N1=>?_
      refine MW.ad 87 (.bool false) rfl hs hd rfl (MW.ab_want rfl H82 (zN N1 S0) rfl) (MW.ab_cmp_f c44 rfl S1 (by kernel_rfl)) fun _ hs hd S2 N2=>?_
      refine MW.ad 88 (.bool false) rfl hs hd rfl (MW.ab_want rfl H82 (zN N2 (zN N1 S0)) rfl) (MW.ab_move rfl S2) fun _ hs hd S3 N3=>?_
      refine MW.ak 89 rfl hs hd rfl (MW.ab_want rfl H85 S3 rfl) fun _ hs hd S4 N4=>?_
      refine MW.ak 90 rfl hs hd rfl (MW.ab_want rfl H85 (zN N4 S3) rfl) fun _ hs hd S5 N5=>?_
      refine MW.ad 91 (.bool false) rfl hs hd rfl (MW.ab_want rfl H82 (zN N5 (zN N4 (zN N3 (zN N2 (zN N1 S0))))) rfl) (MW.ab_pick_f rfl (zN N5 (zN N4 S3)) rfl) fun _ hs hd S6 N6=>?_
      refine MW.ad 92 (.bool false) rfl hs hd rfl rfl (MW.ab_pick_f rfl (zN N6 (zN N5 (zN N4 (zN N3 (zN N2 (zN N1 S0)))))) S6) fun _ hs hd S7 N7=>?_
      exact wpList_nil (hK_ _ _ (Stop.go ⟨false,Eq.trans (by first|rfl|(rw[if_neg c44];rfl)|(simp[*];done)) hE42.out.symm,hs,hd,(zN N7 (zN N6 (zN N5 (zN N4 (zN N3 (zN N2 (zN N1 (zN N0 ep10)))))))),S7,rfl⟩))
     case rest=>
      clear hs hd ep10 es10
      obtain⟨b41,hb_,hs,hd,ep11,es11,rfl⟩:=hc_
      simp only[List.drop_succ_cons,List.drop_zero,List.drop_nil]
      have H:=MW.bind_step HH.out (hb_.trans hE42.out)
      replace HH:=za H
      clear H hb_ hE42
      obtain⟨E46,hE46⟩:∃ e_:Bool,e_=(if b41=true then(true) else(if a0=8260 then(true) else((a0==8722)))):=⟨_,rfl⟩
      replace hE46:=za hE46
      refine MW.list_cut 8 (fun a_ w_=>∃ b_:Bool,b_=E46∧a_.tmps.size=133∧a_.defers=[]∧a_.eval (.tmp 0)=.int .i32 a0∧a_.eval (.tmp 100)=.bool b_∧w=w_) (fun K_ hK_=>?seg) (fun af12 w_ hc_=>?rest)
      case seg=>
       simp only[List.take_succ_cons,List.take_zero,List.take_nil]
       clear HH
       by_cases c47:b41=true
       ·subst c47
        refine MW.ad 93 (.bool true) rfl hs hd rfl rfl (MW.ab_move rfl es11) fun _ hs hd S0 N0=>?_
        refine MW.ak 94 rfl hs hd rfl (MW.ab_want rfl H90 S0 rfl) fun _ hs hd S1 N1=>?_
        refine MW.ak 95 rfl hs hd rfl (MW.ab_want rfl H90 (zN N1 S0) rfl) fun _ hs hd S2 N2=>?_
        refine MW.ad 96 (.bool true) rfl hs hd rfl rfl (MW.ab_pick_t rfl (zN N2 (zN N1 S0)) rfl) fun _ hs hd S3 N3=>?_
        refine MW.ad 97 (.bool true) rfl hs hd rfl rfl (MW.ab_move rfl S3) fun _ hs hd S4 N4=>?_
        refine MW.ak 98 rfl hs hd rfl (MW.ab_want rfl H94 S4 rfl) fun _ hs hd S5 N5=>?_
        refine MW.ak 99 rfl hs hd rfl (MW.ab_want rfl H94 (zN N5 S4) rfl) fun _ hs hd S6 N6=>?_
        refine MW.ad 100 (.bool true) rfl hs hd rfl rfl (MW.ab_pick_t rfl (zN N6 (zN N5 S4)) rfl) fun _ hs hd S7 N7=>?_
        exact wpList_nil (hK_ _ _ (Stop.go ⟨true,Eq.trans (by first|rfl|(rw[];rfl)|(simp[*];done)) hE46.out.symm,hs,hd,(zN N7 (zN N6 (zN N5 (zN N4 (zN N3 (zN N2 (zN N1 (zN N0 ep11)))))))),S7,rfl⟩))
       replace c47:=Bool.eq_false_iff.mpr c47
       subst c47
       by_cases c48:a0=8260
       ·refine MW.ad 93 (.bool false) rfl hs hd rfl rfl (MW.ab_move rfl es11) fun _ hs hd S0 N0=>?_
        refine MW.ad 94 (.int .i32 a0) rfl hs hd rfl (MW.ab_want rfl H90 S0 rfl) (MW.ab_move rfl (zN N0 ep11)) fun _ hs hd S1 N1=>?_
        refine MW.ad 95 (.bool true) rfl hs hd rfl (MW.ab_want rfl H90 (zN N1 S0) rfl) (MW.ab_cmp_t c48 rfl S1 (by kernel_rfl)) fun _ hs hd S2 N2=>?_
        refine MW.ad 96 (.bool true) rfl hs hd rfl rfl (MW.ab_pick_f rfl (zN N2 (zN N1 S0)) S2) fun _ hs hd S3 N3=>?_
        refine MW.ad 97 (.bool true) rfl hs hd rfl rfl (MW.ab_move rfl S3) fun _ hs hd S4 N4=>?_
        refine MW.ak 98 rfl hs hd rfl (MW.ab_want rfl H94 S4 rfl) fun _ hs hd S5 N5=>?_
        refine MW.ak 99 rfl hs hd rfl (MW.ab_want rfl H94 (zN N5 S4) rfl) fun _ hs hd S6 N6=>?_
        refine MW.ad 100 (.bool true) rfl hs hd rfl rfl (MW.ab_pick_t rfl (zN N6 (zN N5 S4)) rfl) fun _ hs hd S7 N7=>?_
        exact wpList_nil (hK_ _ _ (Stop.go ⟨true,Eq.trans (by first|rfl|(rw[if_pos c48];rfl)|(simp[*];done)) hE46.out.symm,hs,hd,(zN N7 (zN N6 (zN N5 (zN N4 (zN N3 (zN N2 (zN N1 (zN N0 ep11)))))))),S7,rfl⟩))
       refine MW.ad 93 (.bool false) rfl hs hd rfl rfl (MW.ab_move rfl es11) fun _ hs hd S0 N0=>?_
       refine MW.ad 94 (.int .i32 a0) rfl hs hd rfl (MW.ab_want rfl H90 S0 rfl) (MW.ab_move rfl (zN N0 ep11)) fun _ hs hd S1 N1=>?_
       refine MW.ad 95 (.bool false) rfl hs hd rfl (MW.ab_want rfl H90 (zN N1 S0) rfl) (MW.ab_cmp_f c48 rfl S1 (by kernel_rfl)) fun _ hs hd S2 N2=>?_
       refine MW.ad 96 (.bool false) rfl hs hd rfl rfl (MW.ab_pick_f rfl (zN N2 (zN N1 S0)) S2) fun _ hs hd S3 N3=>?_
       refine MW.ad 97 (.bool false) rfl hs hd rfl rfl (MW.ab_move rfl S3) fun _ hs hd S4 N4=>?_
       refine MW.ad 98 (.int .i32 a0) rfl hs hd rfl (MW.ab_want rfl H94 S4 rfl) (MW.ab_move rfl (zN N4 (zN N3 (zN N2 (zN N1 (zN N0 ep11)))))) fun _ hs hd S5 N5=>?_
       refine MW.ad 99 (.bool (a0==8722)) rfl hs hd rfl (MW.ab_want rfl H94 (zN N5 S4) rfl) (MW.ab_bin rfl S5 (by kernel_rfl)) fun _ hs hd S6 N6=>?_
       refine MW.ad 100 (.bool (a0==8722)) rfl hs hd rfl rfl (MW.ab_pick_f rfl (zN N6 (zN N5 S4)) S6) fun _ hs hd S7 N7=>?_
       exact wpList_nil (hK_ _ _ (Stop.go ⟨(a0==8722),Eq.trans (by first|rfl|(rw[if_neg c48];rfl)|(simp[*];done)) hE46.out.symm,hs,hd,(zN N7 (zN N6 (zN N5 (zN N4 (zN N3 (zN N2 (zN N1 (zN N0 ep11)))))))),S7,rfl⟩))
      case rest=>
       clear hs hd ep11 es11
       obtain⟨b45,hb_,hs,hd,ep12,es12,rfl⟩:=hc_
       simp only[List.drop_succ_cons,List.drop_zero,List.drop_nil]
       have H:=MW.bind_step HH.out (hb_.trans hE46.out)
       replace HH:=za H
       clear H hb_ hE46
       exact wpList_nil (hKC_ _ _ (Stop.go ⟨b45,HH.out,hs,hd,ep12,es12,rfl⟩))
theorem chars_sign.p0 {Q:Exit→Act→World→Prop} (OPS:Array Oper) (hO:OPS=chars_sign.ops.toArray) (a0:Int) (r:Bool) (w:World) (af0:Act) (hs:af0.tmps.size=133) (hd:af0.defers=[]) (ep0:af0.eval (.tmp 0)=.int .i32 a0) (h:((some (if a0≥33 then((decide (a0≤47))) else(false):Bool)).bind fun b1=>((some (if b1=true then(true) else(if a0≥58 then((decide (a0≤64))) else(false)):Bool)).bind fun b4=>((some (if b4=true then(true) else(if a0≥91 then((decide (a0≤96))) else(false)):Bool)).bind fun b8=>((some (if b8=true then(true) else(if a0≥123 then((decide (a0≤126))) else(false)):Bool)).bind fun b12=>((some (if b12=true then(true) else(if a0≥161 then((decide (a0≤169))) else(false)):Bool)).bind fun b16=>((some (if b16=true then(true) else(if a0≥171 then((decide (a0≤172))) else(false)):Bool)).bind fun b20=>((some (if b20=true then(true) else(if a0≥174 then((decide (a0≤177))) else(false)):Bool)).bind fun b24=>((some (if b24=true then(true) else(if a0=180 then(true) else(if a0≥182 then((decide (a0≤184))) else(false))):Bool)).bind fun b28=>((some (if b28=true then(true) else(if a0≥187 then((decide (a0≤191))) else(false)):Bool)).bind fun b33=>((some (if b33=true then(true) else(if a0=215 then(true) else((a0==247))):Bool)).bind fun b37=>((some (if b37=true then(true) else(if a0≥8208 then((decide (a0≤8209))) else(false)):Bool)).bind fun b41=>((some (if b41=true then(true) else(if a0=8260 then(true) else((a0==8722))):Bool)).bind fun b45=>((some (if b45=true then(true) else(if a0≥65281 then((decide (a0≤65295))) else(false)):Bool)).bind fun b49=>((some (if b49=true then(true) else(if a0≥65306 then((decide (a0≤65312))) else(false)):Bool)).bind fun b53=>((some (if b53=true then(true) else(if a0≥65339 then((decide (a0≤65344))) else(false)):Bool)).bind fun b57=>((some (if b57=true then(true) else(if a0≥65371 then((decide (a0≤65374))) else(false)):Bool)).bind fun b61=>(some b61)))))))))))))))))=some r) (fin:∀ a':Act,a'.tmps.size=133→a'.defers=[]→a'.eval (.tmp 2)=.bool r→Q .normal a' w):wpList Try.prog OPS Q (chars_sign.ops.drop 0) af0 w:=by
 have HH:=za h
 clear h
 have H2:(OPS[2]?).bind (·.dst)=some 5:=by rw[hO];rfl
 have H6:(OPS[6]?).bind (·.dst)=some 9:=by rw[hO];rfl
 have H9:(OPS[9]?).bind (·.dst)=some 12:=by rw[hO];rfl
 have H14:(OPS[14]?).bind (·.dst)=some 17:=by rw[hO];rfl
 have H17:(OPS[17]?).bind (·.dst)=some 20:=by rw[hO];rfl
 have H22:(OPS[22]?).bind (·.dst)=some 25:=by rw[hO];rfl
 have H25:(OPS[25]?).bind (·.dst)=some 28:=by rw[hO];rfl
 have H30:(OPS[30]?).bind (·.dst)=some 33:=by rw[hO];rfl
 have H33:(OPS[33]?).bind (·.dst)=some 36:=by rw[hO];rfl
 have H38:(OPS[38]?).bind (·.dst)=some 41:=by rw[hO];rfl
 have H41:(OPS[41]?).bind (·.dst)=some 44:=by rw[hO];rfl
 replace hO:=(Stop.go hO:Stop _ (.mk _))
 replace fin:=(Stop.go fin:Stop _ (.mk _))
 refine MW.list_cut 46 (fun a_ w_=>∃ b20:Bool,((some (if b20=true then(true) else(if a0≥174 then((decide (a0≤177))) else(false)):Bool)).bind fun b24=>((some (if b24=true then(true) else(if a0=180 then(true) else(if a0≥182 then((decide (a0≤184))) else(false))):Bool)).bind fun b28=>((some (if b28=true then(true) else(if a0≥187 then((decide (a0≤191))) else(false)):Bool)).bind fun b33=>((some (if b33=true then(true) else(if a0=215 then(true) else((a0==247))):Bool)).bind fun b37=>((some (if b37=true then(true) else(if a0≥8208 then((decide (a0≤8209))) else(false)):Bool)).bind fun b41=>((some (if b41=true then(true) else(if a0=8260 then(true) else((a0==8722))):Bool)).bind fun b45=>((some (if b45=true then(true) else(if a0≥65281 then((decide (a0≤65295))) else(false)):Bool)).bind fun b49=>((some (if b49=true then(true) else(if a0≥65306 then((decide (a0≤65312))) else(false)):Bool)).bind fun b53=>((some (if b53=true then(true) else(if a0≥65339 then((decide (a0≤65344))) else(false)):Bool)).bind fun b57=>((some (if b57=true then(true) else(if a0≥65371 then((decide (a0≤65374))) else(false)):Bool)).bind fun b61=>(some b61)))))))))))=some r∧a_.tmps.size=133∧a_.defers=[]∧a_.eval (.tmp 0)=.int .i32 a0∧a_.eval (.tmp 48)=.bool b20∧w=w_) (fun KC_ hKC_=>?chunk) (fun a_ w_ hc_=>?next)
 case next=>
  obtain⟨b_,hb_,hs,hd,ep,es,rfl⟩:=hc_
  rw[List.drop_drop]
  exact chars_sign.p1 OPS hO.out a0 r _ _ b_ hs hd ep es hb_ fin.out
 simp only[chars_sign.ops,Try.f26,List.append_eq,List.cons_append,List.nil_append,List.drop_succ_cons,List.drop_zero,List.take_succ_cons,List.take_zero]
 obtain⟨E2,hE2⟩:∃ e_:Bool,e_=(if a0≥33 then((decide (a0≤47))) else(false)):=⟨_,rfl⟩
 replace hE2:=za hE2
 refine MW.list_cut 6 (fun a_ w_=>∃ b_:Bool,b_=E2∧a_.tmps.size=133∧a_.defers=[]∧a_.eval (.tmp 0)=.int .i32 a0∧a_.eval (.tmp 8)=.bool b_∧w=w_) (fun K_ hK_=>?seg) (fun af1 w_ hc_=>?rest)
 case seg=>
  simp only[List.take_succ_cons,List.take_zero,List.take_nil]
  clear HH
  by_cases c3:a0≥33
  ·refine MW.ad 3 (.int .i32 a0) rfl hs hd rfl rfl (MW.ab_move rfl ep0) fun _ hs hd S0 N0=>?_
   refine MW.ad 4 (.bool true) rfl hs hd rfl rfl (MW.ab_cmp_t c3 rfl S0 (by kernel_rfl)) fun _ hs hd S1 N1=>?_
   refine MW.ad 5 (.bool true) rfl hs hd rfl rfl (MW.ab_move rfl S1) fun _ hs hd S2 N2=>?_
   refine MW.ad 6 (.int .i32 a0) rfl hs hd rfl (MW.ab_want rfl H2 S2 rfl) (MW.ab_move rfl (zN N2 (zN N1 (zN N0 ep0)))) fun _ hs hd S3 N3=>?_
   refine MW.ad 7 (.bool (decide (a0≤47))) rfl hs hd rfl (MW.ab_want rfl H2 (zN N3 S2) rfl) (MW.ab_bin rfl S3 (by kernel_rfl)) fun _ hs hd S4 N4=>?_
   refine MW.ad 8 (.bool (decide (a0≤47))) rfl hs hd rfl rfl (MW.ab_pick_t rfl (zN N4 (zN N3 S2)) S4) fun _ hs hd S5 N5=>?_
   exact wpList_nil (hK_ _ _ (Stop.go ⟨(decide (a0≤47)),Eq.trans (by first|rfl|(rw[if_pos c3];rfl)|(simp[*];done)) hE2.out.symm,hs,hd,(zN N5 (zN N4 (zN N3 (zN N2 (zN N1 (zN N0 ep0)))))),S5,rfl⟩))
  refine MW.ad 3 (.int .i32 a0) rfl hs hd rfl rfl (MW.ab_move rfl ep0) fun _ hs hd S0 N0=>?_
  refine MW.ad 4 (.bool false) rfl hs hd rfl rfl (MW.ab_cmp_f c3 rfl S0 (by kernel_rfl)) fun _ hs hd S1 N1=>?_
  refine MW.ad 5 (.bool false) rfl hs hd rfl rfl (MW.ab_move rfl S1) fun _ hs hd S2 N2=>?_
  refine MW.ak 6 rfl hs hd rfl (MW.ab_want rfl H2 S2 rfl) fun _ hs hd S3 N3=>?_
  refine MW.ak 7 rfl hs hd rfl (MW.ab_want rfl H2 (zN N3 S2) rfl) fun _ hs hd S4 N4=>?_
  refine MW.ad 8 (.bool false) rfl hs hd rfl rfl (MW.ab_pick_f rfl (zN N4 (zN N3 S2)) rfl) fun _ hs hd S5 N5=>?_
  exact wpList_nil (hK_ _ _ (Stop.go ⟨false,Eq.trans (by first|rfl|(rw[if_neg c3];rfl)|(simp[*];done)) hE2.out.symm,hs,hd,(zN N5 (zN N4 (zN N3 (zN N2 (zN N1 (zN N0 ep0)))))),S5,rfl⟩))
 case rest=>
  clear hs hd ep0
  obtain⟨b1,hb_,hs,hd,ep1,es1,rfl⟩:=hc_
  simp only[List.drop_succ_cons,List.drop_zero,List.drop_nil]
  have H:=MW.bind_step HH.out (hb_.trans hE2.out)
  replace HH:=za H
  clear H hb_ hE2
  obtain⟨E5,hE5⟩:∃ e_:Bool,e_=(if b1=true then(true) else(if a0≥58 then((decide (a0≤64))) else(false))):=⟨_,rfl⟩
  replace hE5:=za hE5
  refine MW.list_cut 8 (fun a_ w_=>∃ b_:Bool,b_=E5∧a_.tmps.size=133∧a_.defers=[]∧a_.eval (.tmp 0)=.int .i32 a0∧a_.eval (.tmp 16)=.bool b_∧w=w_) (fun K_ hK_=>?seg) (fun af2 w_ hc_=>?rest)
  case seg=>
   simp only[List.take_succ_cons,List.take_zero,List.take_nil]
   clear HH
   by_cases c6:b1=true
   ·subst c6
    refine MW.ad 9 (.bool true) rfl hs hd rfl rfl (MW.ab_move rfl es1) fun _ hs hd S0 N0=>?_
    refine MW.ak 10 rfl hs hd rfl (MW.ab_want rfl H6 S0 rfl) fun _ hs hd S1 N1=>?_
    refine MW.ak 11 rfl hs hd rfl (MW.ab_want rfl H6 (zN N1 S0) rfl) fun _ hs hd S2 N2=>?_
    refine MW.ak 12 rfl hs hd rfl (MW.ab_want rfl H6 (zN N2 (zN N1 S0)) rfl) fun _ hs hd S3 N3=>?_
    refine MW.ak 13 rfl hs hd rfl (MW.ab_undef rfl H9 S3) fun _ hs hd S4 N4=>?_
    refine MW.ak 14 rfl hs hd rfl (MW.ab_undef rfl H9 (zN N4 S3)) fun _ hs hd S5 N5=>?_
    refine MW.ak 15 rfl hs hd rfl (MW.ab_want rfl H6 (zN N5 (zN N4 (zN N3 (zN N2 (zN N1 S0))))) rfl) fun _ hs hd S6 N6=>?_
    refine MW.ad 16 (.bool true) rfl hs hd rfl rfl (MW.ab_pick_t rfl (zN N6 (zN N5 (zN N4 (zN N3 (zN N2 (zN N1 S0)))))) rfl) fun _ hs hd S7 N7=>?_
    exact wpList_nil (hK_ _ _ (Stop.go ⟨true,Eq.trans (by first|rfl|(rw[];rfl)|(simp[*];done)) hE5.out.symm,hs,hd,(zN N7 (zN N6 (zN N5 (zN N4 (zN N3 (zN N2 (zN N1 (zN N0 ep1)))))))),S7,rfl⟩))
   replace c6:=Bool.eq_false_iff.mpr c6
   subst c6
   by_cases c7:a0≥58
   ·refine MW.ad 9 (.bool false) rfl hs hd rfl rfl (MW.ab_move rfl es1) fun _ hs hd S0 N0=>?_
    refine MW.ad 10 (.int .i32 a0) rfl hs hd rfl (MW.ab_want rfl H6 S0 rfl) (MW.ab_move rfl (zN N0 ep1)) fun _ hs hd S1 N1=>?_
    refine MW.ad 11 (.bool true) rfl hs hd rfl (MW.ab_want rfl H6 (zN N1 S0) rfl) (MW.ab_cmp_t c7 rfl S1 (by kernel_rfl)) fun _ hs hd S2 N2=>?_
    refine MW.ad 12 (.bool true) rfl hs hd rfl (MW.ab_want rfl H6 (zN N2 (zN N1 S0)) rfl) (MW.ab_move rfl S2) fun _ hs hd S3 N3=>?_
    refine MW.ad 13 (.int .i32 a0) rfl hs hd rfl (MW.ab_want rfl H9 S3 rfl) (MW.ab_move rfl (zN N3 (zN N2 (zN N1 (zN N0 ep1))))) fun _ hs hd S4 N4=>?_
    refine MW.ad 14 (.bool (decide (a0≤64))) rfl hs hd rfl (MW.ab_want rfl H9 (zN N4 S3) rfl) (MW.ab_bin rfl S4 (by kernel_rfl)) fun _ hs hd S5 N5=>?_
    refine MW.ad 15 (.bool (decide (a0≤64))) rfl hs hd rfl (MW.ab_want rfl H6 (zN N5 (zN N4 (zN N3 (zN N2 (zN N1 S0))))) rfl) (MW.ab_pick_t rfl (zN N5 (zN N4 S3)) S5) fun _ hs hd S6 N6=>?_
    refine MW.ad 16 (.bool (decide (a0≤64))) rfl hs hd rfl rfl (MW.ab_pick_f rfl (zN N6 (zN N5 (zN N4 (zN N3 (zN N2 (zN N1 S0)))))) S6) fun _ hs hd S7 N7=>?_
    exact wpList_nil (hK_ _ _ (Stop.go ⟨(decide (a0≤64)),Eq.trans (by first|rfl|(rw[if_pos c7];rfl)|(simp[*];done)) hE5.out.symm,hs,hd,(zN N7 (zN N6 (zN N5 (zN N4 (zN N3 (zN N2 (zN N1 (zN N0 ep1)))))))),S7,rfl⟩))
   refine MW.ad 9 (.bool false) rfl hs hd rfl rfl (MW.ab_move rfl es1) fun _ hs hd S0 N0=>?_
   refine MW.ad 10 (.int .i32 a0) rfl hs hd rfl (MW.ab_want rfl H6 S0 rfl) (MW.ab_move rfl (zN N0 ep1)) fun _ hs hd S1 N1=>?_
   refine MW.ad 11 (.bool false) rfl hs hd rfl (MW.ab_want rfl H6 (zN N1 S0) rfl) (MW.ab_cmp_f c7 rfl S1 (by kernel_rfl)) fun _ hs hd S2 N2=>?_
   refine MW.ad 12 (.bool false) rfl hs hd rfl (MW.ab_want rfl H6 (zN N2 (zN N1 S0)) rfl) (MW.ab_move rfl S2) fun _ hs hd S3 N3=>?_
   refine MW.ak 13 rfl hs hd rfl (MW.ab_want rfl H9 S3 rfl) fun _ hs hd S4 N4=>?_
   refine MW.ak 14 rfl hs hd rfl (MW.ab_want rfl H9 (zN N4 S3) rfl) fun _ hs hd S5 N5=>?_
   refine MW.ad 15 (.bool false) rfl hs hd rfl (MW.ab_want rfl H6 (zN N5 (zN N4 (zN N3 (zN N2 (zN N1 S0))))) rfl) (MW.ab_pick_f rfl (zN N5 (zN N4 S3)) rfl) fun _ hs hd S6 N6=>?_
   refine MW.ad 16 (.bool false) rfl hs hd rfl rfl (MW.ab_pick_f rfl (zN N6 (zN N5 (zN N4 (zN N3 (zN N2 (zN N1 S0)))))) S6) fun _ hs hd S7 N7=>?_
   exact wpList_nil (hK_ _ _ (Stop.go ⟨false,Eq.trans (by first|rfl|(rw[if_neg c7];rfl)|(simp[*];done)) hE5.out.symm,hs,hd,(zN N7 (zN N6 (zN N5 (zN N4 (zN N3 (zN N2 (zN N1 (zN N0 ep1)))))))),S7,rfl⟩))
  case rest=>
   clear hs hd ep1 es1
   obtain⟨b4,hb_,hs,hd,ep2,es2,rfl⟩:=hc_
   simp only[List.drop_succ_cons,List.drop_zero,List.drop_nil]
   have H:=MW.bind_step HH.out (hb_.trans hE5.out)
   replace HH:=za H
   clear H hb_ hE5
   obtain⟨E9,hE9⟩:∃ e_:Bool,e_=(if b4=true then(true) else(if a0≥91 then((decide (a0≤96))) else(false))):=⟨_,rfl⟩
   replace hE9:=za hE9
   refine MW.list_cut 8 (fun a_ w_=>∃ b_:Bool,b_=E9∧a_.tmps.size=133∧a_.defers=[]∧a_.eval (.tmp 0)=.int .i32 a0∧a_.eval (.tmp 24)=.bool b_∧w=w_) (fun K_ hK_=>?seg) (fun af3 w_ hc_=>?rest)
   case seg=>
    simp only[List.take_succ_cons,List.take_zero,List.take_nil]
    clear HH
    by_cases c10:b4=true
    ·subst c10
     refine MW.ad 17 (.bool true) rfl hs hd rfl rfl (MW.ab_move rfl es2) fun _ hs hd S0 N0=>?_
     refine MW.ak 18 rfl hs hd rfl (MW.ab_want rfl H14 S0 rfl) fun _ hs hd S1 N1=>?_
     refine MW.ak 19 rfl hs hd rfl (MW.ab_want rfl H14 (zN N1 S0) rfl) fun _ hs hd S2 N2=>?_
     refine MW.ak 20 rfl hs hd rfl (MW.ab_want rfl H14 (zN N2 (zN N1 S0)) rfl) fun _ hs hd S3 N3=>?_
     refine MW.ak 21 rfl hs hd rfl (MW.ab_undef rfl H17 S3) fun _ hs hd S4 N4=>?_
     refine MW.ak 22 rfl hs hd rfl (MW.ab_undef rfl H17 (zN N4 S3)) fun _ hs hd S5 N5=>?_
     refine MW.ak 23 rfl hs hd rfl (MW.ab_want rfl H14 (zN N5 (zN N4 (zN N3 (zN N2 (zN N1 S0))))) rfl) fun _ hs hd S6 N6=>?_
     refine MW.ad 24 (.bool true) rfl hs hd rfl rfl (MW.ab_pick_t rfl (zN N6 (zN N5 (zN N4 (zN N3 (zN N2 (zN N1 S0)))))) rfl) fun _ hs hd S7 N7=>?_
     exact wpList_nil (hK_ _ _ (Stop.go ⟨true,Eq.trans (by first|rfl|(rw[];rfl)|(simp[*];done)) hE9.out.symm,hs,hd,(zN N7 (zN N6 (zN N5 (zN N4 (zN N3 (zN N2 (zN N1 (zN N0 ep2)))))))),S7,rfl⟩))
    replace c10:=Bool.eq_false_iff.mpr c10
    subst c10
    by_cases c11:a0≥91
    ·refine MW.ad 17 (.bool false) rfl hs hd rfl rfl (MW.ab_move rfl es2) fun _ hs hd S0 N0=>?_
     refine MW.ad 18 (.int .i32 a0) rfl hs hd rfl (MW.ab_want rfl H14 S0 rfl) (MW.ab_move rfl (zN N0 ep2)) fun _ hs hd S1 N1=>?_
     refine MW.ad 19 (.bool true) rfl hs hd rfl (MW.ab_want rfl H14 (zN N1 S0) rfl) (MW.ab_cmp_t c11 rfl S1 (by kernel_rfl)) fun _ hs hd S2 N2=>?_
     refine MW.ad 20 (.bool true) rfl hs hd rfl (MW.ab_want rfl H14 (zN N2 (zN N1 S0)) rfl) (MW.ab_move rfl S2) fun _ hs hd S3 N3=>?_
     refine MW.ad 21 (.int .i32 a0) rfl hs hd rfl (MW.ab_want rfl H17 S3 rfl) (MW.ab_move rfl (zN N3 (zN N2 (zN N1 (zN N0 ep2))))) fun _ hs hd S4 N4=>?_
     refine MW.ad 22 (.bool (decide (a0≤96))) rfl hs hd rfl (MW.ab_want rfl H17 (zN N4 S3) rfl) (MW.ab_bin rfl S4 (by kernel_rfl)) fun _ hs hd S5 N5=>?_
     refine MW.ad 23 (.bool (decide (a0≤96))) rfl hs hd rfl (MW.ab_want rfl H14 (zN N5 (zN N4 (zN N3 (zN N2 (zN N1 S0))))) rfl) (MW.ab_pick_t rfl (zN N5 (zN N4 S3)) S5) fun _ hs hd S6 N6=>?_
     refine MW.ad 24 (.bool (decide (a0≤96))) rfl hs hd rfl rfl (MW.ab_pick_f rfl (zN N6 (zN N5 (zN N4 (zN N3 (zN N2 (zN N1 S0)))))) S6) fun _ hs hd S7 N7=>?_
     exact wpList_nil (hK_ _ _ (Stop.go ⟨(decide (a0≤96)),Eq.trans (by first|rfl|(rw[if_pos c11];rfl)|(simp[*];done)) hE9.out.symm,hs,hd,(zN N7 (zN N6 (zN N5 (zN N4 (zN N3 (zN N2 (zN N1 (zN N0 ep2)))))))),S7,rfl⟩))
    refine MW.ad 17 (.bool false) rfl hs hd rfl rfl (MW.ab_move rfl es2) fun _ hs hd S0 N0=>?_
    refine MW.ad 18 (.int .i32 a0) rfl hs hd rfl (MW.ab_want rfl H14 S0 rfl) (MW.ab_move rfl (zN N0 ep2)) fun _ hs hd S1 N1=>?_
    refine MW.ad 19 (.bool false) rfl hs hd rfl (MW.ab_want rfl H14 (zN N1 S0) rfl) (MW.ab_cmp_f c11 rfl S1 (by kernel_rfl)) fun _ hs hd S2 N2=>?_
    refine MW.ad 20 (.bool false) rfl hs hd rfl (MW.ab_want rfl H14 (zN N2 (zN N1 S0)) rfl) (MW.ab_move rfl S2) fun _ hs hd S3 N3=>?_
    refine MW.ak 21 rfl hs hd rfl (MW.ab_want rfl H17 S3 rfl) fun _ hs hd S4 N4=>?_
    refine MW.ak 22 rfl hs hd rfl (MW.ab_want rfl H17 (zN N4 S3) rfl) fun _ hs hd S5 N5=>?_
    refine MW.ad 23 (.bool false) rfl hs hd rfl (MW.ab_want rfl H14 (zN N5 (zN N4 (zN N3 (zN N2 (zN N1 S0))))) rfl) (MW.ab_pick_f rfl (zN N5 (zN N4 S3)) rfl) fun _ hs hd S6 N6=>?_
    refine MW.ad 24 (.bool false) rfl hs hd rfl rfl (MW.ab_pick_f rfl (zN N6 (zN N5 (zN N4 (zN N3 (zN N2 (zN N1 S0)))))) S6) fun _ hs hd S7 N7=>?_
    exact wpList_nil (hK_ _ _ (Stop.go ⟨false,Eq.trans (by first|rfl|(rw[if_neg c11];rfl)|(simp[*];done)) hE9.out.symm,hs,hd,(zN N7 (zN N6 (zN N5 (zN N4 (zN N3 (zN N2 (zN N1 (zN N0 ep2)))))))),S7,rfl⟩))
   case rest=>
    clear hs hd ep2 es2
    obtain⟨b8,hb_,hs,hd,ep3,es3,rfl⟩:=hc_
    simp only[List.drop_succ_cons,List.drop_zero,List.drop_nil]
    have H:=MW.bind_step HH.out (hb_.trans hE9.out)
    replace HH:=za H
    clear H hb_ hE9
    obtain⟨E13,hE13⟩:∃ e_:Bool,e_=(if b8=true then(true) else(if a0≥123 then((decide (a0≤126))) else(false))):=⟨_,rfl⟩
    replace hE13:=za hE13
    refine MW.list_cut 8 (fun a_ w_=>∃ b_:Bool,b_=E13∧a_.tmps.size=133∧a_.defers=[]∧a_.eval (.tmp 0)=.int .i32 a0∧a_.eval (.tmp 32)=.bool b_∧w=w_) (fun K_ hK_=>?seg) (fun af4 w_ hc_=>?rest)
    case seg=>
     simp only[List.take_succ_cons,List.take_zero,List.take_nil]
     clear HH
     by_cases c14:b8=true
     ·subst c14
      refine MW.ad 25 (.bool true) rfl hs hd rfl rfl (MW.ab_move rfl es3) fun _ hs hd S0 N0=>?_
      refine MW.ak 26 rfl hs hd rfl (MW.ab_want rfl H22 S0 rfl) fun _ hs hd S1 N1=>?_
      refine MW.ak 27 rfl hs hd rfl (MW.ab_want rfl H22 (zN N1 S0) rfl) fun _ hs hd S2 N2=>?_
      refine MW.ak 28 rfl hs hd rfl (MW.ab_want rfl H22 (zN N2 (zN N1 S0)) rfl) fun _ hs hd S3 N3=>?_
      refine MW.ak 29 rfl hs hd rfl (MW.ab_undef rfl H25 S3) fun _ hs hd S4 N4=>?_
      refine MW.ak 30 rfl hs hd rfl (MW.ab_undef rfl H25 (zN N4 S3)) fun _ hs hd S5 N5=>?_
      refine MW.ak 31 rfl hs hd rfl (MW.ab_want rfl H22 (zN N5 (zN N4 (zN N3 (zN N2 (zN N1 S0))))) rfl) fun _ hs hd S6 N6=>?_
      refine MW.ad 32 (.bool true) rfl hs hd rfl rfl (MW.ab_pick_t rfl (zN N6 (zN N5 (zN N4 (zN N3 (zN N2 (zN N1 S0)))))) rfl) fun _ hs hd S7 N7=>?_
      exact wpList_nil (hK_ _ _ (Stop.go ⟨true,Eq.trans (by first|rfl|(rw[];rfl)|(simp[*];done)) hE13.out.symm,hs,hd,(zN N7 (zN N6 (zN N5 (zN N4 (zN N3 (zN N2 (zN N1 (zN N0 ep3)))))))),S7,rfl⟩))
     replace c14:=Bool.eq_false_iff.mpr c14
     subst c14
     by_cases c15:a0≥123
     ·refine MW.ad 25 (.bool false) rfl hs hd rfl rfl (MW.ab_move rfl es3) fun _ hs hd S0 N0=>?_
      refine MW.ad 26 (.int .i32 a0) rfl hs hd rfl (MW.ab_want rfl H22 S0 rfl) (MW.ab_move rfl (zN N0 ep3)) fun _ hs hd S1 N1=>?_
      refine MW.ad 27 (.bool true) rfl hs hd rfl (MW.ab_want rfl H22 (zN N1 S0) rfl) (MW.ab_cmp_t c15 rfl S1 (by kernel_rfl)) fun _ hs hd S2 N2=>?_
      refine MW.ad 28 (.bool true) rfl hs hd rfl (MW.ab_want rfl H22 (zN N2 (zN N1 S0)) rfl) (MW.ab_move rfl S2) fun _ hs hd S3 N3=>?_
      refine MW.ad 29 (.int .i32 a0) rfl hs hd rfl (MW.ab_want rfl H25 S3 rfl) (MW.ab_move rfl (zN N3 (zN N2 (zN N1 (zN N0 ep3))))) fun _ hs hd S4 N4=>?_
      refine MW.ad 30 (.bool (decide (a0≤126))) rfl hs hd rfl (MW.ab_want rfl H25 (zN N4 S3) rfl) (MW.ab_bin rfl S4 (by kernel_rfl)) fun _ hs hd S5 N5=>?_
      refine MW.ad 31 (.bool (decide (a0≤126))) rfl hs hd rfl (MW.ab_want rfl H22 (zN N5 (zN N4 (zN N3 (zN N2 (zN N1 S0))))) rfl) (MW.ab_pick_t rfl (zN N5 (zN N4 S3)) S5) fun _ hs hd S6 N6=>?_
      refine MW.ad 32 (.bool (decide (a0≤126))) rfl hs hd rfl rfl (MW.ab_pick_f rfl (zN N6 (zN N5 (zN N4 (zN N3 (zN N2 (zN N1 S0)))))) S6) fun _ hs hd S7 N7=>?_
      exact wpList_nil (hK_ _ _ (Stop.go ⟨(decide (a0≤126)),Eq.trans (by first|rfl|(rw[if_pos c15];rfl)|(simp[*];done)) hE13.out.symm,hs,hd,(zN N7 (zN N6 (zN N5 (zN N4 (zN N3 (zN N2 (zN N1 (zN N0 ep3)))))))),S7,rfl⟩))
     refine MW.ad 25 (.bool false) rfl hs hd rfl rfl (MW.ab_move rfl es3) fun _ hs hd S0 N0=>?_
     refine MW.ad 26 (.int .i32 a0) rfl hs hd rfl (MW.ab_want rfl H22 S0 rfl) (MW.ab_move rfl (zN N0 ep3)) fun _ hs hd S1 N1=>?_
     refine MW.ad 27 (.bool false) rfl hs hd rfl (MW.ab_want rfl H22 (zN N1 S0) rfl) (MW.ab_cmp_f c15 rfl S1 (by kernel_rfl)) fun _ hs hd S2 N2=>?_
     refine MW.ad 28 (.bool false) rfl hs hd rfl (MW.ab_want rfl H22 (zN N2 (zN N1 S0)) rfl) (MW.ab_move rfl S2) fun _ hs hd S3 N3=>?_
     refine MW.ak 29 rfl hs hd rfl (MW.ab_want rfl H25 S3 rfl) fun _ hs hd S4 N4=>?_
     refine MW.ak 30 rfl hs hd rfl (MW.ab_want rfl H25 (zN N4 S3) rfl) fun _ hs hd S5 N5=>?_
     refine MW.ad 31 (.bool false) rfl hs hd rfl (MW.ab_want rfl H22 (zN N5 (zN N4 (zN N3 (zN N2 (zN N1 S0))))) rfl) (MW.ab_pick_f rfl (zN N5 (zN N4 S3)) rfl) fun _ hs hd S6 N6=>?_
     refine MW.ad 32 (.bool false) rfl hs hd rfl rfl (MW.ab_pick_f rfl (zN N6 (zN N5 (zN N4 (zN N3 (zN N2 (zN N1 S0)))))) S6) fun _ hs hd S7 N7=>?_
     exact wpList_nil (hK_ _ _ (Stop.go ⟨false,Eq.trans (by first|rfl|(rw[if_neg c15];rfl)|(simp[*];done)) hE13.out.symm,hs,hd,(zN N7 (zN N6 (zN N5 (zN N4 (zN N3 (zN N2 (zN N1 (zN N0 ep3)))))))),S7,rfl⟩))
    case rest=>
     clear hs hd ep3 es3
     obtain⟨b12,hb_,hs,hd,ep4,es4,rfl⟩:=hc_
     simp only[List.drop_succ_cons,List.drop_zero,List.drop_nil]
     have H:=MW.bind_step HH.out (hb_.trans hE13.out)
     replace HH:=za H
     clear H hb_ hE13
     obtain⟨E17,hE17⟩:∃ e_:Bool,e_=(if b12=true then(true) else(if a0≥161 then((decide (a0≤169))) else(false))):=⟨_,rfl⟩
     replace hE17:=za hE17
     refine MW.list_cut 8 (fun a_ w_=>∃ b_:Bool,b_=E17∧a_.tmps.size=133∧a_.defers=[]∧a_.eval (.tmp 0)=.int .i32 a0∧a_.eval (.tmp 40)=.bool b_∧w=w_) (fun K_ hK_=>?seg) (fun af5 w_ hc_=>?rest)
     case seg=>
      simp only[List.take_succ_cons,List.take_zero,List.take_nil]
      clear HH
      by_cases c18:b12=true
      ·subst c18
       refine MW.ad 33 (.bool true) rfl hs hd rfl rfl (MW.ab_move rfl es4) fun _ hs hd S0 N0=>?_
       refine MW.ak 34 rfl hs hd rfl (MW.ab_want rfl H30 S0 rfl) fun _ hs hd S1 N1=>?_
       refine MW.ak 35 rfl hs hd rfl (MW.ab_want rfl H30 (zN N1 S0) rfl) fun _ hs hd S2 N2=>?_
       refine MW.ak 36 rfl hs hd rfl (MW.ab_want rfl H30 (zN N2 (zN N1 S0)) rfl) fun _ hs hd S3 N3=>?_
       refine MW.ak 37 rfl hs hd rfl (MW.ab_undef rfl H33 S3) fun _ hs hd S4 N4=>?_
       refine MW.ak 38 rfl hs hd rfl (MW.ab_undef rfl H33 (zN N4 S3)) fun _ hs hd S5 N5=>?_
       refine MW.ak 39 rfl hs hd rfl (MW.ab_want rfl H30 (zN N5 (zN N4 (zN N3 (zN N2 (zN N1 S0))))) rfl) fun _ hs hd S6 N6=>?_
       refine MW.ad 40 (.bool true) rfl hs hd rfl rfl (MW.ab_pick_t rfl (zN N6 (zN N5 (zN N4 (zN N3 (zN N2 (zN N1 S0)))))) rfl) fun _ hs hd S7 N7=>?_
       exact wpList_nil (hK_ _ _ (Stop.go ⟨true,Eq.trans (by first|rfl|(rw[];rfl)|(simp[*];done)) hE17.out.symm,hs,hd,(zN N7 (zN N6 (zN N5 (zN N4 (zN N3 (zN N2 (zN N1 (zN N0 ep4)))))))),S7,rfl⟩))
      replace c18:=Bool.eq_false_iff.mpr c18
      subst c18
      by_cases c19:a0≥161
      ·refine MW.ad 33 (.bool false) rfl hs hd rfl rfl (MW.ab_move rfl es4) fun _ hs hd S0 N0=>?_
       refine MW.ad 34 (.int .i32 a0) rfl hs hd rfl (MW.ab_want rfl H30 S0 rfl) (MW.ab_move rfl (zN N0 ep4)) fun _ hs hd S1 N1=>?_
       refine MW.ad 35 (.bool true) rfl hs hd rfl (MW.ab_want rfl H30 (zN N1 S0) rfl) (MW.ab_cmp_t c19 rfl S1 (by kernel_rfl)) fun _ hs hd S2 N2=>?_
       refine MW.ad 36 (.bool true) rfl hs hd rfl (MW.ab_want rfl H30 (zN N2 (zN N1 S0)) rfl) (MW.ab_move rfl S2) fun _ hs hd S3 N3=>?_
       refine MW.ad 37 (.int .i32 a0) rfl hs hd rfl (MW.ab_want rfl H33 S3 rfl) (MW.ab_move rfl (zN N3 (zN N2 (zN N1 (zN N0 ep4))))) fun _ hs hd S4 N4=>?_
       refine MW.ad 38 (.bool (decide (a0≤169))) rfl hs hd rfl (MW.ab_want rfl H33 (zN N4 S3) rfl) (MW.ab_bin rfl S4 (by kernel_rfl)) fun _ hs hd S5 N5=>?_
       refine MW.ad 39 (.bool (decide (a0≤169))) rfl hs hd rfl (MW.ab_want rfl H30 (zN N5 (zN N4 (zN N3 (zN N2 (zN N1 S0))))) rfl) (MW.ab_pick_t rfl (zN N5 (zN N4 S3)) S5) fun _ hs hd S6 N6=>?_
       refine MW.ad 40 (.bool (decide (a0≤169))) rfl hs hd rfl rfl (MW.ab_pick_f rfl (zN N6 (zN N5 (zN N4 (zN N3 (zN N2 (zN N1 S0)))))) S6) fun _ hs hd S7 N7=>?_
       exact wpList_nil (hK_ _ _ (Stop.go ⟨(decide (a0≤169)),Eq.trans (by first|rfl|(rw[if_pos c19];rfl)|(simp[*];done)) hE17.out.symm,hs,hd,(zN N7 (zN N6 (zN N5 (zN N4 (zN N3 (zN N2 (zN N1 (zN N0 ep4)))))))),S7,rfl⟩))
      refine MW.ad 33 (.bool false) rfl hs hd rfl rfl (MW.ab_move rfl es4) fun _ hs hd S0 N0=>?_
      refine MW.ad 34 (.int .i32 a0) rfl hs hd rfl (MW.ab_want rfl H30 S0 rfl) (MW.ab_move rfl (zN N0 ep4)) fun _ hs hd S1 N1=>?_
      refine MW.ad 35 (.bool false) rfl hs hd rfl (MW.ab_want rfl H30 (zN N1 S0) rfl) (MW.ab_cmp_f c19 rfl S1 (by kernel_rfl)) fun _ hs hd S2 N2=>?_
      refine MW.ad 36 (.bool false) rfl hs hd rfl (MW.ab_want rfl H30 (zN N2 (zN N1 S0)) rfl) (MW.ab_move rfl S2) fun _ hs hd S3 N3=>?_
      refine MW.ak 37 rfl hs hd rfl (MW.ab_want rfl H33 S3 rfl) fun _ hs hd S4 N4=>?_
      refine MW.ak 38 rfl hs hd rfl (MW.ab_want rfl H33 (zN N4 S3) rfl) fun _ hs hd S5 N5=>?_
      refine MW.ad 39 (.bool false) rfl hs hd rfl (MW.ab_want rfl H30 (zN N5 (zN N4 (zN N3 (zN N2 (zN N1 S0))))) rfl) (MW.ab_pick_f rfl (zN N5 (zN N4 S3)) rfl) fun _ hs hd S6 N6=>?_
      refine MW.ad 40 (.bool false) rfl hs hd rfl rfl (MW.ab_pick_f rfl (zN N6 (zN N5 (zN N4 (zN N3 (zN N2 (zN N1 S0)))))) S6) fun _ hs hd S7 N7=>?_
      exact wpList_nil (hK_ _ _ (Stop.go ⟨false,Eq.trans (by first|rfl|(rw[if_neg c19];rfl)|(simp[*];done)) hE17.out.symm,hs,hd,(zN N7 (zN N6 (zN N5 (zN N4 (zN N3 (zN N2 (zN N1 (zN N0 ep4)))))))),S7,rfl⟩))
     case rest=>
      clear hs hd ep4 es4
      obtain⟨b16,hb_,hs,hd,ep5,es5,rfl⟩:=hc_
      simp only[List.drop_succ_cons,List.drop_zero,List.drop_nil]
      have H:=MW.bind_step HH.out (hb_.trans hE17.out)
      replace HH:=za H
      clear H hb_ hE17
      obtain⟨E21,hE21⟩:∃ e_:Bool,e_=(if b16=true then(true) else(if a0≥171 then((decide (a0≤172))) else(false))):=⟨_,rfl⟩
      replace hE21:=za hE21
      refine MW.list_cut 8 (fun a_ w_=>∃ b_:Bool,b_=E21∧a_.tmps.size=133∧a_.defers=[]∧a_.eval (.tmp 0)=.int .i32 a0∧a_.eval (.tmp 48)=.bool b_∧w=w_) (fun K_ hK_=>?seg) (fun af6 w_ hc_=>?rest)
      case seg=>
       simp only[List.take_succ_cons,List.take_zero,List.take_nil]
       clear HH
       by_cases c22:b16=true
       ·subst c22
        refine MW.ad 41 (.bool true) rfl hs hd rfl rfl (MW.ab_move rfl es5) fun _ hs hd S0 N0=>?_
        refine MW.ak 42 rfl hs hd rfl (MW.ab_want rfl H38 S0 rfl) fun _ hs hd S1 N1=>?_
        refine MW.ak 43 rfl hs hd rfl (MW.ab_want rfl H38 (zN N1 S0) rfl) fun _ hs hd S2 N2=>?_
        refine MW.ak 44 rfl hs hd rfl (MW.ab_want rfl H38 (zN N2 (zN N1 S0)) rfl) fun _ hs hd S3 N3=>?_
        refine MW.ak 45 rfl hs hd rfl (MW.ab_undef rfl H41 S3) fun _ hs hd S4 N4=>?_
        refine MW.ak 46 rfl hs hd rfl (MW.ab_undef rfl H41 (zN N4 S3)) fun _ hs hd S5 N5=>?_
        refine MW.ak 47 rfl hs hd rfl (MW.ab_want rfl H38 (zN N5 (zN N4 (zN N3 (zN N2 (zN N1 S0))))) rfl) fun _ hs hd S6 N6=>?_
        refine MW.ad 48 (.bool true) rfl hs hd rfl rfl (MW.ab_pick_t rfl (zN N6 (zN N5 (zN N4 (zN N3 (zN N2 (zN N1 S0)))))) rfl) fun _ hs hd S7 N7=>?_
        exact wpList_nil (hK_ _ _ (Stop.go ⟨true,Eq.trans (by first|rfl|(rw[];rfl)|(simp[*];done)) hE21.out.symm,hs,hd,(zN N7 (zN N6 (zN N5 (zN N4 (zN N3 (zN N2 (zN N1 (zN N0 ep5)))))))),S7,rfl⟩))
       replace c22:=Bool.eq_false_iff.mpr c22
       subst c22
       by_cases c23:a0≥171
       ·refine MW.ad 41 (.bool false) rfl hs hd rfl rfl (MW.ab_move rfl es5) fun _ hs hd S0 N0=>?_
        refine MW.ad 42 (.int .i32 a0) rfl hs hd rfl (MW.ab_want rfl H38 S0 rfl) (MW.ab_move rfl (zN N0 ep5)) fun _ hs hd S1 N1=>?_
        refine MW.ad 43 (.bool true) rfl hs hd rfl (MW.ab_want rfl H38 (zN N1 S0) rfl) (MW.ab_cmp_t c23 rfl S1 (by kernel_rfl)) fun _ hs hd S2 N2=>?_
        refine MW.ad 44 (.bool true) rfl hs hd rfl (MW.ab_want rfl H38 (zN N2 (zN N1 S0)) rfl) (MW.ab_move rfl S2) fun _ hs hd S3 N3=>?_
        refine MW.ad 45 (.int .i32 a0) rfl hs hd rfl (MW.ab_want rfl H41 S3 rfl) (MW.ab_move rfl (zN N3 (zN N2 (zN N1 (zN N0 ep5))))) fun _ hs hd S4 N4=>?_
        refine MW.ad 46 (.bool (decide (a0≤172))) rfl hs hd rfl (MW.ab_want rfl H41 (zN N4 S3) rfl) (MW.ab_bin rfl S4 (by kernel_rfl)) fun _ hs hd S5 N5=>?_
        refine MW.ad 47 (.bool (decide (a0≤172))) rfl hs hd rfl (MW.ab_want rfl H38 (zN N5 (zN N4 (zN N3 (zN N2 (zN N1 S0))))) rfl) (MW.ab_pick_t rfl (zN N5 (zN N4 S3)) S5) fun _ hs hd S6 N6=>?_
        refine MW.ad 48 (.bool (decide (a0≤172))) rfl hs hd rfl rfl (MW.ab_pick_f rfl (zN N6 (zN N5 (zN N4 (zN N3 (zN N2 (zN N1 S0)))))) S6) fun _ hs hd S7 N7=>?_
        exact wpList_nil (hK_ _ _ (Stop.go ⟨(decide (a0≤172)),Eq.trans (by first|rfl|(rw[if_pos c23];rfl)|(simp[*];done)) hE21.out.symm,hs,hd,(zN N7 (zN N6 (zN N5 (zN N4 (zN N3 (zN N2 (zN N1 (zN N0 ep5)))))))),S7,rfl⟩))
       refine MW.ad 41 (.bool false) rfl hs hd rfl rfl (MW.ab_move rfl es5) fun _ hs hd S0 N0=>?_
       refine MW.ad 42 (.int .i32 a0) rfl hs hd rfl (MW.ab_want rfl H38 S0 rfl) (MW.ab_move rfl (zN N0 ep5)) fun _ hs hd S1 N1=>?_
       refine MW.ad 43 (.bool false) rfl hs hd rfl (MW.ab_want rfl H38 (zN N1 S0) rfl) (MW.ab_cmp_f c23 rfl S1 (by kernel_rfl)) fun _ hs hd S2 N2=>?_
       refine MW.ad 44 (.bool false) rfl hs hd rfl (MW.ab_want rfl H38 (zN N2 (zN N1 S0)) rfl) (MW.ab_move rfl S2) fun _ hs hd S3 N3=>?_
       refine MW.ak 45 rfl hs hd rfl (MW.ab_want rfl H41 S3 rfl) fun _ hs hd S4 N4=>?_
       refine MW.ak 46 rfl hs hd rfl (MW.ab_want rfl H41 (zN N4 S3) rfl) fun _ hs hd S5 N5=>?_
       refine MW.ad 47 (.bool false) rfl hs hd rfl (MW.ab_want rfl H38 (zN N5 (zN N4 (zN N3 (zN N2 (zN N1 S0))))) rfl) (MW.ab_pick_f rfl (zN N5 (zN N4 S3)) rfl) fun _ hs hd S6 N6=>?_
       refine MW.ad 48 (.bool false) rfl hs hd rfl rfl (MW.ab_pick_f rfl (zN N6 (zN N5 (zN N4 (zN N3 (zN N2 (zN N1 S0)))))) S6) fun _ hs hd S7 N7=>?_
       exact wpList_nil (hK_ _ _ (Stop.go ⟨false,Eq.trans (by first|rfl|(rw[if_neg c23];rfl)|(simp[*];done)) hE21.out.symm,hs,hd,(zN N7 (zN N6 (zN N5 (zN N4 (zN N3 (zN N2 (zN N1 (zN N0 ep5)))))))),S7,rfl⟩))
      case rest=>
       clear hs hd ep5 es5
       obtain⟨b20,hb_,hs,hd,ep6,es6,rfl⟩:=hc_
       simp only[List.drop_succ_cons,List.drop_zero,List.drop_nil]
       have H:=MW.bind_step HH.out (hb_.trans hE21.out)
       replace HH:=za H
       clear H hb_ hE21
       exact wpList_nil (hKC_ _ _ (Stop.go ⟨b20,HH.out,hs,hd,ep6,es6,rfl⟩))
theorem chars_sign.calls (a0:Int) (r:Bool) (w:World) (h:chars_sign.f a0=some r):
  Calls Try.prog 26 #[.int .i32 a0] w (fun e w'=>e=.returned (.bool r)∧Drawn0 w w'):=by
 have HH:=za h
 clear h
 unfold chars_sign.f at HH
 go_enter Try.func26,Try.ntmps26
 repeat(first|(refine MW.region_ops (id:=1) ?_)|go_step)
 intro OPS hO
 refine chars_sign.p0 OPS hO a0 r w _ (by kernel_rfl) (by kernel_rfl) (by kernel_rfl) HH.out ?_
 intro a' hs hd es
 repeat go_step
 refine bodyPost_ret (results_tmp rfl _ _ _) hd ?_
 exact⟨congrArg Ending.returned es,Drawn0.refl _⟩
end Go.Proofs.Ytkbiiijmgbjnkaa.GA
