import Derived.Test.YtkbiiijmgbjnkaaGA0
import Derived.Test.YtkbiiijmgbjnkaaMX
namespace Go.Proofs.Ytkbiiijmgbjnkaa.GA
open Go.RowKit Go.Proofs.Ytkbiiijmgbjnkaa Go.Proofs.Ytkbiiijmgbjnkaa.MW Go.Proofs.YtkbiiijmgbjnkaaW.PrintWords Go.Proofs.YtkbiiijmgbjnkaaW.PrintLast Go.Proofs.YtkbiiijmgbjnkaaW.PrintMore
attribute [local go_sem] max2_int min2_int max_two min_two
set_option maxHeartbeats 8000000
set_option maxRecDepth 100000
set_option linter.unusedVariables false
set_option linter.unusedSimpArgs false
def chars_letter.f (a0:Int):Option (Bool):=(some (if a0≥65 then((decide (a0≤90))) else(false):Bool)).bind fun b1=>((some (if b1=true then(true) else(if a0≥97 then((decide (a0≤122))) else(false)):Bool)).bind fun b4=>((some (if b4=true then(true) else(if a0=170 then(true) else((a0==181))):Bool)).bind fun b8=>((some (if b8=true then(true) else(if a0=186 then(true) else(if a0≥192 then((decide (a0≤214))) else(false))):Bool)).bind fun b12=>((some (if b12=true then(true) else(if a0≥216 then((decide (a0≤246))) else(false)):Bool)).bind fun b17=>((some (if b17=true then(true) else(if a0≥248 then((decide (a0≤383))) else(false)):Bool)).bind fun b21=>((some (if b21=true then(true) else(if a0=700 then(true) else((a0==902))):Bool)).bind fun b25=>((some (if b25=true then(true) else(if a0≥904 then((decide (a0≤906))) else(false)):Bool)).bind fun b29=>((some (if b29=true then(true) else(if a0=908 then(true) else(if a0≥910 then((decide (a0≤929))) else(false))):Bool)).bind fun b33=>((some (if b33=true then(true) else(if a0≥931 then((decide (a0≤974))) else(false)):Bool)).bind fun b38=>((some (if b38=true then(true) else(if a0=1025 then(true) else(if a0≥1040 then((decide (a0≤1103))) else(false))):Bool)).bind fun b42=>((some (if b42=true then(true) else(if a0=1105 then(true) else(if a0≥1488 then((decide (a0≤1514))) else(false))):Bool)).bind fun b47=>((some (if b47=true then(true) else(if a0≥4352 then((decide (a0≤4370))) else(false)):Bool)).bind fun b52=>((some (if b52=true then(true) else(if a0≥4449 then((decide (a0≤4469))) else(false)):Bool)).bind fun b56=>((some (if b56=true then(true) else(if a0≥4520 then((decide (a0≤4546))) else(false)):Bool)).bind fun b60=>((some (if b60=true then(true) else(if a0=8486 then(true) else(if a0≥8490 then((decide (a0≤8491))) else(false))):Bool)).bind fun b64=>((some (if b64=true then(true) else(if a0≥8544 then((decide (a0≤8555))) else(false)):Bool)).bind fun b69=>((some (if b69=true then(true) else(if a0≥8560 then((decide (a0≤8571))) else(false)):Bool)).bind fun b73=>((some (if b73=true then(true) else(if a0≥12353 then((decide (a0≤12436))) else(false)):Bool)).bind fun b77=>((some (if b77=true then(true) else(if a0≥19968 then((decide (a0≤20223))) else(false)):Bool)).bind fun b81=>((some (if b81=true then(true) else(if a0≥44032 then((decide (a0≤55203))) else(false)):Bool)).bind fun b85=>((some (if b85=true then(true) else(if a0≥64256 then((decide (a0≤64261))) else(false)):Bool)).bind fun b89=>((some (if b89=true then(true) else(if a0≥65313 then((decide (a0≤65338))) else(false)):Bool)).bind fun b93=>((some (if b93=true then(true) else(if a0≥65345 then((decide (a0≤65370))) else(false)):Bool)).bind fun b97=>(some b97))))))))))))))))))))))))
noncomputable def chars_letter.ops:List Oper:=match Try.f23.body with
 |some (.seq _ (.seq (.region _ o _) _))=>o.toList
 |_=>[]
theorem chars_letter.p3 {Q:Exit→Act→World→Prop} (OPS:Array Oper) (hO:OPS=chars_letter.ops.toArray) (a0:Int) (r:Bool) (w:World) (af18:Act) (b73:Bool) (hs:af18.tmps.size=213) (hd:af18.defers=[]) (ep18:af18.eval (.tmp 0)=.int .i32 a0) (es18:af18.eval (.tmp 164)=.bool b73) (h:((some (if b73=true then(true) else(if a0≥12353 then((decide (a0≤12436))) else(false)):Bool)).bind fun b77=>((some (if b77=true then(true) else(if a0≥19968 then((decide (a0≤20223))) else(false)):Bool)).bind fun b81=>((some (if b81=true then(true) else(if a0≥44032 then((decide (a0≤55203))) else(false)):Bool)).bind fun b85=>((some (if b85=true then(true) else(if a0≥64256 then((decide (a0≤64261))) else(false)):Bool)).bind fun b89=>((some (if b89=true then(true) else(if a0≥65313 then((decide (a0≤65338))) else(false)):Bool)).bind fun b93=>((some (if b93=true then(true) else(if a0≥65345 then((decide (a0≤65370))) else(false)):Bool)).bind fun b97=>(some b97)))))))=some r) (fin:∀ a':Act,a'.tmps.size=213→a'.defers=[]→a'.eval (.tmp 2)=.bool r→Q .normal a' w):wpList Try.prog OPS Q (chars_letter.ops.drop 162) af18 w:=by
 have HH:=za h
 clear h
 have H162:(OPS[162]?).bind (·.dst)=some 165:=by rw[hO];rfl
 have H165:(OPS[165]?).bind (·.dst)=some 168:=by rw[hO];rfl
 have H170:(OPS[170]?).bind (·.dst)=some 173:=by rw[hO];rfl
 have H173:(OPS[173]?).bind (·.dst)=some 176:=by rw[hO];rfl
 have H178:(OPS[178]?).bind (·.dst)=some 181:=by rw[hO];rfl
 have H181:(OPS[181]?).bind (·.dst)=some 184:=by rw[hO];rfl
 have H186:(OPS[186]?).bind (·.dst)=some 189:=by rw[hO];rfl
 have H189:(OPS[189]?).bind (·.dst)=some 192:=by rw[hO];rfl
 have H194:(OPS[194]?).bind (·.dst)=some 197:=by rw[hO];rfl
 have H197:(OPS[197]?).bind (·.dst)=some 200:=by rw[hO];rfl
 have H202:(OPS[202]?).bind (·.dst)=some 205:=by rw[hO];rfl
 have H205:(OPS[205]?).bind (·.dst)=some 208:=by rw[hO];rfl
 replace hO:=(Stop.go hO:Stop _ (.mk _))
 replace fin:=(Stop.go fin:Stop _ (.mk _))
 simp only[chars_letter.ops,Try.f23,List.append_eq,List.cons_append,List.nil_append,List.drop_succ_cons,List.drop_zero,List.take_succ_cons,List.take_zero]
 obtain⟨E78,hE78⟩:∃ e_:Bool,e_=(if b73=true then(true) else(if a0≥12353 then((decide (a0≤12436))) else(false))):=⟨_,rfl⟩
 replace hE78:=za hE78
 refine MW.list_cut 8 (fun a_ w_=>∃ b_:Bool,b_=E78∧a_.tmps.size=213∧a_.defers=[]∧a_.eval (.tmp 0)=.int .i32 a0∧a_.eval (.tmp 172)=.bool b_∧w=w_) (fun K_ hK_=>?seg) (fun af19 w_ hc_=>?rest)
 case seg=>
  simp only[List.take_succ_cons,List.take_zero,List.take_nil]
  clear HH
  by_cases c79:b73=true
  ·subst c79
   refine yA 165 (.bool true) hs hd rfl (yM es18) fun _ hs hd S0 N0=>?_
   refine yK 166 hs hd (yW H162 S0) fun _ hs hd S1 N1=>?_
   refine yK 167 hs hd (yW H162 (zN N1 S0)) fun _ hs hd S2 N2=>?_
   refine yK 168 hs hd (yW H162 (zN N2 (zN N1 S0))) fun _ hs hd S3 N3=>?_
   refine yK 169 hs hd (yU H165 S3) fun _ hs hd S4 N4=>?_
   refine yK 170 hs hd (yU H165 (zN N4 S3)) fun _ hs hd S5 N5=>?_
   refine yK 171 hs hd (yW H162 (zN N5 (zN N4 (zN N3 (zN N2 (zN N1 S0)))))) fun _ hs hd S6 N6=>?_
   refine yA 172 (.bool true) hs hd rfl (yP (zN N6 (zN N5 (zN N4 (zN N3 (zN N2 (zN N1 S0)))))) rfl) fun _ hs hd S7 N7=>?_
   exact wpList_nil (hK_ _ _ (Stop.go ⟨true,Eq.trans (by first|rfl|(rw[];rfl)|(simp[*];done)) hE78.out.symm,hs,hd,(zN N7 (zN N6 (zN N5 (zN N4 (zN N3 (zN N2 (zN N1 (zN N0 ep18)))))))),S7,rfl⟩))
  replace c79:=Bool.eq_false_iff.mpr c79
  subst c79
  by_cases c80:a0≥12353
  ·refine yA 165 (.bool false) hs hd rfl (yM es18) fun _ hs hd S0 N0=>?_
   refine yA 166 (.int .i32 a0) hs hd (yW H162 S0) (yM (zN N0 ep18)) fun _ hs hd S1 N1=>?_
   refine yA 167 (.bool true) hs hd (yW H162 (zN N1 S0)) (yC c80 S1) fun _ hs hd S2 N2=>?_
   refine yA 168 (.bool true) hs hd (yW H162 (zN N2 (zN N1 S0))) (yM S2) fun _ hs hd S3 N3=>?_
   refine yA 169 (.int .i32 a0) hs hd (yW H165 S3) (yM (zN N3 (zN N2 (zN N1 (zN N0 ep18))))) fun _ hs hd S4 N4=>?_
   refine yA 170 (.bool (decide (a0≤12436))) hs hd (yW H165 (zN N4 S3)) (yB S4) fun _ hs hd S5 N5=>?_
   refine yA 171 (.bool (decide (a0≤12436))) hs hd (yW H162 (zN N5 (zN N4 (zN N3 (zN N2 (zN N1 S0)))))) (yP (zN N5 (zN N4 S3)) S5) fun _ hs hd S6 N6=>?_
   refine yA 172 (.bool (decide (a0≤12436))) hs hd rfl (yQ (zN N6 (zN N5 (zN N4 (zN N3 (zN N2 (zN N1 S0)))))) S6) fun _ hs hd S7 N7=>?_
   exact wpList_nil (hK_ _ _ (Stop.go ⟨(decide (a0≤12436)),Eq.trans (by first|rfl|(rw[if_pos c80];rfl)|(simp[*];done)) hE78.out.symm,hs,hd,(zN N7 (zN N6 (zN N5 (zN N4 (zN N3 (zN N2 (zN N1 (zN N0 ep18)))))))),S7,rfl⟩))
  refine yA 165 (.bool false) hs hd rfl (yM es18) fun _ hs hd S0 N0=>?_
  refine yA 166 (.int .i32 a0) hs hd (yW H162 S0) (yM (zN N0 ep18)) fun _ hs hd S1 N1=>?_
  refine yA 167 (.bool false) hs hd (yW H162 (zN N1 S0)) (yD c80 S1) fun _ hs hd S2 N2=>?_
  refine yA 168 (.bool false) hs hd (yW H162 (zN N2 (zN N1 S0))) (yM S2) fun _ hs hd S3 N3=>?_
  refine yK 169 hs hd (yW H165 S3) fun _ hs hd S4 N4=>?_
  refine yK 170 hs hd (yW H165 (zN N4 S3)) fun _ hs hd S5 N5=>?_
  refine yA 171 (.bool false) hs hd (yW H162 (zN N5 (zN N4 (zN N3 (zN N2 (zN N1 S0)))))) (yQ (zN N5 (zN N4 S3)) rfl) fun _ hs hd S6 N6=>?_
  refine yA 172 (.bool false) hs hd rfl (yQ (zN N6 (zN N5 (zN N4 (zN N3 (zN N2 (zN N1 S0)))))) S6) fun _ hs hd S7 N7=>?_
  exact wpList_nil (hK_ _ _ (Stop.go ⟨false,Eq.trans (by first|rfl|(rw[if_neg c80];rfl)|(simp[*];done)) hE78.out.symm,hs,hd,(zN N7 (zN N6 (zN N5 (zN N4 (zN N3 (zN N2 (zN N1 (zN N0 ep18)))))))),S7,rfl⟩))
 case rest=>
  clear hs hd ep18 es18
  obtain⟨b77,hb_,hs,hd,ep19,es19,rfl⟩:=hc_
  simp only[List.drop_succ_cons,List.drop_zero,List.drop_nil]
  have H:=MW.bind_step HH.out (hb_.trans hE78.out)
  replace HH:=za H
  clear H hb_ hE78
  obtain⟨E82,hE82⟩:∃ e_:Bool,e_=(if b77=true then(true) else(if a0≥19968 then((decide (a0≤20223))) else(false))):=⟨_,rfl⟩
  replace hE82:=za hE82
  refine MW.list_cut 8 (fun a_ w_=>∃ b_:Bool,b_=E82∧a_.tmps.size=213∧a_.defers=[]∧a_.eval (.tmp 0)=.int .i32 a0∧a_.eval (.tmp 180)=.bool b_∧w=w_) (fun K_ hK_=>?seg) (fun af20 w_ hc_=>?rest)
  case seg=>
   simp only[List.take_succ_cons,List.take_zero,List.take_nil]
   clear HH
   by_cases c83:b77=true
   ·subst c83
    refine yA 173 (.bool true) hs hd rfl (yM es19) fun _ hs hd S0 N0=>?_
    refine yK 174 hs hd (yW H170 S0) fun _ hs hd S1 N1=>?_
    refine yK 175 hs hd (yW H170 (zN N1 S0)) fun _ hs hd S2 N2=>?_
    refine yK 176 hs hd (yW H170 (zN N2 (zN N1 S0))) fun _ hs hd S3 N3=>?_
    refine yK 177 hs hd (yU H173 S3) fun _ hs hd S4 N4=>?_
    refine yK 178 hs hd (yU H173 (zN N4 S3)) fun _ hs hd S5 N5=>?_
    refine yK 179 hs hd (yW H170 (zN N5 (zN N4 (zN N3 (zN N2 (zN N1 S0)))))) fun _ hs hd S6 N6=>?_
    refine yA 180 (.bool true) hs hd rfl (yP (zN N6 (zN N5 (zN N4 (zN N3 (zN N2 (zN N1 S0)))))) rfl) fun _ hs hd S7 N7=>?_
    exact wpList_nil (hK_ _ _ (Stop.go ⟨true,Eq.trans (by first|rfl|(rw[];rfl)|(simp[*];done)) hE82.out.symm,hs,hd,(zN N7 (zN N6 (zN N5 (zN N4 (zN N3 (zN N2 (zN N1 (zN N0 ep19)))))))),S7,rfl⟩))
   replace c83:=Bool.eq_false_iff.mpr c83
   subst c83
   by_cases c84:a0≥19968
   ·refine yA 173 (.bool false) hs hd rfl (yM es19) fun _ hs hd S0 N0=>?_
    refine yA 174 (.int .i32 a0) hs hd (yW H170 S0) (yM (zN N0 ep19)) fun _ hs hd S1 N1=>?_
    refine yA 175 (.bool true) hs hd (yW H170 (zN N1 S0)) (yC c84 S1) fun _ hs hd S2 N2=>?_
    refine yA 176 (.bool true) hs hd (yW H170 (zN N2 (zN N1 S0))) (yM S2) fun _ hs hd S3 N3=>?_
    refine yA 177 (.int .i32 a0) hs hd (yW H173 S3) (yM (zN N3 (zN N2 (zN N1 (zN N0 ep19))))) fun _ hs hd S4 N4=>?_
    refine yA 178 (.bool (decide (a0≤20223))) hs hd (yW H173 (zN N4 S3)) (yB S4) fun _ hs hd S5 N5=>?_
    refine yA 179 (.bool (decide (a0≤20223))) hs hd (yW H170 (zN N5 (zN N4 (zN N3 (zN N2 (zN N1 S0)))))) (yP (zN N5 (zN N4 S3)) S5) fun _ hs hd S6 N6=>?_
    refine yA 180 (.bool (decide (a0≤20223))) hs hd rfl (yQ (zN N6 (zN N5 (zN N4 (zN N3 (zN N2 (zN N1 S0)))))) S6) fun _ hs hd S7 N7=>?_
    exact wpList_nil (hK_ _ _ (Stop.go ⟨(decide (a0≤20223)),Eq.trans (by first|rfl|(rw[if_pos c84];rfl)|(simp[*];done)) hE82.out.symm,hs,hd,(zN N7 (zN N6 (zN N5 (zN N4 (zN N3 (zN N2 (zN N1 (zN N0 ep19)))))))),S7,rfl⟩))
   refine yA 173 (.bool false) hs hd rfl (yM es19) fun _ hs hd S0 N0=>?_
   refine yA 174 (.int .i32 a0) hs hd (yW H170 S0) (yM (zN N0 ep19)) fun _ hs hd S1 N1=>?_
   refine yA 175 (.bool false) hs hd (yW H170 (zN N1 S0)) (yD c84 S1) fun _ hs hd S2 N2=>?_
   refine yA 176 (.bool false) hs hd (yW H170 (zN N2 (zN N1 S0))) (yM S2) fun _ hs hd S3 N3=>?_
   refine yK 177 hs hd (yW H173 S3) fun _ hs hd S4 N4=>?_
   refine yK 178 hs hd (yW H173 (zN N4 S3)) fun _ hs hd S5 N5=>?_
   refine yA 179 (.bool false) hs hd (yW H170 (zN N5 (zN N4 (zN N3 (zN N2 (zN N1 S0)))))) (yQ (zN N5 (zN N4 S3)) rfl) fun _ hs hd S6 N6=>?_
   refine yA 180 (.bool false) hs hd rfl (yQ (zN N6 (zN N5 (zN N4 (zN N3 (zN N2 (zN N1 S0)))))) S6) fun _ hs hd S7 N7=>?_
   exact wpList_nil (hK_ _ _ (Stop.go ⟨false,Eq.trans (by first|rfl|(rw[if_neg c84];rfl)|(simp[*];done)) hE82.out.symm,hs,hd,(zN N7 (zN N6 (zN N5 (zN N4 (zN N3 (zN N2 (zN N1 (zN N0 ep19)))))))),S7,rfl⟩))
  case rest=>
   clear hs hd ep19 es19
   obtain⟨b81,hb_,hs,hd,ep20,es20,rfl⟩:=hc_
   simp only[List.drop_succ_cons,List.drop_zero,List.drop_nil]
   have H:=MW.bind_step HH.out (hb_.trans hE82.out)
   replace HH:=za H
   clear H hb_ hE82
   obtain⟨E86,hE86⟩:∃ e_:Bool,e_=(if b81=true then(true) else(if a0≥44032 then((decide (a0≤55203))) else(false))):=⟨_,rfl⟩
   replace hE86:=za hE86
   refine MW.list_cut 8 (fun a_ w_=>∃ b_:Bool,b_=E86∧a_.tmps.size=213∧a_.defers=[]∧a_.eval (.tmp 0)=.int .i32 a0∧a_.eval (.tmp 188)=.bool b_∧w=w_) (fun K_ hK_=>?seg) (fun af21 w_ hc_=>?rest)
   case seg=>
    simp only[List.take_succ_cons,List.take_zero,List.take_nil]
    clear HH
    by_cases c87:b81=true
    ·subst c87
     refine yA 181 (.bool true) hs hd rfl (yM es20) fun _ hs hd S0 N0=>?_
     refine yK 182 hs hd (yW H178 S0) fun _ hs hd S1 N1=>?_
     refine yK 183 hs hd (yW H178 (zN N1 S0)) fun _ hs hd S2 N2=>?_
     refine yK 184 hs hd (yW H178 (zN N2 (zN N1 S0))) fun _ hs hd S3 N3=>?_
     refine yK 185 hs hd (yU H181 S3) fun _ hs hd S4 N4=>?_
     refine yK 186 hs hd (yU H181 (zN N4 S3)) fun _ hs hd S5 N5=>?_
     refine yK 187 hs hd (yW H178 (zN N5 (zN N4 (zN N3 (zN N2 (zN N1 S0)))))) fun _ hs hd S6 N6=>?_
     refine yA 188 (.bool true) hs hd rfl (yP (zN N6 (zN N5 (zN N4 (zN N3 (zN N2 (zN N1 S0)))))) rfl) fun _ hs hd S7 N7=>?_
     exact wpList_nil (hK_ _ _ (Stop.go ⟨true,Eq.trans (by first|rfl|(rw[];rfl)|(simp[*];done)) hE86.out.symm,hs,hd,(zN N7 (zN N6 (zN N5 (zN N4 (zN N3 (zN N2 (zN N1 (zN N0 ep20)))))))),S7,rfl⟩))
    replace c87:=Bool.eq_false_iff.mpr c87
    subst c87
    by_cases c88:a0≥44032
    ·refine yA 181 (.bool false) hs hd rfl (yM es20) fun _ hs hd S0 N0=>?_
     refine yA 182 (.int .i32 a0) hs hd (yW H178 S0) (yM (zN N0 ep20)) fun _ hs hd S1 N1=>?_
     refine yA 183 (.bool true) hs hd (yW H178 (zN N1 S0)) (yC c88 S1) fun _ hs hd S2 N2=>?_
     refine yA 184 (.bool true) hs hd (yW H178 (zN N2 (zN N1 S0))) (yM S2) fun _ hs hd S3 N3=>?_
     refine yA 185 (.int .i32 a0) hs hd (yW H181 S3) (yM (zN N3 (zN N2 (zN N1 (zN N0 ep20))))) fun _ hs hd S4 N4=>?_
     refine yA 186 (.bool (decide (a0≤55203))) hs hd (yW H181 (zN N4 S3)) (yB S4) fun _ hs hd S5 N5=>?_
     refine yA 187 (.bool (decide (a0≤55203))) hs hd (yW H178 (zN N5 (zN N4 (zN N3 (zN N2 (zN N1 S0)))))) (yP (zN N5 (zN N4 S3)) S5) fun _ hs hd S6 N6=>?_
     refine yA 188 (.bool (decide (a0≤55203))) hs hd rfl (yQ (zN N6 (zN N5 (zN N4 (zN N3 (zN N2 (zN N1 S0)))))) S6) fun _ hs hd S7 N7=>?_
     exact wpList_nil (hK_ _ _ (Stop.go ⟨(decide (a0≤55203)),Eq.trans (by first|rfl|(rw[if_pos c88];rfl)|(simp[*];done)) hE86.out.symm,hs,hd,(zN N7 (zN N6 (zN N5 (zN N4 (zN N3 (zN N2 (zN N1 (zN N0 ep20)))))))),S7,rfl⟩))
    refine yA 181 (.bool false) hs hd rfl (yM es20) fun _ hs hd S0 N0=>?_
    refine yA 182 (.int .i32 a0) hs hd (yW H178 S0) (yM (zN N0 ep20)) fun _ hs hd S1 N1=>?_
    refine yA 183 (.bool false) hs hd (yW H178 (zN N1 S0)) (yD c88 S1) fun _ hs hd S2 N2=>?_
    refine yA 184 (.bool false) hs hd (yW H178 (zN N2 (zN N1 S0))) (yM S2) fun _ hs hd S3 N3=>?_
    refine yK 185 hs hd (yW H181 S3) fun _ hs hd S4 N4=>?_
    refine yK 186 hs hd (yW H181 (zN N4 S3)) fun _ hs hd S5 N5=>?_
    refine yA 187 (.bool false) hs hd (yW H178 (zN N5 (zN N4 (zN N3 (zN N2 (zN N1 S0)))))) (yQ (zN N5 (zN N4 S3)) rfl) fun _ hs hd S6 N6=>?_
    refine yA 188 (.bool false) hs hd rfl (yQ (zN N6 (zN N5 (zN N4 (zN N3 (zN N2 (zN N1 S0)))))) S6) fun _ hs hd S7 N7=>?_
    exact wpList_nil (hK_ _ _ (Stop.go ⟨false,Eq.trans (by first|rfl|(rw[if_neg c88];rfl)|(simp[*];done)) hE86.out.symm,hs,hd,(zN N7 (zN N6 (zN N5 (zN N4 (zN N3 (zN N2 (zN N1 (zN N0 ep20)))))))),S7,rfl⟩))
   case rest=>
    clear hs hd ep20 es20
    obtain⟨b85,hb_,hs,hd,ep21,es21,rfl⟩:=hc_
    simp only[List.drop_succ_cons,List.drop_zero,List.drop_nil]
    have H:=MW.bind_step HH.out (hb_.trans hE86.out)
    replace HH:=za H
    clear H hb_ hE86
    obtain⟨E90,hE90⟩:∃ e_:Bool,e_=(if b85=true then(true) else(if a0≥64256 then((decide (a0≤64261))) else(false))):=⟨_,rfl⟩
    replace hE90:=za hE90
    refine MW.list_cut 8 (fun a_ w_=>∃ b_:Bool,b_=E90∧a_.tmps.size=213∧a_.defers=[]∧a_.eval (.tmp 0)=.int .i32 a0∧a_.eval (.tmp 196)=.bool b_∧w=w_) (fun K_ hK_=>?seg) (fun af22 w_ hc_=>?rest)
    case seg=>
     simp only[List.take_succ_cons,List.take_zero,List.take_nil]
     clear HH
     by_cases c91:b85=true
     ·subst c91
      refine yA 189 (.bool true) hs hd rfl (yM es21) fun _ hs hd S0 N0=>?_
      refine yK 190 hs hd (yW H186 S0) fun _ hs hd S1 N1=>?_
      refine yK 191 hs hd (yW H186 (zN N1 S0)) fun _ hs hd S2 N2=>?_
      refine yK 192 hs hd (yW H186 (zN N2 (zN N1 S0))) fun _ hs hd S3 N3=>?_
      refine yK 193 hs hd (yU H189 S3) fun _ hs hd S4 N4=>?_
      refine yK 194 hs hd (yU H189 (zN N4 S3)) fun _ hs hd S5 N5=>?_
      refine yK 195 hs hd (yW H186 (zN N5 (zN N4 (zN N3 (zN N2 (zN N1 S0)))))) fun _ hs hd S6 N6=>?_
      refine yA 196 (.bool true) hs hd rfl (yP (zN N6 (zN N5 (zN N4 (zN N3 (zN N2 (zN N1 S0)))))) rfl) fun _ hs hd S7 N7=>?_
      exact wpList_nil (hK_ _ _ (Stop.go ⟨true,Eq.trans (by first|rfl|(rw[];rfl)|(simp[*];done)) hE90.out.symm,hs,hd,(zN N7 (zN N6 (zN N5 (zN N4 (zN N3 (zN N2 (zN N1 (zN N0 ep21)))))))),S7,rfl⟩))
     replace c91:=Bool.eq_false_iff.mpr c91
     subst c91
     by_cases c92:a0≥64256
     ·refine yA 189 (.bool false) hs hd rfl (yM es21) fun _ hs hd S0 N0=>?_
      refine yA 190 (.int .i32 a0) hs hd (yW H186 S0) (yM (zN N0 ep21)) fun _ hs hd S1 N1=>?_
      refine yA 191 (.bool true) hs hd (yW H186 (zN N1 S0)) (yC c92 S1) fun _ hs hd S2 N2=>?_
      refine yA 192 (.bool true) hs hd (yW H186 (zN N2 (zN N1 S0))) (yM S2) fun _ hs hd S3 N3=>?_
      refine yA 193 (.int .i32 a0) hs hd (yW H189 S3) (yM (zN N3 (zN N2 (zN N1 (zN N0 ep21))))) fun _ hs hd S4 N4=>?_
      refine yA 194 (.bool (decide (a0≤64261))) hs hd (yW H189 (zN N4 S3)) (yB S4) fun _ hs hd S5 N5=>?_
      refine yA 195 (.bool (decide (a0≤64261))) hs hd (yW H186 (zN N5 (zN N4 (zN N3 (zN N2 (zN N1 S0)))))) (yP (zN N5 (zN N4 S3)) S5) fun _ hs hd S6 N6=>?_
      refine yA 196 (.bool (decide (a0≤64261))) hs hd rfl (yQ (zN N6 (zN N5 (zN N4 (zN N3 (zN N2 (zN N1 S0)))))) S6) fun _ hs hd S7 N7=>?_
      exact wpList_nil (hK_ _ _ (Stop.go ⟨(decide (a0≤64261)),Eq.trans (by first|rfl|(rw[if_pos c92];rfl)|(simp[*];done)) hE90.out.symm,hs,hd,(zN N7 (zN N6 (zN N5 (zN N4 (zN N3 (zN N2 (zN N1 (zN N0 ep21)))))))),S7,rfl⟩))
     refine yA 189 (.bool false) hs hd rfl (yM es21) fun _ hs hd S0 N0=>?_
     refine yA 190 (.int .i32 a0) hs hd (yW H186 S0) (yM (zN N0 ep21)) fun _ hs hd S1 N1=>?_
     refine yA 191 (.bool false) hs hd (yW H186 (zN N1 S0)) (yD c92 S1) fun _ hs hd S2 N2=>?_
     refine yA 192 (.bool false) hs hd (yW H186 (zN N2 (zN N1 S0))) (yM S2) fun _ hs hd S3 N3=>?_
     refine yK 193 hs hd (yW H189 S3) fun _ hs hd S4 N4=>?_
     refine yK 194 hs hd (yW H189 (zN N4 S3)) fun _ hs hd S5 N5=>?_
     refine yA 195 (.bool false) hs hd (yW H186 (zN N5 (zN N4 (zN N3 (zN N2 (zN N1 S0)))))) (yQ (zN N5 (zN N4 S3)) rfl) fun _ hs hd S6 N6=>?_
     refine yA 196 (.bool false) hs hd rfl (yQ (zN N6 (zN N5 (zN N4 (zN N3 (zN N2 (zN N1 S0)))))) S6) fun _ hs hd S7 N7=>?_
     exact wpList_nil (hK_ _ _ (Stop.go ⟨false,Eq.trans (by first|rfl|(rw[if_neg c92];rfl)|(simp[*];done)) hE90.out.symm,hs,hd,(zN N7 (zN N6 (zN N5 (zN N4 (zN N3 (zN N2 (zN N1 (zN N0 ep21)))))))),S7,rfl⟩))
    case rest=>
     clear hs hd ep21 es21
     obtain⟨b89,hb_,hs,hd,ep22,es22,rfl⟩:=hc_
     simp only[List.drop_succ_cons,List.drop_zero,List.drop_nil]
     have H:=MW.bind_step HH.out (hb_.trans hE90.out)
     replace HH:=za H
     clear H hb_ hE90
     obtain⟨E94,hE94⟩:∃ e_:Bool,e_=(if b89=true then(true) else(if a0≥65313 then((decide (a0≤65338))) else(false))):=⟨_,rfl⟩
     replace hE94:=za hE94
     refine MW.list_cut 8 (fun a_ w_=>∃ b_:Bool,b_=E94∧a_.tmps.size=213∧a_.defers=[]∧a_.eval (.tmp 0)=.int .i32 a0∧a_.eval (.tmp 204)=.bool b_∧w=w_) (fun K_ hK_=>?seg) (fun af23 w_ hc_=>?rest)
     case seg=>
      simp only[List.take_succ_cons,List.take_zero,List.take_nil]
      clear HH
      by_cases c95:b89=true
      ·subst c95
       refine yA 197 (.bool true) hs hd rfl (yM es22) fun _ hs hd S0 N0=>?_
       refine yK 198 hs hd (yW H194 S0) fun _ hs hd S1 N1=>?_
       refine yK 199 hs hd (yW H194 (zN N1 S0)) fun _ hs hd S2 N2=>?_
       refine yK 200 hs hd (yW H194 (zN N2 (zN N1 S0))) fun _ hs hd S3 N3=>?_
       refine yK 201 hs hd (yU H197 S3) fun _ hs hd S4 N4=>?_
       refine yK 202 hs hd (yU H197 (zN N4 S3)) fun _ hs hd S5 N5=>?_
       refine yK 203 hs hd (yW H194 (zN N5 (zN N4 (zN N3 (zN N2 (zN N1 S0)))))) fun _ hs hd S6 N6=>?_
       refine yA 204 (.bool true) hs hd rfl (yP (zN N6 (zN N5 (zN N4 (zN N3 (zN N2 (zN N1 S0)))))) rfl) fun _ hs hd S7 N7=>?_
       exact wpList_nil (hK_ _ _ (Stop.go ⟨true,Eq.trans (by first|rfl|(rw[];rfl)|(simp[*];done)) hE94.out.symm,hs,hd,(zN N7 (zN N6 (zN N5 (zN N4 (zN N3 (zN N2 (zN N1 (zN N0 ep22)))))))),S7,rfl⟩))
      replace c95:=Bool.eq_false_iff.mpr c95
      subst c95
      by_cases c96:a0≥65313
      ·refine yA 197 (.bool false) hs hd rfl (yM es22) fun _ hs hd S0 N0=>?_
       refine yA 198 (.int .i32 a0) hs hd (yW H194 S0) (yM (zN N0 ep22)) fun _ hs hd S1 N1=>?_
       refine yA 199 (.bool true) hs hd (yW H194 (zN N1 S0)) (yC c96 S1) fun _ hs hd S2 N2=>?_
       refine yA 200 (.bool true) hs hd (yW H194 (zN N2 (zN N1 S0))) (yM S2) fun _ hs hd S3 N3=>?_
       refine yA 201 (.int .i32 a0) hs hd (yW H197 S3) (yM (zN N3 (zN N2 (zN N1 (zN N0 ep22))))) fun _ hs hd S4 N4=>?_
       refine yA 202 (.bool (decide (a0≤65338))) hs hd (yW H197 (zN N4 S3)) (yB S4) fun _ hs hd S5 N5=>?_
       refine yA 203 (.bool (decide (a0≤65338))) hs hd (yW H194 (zN N5 (zN N4 (zN N3 (zN N2 (zN N1 S0)))))) (yP (zN N5 (zN N4 S3)) S5) fun _ hs hd S6 N6=>?_
       refine yA 204 (.bool (decide (a0≤65338))) hs hd rfl (yQ (zN N6 (zN N5 (zN N4 (zN N3 (zN N2 (zN N1 S0)))))) S6) fun _ hs hd S7 N7=>?_
       exact wpList_nil (hK_ _ _ (Stop.go ⟨(decide (a0≤65338)),Eq.trans (by first|rfl|(rw[if_pos c96];rfl)|(simp[*];done)) hE94.out.symm,hs,hd,(zN N7 (zN N6 (zN N5 (zN N4 (zN N3 (zN N2 (zN N1 (zN N0 ep22)))))))),S7,rfl⟩))
      refine yA 197 (.bool false) hs hd rfl (yM es22) fun _ hs hd S0 N0=>?_
      refine yA 198 (.int .i32 a0) hs hd (yW H194 S0) (yM (zN N0 ep22)) fun _ hs hd S1 N1=>?_
      refine yA 199 (.bool false) hs hd (yW H194 (zN N1 S0)) (yD c96 S1) fun _ hs hd S2 N2=>?_
      refine yA 200 (.bool false) hs hd (yW H194 (zN N2 (zN N1 S0))) (yM S2) fun _ hs hd S3 N3=>?_
      refine yK 201 hs hd (yW H197 S3) fun _ hs hd S4 N4=>?_
      refine yK 202 hs hd (yW H197 (zN N4 S3)) fun _ hs hd S5 N5=>?_
      refine yA 203 (.bool false) hs hd (yW H194 (zN N5 (zN N4 (zN N3 (zN N2 (zN N1 S0)))))) (yQ (zN N5 (zN N4 S3)) rfl) fun _ hs hd S6 N6=>?_
      refine yA 204 (.bool false) hs hd rfl (yQ (zN N6 (zN N5 (zN N4 (zN N3 (zN N2 (zN N1 S0)))))) S6) fun _ hs hd S7 N7=>?_
      exact wpList_nil (hK_ _ _ (Stop.go ⟨false,Eq.trans (by first|rfl|(rw[if_neg c96];rfl)|(simp[*];done)) hE94.out.symm,hs,hd,(zN N7 (zN N6 (zN N5 (zN N4 (zN N3 (zN N2 (zN N1 (zN N0 ep22)))))))),S7,rfl⟩))
     case rest=>
      clear hs hd ep22 es22
      obtain⟨b93,hb_,hs,hd,ep23,es23,rfl⟩:=hc_
      simp only[List.drop_succ_cons,List.drop_zero,List.drop_nil]
      have H:=MW.bind_step HH.out (hb_.trans hE94.out)
      replace HH:=za H
      clear H hb_ hE94
      obtain⟨E98,hE98⟩:∃ e_:Bool,e_=(if b93=true then(true) else(if a0≥65345 then((decide (a0≤65370))) else(false))):=⟨_,rfl⟩
      replace hE98:=za hE98
      refine MW.list_cut 9 (fun a_ w_=>∃ b_:Bool,b_=E98∧a_.tmps.size=213∧a_.defers=[]∧a_.eval (.tmp 0)=.int .i32 a0∧a_.eval (.tmp 2)=.bool b_∧w=w_) (fun K_ hK_=>?seg) (fun af24 w_ hc_=>?rest)
      case seg=>
       simp only[List.take_succ_cons,List.take_zero,List.take_nil]
       clear HH
       by_cases c99:b93=true
       ·subst c99
        refine yA 205 (.bool true) hs hd rfl (yM es23) fun _ hs hd S0 N0=>?_
        refine yK 206 hs hd (yW H202 S0) fun _ hs hd S1 N1=>?_
        refine yK 207 hs hd (yW H202 (zN N1 S0)) fun _ hs hd S2 N2=>?_
        refine yK 208 hs hd (yW H202 (zN N2 (zN N1 S0))) fun _ hs hd S3 N3=>?_
        refine yK 209 hs hd (yU H205 S3) fun _ hs hd S4 N4=>?_
        refine yK 210 hs hd (yU H205 (zN N4 S3)) fun _ hs hd S5 N5=>?_
        refine yK 211 hs hd (yW H202 (zN N5 (zN N4 (zN N3 (zN N2 (zN N1 S0)))))) fun _ hs hd S6 N6=>?_
        refine yA 212 (.bool true) hs hd rfl (yP (zN N6 (zN N5 (zN N4 (zN N3 (zN N2 (zN N1 S0)))))) rfl) fun _ hs hd S7 N7=>?_
        refine yA 2 (.bool true) hs hd rfl (MW.ab_assign rfl S7) fun _ hs hd S8 N8=>?_
        exact wpList_nil (hK_ _ _ (Stop.go ⟨true,Eq.trans (by first|rfl|(rw[];rfl)|(simp[*];done)) hE98.out.symm,hs,hd,(zN N8 (zN N7 (zN N6 (zN N5 (zN N4 (zN N3 (zN N2 (zN N1 (zN N0 ep23))))))))),S8,rfl⟩))
       replace c99:=Bool.eq_false_iff.mpr c99
       subst c99
       by_cases c100:a0≥65345
       ·refine yA 205 (.bool false) hs hd rfl (yM es23) fun _ hs hd S0 N0=>?_
        refine yA 206 (.int .i32 a0) hs hd (yW H202 S0) (yM (zN N0 ep23)) fun _ hs hd S1 N1=>?_
        refine yA 207 (.bool true) hs hd (yW H202 (zN N1 S0)) (yC c100 S1) fun _ hs hd S2 N2=>?_
        refine yA 208 (.bool true) hs hd (yW H202 (zN N2 (zN N1 S0))) (yM S2) fun _ hs hd S3 N3=>?_
        refine yA 209 (.int .i32 a0) hs hd (yW H205 S3) (yM (zN N3 (zN N2 (zN N1 (zN N0 ep23))))) fun _ hs hd S4 N4=>?_
        refine yA 210 (.bool (decide (a0≤65370))) hs hd (yW H205 (zN N4 S3)) (yB S4) fun _ hs hd S5 N5=>?_
        refine yA 211 (.bool (decide (a0≤65370))) hs hd (yW H202 (zN N5 (zN N4 (zN N3 (zN N2 (zN N1 S0)))))) (yP (zN N5 (zN N4 S3)) S5) fun _ hs hd S6 N6=>?_
        refine yA 212 (.bool (decide (a0≤65370))) hs hd rfl (yQ (zN N6 (zN N5 (zN N4 (zN N3 (zN N2 (zN N1 S0)))))) S6) fun _ hs hd S7 N7=>?_
        refine yA 2 (.bool (decide (a0≤65370))) hs hd rfl (MW.ab_assign rfl S7) fun _ hs hd S8 N8=>?_
        exact wpList_nil (hK_ _ _ (Stop.go ⟨(decide (a0≤65370)),Eq.trans (by first|rfl|(rw[if_pos c100];rfl)|(simp[*];done)) hE98.out.symm,hs,hd,(zN N8 (zN N7 (zN N6 (zN N5 (zN N4 (zN N3 (zN N2 (zN N1 (zN N0 ep23))))))))),S8,rfl⟩))
       refine yA 205 (.bool false) hs hd rfl (yM es23) fun _ hs hd S0 N0=>?_
       refine yA 206 (.int .i32 a0) hs hd (yW H202 S0) (yM (zN N0 ep23)) fun _ hs hd S1 N1=>?_
       refine yA 207 (.bool false) hs hd (yW H202 (zN N1 S0)) (yD c100 S1) fun _ hs hd S2 N2=>?_
       refine yA 208 (.bool false) hs hd (yW H202 (zN N2 (zN N1 S0))) (yM S2) fun _ hs hd S3 N3=>?_
       refine yK 209 hs hd (yW H205 S3) fun _ hs hd S4 N4=>?_
       refine yK 210 hs hd (yW H205 (zN N4 S3)) fun _ hs hd S5 N5=>?_
       refine yA 211 (.bool false) hs hd (yW H202 (zN N5 (zN N4 (zN N3 (zN N2 (zN N1 S0)))))) (yQ (zN N5 (zN N4 S3)) rfl) fun _ hs hd S6 N6=>?_
       refine yA 212 (.bool false) hs hd rfl (yQ (zN N6 (zN N5 (zN N4 (zN N3 (zN N2 (zN N1 S0)))))) S6) fun _ hs hd S7 N7=>?_
       refine yA 2 (.bool false) hs hd rfl (MW.ab_assign rfl S7) fun _ hs hd S8 N8=>?_
       exact wpList_nil (hK_ _ _ (Stop.go ⟨false,Eq.trans (by first|rfl|(rw[if_neg c100];rfl)|(simp[*];done)) hE98.out.symm,hs,hd,(zN N8 (zN N7 (zN N6 (zN N5 (zN N4 (zN N3 (zN N2 (zN N1 (zN N0 ep23))))))))),S8,rfl⟩))
      case rest=>
       clear hs hd ep23 es23
       obtain⟨b97,hb_,hs,hd,ep24,es24,rfl⟩:=hc_
       simp only[List.drop_succ_cons,List.drop_zero,List.drop_nil]
       have H:=MW.bind_step HH.out (hb_.trans hE98.out)
       replace HH:=za H
       clear H hb_ hE98
       obtain rfl:=Option.some.inj HH.out
       exact wpList_nil (fin.out _ hs hd es24)
theorem chars_letter.p2 {Q:Exit→Act→World→Prop} (OPS:Array Oper) (hO:OPS=chars_letter.ops.toArray) (a0:Int) (r:Bool) (w:World) (af12:Act) (b47:Bool) (hs:af12.tmps.size=213) (hd:af12.defers=[]) (ep12:af12.eval (.tmp 0)=.int .i32 a0) (es12:af12.eval (.tmp 112)=.bool b47) (h:((some (if b47=true then(true) else(if a0≥4352 then((decide (a0≤4370))) else(false)):Bool)).bind fun b52=>((some (if b52=true then(true) else(if a0≥4449 then((decide (a0≤4469))) else(false)):Bool)).bind fun b56=>((some (if b56=true then(true) else(if a0≥4520 then((decide (a0≤4546))) else(false)):Bool)).bind fun b60=>((some (if b60=true then(true) else(if a0=8486 then(true) else(if a0≥8490 then((decide (a0≤8491))) else(false))):Bool)).bind fun b64=>((some (if b64=true then(true) else(if a0≥8544 then((decide (a0≤8555))) else(false)):Bool)).bind fun b69=>((some (if b69=true then(true) else(if a0≥8560 then((decide (a0≤8571))) else(false)):Bool)).bind fun b73=>((some (if b73=true then(true) else(if a0≥12353 then((decide (a0≤12436))) else(false)):Bool)).bind fun b77=>((some (if b77=true then(true) else(if a0≥19968 then((decide (a0≤20223))) else(false)):Bool)).bind fun b81=>((some (if b81=true then(true) else(if a0≥44032 then((decide (a0≤55203))) else(false)):Bool)).bind fun b85=>((some (if b85=true then(true) else(if a0≥64256 then((decide (a0≤64261))) else(false)):Bool)).bind fun b89=>((some (if b89=true then(true) else(if a0≥65313 then((decide (a0≤65338))) else(false)):Bool)).bind fun b93=>((some (if b93=true then(true) else(if a0≥65345 then((decide (a0≤65370))) else(false)):Bool)).bind fun b97=>(some b97)))))))))))))=some r) (fin:∀ a':Act,a'.tmps.size=213→a'.defers=[]→a'.eval (.tmp 2)=.bool r→Q .normal a' w):wpList Try.prog OPS Q (chars_letter.ops.drop 110) af12 w:=by
 have HH:=za h
 clear h
 have H110:(OPS[110]?).bind (·.dst)=some 113:=by rw[hO];rfl
 have H113:(OPS[113]?).bind (·.dst)=some 116:=by rw[hO];rfl
 have H118:(OPS[118]?).bind (·.dst)=some 121:=by rw[hO];rfl
 have H121:(OPS[121]?).bind (·.dst)=some 124:=by rw[hO];rfl
 have H126:(OPS[126]?).bind (·.dst)=some 129:=by rw[hO];rfl
 have H129:(OPS[129]?).bind (·.dst)=some 132:=by rw[hO];rfl
 have H134:(OPS[134]?).bind (·.dst)=some 137:=by rw[hO];rfl
 have H138:(OPS[138]?).bind (·.dst)=some 141:=by rw[hO];rfl
 have H141:(OPS[141]?).bind (·.dst)=some 144:=by rw[hO];rfl
 have H146:(OPS[146]?).bind (·.dst)=some 149:=by rw[hO];rfl
 have H149:(OPS[149]?).bind (·.dst)=some 152:=by rw[hO];rfl
 have H154:(OPS[154]?).bind (·.dst)=some 157:=by rw[hO];rfl
 have H157:(OPS[157]?).bind (·.dst)=some 160:=by rw[hO];rfl
 replace hO:=(Stop.go hO:Stop _ (.mk _))
 replace fin:=(Stop.go fin:Stop _ (.mk _))
 refine MW.list_cut 52 (fun a_ w_=>∃ b73:Bool,((some (if b73=true then(true) else(if a0≥12353 then((decide (a0≤12436))) else(false)):Bool)).bind fun b77=>((some (if b77=true then(true) else(if a0≥19968 then((decide (a0≤20223))) else(false)):Bool)).bind fun b81=>((some (if b81=true then(true) else(if a0≥44032 then((decide (a0≤55203))) else(false)):Bool)).bind fun b85=>((some (if b85=true then(true) else(if a0≥64256 then((decide (a0≤64261))) else(false)):Bool)).bind fun b89=>((some (if b89=true then(true) else(if a0≥65313 then((decide (a0≤65338))) else(false)):Bool)).bind fun b93=>((some (if b93=true then(true) else(if a0≥65345 then((decide (a0≤65370))) else(false)):Bool)).bind fun b97=>(some b97)))))))=some r∧a_.tmps.size=213∧a_.defers=[]∧a_.eval (.tmp 0)=.int .i32 a0∧a_.eval (.tmp 164)=.bool b73∧w=w_) (fun KC_ hKC_=>?chunk) (fun a_ w_ hc_=>?next)
 case next=>
  obtain⟨b_,hb_,hs,hd,ep,es,rfl⟩:=hc_
  rw[List.drop_drop]
  exact chars_letter.p3 OPS hO.out a0 r _ _ b_ hs hd ep es hb_ fin.out
 simp only[chars_letter.ops,Try.f23,List.append_eq,List.cons_append,List.nil_append,List.drop_succ_cons,List.drop_zero,List.take_succ_cons,List.take_zero]
 obtain⟨E53,hE53⟩:∃ e_:Bool,e_=(if b47=true then(true) else(if a0≥4352 then((decide (a0≤4370))) else(false))):=⟨_,rfl⟩
 replace hE53:=za hE53
 refine MW.list_cut 8 (fun a_ w_=>∃ b_:Bool,b_=E53∧a_.tmps.size=213∧a_.defers=[]∧a_.eval (.tmp 0)=.int .i32 a0∧a_.eval (.tmp 120)=.bool b_∧w=w_) (fun K_ hK_=>?seg) (fun af13 w_ hc_=>?rest)
 case seg=>
  simp only[List.take_succ_cons,List.take_zero,List.take_nil]
  clear HH
  by_cases c54:b47=true
  ·subst c54
   refine yA 113 (.bool true) hs hd rfl (yM es12) fun _ hs hd S0 N0=>?_
   refine yK 114 hs hd (yW H110 S0) fun _ hs hd S1 N1=>?_
   refine yK 115 hs hd (yW H110 (zN N1 S0)) fun _ hs hd S2 N2=>?_
   refine yK 116 hs hd (yW H110 (zN N2 (zN N1 S0))) fun _ hs hd S3 N3=>?_
   refine yK 117 hs hd (yU H113 S3) fun _ hs hd S4 N4=>?_
   refine yK 118 hs hd (yU H113 (zN N4 S3)) fun _ hs hd S5 N5=>?_
   refine yK 119 hs hd (yW H110 (zN N5 (zN N4 (zN N3 (zN N2 (zN N1 S0)))))) fun _ hs hd S6 N6=>?_
   refine yA 120 (.bool true) hs hd rfl (yP (zN N6 (zN N5 (zN N4 (zN N3 (zN N2 (zN N1 S0)))))) rfl) fun _ hs hd S7 N7=>?_
   exact wpList_nil (hK_ _ _ (Stop.go ⟨true,Eq.trans (by first|rfl|(rw[];rfl)|(simp[*];done)) hE53.out.symm,hs,hd,(zN N7 (zN N6 (zN N5 (zN N4 (zN N3 (zN N2 (zN N1 (zN N0 ep12)))))))),S7,rfl⟩))
  replace c54:=Bool.eq_false_iff.mpr c54
  subst c54
  by_cases c55:a0≥4352
  ·refine yA 113 (.bool false) hs hd rfl (yM es12) fun _ hs hd S0 N0=>?_
   refine yA 114 (.int .i32 a0) hs hd (yW H110 S0) (yM (zN N0 ep12)) fun _ hs hd S1 N1=>?_
   refine yA 115 (.bool true) hs hd (yW H110 (zN N1 S0)) (yC c55 S1) fun _ hs hd S2 N2=>?_
   refine yA 116 (.bool true) hs hd (yW H110 (zN N2 (zN N1 S0))) (yM S2) fun _ hs hd S3 N3=>?_
   refine yA 117 (.int .i32 a0) hs hd (yW H113 S3) (yM (zN N3 (zN N2 (zN N1 (zN N0 ep12))))) fun _ hs hd S4 N4=>?_
   refine yA 118 (.bool (decide (a0≤4370))) hs hd (yW H113 (zN N4 S3)) (yB S4) fun _ hs hd S5 N5=>?_
   refine yA 119 (.bool (decide (a0≤4370))) hs hd (yW H110 (zN N5 (zN N4 (zN N3 (zN N2 (zN N1 S0)))))) (yP (zN N5 (zN N4 S3)) S5) fun _ hs hd S6 N6=>?_
   refine yA 120 (.bool (decide (a0≤4370))) hs hd rfl (yQ (zN N6 (zN N5 (zN N4 (zN N3 (zN N2 (zN N1 S0)))))) S6) fun _ hs hd S7 N7=>?_
   exact wpList_nil (hK_ _ _ (Stop.go ⟨(decide (a0≤4370)),Eq.trans (by first|rfl|(rw[if_pos c55];rfl)|(simp[*];done)) hE53.out.symm,hs,hd,(zN N7 (zN N6 (zN N5 (zN N4 (zN N3 (zN N2 (zN N1 (zN N0 ep12)))))))),S7,rfl⟩))
  refine yA 113 (.bool false) hs hd rfl (yM es12) fun _ hs hd S0 N0=>?_
  refine yA 114 (.int .i32 a0) hs hd (yW H110 S0) (yM (zN N0 ep12)) fun _ hs hd S1 N1=>?_
  refine yA 115 (.bool false) hs hd (yW H110 (zN N1 S0)) (yD c55 S1) fun _ hs hd S2 N2=>?_
  refine yA 116 (.bool false) hs hd (yW H110 (zN N2 (zN N1 S0))) (yM S2) fun _ hs hd S3 N3=>?_
  refine yK 117 hs hd (yW H113 S3) fun _ hs hd S4 N4=>?_
  refine yK 118 hs hd (yW H113 (zN N4 S3)) fun _ hs hd S5 N5=>?_
  refine yA 119 (.bool false) hs hd (yW H110 (zN N5 (zN N4 (zN N3 (zN N2 (zN N1 S0)))))) (yQ (zN N5 (zN N4 S3)) rfl) fun _ hs hd S6 N6=>?_
  refine yA 120 (.bool false) hs hd rfl (yQ (zN N6 (zN N5 (zN N4 (zN N3 (zN N2 (zN N1 S0)))))) S6) fun _ hs hd S7 N7=>?_
  exact wpList_nil (hK_ _ _ (Stop.go ⟨false,Eq.trans (by first|rfl|(rw[if_neg c55];rfl)|(simp[*];done)) hE53.out.symm,hs,hd,(zN N7 (zN N6 (zN N5 (zN N4 (zN N3 (zN N2 (zN N1 (zN N0 ep12)))))))),S7,rfl⟩))
 case rest=>
  clear hs hd ep12 es12
  obtain⟨b52,hb_,hs,hd,ep13,es13,rfl⟩:=hc_
  simp only[List.drop_succ_cons,List.drop_zero,List.drop_nil]
  have H:=MW.bind_step HH.out (hb_.trans hE53.out)
  replace HH:=za H
  clear H hb_ hE53
  obtain⟨E57,hE57⟩:∃ e_:Bool,e_=(if b52=true then(true) else(if a0≥4449 then((decide (a0≤4469))) else(false))):=⟨_,rfl⟩
  replace hE57:=za hE57
  refine MW.list_cut 8 (fun a_ w_=>∃ b_:Bool,b_=E57∧a_.tmps.size=213∧a_.defers=[]∧a_.eval (.tmp 0)=.int .i32 a0∧a_.eval (.tmp 128)=.bool b_∧w=w_) (fun K_ hK_=>?seg) (fun af14 w_ hc_=>?rest)
  case seg=>
   simp only[List.take_succ_cons,List.take_zero,List.take_nil]
   clear HH
   by_cases c58:b52=true
   ·subst c58
    refine yA 121 (.bool true) hs hd rfl (yM es13) fun _ hs hd S0 N0=>?_
    refine yK 122 hs hd (yW H118 S0) fun _ hs hd S1 N1=>?_
    refine yK 123 hs hd (yW H118 (zN N1 S0)) fun _ hs hd S2 N2=>?_
    refine yK 124 hs hd (yW H118 (zN N2 (zN N1 S0))) fun _ hs hd S3 N3=>?_
    refine yK 125 hs hd (yU H121 S3) fun _ hs hd S4 N4=>?_
    refine yK 126 hs hd (yU H121 (zN N4 S3)) fun _ hs hd S5 N5=>?_
    refine yK 127 hs hd (yW H118 (zN N5 (zN N4 (zN N3 (zN N2 (zN N1 S0)))))) fun _ hs hd S6 N6=>?_
    refine yA 128 (.bool true) hs hd rfl (yP (zN N6 (zN N5 (zN N4 (zN N3 (zN N2 (zN N1 S0)))))) rfl) fun _ hs hd S7 N7=>?_
    exact wpList_nil (hK_ _ _ (Stop.go ⟨true,Eq.trans (by first|rfl|(rw[];rfl)|(simp[*];done)) hE57.out.symm,hs,hd,(zN N7 (zN N6 (zN N5 (zN N4 (zN N3 (zN N2 (zN N1 (zN N0 ep13)))))))),S7,rfl⟩))
   replace c58:=Bool.eq_false_iff.mpr c58
   subst c58
   by_cases c59:a0≥4449
   ·refine yA 121 (.bool false) hs hd rfl (yM es13) fun _ hs hd S0 N0=>?_
    refine yA 122 (.int .i32 a0) hs hd (yW H118 S0) (yM (zN N0 ep13)) fun _ hs hd S1 N1=>?_
    refine yA 123 (.bool true) hs hd (yW H118 (zN N1 S0)) (yC c59 S1) fun _ hs hd S2 N2=>?_
    refine yA 124 (.bool true) hs hd (yW H118 (zN N2 (zN N1 S0))) (yM S2) fun _ hs hd S3 N3=>?_
    refine yA 125 (.int .i32 a0) hs hd (yW H121 S3) (yM (zN N3 (zN N2 (zN N1 (zN N0 ep13))))) fun _ hs hd S4 N4=>?_
    refine yA 126 (.bool (decide (a0≤4469))) hs hd (yW H121 (zN N4 S3)) (yB S4) fun _ hs hd S5 N5=>?_
    refine yA 127 (.bool (decide (a0≤4469))) hs hd (yW H118 (zN N5 (zN N4 (zN N3 (zN N2 (zN N1 S0)))))) (yP (zN N5 (zN N4 S3)) S5) fun _ hs hd S6 N6=>?_
    refine yA 128 (.bool (decide (a0≤4469))) hs hd rfl (yQ (zN N6 (zN N5 (zN N4 (zN N3 (zN N2 (zN N1 S0)))))) S6) fun _ hs hd S7 N7=>?_
    exact wpList_nil (hK_ _ _ (Stop.go ⟨(decide (a0≤4469)),Eq.trans (by first|rfl|(rw[if_pos c59];rfl)|(simp[*];done)) hE57.out.symm,hs,hd,(zN N7 (zN N6 (zN N5 (zN N4 (zN N3 (zN N2 (zN N1 (zN N0 ep13)))))))),S7,rfl⟩))
   refine yA 121 (.bool false) hs hd rfl (yM es13) fun _ hs hd S0 N0=>?_
   refine yA 122 (.int .i32 a0) hs hd (yW H118 S0) (yM (zN N0 ep13)) fun _ hs hd S1 N1=>?_
   refine yA 123 (.bool false) hs hd (yW H118 (zN N1 S0)) (yD c59 S1) fun _ hs hd S2 N2=>?_
   refine yA 124 (.bool false) hs hd (yW H118 (zN N2 (zN N1 S0))) (yM S2) fun _ hs hd S3 N3=>?_
   refine yK 125 hs hd (yW H121 S3) fun _ hs hd S4 N4=>?_
   refine yK 126 hs hd (yW H121 (zN N4 S3)) fun _ hs hd S5 N5=>?_
   refine yA 127 (.bool false) hs hd (yW H118 (zN N5 (zN N4 (zN N3 (zN N2 (zN N1 S0)))))) (yQ (zN N5 (zN N4 S3)) rfl) fun _ hs hd S6 N6=>?_
   refine yA 128 (.bool false) hs hd rfl (yQ (zN N6 (zN N5 (zN N4 (zN N3 (zN N2 (zN N1 S0)))))) S6) fun _ hs hd S7 N7=>?_
   exact wpList_nil (hK_ _ _ (Stop.go ⟨false,Eq.trans (by first|rfl|(rw[if_neg c59];rfl)|(simp[*];done)) hE57.out.symm,hs,hd,(zN N7 (zN N6 (zN N5 (zN N4 (zN N3 (zN N2 (zN N1 (zN N0 ep13)))))))),S7,rfl⟩))
  case rest=>
   clear hs hd ep13 es13
   obtain⟨b56,hb_,hs,hd,ep14,es14,rfl⟩:=hc_
   simp only[List.drop_succ_cons,List.drop_zero,List.drop_nil]
   have H:=MW.bind_step HH.out (hb_.trans hE57.out)
   replace HH:=za H
   clear H hb_ hE57
   obtain⟨E61,hE61⟩:∃ e_:Bool,e_=(if b56=true then(true) else(if a0≥4520 then((decide (a0≤4546))) else(false))):=⟨_,rfl⟩
   replace hE61:=za hE61
   refine MW.list_cut 8 (fun a_ w_=>∃ b_:Bool,b_=E61∧a_.tmps.size=213∧a_.defers=[]∧a_.eval (.tmp 0)=.int .i32 a0∧a_.eval (.tmp 136)=.bool b_∧w=w_) (fun K_ hK_=>?seg) (fun af15 w_ hc_=>?rest)
   case seg=>
    simp only[List.take_succ_cons,List.take_zero,List.take_nil]
    clear HH
    by_cases c62:b56=true
    ·subst c62
     refine yA 129 (.bool true) hs hd rfl (yM es14) fun _ hs hd S0 N0=>?_
     refine yK 130 hs hd (yW H126 S0) fun _ hs hd S1 N1=>?_
     refine yK 131 hs hd (yW H126 (zN N1 S0)) fun _ hs hd S2 N2=>?_
     refine yK 132 hs hd (yW H126 (zN N2 (zN N1 S0))) fun _ hs hd S3 N3=>?_
     refine yK 133 hs hd (yU H129 S3) fun _ hs hd S4 N4=>?_
     refine yK 134 hs hd (yU H129 (zN N4 S3)) fun _ hs hd S5 N5=>?_
     refine yK 135 hs hd (yW H126 (zN N5 (zN N4 (zN N3 (zN N2 (zN N1 S0)))))) fun _ hs hd S6 N6=>?_
     refine yA 136 (.bool true) hs hd rfl (yP (zN N6 (zN N5 (zN N4 (zN N3 (zN N2 (zN N1 S0)))))) rfl) fun _ hs hd S7 N7=>?_
     exact wpList_nil (hK_ _ _ (Stop.go ⟨true,Eq.trans (by first|rfl|(rw[];rfl)|(simp[*];done)) hE61.out.symm,hs,hd,(zN N7 (zN N6 (zN N5 (zN N4 (zN N3 (zN N2 (zN N1 (zN N0 ep14)))))))),S7,rfl⟩))
    replace c62:=Bool.eq_false_iff.mpr c62
    subst c62
    by_cases c63:a0≥4520
    ·refine yA 129 (.bool false) hs hd rfl (yM es14) fun _ hs hd S0 N0=>?_
     refine yA 130 (.int .i32 a0) hs hd (yW H126 S0) (yM (zN N0 ep14)) fun _ hs hd S1 N1=>?_
     refine yA 131 (.bool true) hs hd (yW H126 (zN N1 S0)) (yC c63 S1) fun _ hs hd S2 N2=>?_
     refine yA 132 (.bool true) hs hd (yW H126 (zN N2 (zN N1 S0))) (yM S2) fun _ hs hd S3 N3=>?_
     refine yA 133 (.int .i32 a0) hs hd (yW H129 S3) (yM (zN N3 (zN N2 (zN N1 (zN N0 ep14))))) fun _ hs hd S4 N4=>?_
     refine yA 134 (.bool (decide (a0≤4546))) hs hd (yW H129 (zN N4 S3)) (yB S4) fun _ hs hd S5 N5=>?_
     refine yA 135 (.bool (decide (a0≤4546))) hs hd (yW H126 (zN N5 (zN N4 (zN N3 (zN N2 (zN N1 S0)))))) (yP (zN N5 (zN N4 S3)) S5) fun _ hs hd S6 N6=>?_
     refine yA 136 (.bool (decide (a0≤4546))) hs hd rfl (yQ (zN N6 (zN N5 (zN N4 (zN N3 (zN N2 (zN N1 S0)))))) S6) fun _ hs hd S7 N7=>?_
     exact wpList_nil (hK_ _ _ (Stop.go ⟨(decide (a0≤4546)),Eq.trans (by first|rfl|(rw[if_pos c63];rfl)|(simp[*];done)) hE61.out.symm,hs,hd,(zN N7 (zN N6 (zN N5 (zN N4 (zN N3 (zN N2 (zN N1 (zN N0 ep14)))))))),S7,rfl⟩))
    refine yA 129 (.bool false) hs hd rfl (yM es14) fun _ hs hd S0 N0=>?_
    refine yA 130 (.int .i32 a0) hs hd (yW H126 S0) (yM (zN N0 ep14)) fun _ hs hd S1 N1=>?_
    refine yA 131 (.bool false) hs hd (yW H126 (zN N1 S0)) (yD c63 S1) fun _ hs hd S2 N2=>?_
    refine yA 132 (.bool false) hs hd (yW H126 (zN N2 (zN N1 S0))) (yM S2) fun _ hs hd S3 N3=>?_
    refine yK 133 hs hd (yW H129 S3) fun _ hs hd S4 N4=>?_
    refine yK 134 hs hd (yW H129 (zN N4 S3)) fun _ hs hd S5 N5=>?_
    refine yA 135 (.bool false) hs hd (yW H126 (zN N5 (zN N4 (zN N3 (zN N2 (zN N1 S0)))))) (yQ (zN N5 (zN N4 S3)) rfl) fun _ hs hd S6 N6=>?_
    refine yA 136 (.bool false) hs hd rfl (yQ (zN N6 (zN N5 (zN N4 (zN N3 (zN N2 (zN N1 S0)))))) S6) fun _ hs hd S7 N7=>?_
    exact wpList_nil (hK_ _ _ (Stop.go ⟨false,Eq.trans (by first|rfl|(rw[if_neg c63];rfl)|(simp[*];done)) hE61.out.symm,hs,hd,(zN N7 (zN N6 (zN N5 (zN N4 (zN N3 (zN N2 (zN N1 (zN N0 ep14)))))))),S7,rfl⟩))
   case rest=>
    clear hs hd ep14 es14
    obtain⟨b60,hb_,hs,hd,ep15,es15,rfl⟩:=hc_
    simp only[List.drop_succ_cons,List.drop_zero,List.drop_nil]
    have H:=MW.bind_step HH.out (hb_.trans hE61.out)
    replace HH:=za H
    clear H hb_ hE61
    obtain⟨E65,hE65⟩:∃ e_:Bool,e_=(if b60=true then(true) else(if a0=8486 then(true) else(if a0≥8490 then((decide (a0≤8491))) else(false)))):=⟨_,rfl⟩
    replace hE65:=za hE65
    refine MW.list_cut 12 (fun a_ w_=>∃ b_:Bool,b_=E65∧a_.tmps.size=213∧a_.defers=[]∧a_.eval (.tmp 0)=.int .i32 a0∧a_.eval (.tmp 148)=.bool b_∧w=w_) (fun K_ hK_=>?seg) (fun af16 w_ hc_=>?rest)
    case seg=>
     simp only[List.take_succ_cons,List.take_zero,List.take_nil]
     clear HH
     by_cases c66:b60=true
     ·subst c66
      refine yA 137 (.bool true) hs hd rfl (yM es15) fun _ hs hd S0 N0=>?_
      refine yK 138 hs hd (yW H134 S0) fun _ hs hd S1 N1=>?_
      refine yK 139 hs hd (yW H134 (zN N1 S0)) fun _ hs hd S2 N2=>?_
      refine yA 140 (.bool true) hs hd rfl (yP (zN N2 (zN N1 S0)) rfl) fun _ hs hd S3 N3=>?_
      refine yA 141 (.bool true) hs hd rfl (yM S3) fun _ hs hd S4 N4=>?_
      refine yK 142 hs hd (yW H138 S4) fun _ hs hd S5 N5=>?_
      refine yK 143 hs hd (yW H138 (zN N5 S4)) fun _ hs hd S6 N6=>?_
      refine yK 144 hs hd (yW H138 (zN N6 (zN N5 S4))) fun _ hs hd S7 N7=>?_
      refine yK 145 hs hd (yU H141 S7) fun _ hs hd S8 N8=>?_
      refine yK 146 hs hd (yU H141 (zN N8 S7)) fun _ hs hd S9 N9=>?_
      refine yK 147 hs hd (yW H138 (zN N9 (zN N8 (zN N7 (zN N6 (zN N5 S4)))))) fun _ hs hd S10 N10=>?_
      refine yA 148 (.bool true) hs hd rfl (yP (zN N10 (zN N9 (zN N8 (zN N7 (zN N6 (zN N5 S4)))))) rfl) fun _ hs hd S11 N11=>?_
      exact wpList_nil (hK_ _ _ (Stop.go ⟨true,Eq.trans (by first|rfl|(rw[];rfl)|(simp[*];done)) hE65.out.symm,hs,hd,(zN N11 (zN N10 (zN N9 (zN N8 (zN N7 (zN N6 (zN N5 (zN N4 (zN N3 (zN N2 (zN N1 (zN N0 ep15)))))))))))),S11,rfl⟩))
     replace c66:=Bool.eq_false_iff.mpr c66
     subst c66
     by_cases c67:a0=8486
     ·refine yA 137 (.bool false) hs hd rfl (yM es15) fun _ hs hd S0 N0=>?_
      refine yA 138 (.int .i32 a0) hs hd (yW H134 S0) (yM (zN N0 ep15)) fun _ hs hd S1 N1=>?_
      refine yA 139 (.bool true) hs hd (yW H134 (zN N1 S0)) (yC c67 S1) fun _ hs hd S2 N2=>?_
      refine yA 140 (.bool true) hs hd rfl (yQ (zN N2 (zN N1 S0)) S2) fun _ hs hd S3 N3=>?_
      refine yA 141 (.bool true) hs hd rfl (yM S3) fun _ hs hd S4 N4=>?_
      refine yK 142 hs hd (yW H138 S4) fun _ hs hd S5 N5=>?_
      refine yK 143 hs hd (yW H138 (zN N5 S4)) fun _ hs hd S6 N6=>?_
      refine yK 144 hs hd (yW H138 (zN N6 (zN N5 S4))) fun _ hs hd S7 N7=>?_
      refine yK 145 hs hd (yU H141 S7) fun _ hs hd S8 N8=>?_
      refine yK 146 hs hd (yU H141 (zN N8 S7)) fun _ hs hd S9 N9=>?_
      refine yK 147 hs hd (yW H138 (zN N9 (zN N8 (zN N7 (zN N6 (zN N5 S4)))))) fun _ hs hd S10 N10=>?_
      refine yA 148 (.bool true) hs hd rfl (yP (zN N10 (zN N9 (zN N8 (zN N7 (zN N6 (zN N5 S4)))))) rfl) fun _ hs hd S11 N11=>?_
      exact wpList_nil (hK_ _ _ (Stop.go ⟨true,Eq.trans (by first|rfl|(rw[if_pos c67];rfl)|(simp[*];done)) hE65.out.symm,hs,hd,(zN N11 (zN N10 (zN N9 (zN N8 (zN N7 (zN N6 (zN N5 (zN N4 (zN N3 (zN N2 (zN N1 (zN N0 ep15)))))))))))),S11,rfl⟩))
     by_cases c68:a0≥8490
     ·refine yA 137 (.bool false) hs hd rfl (yM es15) fun _ hs hd S0 N0=>?_
      refine yA 138 (.int .i32 a0) hs hd (yW H134 S0) (yM (zN N0 ep15)) fun _ hs hd S1 N1=>?_
      refine yA 139 (.bool false) hs hd (yW H134 (zN N1 S0)) (yD c67 S1) fun _ hs hd S2 N2=>?_
      refine yA 140 (.bool false) hs hd rfl (yQ (zN N2 (zN N1 S0)) S2) fun _ hs hd S3 N3=>?_
      refine yA 141 (.bool false) hs hd rfl (yM S3) fun _ hs hd S4 N4=>?_
      refine yA 142 (.int .i32 a0) hs hd (yW H138 S4) (yM (zN N4 (zN N3 (zN N2 (zN N1 (zN N0 ep15)))))) fun _ hs hd S5 N5=>?_
      refine yA 143 (.bool true) hs hd (yW H138 (zN N5 S4)) (yC c68 S5) fun _ hs hd S6 N6=>?_
      refine yA 144 (.bool true) hs hd (yW H138 (zN N6 (zN N5 S4))) (yM S6) fun _ hs hd S7 N7=>?_
      refine yA 145 (.int .i32 a0) hs hd (yW H141 S7) (yM (zN N7 (zN N6 (zN N5 (zN N4 (zN N3 (zN N2 (zN N1 (zN N0 ep15))))))))) fun _ hs hd S8 N8=>?_
      refine yA 146 (.bool (decide (a0≤8491))) hs hd (yW H141 (zN N8 S7)) (yB S8) fun _ hs hd S9 N9=>?_
      refine yA 147 (.bool (decide (a0≤8491))) hs hd (yW H138 (zN N9 (zN N8 (zN N7 (zN N6 (zN N5 S4)))))) (yP (zN N9 (zN N8 S7)) S9) fun _ hs hd S10 N10=>?_
      refine yA 148 (.bool (decide (a0≤8491))) hs hd rfl (yQ (zN N10 (zN N9 (zN N8 (zN N7 (zN N6 (zN N5 S4)))))) S10) fun _ hs hd S11 N11=>?_
      exact wpList_nil (hK_ _ _ (Stop.go ⟨(decide (a0≤8491)),Eq.trans (by first|rfl|(rw[if_neg c67,if_pos c68];rfl)|(simp[*];done)) hE65.out.symm,hs,hd,(zN N11 (zN N10 (zN N9 (zN N8 (zN N7 (zN N6 (zN N5 (zN N4 (zN N3 (zN N2 (zN N1 (zN N0 ep15)))))))))))),S11,rfl⟩))
     refine yA 137 (.bool false) hs hd rfl (yM es15) fun _ hs hd S0 N0=>?_
     refine yA 138 (.int .i32 a0) hs hd (yW H134 S0) (yM (zN N0 ep15)) fun _ hs hd S1 N1=>?_
     refine yA 139 (.bool false) hs hd (yW H134 (zN N1 S0)) (yD c67 S1) fun _ hs hd S2 N2=>?_
     refine yA 140 (.bool false) hs hd rfl (yQ (zN N2 (zN N1 S0)) S2) fun _ hs hd S3 N3=>?_
     refine yA 141 (.bool false) hs hd rfl (yM S3) fun _ hs hd S4 N4=>?_
     refine yA 142 (.int .i32 a0) hs hd (yW H138 S4) (yM (zN N4 (zN N3 (zN N2 (zN N1 (zN N0 ep15)))))) fun _ hs hd S5 N5=>?_
     refine yA 143 (.bool false) hs hd (yW H138 (zN N5 S4)) (yD c68 S5) fun _ hs hd S6 N6=>?_
     refine yA 144 (.bool false) hs hd (yW H138 (zN N6 (zN N5 S4))) (yM S6) fun _ hs hd S7 N7=>?_
     refine yK 145 hs hd (yW H141 S7) fun _ hs hd S8 N8=>?_
     refine yK 146 hs hd (yW H141 (zN N8 S7)) fun _ hs hd S9 N9=>?_
     refine yA 147 (.bool false) hs hd (yW H138 (zN N9 (zN N8 (zN N7 (zN N6 (zN N5 S4)))))) (yQ (zN N9 (zN N8 S7)) rfl) fun _ hs hd S10 N10=>?_
     refine yA 148 (.bool false) hs hd rfl (yQ (zN N10 (zN N9 (zN N8 (zN N7 (zN N6 (zN N5 S4)))))) S10) fun _ hs hd S11 N11=>?_
     exact wpList_nil (hK_ _ _ (Stop.go ⟨false,Eq.trans (by first|rfl|(rw[if_neg c67,if_neg c68];rfl)|(simp[*];done)) hE65.out.symm,hs,hd,(zN N11 (zN N10 (zN N9 (zN N8 (zN N7 (zN N6 (zN N5 (zN N4 (zN N3 (zN N2 (zN N1 (zN N0 ep15)))))))))))),S11,rfl⟩))
    case rest=>
     clear hs hd ep15 es15
     obtain⟨b64,hb_,hs,hd,ep16,es16,rfl⟩:=hc_
     simp only[List.drop_succ_cons,List.drop_zero,List.drop_nil]
     have H:=MW.bind_step HH.out (hb_.trans hE65.out)
     replace HH:=za H
     clear H hb_ hE65
     obtain⟨E70,hE70⟩:∃ e_:Bool,e_=(if b64=true then(true) else(if a0≥8544 then((decide (a0≤8555))) else(false))):=⟨_,rfl⟩
     replace hE70:=za hE70
     refine MW.list_cut 8 (fun a_ w_=>∃ b_:Bool,b_=E70∧a_.tmps.size=213∧a_.defers=[]∧a_.eval (.tmp 0)=.int .i32 a0∧a_.eval (.tmp 156)=.bool b_∧w=w_) (fun K_ hK_=>?seg) (fun af17 w_ hc_=>?rest)
     case seg=>
      simp only[List.take_succ_cons,List.take_zero,List.take_nil]
      clear HH
      by_cases c71:b64=true
      ·subst c71
       refine yA 149 (.bool true) hs hd rfl (yM es16) fun _ hs hd S0 N0=>?_
       refine yK 150 hs hd (yW H146 S0) fun _ hs hd S1 N1=>?_
       refine yK 151 hs hd (yW H146 (zN N1 S0)) fun _ hs hd S2 N2=>?_
       refine yK 152 hs hd (yW H146 (zN N2 (zN N1 S0))) fun _ hs hd S3 N3=>?_
       refine yK 153 hs hd (yU H149 S3) fun _ hs hd S4 N4=>?_
       refine yK 154 hs hd (yU H149 (zN N4 S3)) fun _ hs hd S5 N5=>?_
       refine yK 155 hs hd (yW H146 (zN N5 (zN N4 (zN N3 (zN N2 (zN N1 S0)))))) fun _ hs hd S6 N6=>?_
       refine yA 156 (.bool true) hs hd rfl (yP (zN N6 (zN N5 (zN N4 (zN N3 (zN N2 (zN N1 S0)))))) rfl) fun _ hs hd S7 N7=>?_
       exact wpList_nil (hK_ _ _ (Stop.go ⟨true,Eq.trans (by first|rfl|(rw[];rfl)|(simp[*];done)) hE70.out.symm,hs,hd,(zN N7 (zN N6 (zN N5 (zN N4 (zN N3 (zN N2 (zN N1 (zN N0 ep16)))))))),S7,rfl⟩))
      replace c71:=Bool.eq_false_iff.mpr c71
      subst c71
      by_cases c72:a0≥8544
      ·refine yA 149 (.bool false) hs hd rfl (yM es16) fun _ hs hd S0 N0=>?_
       refine yA 150 (.int .i32 a0) hs hd (yW H146 S0) (yM (zN N0 ep16)) fun _ hs hd S1 N1=>?_
       refine yA 151 (.bool true) hs hd (yW H146 (zN N1 S0)) (yC c72 S1) fun _ hs hd S2 N2=>?_
       refine yA 152 (.bool true) hs hd (yW H146 (zN N2 (zN N1 S0))) (yM S2) fun _ hs hd S3 N3=>?_
       refine yA 153 (.int .i32 a0) hs hd (yW H149 S3) (yM (zN N3 (zN N2 (zN N1 (zN N0 ep16))))) fun _ hs hd S4 N4=>?_
       refine yA 154 (.bool (decide (a0≤8555))) hs hd (yW H149 (zN N4 S3)) (yB S4) fun _ hs hd S5 N5=>?_
       refine yA 155 (.bool (decide (a0≤8555))) hs hd (yW H146 (zN N5 (zN N4 (zN N3 (zN N2 (zN N1 S0)))))) (yP (zN N5 (zN N4 S3)) S5) fun _ hs hd S6 N6=>?_
       refine yA 156 (.bool (decide (a0≤8555))) hs hd rfl (yQ (zN N6 (zN N5 (zN N4 (zN N3 (zN N2 (zN N1 S0)))))) S6) fun _ hs hd S7 N7=>?_
       exact wpList_nil (hK_ _ _ (Stop.go ⟨(decide (a0≤8555)),Eq.trans (by first|rfl|(rw[if_pos c72];rfl)|(simp[*];done)) hE70.out.symm,hs,hd,(zN N7 (zN N6 (zN N5 (zN N4 (zN N3 (zN N2 (zN N1 (zN N0 ep16)))))))),S7,rfl⟩))
      refine yA 149 (.bool false) hs hd rfl (yM es16) fun _ hs hd S0 N0=>?_
      refine yA 150 (.int .i32 a0) hs hd (yW H146 S0) (yM (zN N0 ep16)) fun _ hs hd S1 N1=>?_
      refine yA 151 (.bool false) hs hd (yW H146 (zN N1 S0)) (yD c72 S1) fun _ hs hd S2 N2=>?_
      refine yA 152 (.bool false) hs hd (yW H146 (zN N2 (zN N1 S0))) (yM S2) fun _ hs hd S3 N3=>?_
      refine yK 153 hs hd (yW H149 S3) fun _ hs hd S4 N4=>?_
      refine yK 154 hs hd (yW H149 (zN N4 S3)) fun _ hs hd S5 N5=>?_
      refine yA 155 (.bool false) hs hd (yW H146 (zN N5 (zN N4 (zN N3 (zN N2 (zN N1 S0)))))) (yQ (zN N5 (zN N4 S3)) rfl) fun _ hs hd S6 N6=>?_
      refine yA 156 (.bool false) hs hd rfl (yQ (zN N6 (zN N5 (zN N4 (zN N3 (zN N2 (zN N1 S0)))))) S6) fun _ hs hd S7 N7=>?_
      exact wpList_nil (hK_ _ _ (Stop.go ⟨false,Eq.trans (by first|rfl|(rw[if_neg c72];rfl)|(simp[*];done)) hE70.out.symm,hs,hd,(zN N7 (zN N6 (zN N5 (zN N4 (zN N3 (zN N2 (zN N1 (zN N0 ep16)))))))),S7,rfl⟩))
     case rest=>
      clear hs hd ep16 es16
      obtain⟨b69,hb_,hs,hd,ep17,es17,rfl⟩:=hc_
      simp only[List.drop_succ_cons,List.drop_zero,List.drop_nil]
      have H:=MW.bind_step HH.out (hb_.trans hE70.out)
      replace HH:=za H
      clear H hb_ hE70
      obtain⟨E74,hE74⟩:∃ e_:Bool,e_=(if b69=true then(true) else(if a0≥8560 then((decide (a0≤8571))) else(false))):=⟨_,rfl⟩
      replace hE74:=za hE74
      refine MW.list_cut 8 (fun a_ w_=>∃ b_:Bool,b_=E74∧a_.tmps.size=213∧a_.defers=[]∧a_.eval (.tmp 0)=.int .i32 a0∧a_.eval (.tmp 164)=.bool b_∧w=w_) (fun K_ hK_=>?seg) (fun af18 w_ hc_=>?rest)
      case seg=>
       simp only[List.take_succ_cons,List.take_zero,List.take_nil]
       clear HH
       by_cases c75:b69=true
       ·subst c75
        refine yA 157 (.bool true) hs hd rfl (yM es17) fun _ hs hd S0 N0=>?_
        refine yK 158 hs hd (yW H154 S0) fun _ hs hd S1 N1=>?_
        refine yK 159 hs hd (yW H154 (zN N1 S0)) fun _ hs hd S2 N2=>?_
        refine yK 160 hs hd (yW H154 (zN N2 (zN N1 S0))) fun _ hs hd S3 N3=>?_
        refine yK 161 hs hd (yU H157 S3) fun _ hs hd S4 N4=>?_
        refine yK 162 hs hd (yU H157 (zN N4 S3)) fun _ hs hd S5 N5=>?_
        refine yK 163 hs hd (yW H154 (zN N5 (zN N4 (zN N3 (zN N2 (zN N1 S0)))))) fun _ hs hd S6 N6=>?_
        refine yA 164 (.bool true) hs hd rfl (yP (zN N6 (zN N5 (zN N4 (zN N3 (zN N2 (zN N1 S0)))))) rfl) fun _ hs hd S7 N7=>?_
        exact wpList_nil (hK_ _ _ (Stop.go ⟨true,Eq.trans (by first|rfl|(rw[];rfl)|(simp[*];done)) hE74.out.symm,hs,hd,(zN N7 (zN N6 (zN N5 (zN N4 (zN N3 (zN N2 (zN N1 (zN N0 ep17)))))))),S7,rfl⟩))
       replace c75:=Bool.eq_false_iff.mpr c75
       subst c75
       by_cases c76:a0≥8560
       ·refine yA 157 (.bool false) hs hd rfl (yM es17) fun _ hs hd S0 N0=>?_
        refine yA 158 (.int .i32 a0) hs hd (yW H154 S0) (yM (zN N0 ep17)) fun _ hs hd S1 N1=>?_
        refine yA 159 (.bool true) hs hd (yW H154 (zN N1 S0)) (yC c76 S1) fun _ hs hd S2 N2=>?_
        refine yA 160 (.bool true) hs hd (yW H154 (zN N2 (zN N1 S0))) (yM S2) fun _ hs hd S3 N3=>?_
        refine yA 161 (.int .i32 a0) hs hd (yW H157 S3) (yM (zN N3 (zN N2 (zN N1 (zN N0 ep17))))) fun _ hs hd S4 N4=>?_
        refine yA 162 (.bool (decide (a0≤8571))) hs hd (yW H157 (zN N4 S3)) (yB S4) fun _ hs hd S5 N5=>?_
        refine yA 163 (.bool (decide (a0≤8571))) hs hd (yW H154 (zN N5 (zN N4 (zN N3 (zN N2 (zN N1 S0)))))) (yP (zN N5 (zN N4 S3)) S5) fun _ hs hd S6 N6=>?_
        refine yA 164 (.bool (decide (a0≤8571))) hs hd rfl (yQ (zN N6 (zN N5 (zN N4 (zN N3 (zN N2 (zN N1 S0)))))) S6) fun _ hs hd S7 N7=>?_
        exact wpList_nil (hK_ _ _ (Stop.go ⟨(decide (a0≤8571)),Eq.trans (by first|rfl|(rw[if_pos c76];rfl)|(simp[*];done)) hE74.out.symm,hs,hd,(zN N7 (zN N6 (zN N5 (zN N4 (zN N3 (zN N2 (zN N1 (zN N0 ep17)))))))),S7,rfl⟩))
       refine yA 157 (.bool false) hs hd rfl (yM es17) fun _ hs hd S0 N0=>?_
       refine yA 158 (.int .i32 a0) hs hd (yW H154 S0) (yM (zN N0 ep17)) fun _ hs hd S1 N1=>?_
       refine yA 159 (.bool false) hs hd (yW H154 (zN N1 S0)) (yD c76 S1) fun _ hs hd S2 N2=>?_
       refine yA 160 (.bool false) hs hd (yW H154 (zN N2 (zN N1 S0))) (yM S2) fun _ hs hd S3 N3=>?_
       refine yK 161 hs hd (yW H157 S3) fun _ hs hd S4 N4=>?_
       refine yK 162 hs hd (yW H157 (zN N4 S3)) fun _ hs hd S5 N5=>?_
       refine yA 163 (.bool false) hs hd (yW H154 (zN N5 (zN N4 (zN N3 (zN N2 (zN N1 S0)))))) (yQ (zN N5 (zN N4 S3)) rfl) fun _ hs hd S6 N6=>?_
       refine yA 164 (.bool false) hs hd rfl (yQ (zN N6 (zN N5 (zN N4 (zN N3 (zN N2 (zN N1 S0)))))) S6) fun _ hs hd S7 N7=>?_
       exact wpList_nil (hK_ _ _ (Stop.go ⟨false,Eq.trans (by first|rfl|(rw[if_neg c76];rfl)|(simp[*];done)) hE74.out.symm,hs,hd,(zN N7 (zN N6 (zN N5 (zN N4 (zN N3 (zN N2 (zN N1 (zN N0 ep17)))))))),S7,rfl⟩))
      case rest=>
       clear hs hd ep17 es17
       obtain⟨b73,hb_,hs,hd,ep18,es18,rfl⟩:=hc_
       simp only[List.drop_succ_cons,List.drop_zero,List.drop_nil]
       have H:=MW.bind_step HH.out (hb_.trans hE74.out)
       replace HH:=za H
       clear H hb_ hE74
       exact wpList_nil (hKC_ _ _ (Stop.go ⟨b73,HH.out,hs,hd,ep18,es18,rfl⟩))
theorem chars_letter.p1 {Q:Exit→Act→World→Prop} (OPS:Array Oper) (hO:OPS=chars_letter.ops.toArray) (a0:Int) (r:Bool) (w:World) (af6:Act) (b21:Bool) (hs:af6.tmps.size=213) (hd:af6.defers=[]) (ep6:af6.eval (.tmp 0)=.int .i32 a0) (es6:af6.eval (.tmp 52)=.bool b21) (h:((some (if b21=true then(true) else(if a0=700 then(true) else((a0==902))):Bool)).bind fun b25=>((some (if b25=true then(true) else(if a0≥904 then((decide (a0≤906))) else(false)):Bool)).bind fun b29=>((some (if b29=true then(true) else(if a0=908 then(true) else(if a0≥910 then((decide (a0≤929))) else(false))):Bool)).bind fun b33=>((some (if b33=true then(true) else(if a0≥931 then((decide (a0≤974))) else(false)):Bool)).bind fun b38=>((some (if b38=true then(true) else(if a0=1025 then(true) else(if a0≥1040 then((decide (a0≤1103))) else(false))):Bool)).bind fun b42=>((some (if b42=true then(true) else(if a0=1105 then(true) else(if a0≥1488 then((decide (a0≤1514))) else(false))):Bool)).bind fun b47=>((some (if b47=true then(true) else(if a0≥4352 then((decide (a0≤4370))) else(false)):Bool)).bind fun b52=>((some (if b52=true then(true) else(if a0≥4449 then((decide (a0≤4469))) else(false)):Bool)).bind fun b56=>((some (if b56=true then(true) else(if a0≥4520 then((decide (a0≤4546))) else(false)):Bool)).bind fun b60=>((some (if b60=true then(true) else(if a0=8486 then(true) else(if a0≥8490 then((decide (a0≤8491))) else(false))):Bool)).bind fun b64=>((some (if b64=true then(true) else(if a0≥8544 then((decide (a0≤8555))) else(false)):Bool)).bind fun b69=>((some (if b69=true then(true) else(if a0≥8560 then((decide (a0≤8571))) else(false)):Bool)).bind fun b73=>((some (if b73=true then(true) else(if a0≥12353 then((decide (a0≤12436))) else(false)):Bool)).bind fun b77=>((some (if b77=true then(true) else(if a0≥19968 then((decide (a0≤20223))) else(false)):Bool)).bind fun b81=>((some (if b81=true then(true) else(if a0≥44032 then((decide (a0≤55203))) else(false)):Bool)).bind fun b85=>((some (if b85=true then(true) else(if a0≥64256 then((decide (a0≤64261))) else(false)):Bool)).bind fun b89=>((some (if b89=true then(true) else(if a0≥65313 then((decide (a0≤65338))) else(false)):Bool)).bind fun b93=>((some (if b93=true then(true) else(if a0≥65345 then((decide (a0≤65370))) else(false)):Bool)).bind fun b97=>(some b97)))))))))))))))))))=some r) (fin:∀ a':Act,a'.tmps.size=213→a'.defers=[]→a'.eval (.tmp 2)=.bool r→Q .normal a' w):wpList Try.prog OPS Q (chars_letter.ops.drop 50) af6 w:=by
 have HH:=za h
 clear h
 have H50:(OPS[50]?).bind (·.dst)=some 53:=by rw[hO];rfl
 have H54:(OPS[54]?).bind (·.dst)=some 57:=by rw[hO];rfl
 have H58:(OPS[58]?).bind (·.dst)=some 61:=by rw[hO];rfl
 have H61:(OPS[61]?).bind (·.dst)=some 64:=by rw[hO];rfl
 have H66:(OPS[66]?).bind (·.dst)=some 69:=by rw[hO];rfl
 have H70:(OPS[70]?).bind (·.dst)=some 73:=by rw[hO];rfl
 have H73:(OPS[73]?).bind (·.dst)=some 76:=by rw[hO];rfl
 have H78:(OPS[78]?).bind (·.dst)=some 81:=by rw[hO];rfl
 have H81:(OPS[81]?).bind (·.dst)=some 84:=by rw[hO];rfl
 have H86:(OPS[86]?).bind (·.dst)=some 89:=by rw[hO];rfl
 have H90:(OPS[90]?).bind (·.dst)=some 93:=by rw[hO];rfl
 have H93:(OPS[93]?).bind (·.dst)=some 96:=by rw[hO];rfl
 have H98:(OPS[98]?).bind (·.dst)=some 101:=by rw[hO];rfl
 have H102:(OPS[102]?).bind (·.dst)=some 105:=by rw[hO];rfl
 have H105:(OPS[105]?).bind (·.dst)=some 108:=by rw[hO];rfl
 replace hO:=(Stop.go hO:Stop _ (.mk _))
 replace fin:=(Stop.go fin:Stop _ (.mk _))
 refine MW.list_cut 60 (fun a_ w_=>∃ b47:Bool,((some (if b47=true then(true) else(if a0≥4352 then((decide (a0≤4370))) else(false)):Bool)).bind fun b52=>((some (if b52=true then(true) else(if a0≥4449 then((decide (a0≤4469))) else(false)):Bool)).bind fun b56=>((some (if b56=true then(true) else(if a0≥4520 then((decide (a0≤4546))) else(false)):Bool)).bind fun b60=>((some (if b60=true then(true) else(if a0=8486 then(true) else(if a0≥8490 then((decide (a0≤8491))) else(false))):Bool)).bind fun b64=>((some (if b64=true then(true) else(if a0≥8544 then((decide (a0≤8555))) else(false)):Bool)).bind fun b69=>((some (if b69=true then(true) else(if a0≥8560 then((decide (a0≤8571))) else(false)):Bool)).bind fun b73=>((some (if b73=true then(true) else(if a0≥12353 then((decide (a0≤12436))) else(false)):Bool)).bind fun b77=>((some (if b77=true then(true) else(if a0≥19968 then((decide (a0≤20223))) else(false)):Bool)).bind fun b81=>((some (if b81=true then(true) else(if a0≥44032 then((decide (a0≤55203))) else(false)):Bool)).bind fun b85=>((some (if b85=true then(true) else(if a0≥64256 then((decide (a0≤64261))) else(false)):Bool)).bind fun b89=>((some (if b89=true then(true) else(if a0≥65313 then((decide (a0≤65338))) else(false)):Bool)).bind fun b93=>((some (if b93=true then(true) else(if a0≥65345 then((decide (a0≤65370))) else(false)):Bool)).bind fun b97=>(some b97)))))))))))))=some r∧a_.tmps.size=213∧a_.defers=[]∧a_.eval (.tmp 0)=.int .i32 a0∧a_.eval (.tmp 112)=.bool b47∧w=w_) (fun KC_ hKC_=>?chunk) (fun a_ w_ hc_=>?next)
 case next=>
  obtain⟨b_,hb_,hs,hd,ep,es,rfl⟩:=hc_
  rw[List.drop_drop]
  exact chars_letter.p2 OPS hO.out a0 r _ _ b_ hs hd ep es hb_ fin.out
 simp only[chars_letter.ops,Try.f23,List.append_eq,List.cons_append,List.nil_append,List.drop_succ_cons,List.drop_zero,List.take_succ_cons,List.take_zero]
 obtain⟨E26,hE26⟩:∃ e_:Bool,e_=(if b21=true then(true) else(if a0=700 then(true) else((a0==902)))):=⟨_,rfl⟩
 replace hE26:=za hE26
 refine MW.list_cut 8 (fun a_ w_=>∃ b_:Bool,b_=E26∧a_.tmps.size=213∧a_.defers=[]∧a_.eval (.tmp 0)=.int .i32 a0∧a_.eval (.tmp 60)=.bool b_∧w=w_) (fun K_ hK_=>?seg) (fun af7 w_ hc_=>?rest)
 case seg=>
  simp only[List.take_succ_cons,List.take_zero,List.take_nil]
  clear HH
  by_cases c27:b21=true
  ·subst c27
   refine yA 53 (.bool true) hs hd rfl (yM es6) fun _ hs hd S0 N0=>?_
   refine yK 54 hs hd (yW H50 S0) fun _ hs hd S1 N1=>?_
   refine yK 55 hs hd (yW H50 (zN N1 S0)) fun _ hs hd S2 N2=>?_
   refine yA 56 (.bool true) hs hd rfl (yP (zN N2 (zN N1 S0)) rfl) fun _ hs hd S3 N3=>?_
   refine yA 57 (.bool true) hs hd rfl (yM S3) fun _ hs hd S4 N4=>?_
   refine yK 58 hs hd (yW H54 S4) fun _ hs hd S5 N5=>?_
   refine yK 59 hs hd (yW H54 (zN N5 S4)) fun _ hs hd S6 N6=>?_
   refine yA 60 (.bool true) hs hd rfl (yP (zN N6 (zN N5 S4)) rfl) fun _ hs hd S7 N7=>?_
   exact wpList_nil (hK_ _ _ (Stop.go ⟨true,Eq.trans (by first|rfl|(rw[];rfl)|(simp[*];done)) hE26.out.symm,hs,hd,(zN N7 (zN N6 (zN N5 (zN N4 (zN N3 (zN N2 (zN N1 (zN N0 ep6)))))))),S7,rfl⟩))
  replace c27:=Bool.eq_false_iff.mpr c27
  subst c27
  by_cases c28:a0=700
  ·refine yA 53 (.bool false) hs hd rfl (yM es6) fun _ hs hd S0 N0=>?_
   refine yA 54 (.int .i32 a0) hs hd (yW H50 S0) (yM (zN N0 ep6)) fun _ hs hd S1 N1=>?_
   refine yA 55 (.bool true) hs hd (yW H50 (zN N1 S0)) (yC c28 S1) fun _ hs hd S2 N2=>?_
   refine yA 56 (.bool true) hs hd rfl (yQ (zN N2 (zN N1 S0)) S2) fun _ hs hd S3 N3=>?_
   refine yA 57 (.bool true) hs hd rfl (yM S3) fun _ hs hd S4 N4=>?_
   refine yK 58 hs hd (yW H54 S4) fun _ hs hd S5 N5=>?_
   refine yK 59 hs hd (yW H54 (zN N5 S4)) fun _ hs hd S6 N6=>?_
   refine yA 60 (.bool true) hs hd rfl (yP (zN N6 (zN N5 S4)) rfl) fun _ hs hd S7 N7=>?_
   exact wpList_nil (hK_ _ _ (Stop.go ⟨true,Eq.trans (by first|rfl|(rw[if_pos c28];rfl)|(simp[*];done)) hE26.out.symm,hs,hd,(zN N7 (zN N6 (zN N5 (zN N4 (zN N3 (zN N2 (zN N1 (zN N0 ep6)))))))),S7,rfl⟩))
  refine yA 53 (.bool false) hs hd rfl (yM es6) fun _ hs hd S0 N0=>?_
  refine yA 54 (.int .i32 a0) hs hd (yW H50 S0) (yM (zN N0 ep6)) fun _ hs hd S1 N1=>?_
  refine yA 55 (.bool false) hs hd (yW H50 (zN N1 S0)) (yD c28 S1) fun _ hs hd S2 N2=>?_
  refine yA 56 (.bool false) hs hd rfl (yQ (zN N2 (zN N1 S0)) S2) fun _ hs hd S3 N3=>?_
  refine yA 57 (.bool false) hs hd rfl (yM S3) fun _ hs hd S4 N4=>?_
  refine yA 58 (.int .i32 a0) hs hd (yW H54 S4) (yM (zN N4 (zN N3 (zN N2 (zN N1 (zN N0 ep6)))))) fun _ hs hd S5 N5=>?_
  refine yA 59 (.bool (a0==902)) hs hd (yW H54 (zN N5 S4)) (yB S5) fun _ hs hd S6 N6=>?_
  refine yA 60 (.bool (a0==902)) hs hd rfl (yQ (zN N6 (zN N5 S4)) S6) fun _ hs hd S7 N7=>?_
  exact wpList_nil (hK_ _ _ (Stop.go ⟨(a0==902),Eq.trans (by first|rfl|(rw[if_neg c28];rfl)|(simp[*];done)) hE26.out.symm,hs,hd,(zN N7 (zN N6 (zN N5 (zN N4 (zN N3 (zN N2 (zN N1 (zN N0 ep6)))))))),S7,rfl⟩))
 case rest=>
  clear hs hd ep6 es6
  obtain⟨b25,hb_,hs,hd,ep7,es7,rfl⟩:=hc_
  simp only[List.drop_succ_cons,List.drop_zero,List.drop_nil]
  have H:=MW.bind_step HH.out (hb_.trans hE26.out)
  replace HH:=za H
  clear H hb_ hE26
  obtain⟨E30,hE30⟩:∃ e_:Bool,e_=(if b25=true then(true) else(if a0≥904 then((decide (a0≤906))) else(false))):=⟨_,rfl⟩
  replace hE30:=za hE30
  refine MW.list_cut 8 (fun a_ w_=>∃ b_:Bool,b_=E30∧a_.tmps.size=213∧a_.defers=[]∧a_.eval (.tmp 0)=.int .i32 a0∧a_.eval (.tmp 68)=.bool b_∧w=w_) (fun K_ hK_=>?seg) (fun af8 w_ hc_=>?rest)
  case seg=>
   simp only[List.take_succ_cons,List.take_zero,List.take_nil]
   clear HH
   by_cases c31:b25=true
   ·subst c31
    refine yA 61 (.bool true) hs hd rfl (yM es7) fun _ hs hd S0 N0=>?_
    refine yK 62 hs hd (yW H58 S0) fun _ hs hd S1 N1=>?_
    refine yK 63 hs hd (yW H58 (zN N1 S0)) fun _ hs hd S2 N2=>?_
    refine yK 64 hs hd (yW H58 (zN N2 (zN N1 S0))) fun _ hs hd S3 N3=>?_
    refine yK 65 hs hd (yU H61 S3) fun _ hs hd S4 N4=>?_
    refine yK 66 hs hd (yU H61 (zN N4 S3)) fun _ hs hd S5 N5=>?_
    refine yK 67 hs hd (yW H58 (zN N5 (zN N4 (zN N3 (zN N2 (zN N1 S0)))))) fun _ hs hd S6 N6=>?_
    refine yA 68 (.bool true) hs hd rfl (yP (zN N6 (zN N5 (zN N4 (zN N3 (zN N2 (zN N1 S0)))))) rfl) fun _ hs hd S7 N7=>?_
    exact wpList_nil (hK_ _ _ (Stop.go ⟨true,Eq.trans (by first|rfl|(rw[];rfl)|(simp[*];done)) hE30.out.symm,hs,hd,(zN N7 (zN N6 (zN N5 (zN N4 (zN N3 (zN N2 (zN N1 (zN N0 ep7)))))))),S7,rfl⟩))
   replace c31:=Bool.eq_false_iff.mpr c31
   subst c31
   by_cases c32:a0≥904
   ·refine yA 61 (.bool false) hs hd rfl (yM es7) fun _ hs hd S0 N0=>?_
    refine yA 62 (.int .i32 a0) hs hd (yW H58 S0) (yM (zN N0 ep7)) fun _ hs hd S1 N1=>?_
    refine yA 63 (.bool true) hs hd (yW H58 (zN N1 S0)) (yC c32 S1) fun _ hs hd S2 N2=>?_
    refine yA 64 (.bool true) hs hd (yW H58 (zN N2 (zN N1 S0))) (yM S2) fun _ hs hd S3 N3=>?_
    refine yA 65 (.int .i32 a0) hs hd (yW H61 S3) (yM (zN N3 (zN N2 (zN N1 (zN N0 ep7))))) fun _ hs hd S4 N4=>?_
    refine yA 66 (.bool (decide (a0≤906))) hs hd (yW H61 (zN N4 S3)) (yB S4) fun _ hs hd S5 N5=>?_
    refine yA 67 (.bool (decide (a0≤906))) hs hd (yW H58 (zN N5 (zN N4 (zN N3 (zN N2 (zN N1 S0)))))) (yP (zN N5 (zN N4 S3)) S5) fun _ hs hd S6 N6=>?_
    refine yA 68 (.bool (decide (a0≤906))) hs hd rfl (yQ (zN N6 (zN N5 (zN N4 (zN N3 (zN N2 (zN N1 S0)))))) S6) fun _ hs hd S7 N7=>?_
    exact wpList_nil (hK_ _ _ (Stop.go ⟨(decide (a0≤906)),Eq.trans (by first|rfl|(rw[if_pos c32];rfl)|(simp[*];done)) hE30.out.symm,hs,hd,(zN N7 (zN N6 (zN N5 (zN N4 (zN N3 (zN N2 (zN N1 (zN N0 ep7)))))))),S7,rfl⟩))
   refine yA 61 (.bool false) hs hd rfl (yM es7) fun _ hs hd S0 N0=>?_
   refine yA 62 (.int .i32 a0) hs hd (yW H58 S0) (yM (zN N0 ep7)) fun _ hs hd S1 N1=>?_
   refine yA 63 (.bool false) hs hd (yW H58 (zN N1 S0)) (yD c32 S1) fun _ hs hd S2 N2=>?_
   refine yA 64 (.bool false) hs hd (yW H58 (zN N2 (zN N1 S0))) (yM S2) fun _ hs hd S3 N3=>?_
   refine yK 65 hs hd (yW H61 S3) fun _ hs hd S4 N4=>?_
   refine yK 66 hs hd (yW H61 (zN N4 S3)) fun _ hs hd S5 N5=>?_
   refine yA 67 (.bool false) hs hd (yW H58 (zN N5 (zN N4 (zN N3 (zN N2 (zN N1 S0)))))) (yQ (zN N5 (zN N4 S3)) rfl) fun _ hs hd S6 N6=>?_
   refine yA 68 (.bool false) hs hd rfl (yQ (zN N6 (zN N5 (zN N4 (zN N3 (zN N2 (zN N1 S0)))))) S6) fun _ hs hd S7 N7=>?_
   exact wpList_nil (hK_ _ _ (Stop.go ⟨false,Eq.trans (by first|rfl|(rw[if_neg c32];rfl)|(simp[*];done)) hE30.out.symm,hs,hd,(zN N7 (zN N6 (zN N5 (zN N4 (zN N3 (zN N2 (zN N1 (zN N0 ep7)))))))),S7,rfl⟩))
  case rest=>
   clear hs hd ep7 es7
   obtain⟨b29,hb_,hs,hd,ep8,es8,rfl⟩:=hc_
   simp only[List.drop_succ_cons,List.drop_zero,List.drop_nil]
   have H:=MW.bind_step HH.out (hb_.trans hE30.out)
   replace HH:=za H
   clear H hb_ hE30
   obtain⟨E34,hE34⟩:∃ e_:Bool,e_=(if b29=true then(true) else(if a0=908 then(true) else(if a0≥910 then((decide (a0≤929))) else(false)))):=⟨_,rfl⟩
   replace hE34:=za hE34
   refine MW.list_cut 12 (fun a_ w_=>∃ b_:Bool,b_=E34∧a_.tmps.size=213∧a_.defers=[]∧a_.eval (.tmp 0)=.int .i32 a0∧a_.eval (.tmp 80)=.bool b_∧w=w_) (fun K_ hK_=>?seg) (fun af9 w_ hc_=>?rest)
   case seg=>
    simp only[List.take_succ_cons,List.take_zero,List.take_nil]
    clear HH
    by_cases c35:b29=true
    ·subst c35
     refine yA 69 (.bool true) hs hd rfl (yM es8) fun _ hs hd S0 N0=>?_
     refine yK 70 hs hd (yW H66 S0) fun _ hs hd S1 N1=>?_
     refine yK 71 hs hd (yW H66 (zN N1 S0)) fun _ hs hd S2 N2=>?_
     refine yA 72 (.bool true) hs hd rfl (yP (zN N2 (zN N1 S0)) rfl) fun _ hs hd S3 N3=>?_
     refine yA 73 (.bool true) hs hd rfl (yM S3) fun _ hs hd S4 N4=>?_
     refine yK 74 hs hd (yW H70 S4) fun _ hs hd S5 N5=>?_
     refine yK 75 hs hd (yW H70 (zN N5 S4)) fun _ hs hd S6 N6=>?_
     refine yK 76 hs hd (yW H70 (zN N6 (zN N5 S4))) fun _ hs hd S7 N7=>?_
     refine yK 77 hs hd (yU H73 S7) fun _ hs hd S8 N8=>?_
     refine yK 78 hs hd (yU H73 (zN N8 S7)) fun _ hs hd S9 N9=>?_
     refine yK 79 hs hd (yW H70 (zN N9 (zN N8 (zN N7 (zN N6 (zN N5 S4)))))) fun _ hs hd S10 N10=>?_
     refine yA 80 (.bool true) hs hd rfl (yP (zN N10 (zN N9 (zN N8 (zN N7 (zN N6 (zN N5 S4)))))) rfl) fun _ hs hd S11 N11=>?_
     exact wpList_nil (hK_ _ _ (Stop.go ⟨true,Eq.trans (by first|rfl|(rw[];rfl)|(simp[*];done)) hE34.out.symm,hs,hd,(zN N11 (zN N10 (zN N9 (zN N8 (zN N7 (zN N6 (zN N5 (zN N4 (zN N3 (zN N2 (zN N1 (zN N0 ep8)))))))))))),S11,rfl⟩))
    replace c35:=Bool.eq_false_iff.mpr c35
    subst c35
    by_cases c36:a0=908
    ·refine yA 69 (.bool false) hs hd rfl (yM es8) fun _ hs hd S0 N0=>?_
     refine yA 70 (.int .i32 a0) hs hd (yW H66 S0) (yM (zN N0 ep8)) fun _ hs hd S1 N1=>?_
     refine yA 71 (.bool true) hs hd (yW H66 (zN N1 S0)) (yC c36 S1) fun _ hs hd S2 N2=>?_
     refine yA 72 (.bool true) hs hd rfl (yQ (zN N2 (zN N1 S0)) S2) fun _ hs hd S3 N3=>?_
     refine yA 73 (.bool true) hs hd rfl (yM S3) fun _ hs hd S4 N4=>?_
     refine yK 74 hs hd (yW H70 S4) fun _ hs hd S5 N5=>?_
     refine yK 75 hs hd (yW H70 (zN N5 S4)) fun _ hs hd S6 N6=>?_
     refine yK 76 hs hd (yW H70 (zN N6 (zN N5 S4))) fun _ hs hd S7 N7=>?_
     refine yK 77 hs hd (yU H73 S7) fun _ hs hd S8 N8=>?_
     refine yK 78 hs hd (yU H73 (zN N8 S7)) fun _ hs hd S9 N9=>?_
     refine yK 79 hs hd (yW H70 (zN N9 (zN N8 (zN N7 (zN N6 (zN N5 S4)))))) fun _ hs hd S10 N10=>?_
     refine yA 80 (.bool true) hs hd rfl (yP (zN N10 (zN N9 (zN N8 (zN N7 (zN N6 (zN N5 S4)))))) rfl) fun _ hs hd S11 N11=>?_
     exact wpList_nil (hK_ _ _ (Stop.go ⟨true,Eq.trans (by first|rfl|(rw[if_pos c36];rfl)|(simp[*];done)) hE34.out.symm,hs,hd,(zN N11 (zN N10 (zN N9 (zN N8 (zN N7 (zN N6 (zN N5 (zN N4 (zN N3 (zN N2 (zN N1 (zN N0 ep8)))))))))))),S11,rfl⟩))
    by_cases c37:a0≥910
    ·refine yA 69 (.bool false) hs hd rfl (yM es8) fun _ hs hd S0 N0=>?_
     refine yA 70 (.int .i32 a0) hs hd (yW H66 S0) (yM (zN N0 ep8)) fun _ hs hd S1 N1=>?_
     refine yA 71 (.bool false) hs hd (yW H66 (zN N1 S0)) (yD c36 S1) fun _ hs hd S2 N2=>?_
     refine yA 72 (.bool false) hs hd rfl (yQ (zN N2 (zN N1 S0)) S2) fun _ hs hd S3 N3=>?_
     refine yA 73 (.bool false) hs hd rfl (yM S3) fun _ hs hd S4 N4=>?_
     refine yA 74 (.int .i32 a0) hs hd (yW H70 S4) (yM (zN N4 (zN N3 (zN N2 (zN N1 (zN N0 ep8)))))) fun _ hs hd S5 N5=>?_
     refine yA 75 (.bool true) hs hd (yW H70 (zN N5 S4)) (yC c37 S5) fun _ hs hd S6 N6=>?_
     refine yA 76 (.bool true) hs hd (yW H70 (zN N6 (zN N5 S4))) (yM S6) fun _ hs hd S7 N7=>?_
     refine yA 77 (.int .i32 a0) hs hd (yW H73 S7) (yM (zN N7 (zN N6 (zN N5 (zN N4 (zN N3 (zN N2 (zN N1 (zN N0 ep8))))))))) fun _ hs hd S8 N8=>?_
     refine yA 78 (.bool (decide (a0≤929))) hs hd (yW H73 (zN N8 S7)) (yB S8) fun _ hs hd S9 N9=>?_
     refine yA 79 (.bool (decide (a0≤929))) hs hd (yW H70 (zN N9 (zN N8 (zN N7 (zN N6 (zN N5 S4)))))) (yP (zN N9 (zN N8 S7)) S9) fun _ hs hd S10 N10=>?_
     refine yA 80 (.bool (decide (a0≤929))) hs hd rfl (yQ (zN N10 (zN N9 (zN N8 (zN N7 (zN N6 (zN N5 S4)))))) S10) fun _ hs hd S11 N11=>?_
     exact wpList_nil (hK_ _ _ (Stop.go ⟨(decide (a0≤929)),Eq.trans (by first|rfl|(rw[if_neg c36,if_pos c37];rfl)|(simp[*];done)) hE34.out.symm,hs,hd,(zN N11 (zN N10 (zN N9 (zN N8 (zN N7 (zN N6 (zN N5 (zN N4 (zN N3 (zN N2 (zN N1 (zN N0 ep8)))))))))))),S11,rfl⟩))
    refine yA 69 (.bool false) hs hd rfl (yM es8) fun _ hs hd S0 N0=>?_
    refine yA 70 (.int .i32 a0) hs hd (yW H66 S0) (yM (zN N0 ep8)) fun _ hs hd S1 N1=>?_
    refine yA 71 (.bool false) hs hd (yW H66 (zN N1 S0)) (yD c36 S1) fun _ hs hd S2 N2=>?_
    refine yA 72 (.bool false) hs hd rfl (yQ (zN N2 (zN N1 S0)) S2) fun _ hs hd S3 N3=>?_
    refine yA 73 (.bool false) hs hd rfl (yM S3) fun _ hs hd S4 N4=>?_
    refine yA 74 (.int .i32 a0) hs hd (yW H70 S4) (yM (zN N4 (zN N3 (zN N2 (zN N1 (zN N0 ep8)))))) fun _ hs hd S5 N5=>?_
    refine yA 75 (.bool false) hs hd (yW H70 (zN N5 S4)) (yD c37 S5) fun _ hs hd S6 N6=>?_
    refine yA 76 (.bool false) hs hd (yW H70 (zN N6 (zN N5 S4))) (yM S6) fun _ hs hd S7 N7=>?_
    refine yK 77 hs hd (yW H73 S7) fun _ hs hd S8 N8=>?_
    refine yK 78 hs hd (yW H73 (zN N8 S7)) fun _ hs hd S9 N9=>?_
    refine yA 79 (.bool false) hs hd (yW H70 (zN N9 (zN N8 (zN N7 (zN N6 (zN N5 S4)))))) (yQ (zN N9 (zN N8 S7)) rfl) fun _ hs hd S10 N10=>?_
    refine yA 80 (.bool false) hs hd rfl (yQ (zN N10 (zN N9 (zN N8 (zN N7 (zN N6 (zN N5 S4)))))) S10) fun _ hs hd S11 N11=>?_
    exact wpList_nil (hK_ _ _ (Stop.go ⟨false,Eq.trans (by first|rfl|(rw[if_neg c36,if_neg c37];rfl)|(simp[*];done)) hE34.out.symm,hs,hd,(zN N11 (zN N10 (zN N9 (zN N8 (zN N7 (zN N6 (zN N5 (zN N4 (zN N3 (zN N2 (zN N1 (zN N0 ep8)))))))))))),S11,rfl⟩))
   case rest=>
    clear hs hd ep8 es8
    obtain⟨b33,hb_,hs,hd,ep9,es9,rfl⟩:=hc_
    simp only[List.drop_succ_cons,List.drop_zero,List.drop_nil]
    have H:=MW.bind_step HH.out (hb_.trans hE34.out)
    replace HH:=za H
    clear H hb_ hE34
    obtain⟨E39,hE39⟩:∃ e_:Bool,e_=(if b33=true then(true) else(if a0≥931 then((decide (a0≤974))) else(false))):=⟨_,rfl⟩
    replace hE39:=za hE39
    refine MW.list_cut 8 (fun a_ w_=>∃ b_:Bool,b_=E39∧a_.tmps.size=213∧a_.defers=[]∧a_.eval (.tmp 0)=.int .i32 a0∧a_.eval (.tmp 88)=.bool b_∧w=w_) (fun K_ hK_=>?seg) (fun af10 w_ hc_=>?rest)
    case seg=>
     simp only[List.take_succ_cons,List.take_zero,List.take_nil]
     clear HH
     by_cases c40:b33=true
     ·subst c40
      refine yA 81 (.bool true) hs hd rfl (yM es9) fun _ hs hd S0 N0=>?_
      refine yK 82 hs hd (yW H78 S0) fun _ hs hd S1 N1=>?_
      refine yK 83 hs hd (yW H78 (zN N1 S0)) fun _ hs hd S2 N2=>?_
      refine yK 84 hs hd (yW H78 (zN N2 (zN N1 S0))) fun _ hs hd S3 N3=>?_
      refine yK 85 hs hd (yU H81 S3) fun _ hs hd S4 N4=>?_
      refine yK 86 hs hd (yU H81 (zN N4 S3)) fun _ hs hd S5 N5=>?_
      refine yK 87 hs hd (yW H78 (zN N5 (zN N4 (zN N3 (zN N2 (zN N1 S0)))))) fun _ hs hd S6 N6=>?_
      refine yA 88 (.bool true) hs hd rfl (yP (zN N6 (zN N5 (zN N4 (zN N3 (zN N2 (zN N1 S0)))))) rfl) fun _ hs hd S7 N7=>?_
      exact wpList_nil (hK_ _ _ (Stop.go ⟨true,Eq.trans (by first|rfl|(rw[];rfl)|(simp[*];done)) hE39.out.symm,hs,hd,(zN N7 (zN N6 (zN N5 (zN N4 (zN N3 (zN N2 (zN N1 (zN N0 ep9)))))))),S7,rfl⟩))
     replace c40:=Bool.eq_false_iff.mpr c40
     subst c40
     by_cases c41:a0≥931
     ·refine yA 81 (.bool false) hs hd rfl (yM es9) fun _ hs hd S0 N0=>?_
      refine yA 82 (.int .i32 a0) hs hd (yW H78 S0) (yM (zN N0 ep9)) fun _ hs hd S1 N1=>?_
      refine yA 83 (.bool true) hs hd (yW H78 (zN N1 S0)) (yC c41 S1) fun _ hs hd S2 N2=>?_
      refine yA 84 (.bool true) hs hd (yW H78 (zN N2 (zN N1 S0))) (yM S2) fun _ hs hd S3 N3=>?_
      refine yA 85 (.int .i32 a0) hs hd (yW H81 S3) (yM (zN N3 (zN N2 (zN N1 (zN N0 ep9))))) fun _ hs hd S4 N4=>?_
      refine yA 86 (.bool (decide (a0≤974))) hs hd (yW H81 (zN N4 S3)) (yB S4) fun _ hs hd S5 N5=>?_
      refine yA 87 (.bool (decide (a0≤974))) hs hd (yW H78 (zN N5 (zN N4 (zN N3 (zN N2 (zN N1 S0)))))) (yP (zN N5 (zN N4 S3)) S5) fun _ hs hd S6 N6=>?_
      refine yA 88 (.bool (decide (a0≤974))) hs hd rfl (yQ (zN N6 (zN N5 (zN N4 (zN N3 (zN N2 (zN N1 S0)))))) S6) fun _ hs hd S7 N7=>?_
      exact wpList_nil (hK_ _ _ (Stop.go ⟨(decide (a0≤974)),Eq.trans (by first|rfl|(rw[if_pos c41];rfl)|(simp[*];done)) hE39.out.symm,hs,hd,(zN N7 (zN N6 (zN N5 (zN N4 (zN N3 (zN N2 (zN N1 (zN N0 ep9)))))))),S7,rfl⟩))
     refine yA 81 (.bool false) hs hd rfl (yM es9) fun _ hs hd S0 N0=>?_
     refine yA 82 (.int .i32 a0) hs hd (yW H78 S0) (yM (zN N0 ep9)) fun _ hs hd S1 N1=>?_
     refine yA 83 (.bool false) hs hd (yW H78 (zN N1 S0)) (yD c41 S1) fun _ hs hd S2 N2=>?_
     refine yA 84 (.bool false) hs hd (yW H78 (zN N2 (zN N1 S0))) (yM S2) fun _ hs hd S3 N3=>?_
     refine yK 85 hs hd (yW H81 S3) fun _ hs hd S4 N4=>?_
     refine yK 86 hs hd (yW H81 (zN N4 S3)) fun _ hs hd S5 N5=>?_
     refine yA 87 (.bool false) hs hd (yW H78 (zN N5 (zN N4 (zN N3 (zN N2 (zN N1 S0)))))) (yQ (zN N5 (zN N4 S3)) rfl) fun _ hs hd S6 N6=>?_
     refine yA 88 (.bool false) hs hd rfl (yQ (zN N6 (zN N5 (zN N4 (zN N3 (zN N2 (zN N1 S0)))))) S6) fun _ hs hd S7 N7=>?_
     exact wpList_nil (hK_ _ _ (Stop.go ⟨false,Eq.trans (by first|rfl|(rw[if_neg c41];rfl)|(simp[*];done)) hE39.out.symm,hs,hd,(zN N7 (zN N6 (zN N5 (zN N4 (zN N3 (zN N2 (zN N1 (zN N0 ep9)))))))),S7,rfl⟩))
    case rest=>
     clear hs hd ep9 es9
     obtain⟨b38,hb_,hs,hd,ep10,es10,rfl⟩:=hc_
     simp only[List.drop_succ_cons,List.drop_zero,List.drop_nil]
     have H:=MW.bind_step HH.out (hb_.trans hE39.out)
     replace HH:=za H
     clear H hb_ hE39
     obtain⟨E43,hE43⟩:∃ e_:Bool,e_=(if b38=true then(true) else(if a0=1025 then(true) else(if a0≥1040 then((decide (a0≤1103))) else(false)))):=⟨_,rfl⟩
     replace hE43:=za hE43
     refine MW.list_cut 12 (fun a_ w_=>∃ b_:Bool,b_=E43∧a_.tmps.size=213∧a_.defers=[]∧a_.eval (.tmp 0)=.int .i32 a0∧a_.eval (.tmp 100)=.bool b_∧w=w_) (fun K_ hK_=>?seg) (fun af11 w_ hc_=>?rest)
     case seg=>
      simp only[List.take_succ_cons,List.take_zero,List.take_nil]
      clear HH
      by_cases c44:b38=true
      ·subst c44
       refine yA 89 (.bool true) hs hd rfl (yM es10) fun _ hs hd S0 N0=>?_
       refine yK 90 hs hd (yW H86 S0) fun _ hs hd S1 N1=>?_
       refine yK 91 hs hd (yW H86 (zN N1 S0)) fun _ hs hd S2 N2=>?_
       refine yA 92 (.bool true) hs hd rfl (yP (zN N2 (zN N1 S0)) rfl) fun _ hs hd S3 N3=>?_
       refine yA 93 (.bool true) hs hd rfl (yM S3) fun _ hs hd S4 N4=>?_
       refine yK 94 hs hd (yW H90 S4) fun _ hs hd S5 N5=>?_
       refine yK 95 hs hd (yW H90 (zN N5 S4)) fun _ hs hd S6 N6=>?_
       refine yK 96 hs hd (yW H90 (zN N6 (zN N5 S4))) fun _ hs hd S7 N7=>?_
       refine yK 97 hs hd (yU H93 S7) fun _ hs hd S8 N8=>?_
       refine yK 98 hs hd (yU H93 (zN N8 S7)) fun _ hs hd S9 N9=>?_
       refine yK 99 hs hd (yW H90 (zN N9 (zN N8 (zN N7 (zN N6 (zN N5 S4)))))) fun _ hs hd S10 N10=>?_
       refine yA 100 (.bool true) hs hd rfl (yP (zN N10 (zN N9 (zN N8 (zN N7 (zN N6 (zN N5 S4)))))) rfl) fun _ hs hd S11 N11=>?_
       exact wpList_nil (hK_ _ _ (Stop.go ⟨true,Eq.trans (by first|rfl|(rw[];rfl)|(simp[*];done)) hE43.out.symm,hs,hd,(zN N11 (zN N10 (zN N9 (zN N8 (zN N7 (zN N6 (zN N5 (zN N4 (zN N3 (zN N2 (zN N1 (zN N0 ep10)))))))))))),S11,rfl⟩))
      replace c44:=Bool.eq_false_iff.mpr c44
      subst c44
      by_cases c45:a0=1025
      ·refine yA 89 (.bool false) hs hd rfl (yM es10) fun _ hs hd S0 N0=>?_
       refine yA 90 (.int .i32 a0) hs hd (yW H86 S0) (yM (zN N0 ep10)) fun _ hs hd S1 N1=>?_
       refine yA 91 (.bool true) hs hd (yW H86 (zN N1 S0)) (yC c45 S1) fun _ hs hd S2 N2=>?_
       refine yA 92 (.bool true) hs hd rfl (yQ (zN N2 (zN N1 S0)) S2) fun _ hs hd S3 N3=>?_
       refine yA 93 (.bool true) hs hd rfl (yM S3) fun _ hs hd S4 N4=>?_
       refine yK 94 hs hd (yW H90 S4) fun _ hs hd S5 N5=>?_
       refine yK 95 hs hd (yW H90 (zN N5 S4)) fun _ hs hd S6 N6=>?_
       refine yK 96 hs hd (yW H90 (zN N6 (zN N5 S4))) fun _ hs hd S7 N7=>?_
       refine yK 97 hs hd (yU H93 S7) fun _ hs hd S8 N8=>?_
       refine yK 98 hs hd (yU H93 (zN N8 S7)) fun _ hs hd S9 N9=>?_
       refine yK 99 hs hd (yW H90 (zN N9 (zN N8 (zN N7 (zN N6 (zN N5 S4)))))) fun _ hs hd S10 N10=>?_
       refine yA 100 (.bool true) hs hd rfl (yP (zN N10 (zN N9 (zN N8 (zN N7 (zN N6 (zN N5 S4)))))) rfl) fun _ hs hd S11 N11=>?_
       exact wpList_nil (hK_ _ _ (Stop.go ⟨true,Eq.trans (by first|rfl|(rw[if_pos c45];rfl)|(simp[*];done)) hE43.out.symm,hs,hd,(zN N11 (zN N10 (zN N9 (zN N8 (zN N7 (zN N6 (zN N5 (zN N4 (zN N3 (zN N2 (zN N1 (zN N0 ep10)))))))))))),S11,rfl⟩))
      by_cases c46:a0≥1040
      ·refine yA 89 (.bool false) hs hd rfl (yM es10) fun _ hs hd S0 N0=>?_
       refine yA 90 (.int .i32 a0) hs hd (yW H86 S0) (yM (zN N0 ep10)) fun _ hs hd S1 N1=>?_
       refine yA 91 (.bool false) hs hd (yW H86 (zN N1 S0)) (yD c45 S1) fun _ hs hd S2 N2=>?_
       refine yA 92 (.bool false) hs hd rfl (yQ (zN N2 (zN N1 S0)) S2) fun _ hs hd S3 N3=>?_
       refine yA 93 (.bool false) hs hd rfl (yM S3) fun _ hs hd S4 N4=>?_
       refine yA 94 (.int .i32 a0) hs hd (yW H90 S4) (yM (zN N4 (zN N3 (zN N2 (zN N1 (zN N0 ep10)))))) fun _ hs hd S5 N5=>?_
       refine yA 95 (.bool true) hs hd (yW H90 (zN N5 S4)) (yC c46 S5) fun _ hs hd S6 N6=>?_
       refine yA 96 (.bool true) hs hd (yW H90 (zN N6 (zN N5 S4))) (yM S6) fun _ hs hd S7 N7=>?_
       refine yA 97 (.int .i32 a0) hs hd (yW H93 S7) (yM (zN N7 (zN N6 (zN N5 (zN N4 (zN N3 (zN N2 (zN N1 (zN N0 ep10))))))))) fun _ hs hd S8 N8=>?_
       refine yA 98 (.bool (decide (a0≤1103))) hs hd (yW H93 (zN N8 S7)) (yB S8) fun _ hs hd S9 N9=>?_
       refine yA 99 (.bool (decide (a0≤1103))) hs hd (yW H90 (zN N9 (zN N8 (zN N7 (zN N6 (zN N5 S4)))))) (yP (zN N9 (zN N8 S7)) S9) fun _ hs hd S10 N10=>?_
       refine yA 100 (.bool (decide (a0≤1103))) hs hd rfl (yQ (zN N10 (zN N9 (zN N8 (zN N7 (zN N6 (zN N5 S4)))))) S10) fun _ hs hd S11 N11=>?_
       exact wpList_nil (hK_ _ _ (Stop.go ⟨(decide (a0≤1103)),Eq.trans (by first|rfl|(rw[if_neg c45,if_pos c46];rfl)|(simp[*];done)) hE43.out.symm,hs,hd,(zN N11 (zN N10 (zN N9 (zN N8 (zN N7 (zN N6 (zN N5 (zN N4 (zN N3 (zN N2 (zN N1 (zN N0 ep10)))))))))))),S11,rfl⟩))
      refine yA 89 (.bool false) hs hd rfl (yM es10) fun _ hs hd S0 N0=>?_
      refine yA 90 (.int .i32 a0) hs hd (yW H86 S0) (yM (zN N0 ep10)) fun _ hs hd S1 N1=>?_
      refine yA 91 (.bool false) hs hd (yW H86 (zN N1 S0)) (yD c45 S1) fun _ hs hd S2 N2=>?_
      refine yA 92 (.bool false) hs hd rfl (yQ (zN N2 (zN N1 S0)) S2) fun _ hs hd S3 N3=>?_
      refine yA 93 (.bool false) hs hd rfl (yM S3) fun _ hs hd S4 N4=>?_
      refine yA 94 (.int .i32 a0) hs hd (yW H90 S4) (yM (zN N4 (zN N3 (zN N2 (zN N1 (zN N0 ep10)))))) fun _ hs hd S5 N5=>?_
      refine yA 95 (.bool false) hs hd (yW H90 (zN N5 S4)) (yD c46 S5) fun _ hs hd S6 N6=>?_
      refine yA 96 (.bool false) hs hd (yW H90 (zN N6 (zN N5 S4))) (yM S6) fun _ hs hd S7 N7=>?_
      refine yK 97 hs hd (yW H93 S7) fun _ hs hd S8 N8=>?_
      refine yK 98 hs hd (yW H93 (zN N8 S7)) fun _ hs hd S9 N9=>?_
      refine yA 99 (.bool false) hs hd (yW H90 (zN N9 (zN N8 (zN N7 (zN N6 (zN N5 S4)))))) (yQ (zN N9 (zN N8 S7)) rfl) fun _ hs hd S10 N10=>?_
      refine yA 100 (.bool false) hs hd rfl (yQ (zN N10 (zN N9 (zN N8 (zN N7 (zN N6 (zN N5 S4)))))) S10) fun _ hs hd S11 N11=>?_
      exact wpList_nil (hK_ _ _ (Stop.go ⟨false,Eq.trans (by first|rfl|(rw[if_neg c45,if_neg c46];rfl)|(simp[*];done)) hE43.out.symm,hs,hd,(zN N11 (zN N10 (zN N9 (zN N8 (zN N7 (zN N6 (zN N5 (zN N4 (zN N3 (zN N2 (zN N1 (zN N0 ep10)))))))))))),S11,rfl⟩))
     case rest=>
      clear hs hd ep10 es10
      obtain⟨b42,hb_,hs,hd,ep11,es11,rfl⟩:=hc_
      simp only[List.drop_succ_cons,List.drop_zero,List.drop_nil]
      have H:=MW.bind_step HH.out (hb_.trans hE43.out)
      replace HH:=za H
      clear H hb_ hE43
      obtain⟨E48,hE48⟩:∃ e_:Bool,e_=(if b42=true then(true) else(if a0=1105 then(true) else(if a0≥1488 then((decide (a0≤1514))) else(false)))):=⟨_,rfl⟩
      replace hE48:=za hE48
      refine MW.list_cut 12 (fun a_ w_=>∃ b_:Bool,b_=E48∧a_.tmps.size=213∧a_.defers=[]∧a_.eval (.tmp 0)=.int .i32 a0∧a_.eval (.tmp 112)=.bool b_∧w=w_) (fun K_ hK_=>?seg) (fun af12 w_ hc_=>?rest)
      case seg=>
       simp only[List.take_succ_cons,List.take_zero,List.take_nil]
       clear HH
       by_cases c49:b42=true
       ·subst c49
        refine yA 101 (.bool true) hs hd rfl (yM es11) fun _ hs hd S0 N0=>?_
        refine yK 102 hs hd (yW H98 S0) fun _ hs hd S1 N1=>?_
        refine yK 103 hs hd (yW H98 (zN N1 S0)) fun _ hs hd S2 N2=>?_
        refine yA 104 (.bool true) hs hd rfl (yP (zN N2 (zN N1 S0)) rfl) fun _ hs hd S3 N3=>?_
        refine yA 105 (.bool true) hs hd rfl (yM S3) fun _ hs hd S4 N4=>?_
        refine yK 106 hs hd (yW H102 S4) fun _ hs hd S5 N5=>?_
        refine yK 107 hs hd (yW H102 (zN N5 S4)) fun _ hs hd S6 N6=>?_
        refine yK 108 hs hd (yW H102 (zN N6 (zN N5 S4))) fun _ hs hd S7 N7=>?_
        refine yK 109 hs hd (yU H105 S7) fun _ hs hd S8 N8=>?_
        refine yK 110 hs hd (yU H105 (zN N8 S7)) fun _ hs hd S9 N9=>?_
        refine yK 111 hs hd (yW H102 (zN N9 (zN N8 (zN N7 (zN N6 (zN N5 S4)))))) fun _ hs hd S10 N10=>?_
        refine yA 112 (.bool true) hs hd rfl (yP (zN N10 (zN N9 (zN N8 (zN N7 (zN N6 (zN N5 S4)))))) rfl) fun _ hs hd S11 N11=>?_
        exact wpList_nil (hK_ _ _ (Stop.go ⟨true,Eq.trans (by first|rfl|(rw[];rfl)|(simp[*];done)) hE48.out.symm,hs,hd,(zN N11 (zN N10 (zN N9 (zN N8 (zN N7 (zN N6 (zN N5 (zN N4 (zN N3 (zN N2 (zN N1 (zN N0 ep11)))))))))))),S11,rfl⟩))
       replace c49:=Bool.eq_false_iff.mpr c49
       subst c49
       by_cases c50:a0=1105
       ·refine yA 101 (.bool false) hs hd rfl (yM es11) fun _ hs hd S0 N0=>?_
        refine yA 102 (.int .i32 a0) hs hd (yW H98 S0) (yM (zN N0 ep11)) fun _ hs hd S1 N1=>?_
        refine yA 103 (.bool true) hs hd (yW H98 (zN N1 S0)) (yC c50 S1) fun _ hs hd S2 N2=>?_
        refine yA 104 (.bool true) hs hd rfl (yQ (zN N2 (zN N1 S0)) S2) fun _ hs hd S3 N3=>?_
        refine yA 105 (.bool true) hs hd rfl (yM S3) fun _ hs hd S4 N4=>?_
        refine yK 106 hs hd (yW H102 S4) fun _ hs hd S5 N5=>?_
        refine yK 107 hs hd (yW H102 (zN N5 S4)) fun _ hs hd S6 N6=>?_
        refine yK 108 hs hd (yW H102 (zN N6 (zN N5 S4))) fun _ hs hd S7 N7=>?_
        refine yK 109 hs hd (yU H105 S7) fun _ hs hd S8 N8=>?_
        refine yK 110 hs hd (yU H105 (zN N8 S7)) fun _ hs hd S9 N9=>?_
        refine yK 111 hs hd (yW H102 (zN N9 (zN N8 (zN N7 (zN N6 (zN N5 S4)))))) fun _ hs hd S10 N10=>?_
        refine yA 112 (.bool true) hs hd rfl (yP (zN N10 (zN N9 (zN N8 (zN N7 (zN N6 (zN N5 S4)))))) rfl) fun _ hs hd S11 N11=>?_
        exact wpList_nil (hK_ _ _ (Stop.go ⟨true,Eq.trans (by first|rfl|(rw[if_pos c50];rfl)|(simp[*];done)) hE48.out.symm,hs,hd,(zN N11 (zN N10 (zN N9 (zN N8 (zN N7 (zN N6 (zN N5 (zN N4 (zN N3 (zN N2 (zN N1 (zN N0 ep11)))))))))))),S11,rfl⟩))
       by_cases c51:a0≥1488
       ·refine yA 101 (.bool false) hs hd rfl (yM es11) fun _ hs hd S0 N0=>?_
        refine yA 102 (.int .i32 a0) hs hd (yW H98 S0) (yM (zN N0 ep11)) fun _ hs hd S1 N1=>?_
        refine yA 103 (.bool false) hs hd (yW H98 (zN N1 S0)) (yD c50 S1) fun _ hs hd S2 N2=>?_
        refine yA 104 (.bool false) hs hd rfl (yQ (zN N2 (zN N1 S0)) S2) fun _ hs hd S3 N3=>?_
        refine yA 105 (.bool false) hs hd rfl (yM S3) fun _ hs hd S4 N4=>?_
        refine yA 106 (.int .i32 a0) hs hd (yW H102 S4) (yM (zN N4 (zN N3 (zN N2 (zN N1 (zN N0 ep11)))))) fun _ hs hd S5 N5=>?_
        refine yA 107 (.bool true) hs hd (yW H102 (zN N5 S4)) (yC c51 S5) fun _ hs hd S6 N6=>?_
        refine yA 108 (.bool true) hs hd (yW H102 (zN N6 (zN N5 S4))) (yM S6) fun _ hs hd S7 N7=>?_
        refine yA 109 (.int .i32 a0) hs hd (yW H105 S7) (yM (zN N7 (zN N6 (zN N5 (zN N4 (zN N3 (zN N2 (zN N1 (zN N0 ep11))))))))) fun _ hs hd S8 N8=>?_
        refine yA 110 (.bool (decide (a0≤1514))) hs hd (yW H105 (zN N8 S7)) (yB S8) fun _ hs hd S9 N9=>?_
        refine yA 111 (.bool (decide (a0≤1514))) hs hd (yW H102 (zN N9 (zN N8 (zN N7 (zN N6 (zN N5 S4)))))) (yP (zN N9 (zN N8 S7)) S9) fun _ hs hd S10 N10=>?_
        refine yA 112 (.bool (decide (a0≤1514))) hs hd rfl (yQ (zN N10 (zN N9 (zN N8 (zN N7 (zN N6 (zN N5 S4)))))) S10) fun _ hs hd S11 N11=>?_
        exact wpList_nil (hK_ _ _ (Stop.go ⟨(decide (a0≤1514)),Eq.trans (by first|rfl|(rw[if_neg c50,if_pos c51];rfl)|(simp[*];done)) hE48.out.symm,hs,hd,(zN N11 (zN N10 (zN N9 (zN N8 (zN N7 (zN N6 (zN N5 (zN N4 (zN N3 (zN N2 (zN N1 (zN N0 ep11)))))))))))),S11,rfl⟩))
       refine yA 101 (.bool false) hs hd rfl (yM es11) fun _ hs hd S0 N0=>?_
       refine yA 102 (.int .i32 a0) hs hd (yW H98 S0) (yM (zN N0 ep11)) fun _ hs hd S1 N1=>?_
       refine yA 103 (.bool false) hs hd (yW H98 (zN N1 S0)) (yD c50 S1) fun _ hs hd S2 N2=>?_
       refine yA 104 (.bool false) hs hd rfl (yQ (zN N2 (zN N1 S0)) S2) fun _ hs hd S3 N3=>?_
       refine yA 105 (.bool false) hs hd rfl (yM S3) fun _ hs hd S4 N4=>?_
       refine yA 106 (.int .i32 a0) hs hd (yW H102 S4) (yM (zN N4 (zN N3 (zN N2 (zN N1 (zN N0 ep11)))))) fun _ hs hd S5 N5=>?_
       refine yA 107 (.bool false) hs hd (yW H102 (zN N5 S4)) (yD c51 S5) fun _ hs hd S6 N6=>?_
       refine yA 108 (.bool false) hs hd (yW H102 (zN N6 (zN N5 S4))) (yM S6) fun _ hs hd S7 N7=>?_
       refine yK 109 hs hd (yW H105 S7) fun _ hs hd S8 N8=>?_
       refine yK 110 hs hd (yW H105 (zN N8 S7)) fun _ hs hd S9 N9=>?_
       refine yA 111 (.bool false) hs hd (yW H102 (zN N9 (zN N8 (zN N7 (zN N6 (zN N5 S4)))))) (yQ (zN N9 (zN N8 S7)) rfl) fun _ hs hd S10 N10=>?_
       refine yA 112 (.bool false) hs hd rfl (yQ (zN N10 (zN N9 (zN N8 (zN N7 (zN N6 (zN N5 S4)))))) S10) fun _ hs hd S11 N11=>?_
       exact wpList_nil (hK_ _ _ (Stop.go ⟨false,Eq.trans (by first|rfl|(rw[if_neg c50,if_neg c51];rfl)|(simp[*];done)) hE48.out.symm,hs,hd,(zN N11 (zN N10 (zN N9 (zN N8 (zN N7 (zN N6 (zN N5 (zN N4 (zN N3 (zN N2 (zN N1 (zN N0 ep11)))))))))))),S11,rfl⟩))
      case rest=>
       clear hs hd ep11 es11
       obtain⟨b47,hb_,hs,hd,ep12,es12,rfl⟩:=hc_
       simp only[List.drop_succ_cons,List.drop_zero,List.drop_nil]
       have H:=MW.bind_step HH.out (hb_.trans hE48.out)
       replace HH:=za H
       clear H hb_ hE48
       exact wpList_nil (hKC_ _ _ (Stop.go ⟨b47,HH.out,hs,hd,ep12,es12,rfl⟩))
theorem chars_letter.p0 {Q:Exit→Act→World→Prop} (OPS:Array Oper) (hO:OPS=chars_letter.ops.toArray) (a0:Int) (r:Bool) (w:World) (af0:Act) (hs:af0.tmps.size=213) (hd:af0.defers=[]) (ep0:af0.eval (.tmp 0)=.int .i32 a0) (h:((some (if a0≥65 then((decide (a0≤90))) else(false):Bool)).bind fun b1=>((some (if b1=true then(true) else(if a0≥97 then((decide (a0≤122))) else(false)):Bool)).bind fun b4=>((some (if b4=true then(true) else(if a0=170 then(true) else((a0==181))):Bool)).bind fun b8=>((some (if b8=true then(true) else(if a0=186 then(true) else(if a0≥192 then((decide (a0≤214))) else(false))):Bool)).bind fun b12=>((some (if b12=true then(true) else(if a0≥216 then((decide (a0≤246))) else(false)):Bool)).bind fun b17=>((some (if b17=true then(true) else(if a0≥248 then((decide (a0≤383))) else(false)):Bool)).bind fun b21=>((some (if b21=true then(true) else(if a0=700 then(true) else((a0==902))):Bool)).bind fun b25=>((some (if b25=true then(true) else(if a0≥904 then((decide (a0≤906))) else(false)):Bool)).bind fun b29=>((some (if b29=true then(true) else(if a0=908 then(true) else(if a0≥910 then((decide (a0≤929))) else(false))):Bool)).bind fun b33=>((some (if b33=true then(true) else(if a0≥931 then((decide (a0≤974))) else(false)):Bool)).bind fun b38=>((some (if b38=true then(true) else(if a0=1025 then(true) else(if a0≥1040 then((decide (a0≤1103))) else(false))):Bool)).bind fun b42=>((some (if b42=true then(true) else(if a0=1105 then(true) else(if a0≥1488 then((decide (a0≤1514))) else(false))):Bool)).bind fun b47=>((some (if b47=true then(true) else(if a0≥4352 then((decide (a0≤4370))) else(false)):Bool)).bind fun b52=>((some (if b52=true then(true) else(if a0≥4449 then((decide (a0≤4469))) else(false)):Bool)).bind fun b56=>((some (if b56=true then(true) else(if a0≥4520 then((decide (a0≤4546))) else(false)):Bool)).bind fun b60=>((some (if b60=true then(true) else(if a0=8486 then(true) else(if a0≥8490 then((decide (a0≤8491))) else(false))):Bool)).bind fun b64=>((some (if b64=true then(true) else(if a0≥8544 then((decide (a0≤8555))) else(false)):Bool)).bind fun b69=>((some (if b69=true then(true) else(if a0≥8560 then((decide (a0≤8571))) else(false)):Bool)).bind fun b73=>((some (if b73=true then(true) else(if a0≥12353 then((decide (a0≤12436))) else(false)):Bool)).bind fun b77=>((some (if b77=true then(true) else(if a0≥19968 then((decide (a0≤20223))) else(false)):Bool)).bind fun b81=>((some (if b81=true then(true) else(if a0≥44032 then((decide (a0≤55203))) else(false)):Bool)).bind fun b85=>((some (if b85=true then(true) else(if a0≥64256 then((decide (a0≤64261))) else(false)):Bool)).bind fun b89=>((some (if b89=true then(true) else(if a0≥65313 then((decide (a0≤65338))) else(false)):Bool)).bind fun b93=>((some (if b93=true then(true) else(if a0≥65345 then((decide (a0≤65370))) else(false)):Bool)).bind fun b97=>(some b97)))))))))))))))))))))))))=some r) (fin:∀ a':Act,a'.tmps.size=213→a'.defers=[]→a'.eval (.tmp 2)=.bool r→Q .normal a' w):wpList Try.prog OPS Q (chars_letter.ops.drop 0) af0 w:=by
 have HH:=za h
 clear h
 have H2:(OPS[2]?).bind (·.dst)=some 5:=by rw[hO];rfl
 have H6:(OPS[6]?).bind (·.dst)=some 9:=by rw[hO];rfl
 have H9:(OPS[9]?).bind (·.dst)=some 12:=by rw[hO];rfl
 have H14:(OPS[14]?).bind (·.dst)=some 17:=by rw[hO];rfl
 have H18:(OPS[18]?).bind (·.dst)=some 21:=by rw[hO];rfl
 have H22:(OPS[22]?).bind (·.dst)=some 25:=by rw[hO];rfl
 have H26:(OPS[26]?).bind (·.dst)=some 29:=by rw[hO];rfl
 have H29:(OPS[29]?).bind (·.dst)=some 32:=by rw[hO];rfl
 have H34:(OPS[34]?).bind (·.dst)=some 37:=by rw[hO];rfl
 have H37:(OPS[37]?).bind (·.dst)=some 40:=by rw[hO];rfl
 have H42:(OPS[42]?).bind (·.dst)=some 45:=by rw[hO];rfl
 have H45:(OPS[45]?).bind (·.dst)=some 48:=by rw[hO];rfl
 replace hO:=(Stop.go hO:Stop _ (.mk _))
 replace fin:=(Stop.go fin:Stop _ (.mk _))
 refine MW.list_cut 50 (fun a_ w_=>∃ b21:Bool,((some (if b21=true then(true) else(if a0=700 then(true) else((a0==902))):Bool)).bind fun b25=>((some (if b25=true then(true) else(if a0≥904 then((decide (a0≤906))) else(false)):Bool)).bind fun b29=>((some (if b29=true then(true) else(if a0=908 then(true) else(if a0≥910 then((decide (a0≤929))) else(false))):Bool)).bind fun b33=>((some (if b33=true then(true) else(if a0≥931 then((decide (a0≤974))) else(false)):Bool)).bind fun b38=>((some (if b38=true then(true) else(if a0=1025 then(true) else(if a0≥1040 then((decide (a0≤1103))) else(false))):Bool)).bind fun b42=>((some (if b42=true then(true) else(if a0=1105 then(true) else(if a0≥1488 then((decide (a0≤1514))) else(false))):Bool)).bind fun b47=>((some (if b47=true then(true) else(if a0≥4352 then((decide (a0≤4370))) else(false)):Bool)).bind fun b52=>((some (if b52=true then(true) else(if a0≥4449 then((decide (a0≤4469))) else(false)):Bool)).bind fun b56=>((some (if b56=true then(true) else(if a0≥4520 then((decide (a0≤4546))) else(false)):Bool)).bind fun b60=>((some (if b60=true then(true) else(if a0=8486 then(true) else(if a0≥8490 then((decide (a0≤8491))) else(false))):Bool)).bind fun b64=>((some (if b64=true then(true) else(if a0≥8544 then((decide (a0≤8555))) else(false)):Bool)).bind fun b69=>((some (if b69=true then(true) else(if a0≥8560 then((decide (a0≤8571))) else(false)):Bool)).bind fun b73=>((some (if b73=true then(true) else(if a0≥12353 then((decide (a0≤12436))) else(false)):Bool)).bind fun b77=>((some (if b77=true then(true) else(if a0≥19968 then((decide (a0≤20223))) else(false)):Bool)).bind fun b81=>((some (if b81=true then(true) else(if a0≥44032 then((decide (a0≤55203))) else(false)):Bool)).bind fun b85=>((some (if b85=true then(true) else(if a0≥64256 then((decide (a0≤64261))) else(false)):Bool)).bind fun b89=>((some (if b89=true then(true) else(if a0≥65313 then((decide (a0≤65338))) else(false)):Bool)).bind fun b93=>((some (if b93=true then(true) else(if a0≥65345 then((decide (a0≤65370))) else(false)):Bool)).bind fun b97=>(some b97)))))))))))))))))))=some r∧a_.tmps.size=213∧a_.defers=[]∧a_.eval (.tmp 0)=.int .i32 a0∧a_.eval (.tmp 52)=.bool b21∧w=w_) (fun KC_ hKC_=>?chunk) (fun a_ w_ hc_=>?next)
 case next=>
  obtain⟨b_,hb_,hs,hd,ep,es,rfl⟩:=hc_
  rw[List.drop_drop]
  exact chars_letter.p1 OPS hO.out a0 r _ _ b_ hs hd ep es hb_ fin.out
 simp only[chars_letter.ops,Try.f23,List.append_eq,List.cons_append,List.nil_append,List.drop_succ_cons,List.drop_zero,List.take_succ_cons,List.take_zero]
 obtain⟨E2,hE2⟩:∃ e_:Bool,e_=(if a0≥65 then((decide (a0≤90))) else(false)):=⟨_,rfl⟩
 replace hE2:=za hE2
 refine MW.list_cut 6 (fun a_ w_=>∃ b_:Bool,b_=E2∧a_.tmps.size=213∧a_.defers=[]∧a_.eval (.tmp 0)=.int .i32 a0∧a_.eval (.tmp 8)=.bool b_∧w=w_) (fun K_ hK_=>?seg) (fun af1 w_ hc_=>?rest)
 case seg=>
  simp only[List.take_succ_cons,List.take_zero,List.take_nil]
  clear HH
  by_cases c3:a0≥65
  ·refine yA 3 (.int .i32 a0) hs hd rfl (yM ep0) fun _ hs hd S0 N0=>?_
   refine yA 4 (.bool true) hs hd rfl (yC c3 S0) fun _ hs hd S1 N1=>?_
   refine yA 5 (.bool true) hs hd rfl (yM S1) fun _ hs hd S2 N2=>?_
   refine yA 6 (.int .i32 a0) hs hd (yW H2 S2) (yM (zN N2 (zN N1 (zN N0 ep0)))) fun _ hs hd S3 N3=>?_
   refine yA 7 (.bool (decide (a0≤90))) hs hd (yW H2 (zN N3 S2)) (yB S3) fun _ hs hd S4 N4=>?_
   refine yA 8 (.bool (decide (a0≤90))) hs hd rfl (yP (zN N4 (zN N3 S2)) S4) fun _ hs hd S5 N5=>?_
   exact wpList_nil (hK_ _ _ (Stop.go ⟨(decide (a0≤90)),Eq.trans (by first|rfl|(rw[if_pos c3];rfl)|(simp[*];done)) hE2.out.symm,hs,hd,(zN N5 (zN N4 (zN N3 (zN N2 (zN N1 (zN N0 ep0)))))),S5,rfl⟩))
  refine yA 3 (.int .i32 a0) hs hd rfl (yM ep0) fun _ hs hd S0 N0=>?_
  refine yA 4 (.bool false) hs hd rfl (yD c3 S0) fun _ hs hd S1 N1=>?_
  refine yA 5 (.bool false) hs hd rfl (yM S1) fun _ hs hd S2 N2=>?_
  refine yK 6 hs hd (yW H2 S2) fun _ hs hd S3 N3=>?_
  refine yK 7 hs hd (yW H2 (zN N3 S2)) fun _ hs hd S4 N4=>?_
  refine yA 8 (.bool false) hs hd rfl (yQ (zN N4 (zN N3 S2)) rfl) fun _ hs hd S5 N5=>?_
  exact wpList_nil (hK_ _ _ (Stop.go ⟨false,Eq.trans (by first|rfl|(rw[if_neg c3];rfl)|(simp[*];done)) hE2.out.symm,hs,hd,(zN N5 (zN N4 (zN N3 (zN N2 (zN N1 (zN N0 ep0)))))),S5,rfl⟩))
 case rest=>
  clear hs hd ep0
  obtain⟨b1,hb_,hs,hd,ep1,es1,rfl⟩:=hc_
  simp only[List.drop_succ_cons,List.drop_zero,List.drop_nil]
  have H:=MW.bind_step HH.out (hb_.trans hE2.out)
  replace HH:=za H
  clear H hb_ hE2
  obtain⟨E5,hE5⟩:∃ e_:Bool,e_=(if b1=true then(true) else(if a0≥97 then((decide (a0≤122))) else(false))):=⟨_,rfl⟩
  replace hE5:=za hE5
  refine MW.list_cut 8 (fun a_ w_=>∃ b_:Bool,b_=E5∧a_.tmps.size=213∧a_.defers=[]∧a_.eval (.tmp 0)=.int .i32 a0∧a_.eval (.tmp 16)=.bool b_∧w=w_) (fun K_ hK_=>?seg) (fun af2 w_ hc_=>?rest)
  case seg=>
   simp only[List.take_succ_cons,List.take_zero,List.take_nil]
   clear HH
   by_cases c6:b1=true
   ·subst c6
    refine yA 9 (.bool true) hs hd rfl (yM es1) fun _ hs hd S0 N0=>?_
    refine yK 10 hs hd (yW H6 S0) fun _ hs hd S1 N1=>?_
    refine yK 11 hs hd (yW H6 (zN N1 S0)) fun _ hs hd S2 N2=>?_
    refine yK 12 hs hd (yW H6 (zN N2 (zN N1 S0))) fun _ hs hd S3 N3=>?_
    refine yK 13 hs hd (yU H9 S3) fun _ hs hd S4 N4=>?_
    refine yK 14 hs hd (yU H9 (zN N4 S3)) fun _ hs hd S5 N5=>?_
    refine yK 15 hs hd (yW H6 (zN N5 (zN N4 (zN N3 (zN N2 (zN N1 S0)))))) fun _ hs hd S6 N6=>?_
    refine yA 16 (.bool true) hs hd rfl (yP (zN N6 (zN N5 (zN N4 (zN N3 (zN N2 (zN N1 S0)))))) rfl) fun _ hs hd S7 N7=>?_
    exact wpList_nil (hK_ _ _ (Stop.go ⟨true,Eq.trans (by first|rfl|(rw[];rfl)|(simp[*];done)) hE5.out.symm,hs,hd,(zN N7 (zN N6 (zN N5 (zN N4 (zN N3 (zN N2 (zN N1 (zN N0 ep1)))))))),S7,rfl⟩))
   replace c6:=Bool.eq_false_iff.mpr c6
   subst c6
   by_cases c7:a0≥97
   ·refine yA 9 (.bool false) hs hd rfl (yM es1) fun _ hs hd S0 N0=>?_
    refine yA 10 (.int .i32 a0) hs hd (yW H6 S0) (yM (zN N0 ep1)) fun _ hs hd S1 N1=>?_
    refine yA 11 (.bool true) hs hd (yW H6 (zN N1 S0)) (yC c7 S1) fun _ hs hd S2 N2=>?_
    refine yA 12 (.bool true) hs hd (yW H6 (zN N2 (zN N1 S0))) (yM S2) fun _ hs hd S3 N3=>?_
    refine yA 13 (.int .i32 a0) hs hd (yW H9 S3) (yM (zN N3 (zN N2 (zN N1 (zN N0 ep1))))) fun _ hs hd S4 N4=>?_
    refine yA 14 (.bool (decide (a0≤122))) hs hd (yW H9 (zN N4 S3)) (yB S4) fun _ hs hd S5 N5=>?_
    refine yA 15 (.bool (decide (a0≤122))) hs hd (yW H6 (zN N5 (zN N4 (zN N3 (zN N2 (zN N1 S0)))))) (yP (zN N5 (zN N4 S3)) S5) fun _ hs hd S6 N6=>?_
    refine yA 16 (.bool (decide (a0≤122))) hs hd rfl (yQ (zN N6 (zN N5 (zN N4 (zN N3 (zN N2 (zN N1 S0)))))) S6) fun _ hs hd S7 N7=>?_
    exact wpList_nil (hK_ _ _ (Stop.go ⟨(decide (a0≤122)),Eq.trans (by first|rfl|(rw[if_pos c7];rfl)|(simp[*];done)) hE5.out.symm,hs,hd,(zN N7 (zN N6 (zN N5 (zN N4 (zN N3 (zN N2 (zN N1 (zN N0 ep1)))))))),S7,rfl⟩))
   refine yA 9 (.bool false) hs hd rfl (yM es1) fun _ hs hd S0 N0=>?_
   refine yA 10 (.int .i32 a0) hs hd (yW H6 S0) (yM (zN N0 ep1)) fun _ hs hd S1 N1=>?_
   refine yA 11 (.bool false) hs hd (yW H6 (zN N1 S0)) (yD c7 S1) fun _ hs hd S2 N2=>?_
   refine yA 12 (.bool false) hs hd (yW H6 (zN N2 (zN N1 S0))) (yM S2) fun _ hs hd S3 N3=>?_
   refine yK 13 hs hd (yW H9 S3) fun _ hs hd S4 N4=>?_
   refine yK 14 hs hd (yW H9 (zN N4 S3)) fun _ hs hd S5 N5=>?_
   refine yA 15 (.bool false) hs hd (yW H6 (zN N5 (zN N4 (zN N3 (zN N2 (zN N1 S0)))))) (yQ (zN N5 (zN N4 S3)) rfl) fun _ hs hd S6 N6=>?_
   refine yA 16 (.bool false) hs hd rfl (yQ (zN N6 (zN N5 (zN N4 (zN N3 (zN N2 (zN N1 S0)))))) S6) fun _ hs hd S7 N7=>?_
   exact wpList_nil (hK_ _ _ (Stop.go ⟨false,Eq.trans (by first|rfl|(rw[if_neg c7];rfl)|(simp[*];done)) hE5.out.symm,hs,hd,(zN N7 (zN N6 (zN N5 (zN N4 (zN N3 (zN N2 (zN N1 (zN N0 ep1)))))))),S7,rfl⟩))
  case rest=>
   clear hs hd ep1 es1
   obtain⟨b4,hb_,hs,hd,ep2,es2,rfl⟩:=hc_
   simp only[List.drop_succ_cons,List.drop_zero,List.drop_nil]
   have H:=MW.bind_step HH.out (hb_.trans hE5.out)
   replace HH:=za H
   clear H hb_ hE5
   obtain⟨E9,hE9⟩:∃ e_:Bool,e_=(if b4=true then(true) else(if a0=170 then(true) else((a0==181)))):=⟨_,rfl⟩
   replace hE9:=za hE9
   refine MW.list_cut 8 (fun a_ w_=>∃ b_:Bool,b_=E9∧a_.tmps.size=213∧a_.defers=[]∧a_.eval (.tmp 0)=.int .i32 a0∧a_.eval (.tmp 24)=.bool b_∧w=w_) (fun K_ hK_=>?seg) (fun af3 w_ hc_=>?rest)
   case seg=>
    simp only[List.take_succ_cons,List.take_zero,List.take_nil]
    clear HH
    by_cases c10:b4=true
    ·subst c10
     refine yA 17 (.bool true) hs hd rfl (yM es2) fun _ hs hd S0 N0=>?_
     refine yK 18 hs hd (yW H14 S0) fun _ hs hd S1 N1=>?_
     refine yK 19 hs hd (yW H14 (zN N1 S0)) fun _ hs hd S2 N2=>?_
     refine yA 20 (.bool true) hs hd rfl (yP (zN N2 (zN N1 S0)) rfl) fun _ hs hd S3 N3=>?_
     refine yA 21 (.bool true) hs hd rfl (yM S3) fun _ hs hd S4 N4=>?_
     refine yK 22 hs hd (yW H18 S4) fun _ hs hd S5 N5=>?_
     refine yK 23 hs hd (yW H18 (zN N5 S4)) fun _ hs hd S6 N6=>?_
     refine yA 24 (.bool true) hs hd rfl (yP (zN N6 (zN N5 S4)) rfl) fun _ hs hd S7 N7=>?_
     exact wpList_nil (hK_ _ _ (Stop.go ⟨true,Eq.trans (by first|rfl|(rw[];rfl)|(simp[*];done)) hE9.out.symm,hs,hd,(zN N7 (zN N6 (zN N5 (zN N4 (zN N3 (zN N2 (zN N1 (zN N0 ep2)))))))),S7,rfl⟩))
    replace c10:=Bool.eq_false_iff.mpr c10
    subst c10
    by_cases c11:a0=170
    ·refine yA 17 (.bool false) hs hd rfl (yM es2) fun _ hs hd S0 N0=>?_
     refine yA 18 (.int .i32 a0) hs hd (yW H14 S0) (yM (zN N0 ep2)) fun _ hs hd S1 N1=>?_
     refine yA 19 (.bool true) hs hd (yW H14 (zN N1 S0)) (yC c11 S1) fun _ hs hd S2 N2=>?_
     refine yA 20 (.bool true) hs hd rfl (yQ (zN N2 (zN N1 S0)) S2) fun _ hs hd S3 N3=>?_
     refine yA 21 (.bool true) hs hd rfl (yM S3) fun _ hs hd S4 N4=>?_
     refine yK 22 hs hd (yW H18 S4) fun _ hs hd S5 N5=>?_
     refine yK 23 hs hd (yW H18 (zN N5 S4)) fun _ hs hd S6 N6=>?_
     refine yA 24 (.bool true) hs hd rfl (yP (zN N6 (zN N5 S4)) rfl) fun _ hs hd S7 N7=>?_
     exact wpList_nil (hK_ _ _ (Stop.go ⟨true,Eq.trans (by first|rfl|(rw[if_pos c11];rfl)|(simp[*];done)) hE9.out.symm,hs,hd,(zN N7 (zN N6 (zN N5 (zN N4 (zN N3 (zN N2 (zN N1 (zN N0 ep2)))))))),S7,rfl⟩))
    refine yA 17 (.bool false) hs hd rfl (yM es2) fun _ hs hd S0 N0=>?_
    refine yA 18 (.int .i32 a0) hs hd (yW H14 S0) (yM (zN N0 ep2)) fun _ hs hd S1 N1=>?_
    refine yA 19 (.bool false) hs hd (yW H14 (zN N1 S0)) (yD c11 S1) fun _ hs hd S2 N2=>?_
    refine yA 20 (.bool false) hs hd rfl (yQ (zN N2 (zN N1 S0)) S2) fun _ hs hd S3 N3=>?_
    refine yA 21 (.bool false) hs hd rfl (yM S3) fun _ hs hd S4 N4=>?_
    refine yA 22 (.int .i32 a0) hs hd (yW H18 S4) (yM (zN N4 (zN N3 (zN N2 (zN N1 (zN N0 ep2)))))) fun _ hs hd S5 N5=>?_
    refine yA 23 (.bool (a0==181)) hs hd (yW H18 (zN N5 S4)) (yB S5) fun _ hs hd S6 N6=>?_
    refine yA 24 (.bool (a0==181)) hs hd rfl (yQ (zN N6 (zN N5 S4)) S6) fun _ hs hd S7 N7=>?_
    exact wpList_nil (hK_ _ _ (Stop.go ⟨(a0==181),Eq.trans (by first|rfl|(rw[if_neg c11];rfl)|(simp[*];done)) hE9.out.symm,hs,hd,(zN N7 (zN N6 (zN N5 (zN N4 (zN N3 (zN N2 (zN N1 (zN N0 ep2)))))))),S7,rfl⟩))
   case rest=>
    clear hs hd ep2 es2
    obtain⟨b8,hb_,hs,hd,ep3,es3,rfl⟩:=hc_
    simp only[List.drop_succ_cons,List.drop_zero,List.drop_nil]
    have H:=MW.bind_step HH.out (hb_.trans hE9.out)
    replace HH:=za H
    clear H hb_ hE9
    obtain⟨E13,hE13⟩:∃ e_:Bool,e_=(if b8=true then(true) else(if a0=186 then(true) else(if a0≥192 then((decide (a0≤214))) else(false)))):=⟨_,rfl⟩
    replace hE13:=za hE13
    refine MW.list_cut 12 (fun a_ w_=>∃ b_:Bool,b_=E13∧a_.tmps.size=213∧a_.defers=[]∧a_.eval (.tmp 0)=.int .i32 a0∧a_.eval (.tmp 36)=.bool b_∧w=w_) (fun K_ hK_=>?seg) (fun af4 w_ hc_=>?rest)
    case seg=>
     simp only[List.take_succ_cons,List.take_zero,List.take_nil]
     clear HH
     by_cases c14:b8=true
     ·subst c14
      refine yA 25 (.bool true) hs hd rfl (yM es3) fun _ hs hd S0 N0=>?_
      refine yK 26 hs hd (yW H22 S0) fun _ hs hd S1 N1=>?_
      refine yK 27 hs hd (yW H22 (zN N1 S0)) fun _ hs hd S2 N2=>?_
      refine yA 28 (.bool true) hs hd rfl (yP (zN N2 (zN N1 S0)) rfl) fun _ hs hd S3 N3=>?_
      refine yA 29 (.bool true) hs hd rfl (yM S3) fun _ hs hd S4 N4=>?_
      refine yK 30 hs hd (yW H26 S4) fun _ hs hd S5 N5=>?_
      refine yK 31 hs hd (yW H26 (zN N5 S4)) fun _ hs hd S6 N6=>?_
      refine yK 32 hs hd (yW H26 (zN N6 (zN N5 S4))) fun _ hs hd S7 N7=>?_
      refine yK 33 hs hd (yU H29 S7) fun _ hs hd S8 N8=>?_
      refine yK 34 hs hd (yU H29 (zN N8 S7)) fun _ hs hd S9 N9=>?_
      refine yK 35 hs hd (yW H26 (zN N9 (zN N8 (zN N7 (zN N6 (zN N5 S4)))))) fun _ hs hd S10 N10=>?_
      refine yA 36 (.bool true) hs hd rfl (yP (zN N10 (zN N9 (zN N8 (zN N7 (zN N6 (zN N5 S4)))))) rfl) fun _ hs hd S11 N11=>?_
      exact wpList_nil (hK_ _ _ (Stop.go ⟨true,Eq.trans (by first|rfl|(rw[];rfl)|(simp[*];done)) hE13.out.symm,hs,hd,(zN N11 (zN N10 (zN N9 (zN N8 (zN N7 (zN N6 (zN N5 (zN N4 (zN N3 (zN N2 (zN N1 (zN N0 ep3)))))))))))),S11,rfl⟩))
     replace c14:=Bool.eq_false_iff.mpr c14
     subst c14
     by_cases c15:a0=186
     ·refine yA 25 (.bool false) hs hd rfl (yM es3) fun _ hs hd S0 N0=>?_
      refine yA 26 (.int .i32 a0) hs hd (yW H22 S0) (yM (zN N0 ep3)) fun _ hs hd S1 N1=>?_
      refine yA 27 (.bool true) hs hd (yW H22 (zN N1 S0)) (yC c15 S1) fun _ hs hd S2 N2=>?_
      refine yA 28 (.bool true) hs hd rfl (yQ (zN N2 (zN N1 S0)) S2) fun _ hs hd S3 N3=>?_
      refine yA 29 (.bool true) hs hd rfl (yM S3) fun _ hs hd S4 N4=>?_
      refine yK 30 hs hd (yW H26 S4) fun _ hs hd S5 N5=>?_
      refine yK 31 hs hd (yW H26 (zN N5 S4)) fun _ hs hd S6 N6=>?_
      refine yK 32 hs hd (yW H26 (zN N6 (zN N5 S4))) fun _ hs hd S7 N7=>?_
      refine yK 33 hs hd (yU H29 S7) fun _ hs hd S8 N8=>?_
      refine yK 34 hs hd (yU H29 (zN N8 S7)) fun _ hs hd S9 N9=>?_
      refine yK 35 hs hd (yW H26 (zN N9 (zN N8 (zN N7 (zN N6 (zN N5 S4)))))) fun _ hs hd S10 N10=>?_
      refine yA 36 (.bool true) hs hd rfl (yP (zN N10 (zN N9 (zN N8 (zN N7 (zN N6 (zN N5 S4)))))) rfl) fun _ hs hd S11 N11=>?_
      exact wpList_nil (hK_ _ _ (Stop.go ⟨true,Eq.trans (by first|rfl|(rw[if_pos c15];rfl)|(simp[*];done)) hE13.out.symm,hs,hd,(zN N11 (zN N10 (zN N9 (zN N8 (zN N7 (zN N6 (zN N5 (zN N4 (zN N3 (zN N2 (zN N1 (zN N0 ep3)))))))))))),S11,rfl⟩))
     by_cases c16:a0≥192
     ·refine yA 25 (.bool false) hs hd rfl (yM es3) fun _ hs hd S0 N0=>?_
      refine yA 26 (.int .i32 a0) hs hd (yW H22 S0) (yM (zN N0 ep3)) fun _ hs hd S1 N1=>?_
      refine yA 27 (.bool false) hs hd (yW H22 (zN N1 S0)) (yD c15 S1) fun _ hs hd S2 N2=>?_
      refine yA 28 (.bool false) hs hd rfl (yQ (zN N2 (zN N1 S0)) S2) fun _ hs hd S3 N3=>?_
      refine yA 29 (.bool false) hs hd rfl (yM S3) fun _ hs hd S4 N4=>?_
      refine yA 30 (.int .i32 a0) hs hd (yW H26 S4) (yM (zN N4 (zN N3 (zN N2 (zN N1 (zN N0 ep3)))))) fun _ hs hd S5 N5=>?_
      refine yA 31 (.bool true) hs hd (yW H26 (zN N5 S4)) (yC c16 S5) fun _ hs hd S6 N6=>?_
      refine yA 32 (.bool true) hs hd (yW H26 (zN N6 (zN N5 S4))) (yM S6) fun _ hs hd S7 N7=>?_
      refine yA 33 (.int .i32 a0) hs hd (yW H29 S7) (yM (zN N7 (zN N6 (zN N5 (zN N4 (zN N3 (zN N2 (zN N1 (zN N0 ep3))))))))) fun _ hs hd S8 N8=>?_
      refine yA 34 (.bool (decide (a0≤214))) hs hd (yW H29 (zN N8 S7)) (yB S8) fun _ hs hd S9 N9=>?_
      refine yA 35 (.bool (decide (a0≤214))) hs hd (yW H26 (zN N9 (zN N8 (zN N7 (zN N6 (zN N5 S4)))))) (yP (zN N9 (zN N8 S7)) S9) fun _ hs hd S10 N10=>?_
      refine yA 36 (.bool (decide (a0≤214))) hs hd rfl (yQ (zN N10 (zN N9 (zN N8 (zN N7 (zN N6 (zN N5 S4)))))) S10) fun _ hs hd S11 N11=>?_
      exact wpList_nil (hK_ _ _ (Stop.go ⟨(decide (a0≤214)),Eq.trans (by first|rfl|(rw[if_neg c15,if_pos c16];rfl)|(simp[*];done)) hE13.out.symm,hs,hd,(zN N11 (zN N10 (zN N9 (zN N8 (zN N7 (zN N6 (zN N5 (zN N4 (zN N3 (zN N2 (zN N1 (zN N0 ep3)))))))))))),S11,rfl⟩))
     refine yA 25 (.bool false) hs hd rfl (yM es3) fun _ hs hd S0 N0=>?_
     refine yA 26 (.int .i32 a0) hs hd (yW H22 S0) (yM (zN N0 ep3)) fun _ hs hd S1 N1=>?_
     refine yA 27 (.bool false) hs hd (yW H22 (zN N1 S0)) (yD c15 S1) fun _ hs hd S2 N2=>?_
     refine yA 28 (.bool false) hs hd rfl (yQ (zN N2 (zN N1 S0)) S2) fun _ hs hd S3 N3=>?_
     refine yA 29 (.bool false) hs hd rfl (yM S3) fun _ hs hd S4 N4=>?_
     refine yA 30 (.int .i32 a0) hs hd (yW H26 S4) (yM (zN N4 (zN N3 (zN N2 (zN N1 (zN N0 ep3)))))) fun _ hs hd S5 N5=>?_
     refine yA 31 (.bool false) hs hd (yW H26 (zN N5 S4)) (yD c16 S5) fun _ hs hd S6 N6=>?_
     refine yA 32 (.bool false) hs hd (yW H26 (zN N6 (zN N5 S4))) (yM S6) fun _ hs hd S7 N7=>?_
     refine yK 33 hs hd (yW H29 S7) fun _ hs hd S8 N8=>?_
     refine yK 34 hs hd (yW H29 (zN N8 S7)) fun _ hs hd S9 N9=>?_
     refine yA 35 (.bool false) hs hd (yW H26 (zN N9 (zN N8 (zN N7 (zN N6 (zN N5 S4)))))) (yQ (zN N9 (zN N8 S7)) rfl) fun _ hs hd S10 N10=>?_
     refine yA 36 (.bool false) hs hd rfl (yQ (zN N10 (zN N9 (zN N8 (zN N7 (zN N6 (zN N5 S4)))))) S10) fun _ hs hd S11 N11=>?_
     exact wpList_nil (hK_ _ _ (Stop.go ⟨false,Eq.trans (by first|rfl|(rw[if_neg c15,if_neg c16];rfl)|(simp[*];done)) hE13.out.symm,hs,hd,(zN N11 (zN N10 (zN N9 (zN N8 (zN N7 (zN N6 (zN N5 (zN N4 (zN N3 (zN N2 (zN N1 (zN N0 ep3)))))))))))),S11,rfl⟩))
    case rest=>
     clear hs hd ep3 es3
     obtain⟨b12,hb_,hs,hd,ep4,es4,rfl⟩:=hc_
     simp only[List.drop_succ_cons,List.drop_zero,List.drop_nil]
     have H:=MW.bind_step HH.out (hb_.trans hE13.out)
     replace HH:=za H
     clear H hb_ hE13
     obtain⟨E18,hE18⟩:∃ e_:Bool,e_=(if b12=true then(true) else(if a0≥216 then((decide (a0≤246))) else(false))):=⟨_,rfl⟩
     replace hE18:=za hE18
     refine MW.list_cut 8 (fun a_ w_=>∃ b_:Bool,b_=E18∧a_.tmps.size=213∧a_.defers=[]∧a_.eval (.tmp 0)=.int .i32 a0∧a_.eval (.tmp 44)=.bool b_∧w=w_) (fun K_ hK_=>?seg) (fun af5 w_ hc_=>?rest)
     case seg=>
      simp only[List.take_succ_cons,List.take_zero,List.take_nil]
      clear HH
      by_cases c19:b12=true
      ·subst c19
       refine yA 37 (.bool true) hs hd rfl (yM es4) fun _ hs hd S0 N0=>?_
       refine yK 38 hs hd (yW H34 S0) fun _ hs hd S1 N1=>?_
       refine yK 39 hs hd (yW H34 (zN N1 S0)) fun _ hs hd S2 N2=>?_
       refine yK 40 hs hd (yW H34 (zN N2 (zN N1 S0))) fun _ hs hd S3 N3=>?_
       refine yK 41 hs hd (yU H37 S3) fun _ hs hd S4 N4=>?_
       refine yK 42 hs hd (yU H37 (zN N4 S3)) fun _ hs hd S5 N5=>?_
       refine yK 43 hs hd (yW H34 (zN N5 (zN N4 (zN N3 (zN N2 (zN N1 S0)))))) fun _ hs hd S6 N6=>?_
       refine yA 44 (.bool true) hs hd rfl (yP (zN N6 (zN N5 (zN N4 (zN N3 (zN N2 (zN N1 S0)))))) rfl) fun _ hs hd S7 N7=>?_
       exact wpList_nil (hK_ _ _ (Stop.go ⟨true,Eq.trans (by first|rfl|(rw[];rfl)|(simp[*];done)) hE18.out.symm,hs,hd,(zN N7 (zN N6 (zN N5 (zN N4 (zN N3 (zN N2 (zN N1 (zN N0 ep4)))))))),S7,rfl⟩))
      replace c19:=Bool.eq_false_iff.mpr c19
      subst c19
      by_cases c20:a0≥216
      ·refine yA 37 (.bool false) hs hd rfl (yM es4) fun _ hs hd S0 N0=>?_
       refine yA 38 (.int .i32 a0) hs hd (yW H34 S0) (yM (zN N0 ep4)) fun _ hs hd S1 N1=>?_
       refine yA 39 (.bool true) hs hd (yW H34 (zN N1 S0)) (yC c20 S1) fun _ hs hd S2 N2=>?_
       refine yA 40 (.bool true) hs hd (yW H34 (zN N2 (zN N1 S0))) (yM S2) fun _ hs hd S3 N3=>?_
       refine yA 41 (.int .i32 a0) hs hd (yW H37 S3) (yM (zN N3 (zN N2 (zN N1 (zN N0 ep4))))) fun _ hs hd S4 N4=>?_
       refine yA 42 (.bool (decide (a0≤246))) hs hd (yW H37 (zN N4 S3)) (yB S4) fun _ hs hd S5 N5=>?_
       refine yA 43 (.bool (decide (a0≤246))) hs hd (yW H34 (zN N5 (zN N4 (zN N3 (zN N2 (zN N1 S0)))))) (yP (zN N5 (zN N4 S3)) S5) fun _ hs hd S6 N6=>?_
       refine yA 44 (.bool (decide (a0≤246))) hs hd rfl (yQ (zN N6 (zN N5 (zN N4 (zN N3 (zN N2 (zN N1 S0)))))) S6) fun _ hs hd S7 N7=>?_
       exact wpList_nil (hK_ _ _ (Stop.go ⟨(decide (a0≤246)),Eq.trans (by first|rfl|(rw[if_pos c20];rfl)|(simp[*];done)) hE18.out.symm,hs,hd,(zN N7 (zN N6 (zN N5 (zN N4 (zN N3 (zN N2 (zN N1 (zN N0 ep4)))))))),S7,rfl⟩))
      refine yA 37 (.bool false) hs hd rfl (yM es4) fun _ hs hd S0 N0=>?_
      refine yA 38 (.int .i32 a0) hs hd (yW H34 S0) (yM (zN N0 ep4)) fun _ hs hd S1 N1=>?_
      refine yA 39 (.bool false) hs hd (yW H34 (zN N1 S0)) (yD c20 S1) fun _ hs hd S2 N2=>?_
      refine yA 40 (.bool false) hs hd (yW H34 (zN N2 (zN N1 S0))) (yM S2) fun _ hs hd S3 N3=>?_
      refine yK 41 hs hd (yW H37 S3) fun _ hs hd S4 N4=>?_
      refine yK 42 hs hd (yW H37 (zN N4 S3)) fun _ hs hd S5 N5=>?_
      refine yA 43 (.bool false) hs hd (yW H34 (zN N5 (zN N4 (zN N3 (zN N2 (zN N1 S0)))))) (yQ (zN N5 (zN N4 S3)) rfl) fun _ hs hd S6 N6=>?_
      refine yA 44 (.bool false) hs hd rfl (yQ (zN N6 (zN N5 (zN N4 (zN N3 (zN N2 (zN N1 S0)))))) S6) fun _ hs hd S7 N7=>?_
      exact wpList_nil (hK_ _ _ (Stop.go ⟨false,Eq.trans (by first|rfl|(rw[if_neg c20];rfl)|(simp[*];done)) hE18.out.symm,hs,hd,(zN N7 (zN N6 (zN N5 (zN N4 (zN N3 (zN N2 (zN N1 (zN N0 ep4)))))))),S7,rfl⟩))
     case rest=>
      clear hs hd ep4 es4
      obtain⟨b17,hb_,hs,hd,ep5,es5,rfl⟩:=hc_
      simp only[List.drop_succ_cons,List.drop_zero,List.drop_nil]
      have H:=MW.bind_step HH.out (hb_.trans hE18.out)
      replace HH:=za H
      clear H hb_ hE18
      obtain⟨E22,hE22⟩:∃ e_:Bool,e_=(if b17=true then(true) else(if a0≥248 then((decide (a0≤383))) else(false))):=⟨_,rfl⟩
      replace hE22:=za hE22
      refine MW.list_cut 8 (fun a_ w_=>∃ b_:Bool,b_=E22∧a_.tmps.size=213∧a_.defers=[]∧a_.eval (.tmp 0)=.int .i32 a0∧a_.eval (.tmp 52)=.bool b_∧w=w_) (fun K_ hK_=>?seg) (fun af6 w_ hc_=>?rest)
      case seg=>
       simp only[List.take_succ_cons,List.take_zero,List.take_nil]
       clear HH
       by_cases c23:b17=true
       ·subst c23
        refine yA 45 (.bool true) hs hd rfl (yM es5) fun _ hs hd S0 N0=>?_
        refine yK 46 hs hd (yW H42 S0) fun _ hs hd S1 N1=>?_
        refine yK 47 hs hd (yW H42 (zN N1 S0)) fun _ hs hd S2 N2=>?_
        refine yK 48 hs hd (yW H42 (zN N2 (zN N1 S0))) fun _ hs hd S3 N3=>?_
        refine yK 49 hs hd (yU H45 S3) fun _ hs hd S4 N4=>?_
        refine yK 50 hs hd (yU H45 (zN N4 S3)) fun _ hs hd S5 N5=>?_
        refine yK 51 hs hd (yW H42 (zN N5 (zN N4 (zN N3 (zN N2 (zN N1 S0)))))) fun _ hs hd S6 N6=>?_
        refine yA 52 (.bool true) hs hd rfl (yP (zN N6 (zN N5 (zN N4 (zN N3 (zN N2 (zN N1 S0)))))) rfl) fun _ hs hd S7 N7=>?_
        exact wpList_nil (hK_ _ _ (Stop.go ⟨true,Eq.trans (by first|rfl|(rw[];rfl)|(simp[*];done)) hE22.out.symm,hs,hd,(zN N7 (zN N6 (zN N5 (zN N4 (zN N3 (zN N2 (zN N1 (zN N0 ep5)))))))),S7,rfl⟩))
       replace c23:=Bool.eq_false_iff.mpr c23
       subst c23
       by_cases c24:a0≥248
       ·refine yA 45 (.bool false) hs hd rfl (yM es5) fun _ hs hd S0 N0=>?_
        refine yA 46 (.int .i32 a0) hs hd (yW H42 S0) (yM (zN N0 ep5)) fun _ hs hd S1 N1=>?_
        refine yA 47 (.bool true) hs hd (yW H42 (zN N1 S0)) (yC c24 S1) fun _ hs hd S2 N2=>?_
        refine yA 48 (.bool true) hs hd (yW H42 (zN N2 (zN N1 S0))) (yM S2) fun _ hs hd S3 N3=>?_
        refine yA 49 (.int .i32 a0) hs hd (yW H45 S3) (yM (zN N3 (zN N2 (zN N1 (zN N0 ep5))))) fun _ hs hd S4 N4=>?_
        refine yA 50 (.bool (decide (a0≤383))) hs hd (yW H45 (zN N4 S3)) (yB S4) fun _ hs hd S5 N5=>?_
        refine yA 51 (.bool (decide (a0≤383))) hs hd (yW H42 (zN N5 (zN N4 (zN N3 (zN N2 (zN N1 S0)))))) (yP (zN N5 (zN N4 S3)) S5) fun _ hs hd S6 N6=>?_
        refine yA 52 (.bool (decide (a0≤383))) hs hd rfl (yQ (zN N6 (zN N5 (zN N4 (zN N3 (zN N2 (zN N1 S0)))))) S6) fun _ hs hd S7 N7=>?_
        exact wpList_nil (hK_ _ _ (Stop.go ⟨(decide (a0≤383)),Eq.trans (by first|rfl|(rw[if_pos c24];rfl)|(simp[*];done)) hE22.out.symm,hs,hd,(zN N7 (zN N6 (zN N5 (zN N4 (zN N3 (zN N2 (zN N1 (zN N0 ep5)))))))),S7,rfl⟩))
       refine yA 45 (.bool false) hs hd rfl (yM es5) fun _ hs hd S0 N0=>?_
       refine yA 46 (.int .i32 a0) hs hd (yW H42 S0) (yM (zN N0 ep5)) fun _ hs hd S1 N1=>?_
       refine yA 47 (.bool false) hs hd (yW H42 (zN N1 S0)) (yD c24 S1) fun _ hs hd S2 N2=>?_
       refine yA 48 (.bool false) hs hd (yW H42 (zN N2 (zN N1 S0))) (yM S2) fun _ hs hd S3 N3=>?_
       refine yK 49 hs hd (yW H45 S3) fun _ hs hd S4 N4=>?_
       refine yK 50 hs hd (yW H45 (zN N4 S3)) fun _ hs hd S5 N5=>?_
       refine yA 51 (.bool false) hs hd (yW H42 (zN N5 (zN N4 (zN N3 (zN N2 (zN N1 S0)))))) (yQ (zN N5 (zN N4 S3)) rfl) fun _ hs hd S6 N6=>?_
       refine yA 52 (.bool false) hs hd rfl (yQ (zN N6 (zN N5 (zN N4 (zN N3 (zN N2 (zN N1 S0)))))) S6) fun _ hs hd S7 N7=>?_
       exact wpList_nil (hK_ _ _ (Stop.go ⟨false,Eq.trans (by first|rfl|(rw[if_neg c24];rfl)|(simp[*];done)) hE22.out.symm,hs,hd,(zN N7 (zN N6 (zN N5 (zN N4 (zN N3 (zN N2 (zN N1 (zN N0 ep5)))))))),S7,rfl⟩))
      case rest=>
       clear hs hd ep5 es5
       obtain⟨b21,hb_,hs,hd,ep6,es6,rfl⟩:=hc_
       simp only[List.drop_succ_cons,List.drop_zero,List.drop_nil]
       have H:=MW.bind_step HH.out (hb_.trans hE22.out)
       replace HH:=za H
       clear H hb_ hE22
       exact wpList_nil (hKC_ _ _ (Stop.go ⟨b21,HH.out,hs,hd,ep6,es6,rfl⟩))
theorem chars_letter.calls (a0:Int) (r:Bool) (w:World) (h:chars_letter.f a0=some r):
  Calls Try.prog 23 #[.int .i32 a0] w (fun e w'=>e=.returned (.bool r)∧Drawn0 w w'):=by
 have HH:=za h
 clear h
 unfold chars_letter.f at HH
 go_enter Try.func23,Try.ntmps23
 repeat(first|(refine MW.region_ops (id:=1) ?_)|go_step)
 intro OPS hO
 refine chars_letter.p0 OPS hO a0 r w _ (by kernel_rfl) (by kernel_rfl) (by kernel_rfl) HH.out ?_
 intro a' hs hd es
 repeat go_step
 refine bodyPost_ret (results_tmp rfl _ _ _) hd ?_
 exact⟨congrArg Ending.returned es,Drawn0.refl _⟩
end Go.Proofs.Ytkbiiijmgbjnkaa.GA
