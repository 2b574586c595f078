import Derived.Test.YtkbiiijmgbjnkaaGA0
import Derived.Test.YtkbiiijmgbjnkaaMX
namespace Go.Proofs.Ytkbiiijmgbjnkaa.GA
open Go.RowKit Go.Proofs.Ytkbiiijmgbjnkaa Go.Proofs.Ytkbiiijmgbjnkaa.MW Go.Proofs.YtkbiiijmgbjnkaaW.PrintWords Go.Proofs.YtkbiiijmgbjnkaaW.PrintLast Go.Proofs.YtkbiiijmgbjnkaaW.PrintMore
attribute [local go_sem] max2_int min2_int max_two min_two
set_option maxHeartbeats 8000000
set_option maxRecDepth 100000
set_option linter.unusedVariables false
set_option linter.unusedSimpArgs false
def chars_letter.f (a0:Int):Option (Bool):=(some (if a0≥65 then((decide (a0≤90))) else(false):Bool)).bind fun b1=>((some (if b1=true then(true) else(if a0≥97 then((decide (a0≤122))) else(false)):Bool)).bind fun b4=>((some (if b4=true then(true) else(if a0=170 then(true) else((a0==181))):Bool)).bind fun b8=>((some (if b8=true then(true) else(if a0=186 then(true) else(if a0≥192 then((decide (a0≤214))) else(false))):Bool)).bind fun b12=>((some (if b12=true then(true) else(if a0≥216 then((decide (a0≤246))) else(false)):Bool)).bind fun b17=>((some (if b17=true then(true) else(if a0≥248 then((decide (a0≤383))) else(false)):Bool)).bind fun b21=>((some (if b21=true then(true) else(if a0=700 then(true) else((a0==902))):Bool)).bind fun b25=>((some (if b25=true then(true) else(if a0≥904 then((decide (a0≤906))) else(false)):Bool)).bind fun b29=>((some (if b29=true then(true) else(if a0=908 then(true) else(if a0≥910 then((decide (a0≤929))) else(false))):Bool)).bind fun b33=>((some (if b33=true then(true) else(if a0≥931 then((decide (a0≤974))) else(false)):Bool)).bind fun b38=>((some (if b38=true then(true) else(if a0=1025 then(true) else(if a0≥1040 then((decide (a0≤1103))) else(false))):Bool)).bind fun b42=>((some (if b42=true then(true) else(if a0=1105 then(true) else(if a0≥1488 then((decide (a0≤1514))) else(false))):Bool)).bind fun b47=>((some (if b47=true then(true) else(if a0≥4352 then((decide (a0≤4370))) else(false)):Bool)).bind fun b52=>((some (if b52=true then(true) else(if a0≥4449 then((decide (a0≤4469))) else(false)):Bool)).bind fun b56=>((some (if b56=true then(true) else(if a0≥4520 then((decide (a0≤4546))) else(false)):Bool)).bind fun b60=>((some (if b60=true then(true) else(if a0=8486 then(true) else(if a0≥8490 then((decide (a0≤8491))) else(false))):Bool)).bind fun b64=>((some (if b64=true then(true) else(if a0≥8544 then((decide (a0≤8555))) else(false)):Bool)).bind fun b69=>((some (if b69=true then(true) else(if a0≥8560 then((decide (a0≤8571))) else(false)):Bool)).bind fun b73=>((some (if b73=true then(true) else(if a0≥12353 then((decide (a0≤12436))) else(false)):Bool)).bind fun b77=>((some (if b77=true then(true) else(if a0≥19968 then((decide (a0≤20223))) else(false)):Bool)).bind fun b81=>((some (if b81=true then(true) else(if a0≥44032 then((decide (a0≤55203))) else(false)):Bool)).bind fun b85=>((some (if b85=true then(true) else(if a0≥64256 then((decide (a0≤64261))) else(false)):Bool)).bind fun b89=>((some (if b89=true then(true) else(if a0≥65313 then((decide (a0≤65338))) else(false)):Bool)).bind fun b93=>((some (if b93=true then(true) else(if a0≥65345 then((decide (a0≤65370))) else(false)):Bool)).bind fun b97=>(some b97))))))))))))))))))))))))
noncomputable def chars_letter.ops:List Oper:=match Try.f23.body with
 |some (.seq _ (.seq (.region _ o _) _))=>o.toList
 |_=>[]
theorem chars_letter.p3 {Q:Exit→Act→World→Prop} (OPS:Array Oper) (hO:OPS=chars_letter.ops.toArray) (a0:Int) (r:Bool) (w:World) (af18:Act) (b73:Bool) (hs:af18.tmps.size=213) (hd:af18.defers=[]) (ep18:af18.eval (.tmp 0)=.int .i32 a0) (es18:af18.eval (.tmp 164)=.bool b73) (h:((some (if b73=true then(true) else(if a0≥12353 then((decide (a0≤12436))) else(false)):Bool)).bind fun b77=>((some (if b77=true then(true) else(if a0≥19968 then((decide (a0≤20223))) else(false)):Bool)).bind fun b81=>((some (if b81=true then(true) else(if a0≥44032 then((decide (a0≤55203))) else(false)):Bool)).bind fun b85=>((some (if b85=true then(true) else(if a0≥64256 then((decide (a0≤64261))) else(false)):Bool)).bind fun b89=>((some (if b89=true then(true) else(if a0≥65313 then((decide (a0≤65338))) else(false)):Bool)).bind fun b93=>((some (if b93=true then(true) else(if a0≥65345 then((decide (a0≤65370))) else(false)):Bool)).bind fun b97=>(some b97)))))))=some r) (fin:∀ a':Act,a'.tmps.size=213→a'.defers=[]→a'.eval (.tmp 2)=.bool r→Q .normal a' w):wpList Try.prog OPS Q (chars_letter.ops.drop 162) af18 w:=by
 have HH:=za h
 clear h
 have H162:(OPS[162]?).bind (·.dst)=some 165:=by rw[hO];rfl
 have H165:(OPS[165]?).bind (·.dst)=some 168:=by rw[hO];rfl
 have H170:(OPS[170]?).bind (·.dst)=some 173:=by rw[hO];rfl
 have H173:(OPS[173]?).bind (·.dst)=some 176:=by rw[hO];rfl
 have H178:(OPS[178]?).bind (·.dst)=some 181:=by rw[hO];rfl
 have H181:(OPS[181]?).bind (·.dst)=some 184:=by rw[hO];rfl
 have H186:(OPS[186]?).bind (·.dst)=some 189:=by rw[hO];rfl
 have H189:(OPS[189]?).bind (·.dst)=some 192:=by rw[hO];rfl
 have H194:(OPS[194]?).bind (·.dst)=some 197:=by rw[hO];rfl
 have H197:(OPS[197]?).bind (·.dst)=some 200:=by rw[hO];rfl
 have H202:(OPS[202]?).bind (·.dst)=some 205:=by rw[hO];rfl
 have H205:(OPS[205]?).bind (·.dst)=some 208:=by rw[hO];rfl
 replace hO:=(Stop.go hO:Stop _ (.mk _))
 replace fin:=(Stop.go fin:Stop _ (.mk _))
 simp only[chars_letter.ops,Try.f23,List.append_eq,List.cons_append,List.nil_append,List.drop_succ_cons,List.drop_zero,List.take_succ_cons,List.take_zero]
 obtain⟨E78,hE78⟩:∃ e_:Bool,e_=(if b73=true then(true) else(if a0≥12353 then((decide (a0≤12436))) else(false))):=⟨_,rfl⟩
 replace hE78:=za hE78
 refine MW.list_cut 8 (fun a_ w_=>∃ b_:Bool,b_=E78∧a_.tmps.size=213∧a_.defers=[]∧a_.eval (.tmp 0)=.int .i32 a0∧a_.eval (.tmp 172)=.bool b_∧w=w_) (fun K_ hK_=>?seg) (fun af19 w_ hc_=>?rest)
 case seg=>
  simp only[List.take_succ_cons,List.take_zero,List.take_nil]
  clear HH
  by_cases c79:b73=true
  ·subst c79
   refine MW.ad 165 (.bool true) rfl hs hd rfl rfl (MW.ab_move rfl es18) fun _ hs hd S0 N0=>?_
   refine MW.ak 166 rfl hs hd rfl (MW.ab_want rfl H162 S0 rfl) fun _ hs hd S1 N1=>?_
   refine MW.ak 167 rfl hs hd rfl (MW.ab_want rfl H162 (zN N1 S0) rfl) fun _ hs hd S2 N2=>?_
   refine MW.ak 168 rfl hs hd rfl (MW.ab_want rfl H162 (zN N2 (zN N1 S0)) rfl) fun _ hs hd S3 N3=>?_
   refine MW.ak 169 rfl hs hd rfl (MW.ab_undef rfl H165 S3) fun _ hs hd S4 N4=>?_
   refine MW.ak 170 rfl hs hd rfl (MW.ab_undef rfl H165 (zN N4 S3)) fun _ hs hd S5 N5=>?_
   refine MW.ak 171 rfl hs hd rfl (MW.ab_want rfl H162 (zN N5 (zN N4 (zN N3 (zN N2 (zN N1 S0))))) rfl) fun _ hs hd S6 N6=>?_
   refine MW.ad 172 (.bool true) rfl hs hd rfl rfl (MW.ab_pick_t rfl (zN N6 (zN N5 (zN N4 (zN N3 (zN N2 (zN N1 S0)))))) rfl) fun _ hs hd S7 N7=>?_
   exact wpList_nil (hK_ _ _ (Stop.go ⟨true,Eq.trans (by first|rfl|(rw[];rfl)|(simp[*];done)) hE78.out.symm,hs,hd,(zN N7 (zN N6 (zN N5 (zN N4 (zN N3 (zN N2 (zN N1 (zN N0 ep18)))))))),S7,rfl⟩))
  replace c79:=Bool.eq_false_iff.mpr c79
  subst c79
  by_cases c80:a0≥12353
  ·refine MW.ad 165 (.bool false) rfl hs hd rfl rfl (MW.ab_move rfl es18) fun _ hs hd S0 N0=>?_
   refine MW.ad 166 (.int .i32 a0) rfl hs hd rfl (MW.ab_want rfl H162 S0 rfl) (MW.ab_move rfl (zN N0 ep18)) fun _ hs hd S1 N1=>?_
   refine MW.ad 167 (.bool true) rfl hs hd rfl (MW.ab_want rfl H162 (zN N1 S0) rfl) (MW.ab_cmp_t c80 rfl S1 (by kernel_rfl)) fun _ hs hd S2 N2=>?_
   refine MW.ad 168 (.bool true) rfl hs hd rfl (MW.ab_want rfl H162 (zN N2 (zN N1 S0)) rfl) (MW.ab_move rfl S2) fun _ hs hd S3 N3=>?_
   refine MW.ad 169 (.int .i32 a0) rfl hs hd rfl (MW.ab_want rfl H165 S3 rfl) (MW.ab_move rfl (zN N3 (zN N2 (zN N1 (zN N0 ep18))))) fun _ hs hd S4 N4=>?_
   refine MW.ad 170 (.bool (decide (a0≤12436))) rfl hs hd rfl (MW.ab_want rfl H165 (zN N4 S3) rfl) (MW.ab_bin rfl S4 (by kernel_rfl)) fun _ hs hd S5 N5=>?_
   refine MW.ad 171 (.bool (decide (a0≤12436))) rfl hs hd rfl (MW.ab_want rfl H162 (zN N5 (zN N4 (zN N3 (zN N2 (zN N1 S0))))) rfl) (MW.ab_pick_t rfl (zN N5 (zN N4 S3)) S5) fun _ hs hd S6 N6=>?_
   refine MW.ad 172 (.bool (decide (a0≤12436))) rfl hs hd rfl rfl (MW.ab_pick_f rfl (zN N6 (zN N5 (zN N4 (zN N3 (zN N2 (zN N1 S0)))))) S6) fun _ hs hd S7 N7=>?_
   exact wpList_nil (hK_ _ _ (Stop.go ⟨(decide (a0≤12436)),Eq.trans (by first|rfl|(rw[if_pos c80];rfl)|(simp[*];done)) hE78.out.symm,hs,hd,(zN N7 (zN N6 (zN N5 (zN N4 (zN N3 (zN N2 (zN N1 (zN N0 ep18)))))))),S7,rfl⟩))
  refine MW.ad 165 (.bool false) rfl hs hd rfl rfl (MW.ab_move rfl es18) fun _ hs hd S0 N0=>?_
  refine MW.ad 166 (.int .i32 a0) rfl hs hd rfl (MW.ab_want rfl H162 S0 rfl) (MW.ab_move rfl (zN N0 ep18)) fun _ hs hd S1 N1=>?_
  refine MW.ad 167 (.bool false) rfl hs hd rfl (MW.ab_want rfl H162 (zN N1 S0) rfl) (MW.ab_cmp_f c80 rfl S1 (by kernel_rfl)) fun _ hs hd S2 N2=>?_
  refine MW.ad 168 (.bool false) rfl hs hd rfl (MW.ab_want rfl H162 (zN N2 (zN N1 S0)) rfl) (MW.ab_move rfl S2) fun _ hs hd S3 N3=>?_
  refine MW.ak 169 rfl hs hd rfl (MW.ab_want rfl H165 S3 rfl) fun _ hs hd S4 N4=>?_
  refine MW.ak 170 rfl hs hd rfl (MW.ab_want rfl H165 (zN N4 S3) rfl) fun _ hs hd S5 N5=>?_
  refine MW.ad 171 (.bool false) rfl hs hd rfl (MW.ab_want rfl H162 (zN N5 (zN N4 (zN N3 (zN N2 (zN N1 S0))))) rfl) (MW.ab_pick_f rfl (zN N5 (zN N4 S3)) rfl) fun _ hs hd S6 N6=>?_
  refine MW.ad 172 (.bool false) rfl hs hd rfl rfl (MW.ab_pick_f rfl (zN N6 (zN N5 (zN N4 (zN N3 (zN N2 (zN N1 S0)))))) S6) fun _ hs hd S7 N7=>?_
  exact wpList_nil (hK_ _ _ (Stop.go ⟨false,Eq.trans (by first|rfl|(rw[if_neg c80];rfl)|(simp[*];done)) hE78.out.symm,hs,hd,(zN N7 (zN N6 (zN N5 (zN N4 (zN N3 (zN N2 (zN N1 (zN N0 ep18)))))))),S7,rfl⟩))
 case rest=>
  clear hs hd ep18 es18
  obtain⟨b77,hb_,hs,hd,ep19,es19,rfl⟩:=hc_
  simp only[List.drop_succ_cons,List.drop_zero,List.drop_nil]
  have H:=MW.bind_step HH.out (hb_.trans hE78.out)
  replace HH:=za H
  clear H hb_ hE78
  obtain⟨E82,hE82⟩:∃ e_:Bool,e_=(if b77=true then(true) else(if a0≥19968 then((decide (a0≤20223))) else(false))):=⟨_,rfl⟩
  replace hE82:=za hE82
  refine MW.list_cut 8 (fun a_ w_=>∃ b_:Bool,b_=E82∧a_.tmps.size=213∧a_.defers=[]∧a_.eval (.tmp 0)=.int .i32 a0∧a_.eval (.tmp 180)=.bool b_∧w=w_) (fun K_ hK_=>?seg) (fun af20 w_ hc_=>?rest)
  case seg=>
   simp only[List.take_succ_cons,List.take_zero,List.take_nil]
   clear HH
   by_cases c83:b77=true
   ·subst c83
    refine MW.ad 173 (.bool true) rfl hs hd rfl rfl (MW.ab_move rfl es19) fun _ hs hd S0 N0=>?_
    refine MW.ak 174 rfl hs hd rfl (MW.ab_want rfl H170 S0 rfl) fun _ hs hd S1 N1=>?_
    refine MW.ak 175 rfl hs hd rfl (MW.ab_want rfl H170 (zN N1 S0) rfl) fun _ hs hd S2 N2=>?_
    refine MW.ak 176 rfl hs hd rfl (MW.ab_want rfl H170 (zN N2 (zN N1 S0)) rfl) fun _ hs hd S3 N3=>?_
    refine MW.ak 177 rfl hs hd rfl (MW.ab_undef rfl H173 S3) fun _ hs hd S4 N4=>?_
    refine MW.ak 178 rfl hs hd rfl (MW.ab_undef rfl H173 (zN N4 S3)) fun _ hs hd S5 N5=>?_
    refine MW.ak 179 rfl hs hd rfl (MW.ab_want rfl H170 (zN N5 (zN N4 (zN N3 (zN N2 (zN N1 S0))))) rfl) fun _ hs hd S6 N6=>?_
    refine MW.ad 180 (.bool true) rfl hs hd rfl rfl (MW.ab_pick_t rfl (zN N6 (zN N5 (zN N4 (zN N3 (zN N2 (zN N1 S0)))))) rfl) fun _ hs hd S7 N7=>?_
    exact wpList_nil (hK_ _ _ (Stop.go ⟨true,Eq.trans (by first|rfl|(rw[];rfl)|(simp[*];done)) hE82.out.symm,hs,hd,(zN N7 (zN N6 (zN N5 (zN N4 (zN N3 (zN N2 (zN N1 (zN N0 ep19)))))))),S7,rfl⟩))
   replace c83:=Bool.eq_false_iff.mpr c83
   subst c83
   by_cases c84:a0≥19968
   ·refine MW.ad 173 (.bool false) rfl hs hd rfl rfl (MW.ab_move rfl es19) fun _ hs hd S0 N0=>?_
    refine MW.ad 174 (.int .i32 a0) rfl hs hd rfl (MW.ab_want rfl H170 S0 rfl) (MW.ab_move rfl (zN N0 ep19)) fun _ hs hd S1 N1=>?_
    refine MW.ad 175 (.bool true) rfl hs hd rfl (MW.ab_want rfl H170 (zN N1 S0) rfl) (MW.ab_cmp_t c84 rfl S1 (by kernel_rfl)) fun _ hs hd S2 N2=>?_
    refine MW.ad 176 (.bool true) rfl hs hd rfl (MW.ab_want rfl H170 (zN N2 (zN N1 S0)) rfl) (MW.ab_move rfl S2) fun _ hs hd S3 N3=>?_
    refine MW.ad 177 (.int .i32 a0) rfl hs hd rfl (MW.ab_want rfl H173 S3 rfl) (MW.ab_move rfl (zN N3 (zN N2 (zN N1 (zN N0 ep19))))) fun _ hs hd S4 N4=>?_
    refine MW.ad 178 (.bool (decide (a0≤20223))) rfl hs hd rfl (MW.ab_want rfl H173 (zN N4 S3) rfl) (MW.ab_bin rfl S4 (by kernel_rfl)) fun _ hs hd S5 N5=>?_
    refine MW.ad 179 (.bool (decide (a0≤20223))) rfl hs hd rfl (MW.ab_want rfl H170 (zN N5 (zN N4 (zN N3 (zN N2 (zN N1 S0))))) rfl) (MW.ab_pick_t rfl (zN N5 (zN N4 S3)) S5) fun _ hs hd S6 N6=>?_
    refine MW.ad 180 (.bool (decide (a0≤20223))) rfl hs hd rfl rfl (MW.ab_pick_f rfl (zN N6 (zN N5 (zN N4 (zN N3 (zN N2 (zN N1 S0)))))) S6) fun _ hs hd S7 N7=>?_
    exact wpList_nil (hK_ _ _ (Stop.go ⟨(decide (a0≤20223)),Eq.trans (by first|rfl|(rw[if_pos c84];rfl)|(simp[*];done)) hE82.out.symm,hs,hd,(zN N7 (zN N6 (zN N5 (zN N4 (zN N3 (zN N2 (zN N1 (zN N0 ep19)))))))),S7,rfl⟩))
   refine MW.ad 173 (.bool false) rfl hs hd rfl rfl (MW.ab_move rfl es19) fun _ hs hd S0 N0=>?_
   refine MW.ad 174 (.int .i32 a0) rfl hs hd rfl (MW.ab_want rfl H170 S0 rfl) (MW.ab_move rfl (zN N0 ep19)) fun _ hs hd S1 N1=>?_
   refine MW.ad 175 (.bool false) rfl hs hd rfl (MW.ab_want rfl H170 (zN N1 S0) rfl) (MW.ab_cmp_f c84 rfl S1 (by kernel_rfl)) fun _ hs hd S2 N2=>?_
   refine MW.ad 176 (.bool false) rfl hs hd rfl (MW.ab_want rfl H170 (zN N2 (zN N1 S0)) rfl) (MW.ab_move rfl S2) fun _ hs hd S3 N3=>?_
   refine MW.ak 177 rfl hs hd rfl (MW.ab_want rfl H173 S3 rfl) fun _ hs hd S4 N4=>?_
   refine MW.ak 178 rfl hs hd rfl (MW.ab_want rfl H173 (zN N4 S3) rfl) fun _ hs hd S5 N5=>?_
   refine MW.ad 179 (.bool false) rfl hs hd rfl (MW.ab_want rfl H170 (zN N5 (zN N4 (zN N3 (zN N2 (zN N1 S0))))) rfl) (MW.ab_pick_f rfl (zN N5 (zN N4 S3)) rfl) fun _ hs hd S6 N6=>?_
   refine MW.ad 180 (.bool false) rfl hs hd rfl rfl (MW.ab_pick_f rfl (zN N6 (zN N5 (zN N4 (zN N3 (zN N2 (zN N1 S0)))))) S6) fun _ hs hd S7 N7=>?_
   exact wpList_nil (hK_ _ _ (Stop.go ⟨false,Eq.trans (by first|rfl|(rw[if_neg c84];rfl)|(simp[*];done)) hE82.out.symm,hs,hd,(zN N7 (zN N6 (zN N5 (zN N4 (zN N3 (zN N2 (zN N1 (zN N0 ep19)))))))),S7,rfl⟩))
  case rest=>
   clear hs hd ep19 es19
   obtain⟨b81,hb_,hs,hd,ep20,es20,rfl⟩:=hc_
   simp only[List.drop_succ_cons,List.drop_zero,List.drop_nil]
   have H:=MW.bind_step HH.out (hb_.trans hE82.out)
   replace HH:=za H
   clear H hb_ hE82
   obtain⟨E86,hE86⟩:∃ e_:Bool,e_=(if b81=true then(true) else(if a0≥44032 then((decide (a0≤55203))) else(false))):=⟨_,rfl⟩
   replace hE86:=za hE86
   refine MW.list_cut 8 (fun a_ w_=>∃ b_:Bool,b_=E86∧a_.tmps.size=213∧a_.defers=[]∧a_.eval (.tmp 0)=.int .i32 a0∧a_.eval (.tmp 188)=.bool b_∧w=w_) (fun K_ hK_=>?seg) (fun af21 w_ hc_=>?rest)
   case seg=>
    simp only[List.take_succ_cons,List.take_zero,List.take_nil]
    clear HH
    by_cases c87:b81=true
    ·subst c87
     refine MW.ad 181 (.bool true) rfl hs hd rfl rfl (MW.ab_move rfl es20) fun _ hs hd S0 N0=>?_
     refine MW.ak 182 rfl hs hd rfl (MW.ab_want rfl H178 S0 rfl) fun _ hs hd S1 N1=>?_
     refine MW.ak 183 rfl hs hd rfl (MW.ab_want rfl H178 (zN N1 S0) rfl) fun _ hs hd S2 N2=>?_
     refine MW.ak 184 rfl hs hd rfl (MW.ab_want rfl H178 (zN N2 (zN N1 S0)) rfl) fun _ hs hd S3 N3=>?_
     refine MW.ak 185 rfl hs hd rfl (MW.ab_undef rfl H181 S3) fun _ hs hd S4 N4=>?_
     refine MW.ak 186 rfl hs hd rfl (MW.ab_undef rfl H181 (zN N4 S3)) fun _ hs hd S5 N5=>?_
     refine MW.ak 187 rfl hs hd rfl (MW.ab_want rfl H178 (zN N5 (zN N4 (zN N3 (zN N2 (zN N1 S0))))) rfl) fun _ hs hd S6 N6=>?_
     refine MW.ad 188 (.bool true) rfl hs hd rfl rfl (MW.ab_pick_t rfl (zN N6 (zN N5 (zN N4 (zN N3 (zN N2 (zN N1 S0)))))) rfl) fun _ hs hd S7 N7=>?_
     exact wpList_nil (hK_ _ _ (Stop.go ⟨true,Eq.trans (by first|rfl|(rw[];rfl)|(simp[*];done)) hE86.out.symm,hs,hd,(zN N7 (zN N6 (zN N5 (zN N4 (zN N3 (zN N2 (zN N1 (zN N0 ep20)))))))),S7,rfl⟩))
    replace c87:=Bool.eq_false_iff.mpr c87
    subst c87
    by_cases c88:a0≥44032
    ·refine MW.ad 181 (.bool false) rfl hs hd rfl rfl (MW.ab_move rfl es20) fun _ hs hd S0 N0=>?_
     refine MW.ad 182 (.int .i32 a0) rfl hs hd rfl (MW.ab_want rfl H178 S0 rfl) (MW.ab_move rfl (zN N0 ep20)) fun _ hs hd S1 N1=>?_
     refine MW.ad 183 (.bool true) rfl hs hd rfl (MW.ab_want rfl H178 (zN N1 S0) rfl) (MW.ab_cmp_t c88 rfl S1 (by kernel_rfl)) fun _ hs hd S2 N2=>?_
     refine MW.ad 184 (.bool true) rfl hs hd rfl (MW.ab_want rfl H178 (zN N2 (zN N1 S0)) rfl) (MW.ab_move rfl S2) fun _ hs hd S3 N3=>?_
     refine MW.ad 185 (.int .i32 a0) rfl hs hd rfl (MW.ab_want rfl H181 S3 rfl) (MW.ab_move rfl (zN N3 (zN N2 (zN N1 (zN N0 ep20))))) fun _ hs hd S4 N4=>?_
     refine MW.ad 186 (.bool (decide (a0≤55203))) rfl hs hd rfl (MW.ab_want rfl H181 (zN N4 S3) rfl) (MW.ab_bin rfl S4 (by kernel_rfl)) fun _ hs hd S5 N5=>?_
     refine MW.ad 187 (.bool (decide (a0≤55203))) rfl hs hd rfl (MW.ab_want rfl H178 (zN N5 (zN N4 (zN N3 (zN N2 (zN N1 S0))))) rfl) (MW.ab_pick_t rfl (zN N5 (zN N4 S3)) S5) fun _ hs hd S6 N6=>?_
     refine MW.ad 188 (.bool (decide (a0≤55203))) rfl hs hd rfl rfl (MW.ab_pick_f rfl (zN N6 (zN N5 (zN N4 (zN N3 (zN N2 (zN N1 S0)))))) S6) fun _ hs hd S7 N7=>?_
     exact wpList_nil (hK_ _ _ (Stop.go ⟨(decide (a0≤55203)),Eq.trans (by first|rfl|(rw[if_pos c88];rfl)|(simp[*];done)) hE86.out.symm,hs,hd,(zN N7 (zN N6 (zN N5 (zN N4 (zN N3 (zN N2 (zN N1 (zN N0 ep20)))))))),S7,rfl⟩))
    refine MW.ad 181 (.bool false) rfl hs hd rfl rfl (MW.ab_move rfl es20) fun _ hs hd S0 N0=>?_
    refine MW.ad 182 (.int .i32 a0) rfl hs hd rfl (MW.ab_want rfl H178 S0 rfl) (MW.ab_move rfl (zN N0 ep20)) fun _ hs hd S1 N1=>?_
    refine MW.ad 183 (.bool false) rfl hs hd rfl (MW.ab_want rfl H178 (zN N1 S0) rfl) (MW.ab_cmp_f c88 rfl S1 (by kernel_rfl)) fun _ hs hd S2 N2=>?_
    refine MW.ad 184 (.bool false) rfl hs hd rfl (MW.ab_want rfl H178 (zN N2 (zN N1 S0)) rfl) (MW.ab_move rfl S2) fun _ hs hd S3 N3=>?_
    refine MW.ak 185 rfl hs hd rfl (MW.ab_want rfl H181 S3 rfl) fun _ hs hd S4 N4=>?_
    refine MW.ak 186 rfl hs hd rfl (MW.ab_want rfl H181 (zN N4 S3) rfl) fun _ hs hd S5 N5=>?_
    refine MW.ad 187 (.bool false) rfl hs hd rfl (MW.ab_want rfl H178 (zN N5 (zN N4 (zN N3 (zN N2 (zN N1 S0))))) rfl) (MW.ab_pick_f rfl (zN N5 (zN N4 S3)) rfl) fun _ hs hd S6 N6=>?_
    refine MW.ad 188 (.bool false) rfl hs hd rfl rfl (MW.ab_pick_f rfl (zN N6 (zN N5 (zN N4 (zN N3 (zN N2 (zN N1 S0)))))) S6) fun _ hs hd S7 N7=>?_
    exact wpList_nil (hK_ _ _ (Stop.go ⟨false,Eq.trans (by first|rfl|(rw[if_neg c88];rfl)|(simp[*];done)) hE86.out.symm,hs,hd,(zN N7 (zN N6 (zN N5 (zN N4 (zN N3 (zN N2 (zN N1 (zN N0 ep20)))))))),S7,rfl⟩))
   case rest=>
    clear hs hd ep20 es20
    obtain⟨b85,hb_,hs,hd,ep21,es21,rfl⟩:=hc_
    simp only[List.drop_succ_cons,List.drop_zero,List.drop_nil]
    have H:=MW.bind_step HH.out (hb_.trans hE86.out)
    replace HH:=za H
    clear H hb_ hE86
    obtain⟨E90,hE90⟩:∃ e_:Bool,e_=(if b85=true then(true) else(if a0≥64256 then((decide (a0≤64261))) else(false))):=⟨_,rfl⟩
    replace hE90:=za hE90
    refine MW.list_cut 8 (fun a_ w_=>∃ b_:Bool,b_=E90∧a_.tmps.size=213∧a_.defers=[]∧a_.eval (.tmp 0)=.int .i32 a0∧a_.eval (.tmp 196)=.bool b_∧w=w_) (fun K_ hK_=>?seg) (fun af22 w_ hc_=>?rest)
    case seg=>
     simp only[List.take_succ_cons,List.take_zero,List.take_nil]
     clear HH
     by_cases c91:b85=true
     ·subst c91
      refine MW.ad 189 (.bool true) rfl hs hd rfl rfl (MW.ab_move rfl es21) fun _ hs hd S0 N0=>?_
      refine MW.ak 190 rfl hs hd rfl (MW.ab_want rfl H186 S0 rfl) fun _ hs hd S1 N1=>?_
      refine MW.ak 191 rfl hs hd rfl (MW.ab_want rfl H186 (zN N1 S0) rfl) fun _ hs hd S2 N2=>?_
      refine MW.ak 192 rfl hs hd rfl (MW.ab_want rfl H186 (zN N2 (zN N1 S0)) rfl) fun _ hs hd S3 N3=>?_
      refine MW.ak 193 rfl hs hd rfl (MW.ab_undef rfl H189 S3) fun _ hs hd S4 N4=>?_
      refine MW.ak 194 rfl hs hd rfl (MW.ab_undef rfl H189 (zN N4 S3)) fun _ hs hd S5 N5=>?_
      refine MW.ak 195 rfl hs hd rfl (MW.ab_want rfl H186 (zN N5 (zN N4 (zN N3 (zN N2 (zN N1 S0))))) rfl) fun _ hs hd S6 N6=>?_
      refine MW.ad 196 (.bool true) rfl hs hd rfl rfl (MW.ab_pick_t rfl (zN N6 (zN N5 (zN N4 (zN N3 (zN N2 (zN N1 S0)))))) rfl) fun _ hs hd S7 N7=>?_
      exact wpList_nil (hK_ _ _ (Stop.go ⟨true,Eq.trans (by first|rfl|(rw[];rfl)|(simp[*];done)) hE90.out.symm,hs,hd,(zN N7 (zN N6 (zN N5 (zN N4 (zN N3 (zN N2 (zN N1 (zN N0 ep21)))))))),S7,rfl⟩))
     replace c91:=Bool.eq_false_iff.mpr c91
     subst c91
     by_cases c92:a0≥64256
     ·refine MW.ad 189 (.bool false) rfl hs hd rfl rfl (MW.ab_move rfl es21) fun _ hs hd S0 N0=>?_
      refine MW.ad 190 (.int .i32 a0) rfl hs hd rfl (MW.ab_want rfl H186 S0 rfl) (MW.ab_move rfl (zN N0 ep21)) fun _ hs hd S1 N1=>?_
      refine MW.ad 191 (.bool true) rfl hs hd rfl (MW.ab_want rfl H186 (zN N1 S0) rfl) (MW.ab_cmp_t c92 rfl S1 (by kernel_rfl)) fun _ hs hd S2 N2=>?_
      refine MW.ad 192 (.bool true) rfl hs hd rfl (MW.ab_want rfl H186 (zN N2 (zN N1 S0)) rfl) (MW.ab_move rfl S2) fun _ hs hd S3 N3=>?_
      refine MW.ad 193 (.int .i32 a0) rfl hs hd rfl (MW.ab_want rfl H189 S3 rfl) (MW.ab_move rfl (zN N3 (zN N2 (zN N1 (zN N0 ep21))))) fun _ hs hd S4 N4=>?_
      refine MW.ad 194 (.bool (decide (a0≤64261))) rfl hs hd rfl (MW.ab_want rfl H189 (zN N4 S3) rfl) (MW.ab_bin rfl S4 (by kernel_rfl)) fun _ hs hd S5 N5=>?_
      refine MW.ad 195 (.bool (decide (a0≤64261))) rfl hs hd rfl (MW.ab_want rfl H186 (zN N5 (zN N4 (zN N3 (zN N2 (zN N1 S0))))) rfl) (MW.ab_pick_t rfl (zN N5 (zN N4 S3)) S5) fun _ hs hd S6 N6=>?_
      refine MW.ad 196 (.bool (decide (a0≤64261))) rfl hs hd rfl rfl (MW.ab_pick_f rfl (zN N6 (zN N5 (zN N4 (zN N3 (zN N2 (zN N1 S0)))))) S6) fun _ hs hd S7 N7=>?_
      exact wpList_nil (hK_ _ _ (Stop.go ⟨(decide (a0≤64261)),Eq.trans (by first|rfl|(rw[if_pos c92];rfl)|(simp[*];done)) hE90.out.symm,hs,hd,(zN N7 (zN N6 (zN N5 (zN N4 (zN N3 (zN N2 (zN N1 (zN N0 ep21)))))))),S7,rfl⟩))
     refine MW.ad 189 (.bool false) rfl hs hd rfl rfl (MW.ab_move rfl es21) fun _ hs hd S0 N0=>?_
     refine MW.ad 190 (.int .i32 a0) rfl hs hd rfl (MW.ab_want rfl H186 S0 rfl) (MW.ab_move rfl (zN N0 ep21)) fun _ hs hd S1 N1=>?_
     refine MW.ad 191 (.bool false) rfl hs hd rfl (MW.ab_want rfl H186 (zN N1 S0) rfl) (MW.ab_cmp_f c92 rfl S1 (by kernel_rfl)) fun _ hs hd S2 N2=>?_
     refine MW.ad 192 (.bool false) rfl hs hd rfl (MW.ab_want rfl H186 (zN N2 (zN N1 S0)) rfl) (MW.ab_move rfl S2) fun _ hs hd S3 N3=>?_
     refine MW.ak 193 rfl hs hd rfl (MW.ab_want rfl H189 S3 rfl) fun _ hs hd S4 N4=>?_
     refine MW.ak 194 rfl hs hd rfl (MW.ab_want rfl H189 (zN N4 S3) rfl) fun _ hs hd S5 N5=>?_
     refine MW.ad 195 (.bool false) rfl hs hd rfl (MW.ab_want rfl H186 (zN N5 (zN N4 (zN N3 (zN N2 (zN N1 S0))))) rfl) (MW.ab_pick_f rfl (zN N5 (zN N4 S3)) rfl) fun _ hs hd S6 N6=>?_
     refine MW.ad 196 (.bool false) rfl hs hd rfl rfl (MW.ab_pick_f rfl (zN N6 (zN N5 (zN N4 (zN N3 (zN N2 (zN N1 S0)))))) S6) fun _ hs hd S7 N7=>?_
     exact wpList_nil (hK_ _ _ (Stop.go ⟨false,Eq.trans (by first|rfl|(rw[if_neg c92];rfl)|(simp[*];done)) hE90.out.symm,hs,hd,(zN N7 (zN N6 (zN N5 (zN N4 (zN N3 (zN N2 (zN N1 (zN N0 ep21)))))))),S7,rfl⟩))
    case rest=>
     clear hs hd ep21 es21
     obtain⟨b89,hb_,hs,hd,ep22,es22,rfl⟩:=hc_
     simp only[List.drop_succ_cons,List.drop_zero,List.drop_nil]
     have H:=MW.bind_step HH.out (hb_.trans hE90.out)
     replace HH:=za H
     clear H hb_ hE90
     obtain⟨E94,hE94⟩:∃ e_:Bool,e_=(if b89=true then(true) else(if a0≥65313 then((decide (a0≤65338))) else(false))):=⟨_,rfl⟩
     replace hE94:=za hE94
     refine MW.list_cut 8 (fun a_ w_=>∃ b_:Bool,b_=E94∧a_.tmps.size=213∧a_.defers=[]∧a_.eval (.tmp 0)=.int .i32 a0∧a_.eval (.tmp 204)=.bool b_∧w=w_) (fun K_ hK_=>?seg) (fun af23 w_ hc_=>?rest)
     case seg=>
      simp only[List.take_succ_cons,List.take_zero,List.take_nil]
      clear HH
      by_cases c95:b89=true
      ·subst c95
       refine MW.ad 197 (.bool true) rfl hs hd rfl rfl (MW.ab_move rfl es22) fun _ hs hd S0 N0=>?_
       refine MW.ak 198 rfl hs hd rfl (MW.ab_want rfl H194 S0 rfl) fun _ hs hd S1 N1=>?_
       refine MW.ak 199 rfl hs hd rfl (MW.ab_want rfl H194 (zN N1 S0) rfl) fun _ hs hd S2 N2=>?_
       refine MW.ak 200 rfl hs hd rfl (MW.ab_want rfl H194 (zN N2 (zN N1 S0)) rfl) fun _ hs hd S3 N3=>?_
       refine MW.ak 201 rfl hs hd rfl (MW.ab_undef rfl H197 S3) fun _ hs hd S4 N4=>?_
       refine MW.ak 202 rfl hs hd rfl (MW.ab_undef rfl H197 (zN N4 S3)) fun _ hs hd S5 N5=>?_
       refine MW.ak 203 rfl hs hd rfl (MW.ab_want rfl H194 (zN N5 (zN N4 (zN N3 (zN N2 (zN N1 S0))))) rfl) fun _ hs hd S6 N6=>?_
       refine MW.ad 204 (.bool true) rfl hs hd rfl rfl (MW.ab_pick_t rfl (zN N6 (zN N5 (zN N4 (zN N3 (zN N2 (zN N1 S0)))))) rfl) fun _ hs hd S7 N7=>?_
       exact wpList_nil (hK_ _ _ (Stop.go ⟨true,Eq.trans (by first|rfl|(rw[];rfl)|(simp[*];done)) hE94.out.symm,hs,hd,(zN N7 (zN N6 (zN N5 (zN N4 (zN N3 (zN N2 (zN N1 (zN N0 ep22)))))))),S7,rfl⟩))
      replace c95:=Bool.eq_false_iff.mpr c95
      subst c95
      by_cases c96:a0≥65313
      ·refine MW.ad 197 (.bool false) rfl hs hd rfl rfl (MW.ab_move rfl es22) fun _ hs hd S0 N0=>?_
       refine MW.ad 198 (.int .i32 a0) rfl hs hd rfl (MW.ab_want rfl H194 S0 rfl) (MW.ab_move rfl (zN N0 ep22)) fun _ hs hd S1 N1=>?_
       refine MW.ad 199 (.bool true) rfl hs hd rfl (MW.ab_want rfl H194 (zN N1 S0) rfl) (MW.ab_cmp_t c96 rfl S1 (by kernel_rfl)) fun _ hs hd S2 N2=>?_
       refine MW.ad 200 (.bool true) rfl hs hd rfl (MW.ab_want rfl H194 (zN N2 (zN N1 S0)) rfl) (MW.ab_move rfl S2) fun _ hs hd S3 N3=>?_
       refine MW.ad 201 (.int .i32 a0) rfl hs hd rfl (MW.ab_want rfl H197 S3 rfl) (MW.ab_move rfl (zN N3 (zN N2 (zN N1 (zN N0 ep22))))) fun _ hs hd S4 N4=>?_
       refine MW.ad 202 (.bool (decide (a0≤65338))) rfl hs hd rfl (MW.ab_want rfl H197 (zN N4 S3) rfl) (MW.ab_bin rfl S4 (by kernel_rfl)) fun _ hs hd S5 N5=>?_
       refine MW.ad 203 (.bool (decide (a0≤65338))) rfl hs hd rfl (MW.ab_want rfl H194 (zN N5 (zN N4 (zN N3 (zN N2 (zN N1 S0))))) rfl) (MW.ab_pick_t rfl (zN N5 (zN N4 S3)) S5) fun _ hs hd S6 N6=>?_
       refine MW.ad 204 (.bool (decide (a0≤65338))) rfl hs hd rfl rfl (MW.ab_pick_f rfl (zN N6 (zN N5 (zN N4 (zN N3 (zN N2 (zN N1 S0)))))) S6) fun _ hs hd S7 N7=>?_
       exact wpList_nil (hK_ _ _ (Stop.go ⟨(decide (a0≤65338)),Eq.trans (by first|rfl|(rw[if_pos c96];rfl)|(simp[*];done)) hE94.out.symm,hs,hd,(zN N7 (zN N6 (zN N5 (zN N4 (zN N3 (zN N2 (zN N1 (zN N0 ep22)))))))),S7,rfl⟩))
      refine MW.ad 197 (.bool false) rfl hs hd rfl rfl (MW.ab_move rfl es22) fun _ hs hd S0 N0=>?_
      refine MW.ad 198 (.int .i32 a0) rfl hs hd rfl (MW.ab_want rfl H194 S0 rfl) (MW.ab_move rfl (zN N0 ep22)) fun _ hs hd S1 N1=>?_
      refine MW.ad 199 (.bool false) rfl hs hd rfl (MW.ab_want rfl H194 (zN N1 S0) rfl) (MW.ab_cmp_f c96 rfl S1 (by kernel_rfl)) fun _ hs hd S2 N2=>?_
      refine MW.ad 200 (.bool false) rfl hs hd rfl (MW.ab_want rfl H194 (zN N2 (zN N1 S0)) rfl) (MW.ab_move rfl S2) fun _ hs hd S3 N3=>?_
      refine MW.ak 201 rfl hs hd rfl (MW.ab_want rfl H197 S3 rfl) fun _ hs hd S4 N4=>?_
      refine MW.ak 202 rfl hs hd rfl (MW.ab_want rfl H197 (zN N4 S3) rfl) fun _ hs hd S5 N5=>?_
      refine MW.ad 203 (.bool false) rfl hs hd rfl (MW.ab_want rfl H194 (zN N5 (zN N4 (zN N3 (zN N2 (zN N1 S0))))) rfl) (MW.ab_pick_f rfl (zN N5 (zN N4 S3)) rfl) fun _ hs hd S6 N6=>?_
      refine MW.ad 204 (.bool false) rfl hs hd rfl rfl (MW.ab_pick_f rfl (zN N6 (zN N5 (zN N4 (zN N3 (zN N2 (zN N1 S0)))))) S6) fun _ hs hd S7 N7=>?_
      exact wpList_nil (hK_ _ _ (Stop.go ⟨false,Eq.trans (by first|rfl|(rw[if_neg c96];rfl)|(simp[*];done)) hE94.out.symm,hs,hd,(zN N7 (zN N6 (zN N5 (zN N4 (zN N3 (zN N2 (zN N1 (zN N0 ep22)))))))),S7,rfl⟩))
     case rest=>
      clear hs hd ep22 es22
      obtain⟨b93,hb_,hs,hd,ep23,es23,rfl⟩:=hc_
      simp only[List.drop_succ_cons,List.drop_zero,List.drop_nil]
      have H:=MW.bind_step HH.out (hb_.trans hE94.out)
      replace HH:=za H
      clear H hb_ hE94
      obtain⟨E98,hE98⟩:∃ e_:Bool,e_=(if b93=true then(true) else(if a0≥65345 then((decide (a0≤65370))) else(false))):=⟨_,rfl⟩
      replace hE98:=za hE98
      refine MW.list_cut 9 (fun a_ w_=>∃ b_:Bool,b_=E98∧a_.tmps.size=213∧a_.defers=[]∧a_.eval (.tmp 0)=.int .i32 a0∧a_.eval (.tmp 2)=.bool b_∧w=w_) (fun K_ hK_=>?seg) (fun af24 w_ hc_=>?rest)
      case seg=>
       simp only[List.take_succ_cons,List.take_zero,List.take_nil]
       clear HH
       by_cases c99:b93=true
       ·subst c99
        refine MW.ad 205 (.bool true) rfl hs hd rfl rfl (MW.ab_move rfl es23) fun _ hs hd S0 N0=>?_
        refine MW.ak 206 rfl hs hd rfl (MW.ab_want rfl H202 S0 rfl) fun _ hs hd S1 N1=>?_
        refine MW.ak 207 rfl hs hd rfl (MW.ab_want rfl H202 (zN N1 S0) rfl) fun _ hs hd S2 N2=>?_
        refine MW.ak 208 rfl hs hd rfl (MW.ab_want rfl H202 (zN N2 (zN N1 S0)) rfl) fun _ hs hd S3 N3=>?_
        refine MW.ak 209 rfl hs hd rfl (MW.ab_undef rfl H205 S3) fun _ hs hd S4 N4=>?_
        refine MW.ak 210 rfl hs hd rfl (MW.ab_undef rfl H205 (zN N4 S3)) fun _ hs hd S5 N5=>?_
        refine MW.ak 211 rfl hs hd rfl (MW.ab_want rfl H202 (zN N5 (zN N4 (zN N3 (zN N2 (zN N1 S0))))) rfl) fun _ hs hd S6 N6=>?_
        refine MW.ad 212 (.bool true) rfl hs hd rfl rfl (MW.ab_pick_t rfl (zN N6 (zN N5 (zN N4 (zN N3 (zN N2 (zN N1 S0)))))) rfl) fun _ hs hd S7 N7=>?_
        refine MW.ad 2 (.bool true) rfl hs hd rfl rfl (MW.ab_assign rfl S7) fun _ hs hd S8 N8=>?_
        exact wpList_nil (hK_ _ _ (Stop.go ⟨true,Eq.trans (by first|rfl|(rw[];rfl)|(simp[*];done)) hE98.out.symm,hs,hd,(zN N8 (zN N7 (zN N6 (zN N5 (zN N4 (zN N3 (zN N2 (zN N1 (zN N0 ep23))))))))),S8,rfl⟩))
       replace c99:=Bool.eq_false_iff.mpr c99
       subst c99
       by_cases c100:a0≥65345
       ·refine MW.ad 205 (.bool false) rfl hs hd rfl rfl (MW.ab_move rfl es23) fun _ hs hd S0 N0=>?_
        refine MW.ad 206 (.int .i32 a0) rfl hs hd rfl (MW.ab_want rfl H202 S0 rfl) (MW.ab_move rfl (zN N0 ep23)) fun _ hs hd S1 N1=>?_
        refine MW.ad 207 (.bool true) rfl hs hd rfl (MW.ab_want rfl H202 (zN N1 S0) rfl) (MW.ab_cmp_t c100 rfl S1 (by kernel_rfl)) fun _ hs hd S2 N2=>?_
        refine MW.ad 208 (.bool true) rfl hs hd rfl (MW.ab_want rfl H202 (zN N2 (zN N1 S0)) rfl) (MW.ab_move rfl S2) fun _ hs hd S3 N3=>?_
        refine MW.ad 209 (.int .i32 a0) rfl hs hd rfl (MW.ab_want rfl H205 S3 rfl) (MW.ab_move rfl (zN N3 (zN N2 (zN N1 (zN N0 ep23))))) fun _ hs hd S4 N4=>?_
        refine MW.ad 210 (.bool (decide (a0≤65370))) rfl hs hd rfl (MW.ab_want rfl H205 (zN N4 S3) rfl) (MW.ab_bin rfl S4 (by kernel_rfl)) fun _ hs hd S5 N5=>?_
        refine MW.ad 211 (.bool (decide (a0≤65370))) rfl hs hd rfl (MW.ab_want rfl H202 (zN N5 (zN N4 (zN N3 (zN N2 (zN N1 S0))))) rfl) (MW.ab_pick_t rfl (zN N5 (zN N4 S3)) S5) fun _ hs hd S6 N6=>?_
        refine MW.ad 212 (.bool (decide (a0≤65370))) rfl hs hd rfl rfl (MW.ab_pick_f rfl (zN N6 (zN N5 (zN N4 (zN N3 (zN N2 (zN N1 S0)))))) S6) fun _ hs hd S7 N7=>?_
        refine MW.ad 2 (.bool (decide (a0≤65370))) rfl hs hd rfl rfl (MW.ab_assign rfl S7) fun _ hs hd S8 N8=>?_
        exact wpList_nil (hK_ _ _ (Stop.go ⟨(decide (a0≤65370)),Eq.trans (by first|rfl|(rw[if_pos c100];rfl)|(simp[*];done)) hE98.out.symm,hs,hd,(zN N8 (zN N7 (zN N6 (zN N5 (zN N4 (zN N3 (zN N2 (zN N1 (zN N0 ep23))))))))),S8,rfl⟩))
       refine MW.ad 205 (.bool false) rfl hs hd rfl rfl (MW.ab_move rfl es23) fun _ hs hd S0 N0=>?_
       refine MW.ad 206 (.int .i32 a0) rfl hs hd rfl (MW.ab_want rfl H202 S0 rfl) (MW.ab_move rfl (zN N0 ep23)) fun _ hs hd S1 N1=>?_
       refine MW.ad 207 (.bool false) rfl hs hd rfl (MW.ab_want rfl H202 (zN N1 S0) rfl) (MW.ab_cmp_f c100 rfl S1 (by kernel_rfl)) fun _ hs hd S2 N2=>?_
       refine MW.ad 208 (.bool false) rfl hs hd rfl (MW.ab_want rfl H202 (zN N2 (zN N1 S0)) rfl) (MW.ab_move rfl S2) fun _ hs hd S3 N3=>?_
       refine MW.ak 209 rfl hs hd rfl (MW.ab_want rfl H205 S3 rfl) fun _ hs hd S4 N4=>?_
       refine MW.ak 210 rfl hs hd rfl (MW.ab_want rfl H205 (zN N4 S3) rfl) fun _ hs hd S5 N5=>?_
       refine MW.ad 211 (.bool false) rfl hs hd rfl (MW.ab_want rfl H202 (zN N5 (zN N4 (zN N3 (zN N2 (zN N1 S0))))) rfl) (MW.ab_pick_f rfl (zN N5 (zN N4 S3)) rfl) fun _ hs hd S6 N6=>?_
       refine MW.ad 212 (.bool false) rfl hs hd rfl rfl (MW.ab_pick_f rfl (zN N6 (zN N5 (zN N4 (zN N3 (zN N2 (zN N1 S0)))))) S6) fun _ hs hd S7 N7=>?_
       refine MW.ad 2 (.bool false) rfl hs hd rfl rfl (MW.ab_assign rfl S7) fun _ hs hd S8 N8=>?_
       exact wpList_nil (hK_ _ _ (Stop.go ⟨false,Eq.trans (by first|rfl|(rw[if_neg c100];rfl)|(simp[*];done)) hE98.out.symm,hs,hd,(zN N8 (zN N7 (zN N6 (zN N5 (zN N4 (zN N3 (zN N2 (zN N1 (zN N0 ep23))))))))),S8,rfl⟩))
      case rest=>
       clear hs hd ep23 es23
       obtain⟨b97,hb_,hs,hd,ep24,es24,rfl⟩:=hc_
       simp only[List.drop_succ_cons,List.drop_zero,List.drop_nil]
       have H:=MW.bind_step HH.out (hb_.trans hE98.out)
       replace HH:=za H
       clear H hb_ hE98
       obtain rfl:=Option.some.inj HH.out
       exact wpList_nil (fin.out _ hs hd es24)
theorem chars_letter.p2 {Q:Exit→Act→World→Prop} (OPS:Array Oper) (hO:OPS=chars_letter.ops.toArray) (a0:Int) (r:Bool) (w:World) (af12:Act) (b47:Bool) (hs:af12.tmps.size=213) (hd:af12.defers=[]) (ep12:af12.eval (.tmp 0)=.int .i32 a0) (es12:af12.eval (.tmp 112)=.bool b47) (h:((some (if b47=true then(true) else(if a0≥4352 then((decide (a0≤4370))) else(false)):Bool)).bind fun b52=>((some (if b52=true then(true) else(if a0≥4449 then((decide (a0≤4469))) else(false)):Bool)).bind fun b56=>((some (if b56=true then(true) else(if a0≥4520 then((decide (a0≤4546))) else(false)):Bool)).bind fun b60=>((some (if b60=true then(true) else(if a0=8486 then(true) else(if a0≥8490 then((decide (a0≤8491))) else(false))):Bool)).bind fun b64=>((some (if b64=true then(true) else(if a0≥8544 then((decide (a0≤8555))) else(false)):Bool)).bind fun b69=>((some (if b69=true then(true) else(if a0≥8560 then((decide (a0≤8571))) else(false)):Bool)).bind fun b73=>((some (if b73=true then(true) else(if a0≥12353 then((decide (a0≤12436))) else(false)):Bool)).bind fun b77=>((some (if b77=true then(true) else(if a0≥19968 then((decide (a0≤20223))) else(false)):Bool)).bind fun b81=>((some (if b81=true then(true) else(if a0≥44032 then((decide (a0≤55203))) else(false)):Bool)).bind fun b85=>((some (if b85=true then(true) else(if a0≥64256 then((decide (a0≤64261))) else(false)):Bool)).bind fun b89=>((some (if b89=true then(true) else(if a0≥65313 then((decide (a0≤65338))) else(false)):Bool)).bind fun b93=>((some (if b93=true then(true) else(if a0≥65345 then((decide (a0≤65370))) else(false)):Bool)).bind fun b97=>(some b97)))))))))))))=some r) (fin:∀ a':Act,a'.tmps.size=213→a'.defers=[]→a'.eval (.tmp 2)=.bool r→Q .normal a' w):wpList Try.prog OPS Q (chars_letter.ops.drop 110) af12 w:=by
 have HH:=za h
 clear h
 have H110:(OPS[110]?).bind (·.dst)=some 113:=by rw[hO];rfl
 have H113:(OPS[113]?).bind (·.dst)=some 116:=by rw[hO];rfl
 have H118:(OPS[118]?).bind (·.dst)=some 121:=by rw[hO];rfl
 have H121:(OPS[121]?).bind (·.dst)=some 124:=by rw[hO];rfl
 have H126:(OPS[126]?).bind (·.dst)=some 129:=by rw[hO];rfl
 have H129:(OPS[129]?).bind (·.dst)=some 132:=by rw[hO];rfl
 have H134:(OPS[134]?).bind (·.dst)=some 137:=by rw[hO];rfl
 have H138:(OPS[138]?).bind (·.dst)=some 141:=by rw[hO];rfl
 have H141:(OPS[141]?).bind (·.dst)=some 144:=by rw[hO];rfl
 have H146:(OPS[146]?).bind (·.dst)=some 149:=by rw[hO];rfl
 have H149:(OPS[149]?).bind (·.dst)=some 152:=by rw[hO];rfl
 have H154:(OPS[154]?).bind (·.dst)=some 157:=by rw[hO];rfl
 have H157:(OPS[157]?).bind (·.dst)=some 160:=by rw[hO];rfl
 replace hO:=(Stop.go hO:Stop _ (.mk _))
 replace fin:=(Stop.go fin:Stop _ (.mk _))
 refine MW.list_cut 52 (fun a_ w_=>∃ b73:Bool,((some (if b73=true then(true) else(if a0≥12353 then((decide (a0≤12436))) else(false)):Bool)).bind fun b77=>((some (if b77=true then(true) else(if a0≥19968 then((decide (a0≤20223))) else(false)):Bool)).bind fun b81=>((some (if b81=true then(true) else(if a0≥44032 then((decide (a0≤55203))) else(false)):Bool)).bind fun b85=>((some (if b85=true then(true) else(if a0≥64256 then((decide (a0≤64261))) else(false)):Bool)).bind fun b89=>((some (if b89=true then(true) else(if a0≥65313 then((decide (a0≤65338))) else(false)):Bool)).bind fun b93=>((some (if b93=true then(true) else(if a0≥65345 then((decide (a0≤65370))) else(false)):Bool)).bind fun b97=>(some b97)))))))=some r∧a_.tmps.size=213∧a_.defers=[]∧a_.eval (.tmp 0)=.int .i32 a0∧a_.eval (.tmp 164)=.bool b73∧w=w_) (fun KC_ hKC_=>?chunk) (fun a_ w_ hc_=>?next)
 case next=>
  obtain⟨b_,hb_,hs,hd,ep,es,rfl⟩:=hc_
  rw[List.drop_drop]
  exact chars_letter.p3 OPS hO.out a0 r _ _ b_ hs hd ep es hb_ fin.out
 simp only[chars_letter.ops,Try.f23,List.append_eq,List.cons_append,List.nil_append,List.drop_succ_cons,List.drop_zero,List.take_succ_cons,List.take_zero]
 obtain⟨E53,hE53⟩:∃ e_:Bool,e_=(if b47=true then(true) else(if a0≥4352 then((decide (a0≤4370))) else(false))):=⟨_,rfl⟩
 replace hE53:=za hE53
 refine MW.list_cut 8 (fun a_ w_=>∃ b_:Bool,b_=E53∧a_.tmps.size=213∧a_.defers=[]∧a_.eval (.tmp 0)=.int .i32 a0∧a_.eval (.tmp 120)=.bool b_∧w=w_) (fun K_ hK_=>?seg) (fun af13 w_ hc_=>?rest)
 case seg=>
  simp only[List.take_succ_cons,List.take_zero,List.take_nil]
  clear HH
  by_cases c54:b47=true
  ·subst c54
   refine MW.ad 113 (.bool true) rfl hs hd rfl rfl (MW.ab_move rfl es12) fun _ hs hd S0 N0=>?_
   refine MW.ak 114 rfl hs hd rfl (MW.ab_want rfl H110 S0 rfl) fun _ hs hd S1 N1=>?_
   refine MW.ak 115 rfl hs hd rfl (MW.ab_want rfl H110 (zN N1 S0) rfl) fun _ hs hd S2 N2=>?_
   refine MW.ak 116 rfl hs hd rfl (MW.ab_want rfl H110 (zN N2 (zN N1 S0)) rfl) fun _ hs hd S3 N3=>?_
   refine MW.ak 117 rfl hs hd rfl (MW.ab_undef rfl H113 S3) fun _ hs hd S4 N4=>?_
   refine MW.ak 118 rfl hs hd rfl (MW.ab_undef rfl H113 (zN N4 S3)) fun _ hs hd S5 N5=>?_
   refine MW.ak 119 rfl hs hd rfl (MW.ab_want rfl H110 (zN N5 (zN N4 (zN N3 (zN N2 (zN N1 S0))))) rfl) fun _ hs hd S6 N6=>?_
   refine MW.ad 120 (.bool true) rfl hs hd rfl rfl (MW.ab_pick_t rfl (zN N6 (zN N5 (zN N4 (zN N3 (zN N2 (zN N1 S0)))))) rfl) fun _ hs hd S7 N7=>?_
   exact wpList_nil (hK_ _ _ (Stop.go ⟨true,Eq.trans (by first|rfl|(rw[];rfl)|(simp[*];done)) hE53.out.symm,hs,hd,(zN N7 (zN N6 (zN N5 (zN N4 (zN N3 (zN N2 (zN N1 (zN N0 ep12)))))))),S7,rfl⟩))
  replace c54:=Bool.eq_false_iff.mpr c54
  subst c54
  by_cases c55:a0≥4352
  ·refine MW.ad 113 (.bool false) rfl hs hd rfl rfl (MW.ab_move rfl es12) fun _ hs hd S0 N0=>?_
   refine MW.ad 114 (.int .i32 a0) rfl hs hd rfl (MW.ab_want rfl H110 S0 rfl) (MW.ab_move rfl (zN N0 ep12)) fun _ hs hd S1 N1=>?_
   refine MW.ad 115 (.bool true) rfl hs hd rfl (MW.ab_want rfl H110 (zN N1 S0) rfl) (MW.ab_cmp_t c55 rfl S1 (by kernel_rfl)) fun _ hs hd S2 N2=>?_
   refine MW.ad 116 (.bool true) rfl hs hd rfl (MW.ab_want rfl H110 (zN N2 (zN N1 S0)) rfl) (MW.ab_move rfl S2) fun _ hs hd S3 N3=>?_
   refine MW.ad 117 (.int .i32 a0) rfl hs hd rfl (MW.ab_want rfl H113 S3 rfl) (MW.ab_move rfl (zN N3 (zN N2 (zN N1 (zN N0 ep12))))) fun _ hs hd S4 N4=>?_
   refine MW.ad 118 (.bool (decide (a0≤4370))) rfl hs hd rfl (MW.ab_want rfl H113 (zN N4 S3) rfl) (MW.ab_bin rfl S4 (by kernel_rfl)) fun _ hs hd S5 N5=>?_
   refine MW.ad 119 (.bool (decide (a0≤4370))) rfl hs hd rfl (MW.ab_want rfl H110 (zN N5 (zN N4 (zN N3 (zN N2 (zN N1 S0))))) rfl) (MW.ab_pick_t rfl (zN N5 (zN N4 S3)) S5) fun _ hs hd S6 N6=>?_
   refine MW.ad 120 (.bool (decide (a0≤4370))) rfl hs hd rfl rfl (MW.ab_pick_f rfl (zN N6 (zN N5 (zN N4 (zN N3 (zN N2 (zN N1 S0)))))) S6) fun _ hs hd S7 N7=>?_
   exact wpList_nil (hK_ _ _ (Stop.go ⟨(decide (a0≤4370)),Eq.trans (by first|rfl|(rw[if_pos c55];rfl)|(simp[*];done)) hE53.out.symm,hs,hd,(zN N7 (zN N6 (zN N5 (zN N4 (zN N3 (zN N2 (zN N1 (zN N0 ep12)))))))),S7,rfl⟩))
  refine MW.ad 113 (.bool false) rfl hs hd rfl rfl (MW.ab_move rfl es12) fun _ hs hd S0 N0=>?_
  refine MW.ad 114 (.int .i32 a0) rfl hs hd rfl (MW.ab_want rfl H110 S0 rfl) (MW.ab_move rfl (zN N0 ep12)) fun _ hs hd S1 N1=>?_
  refine MW.ad 115 (.bool false) rfl hs hd rfl (MW.ab_want rfl H110 (zN N1 S0) rfl) (MW.ab_cmp_f c55 rfl S1 (by kernel_rfl)) fun _ hs hd S2 N2=>?_
  refine MW.ad 116 (.bool false) rfl hs hd rfl (MW.ab_want rfl H110 (zN N2 (zN N1 S0)) rfl) (MW.ab_move rfl S2) fun _ hs hd S3 N3=>?_
  refine MW.ak 117 rfl hs hd rfl (MW.ab_want rfl H113 S3 rfl) fun _ hs hd S4 N4=>?_
  refine MW.ak 118 rfl hs hd rfl (MW.ab_want rfl H113 (zN N4 S3) rfl) fun _ hs hd S5 N5=>?_
  refine MW.ad 119 (.bool false) rfl hs hd rfl (MW.ab_want rfl H110 (zN N5 (zN N4 (zN N3 (zN N2 (zN N1 S0))))) rfl) (MW.ab_pick_f rfl (zN N5 (zN N4 S3)) rfl) fun _ hs hd S6 N6=>?_
  refine MW.ad 120 (.bool false) rfl hs hd rfl rfl (MW.ab_pick_f rfl (zN N6 (zN N5 (zN N4 (zN N3 (zN N2 (zN N1 S0)))))) S6) fun _ hs hd S7 N7=>?_
  exact wpList_nil (hK_ _ _ (Stop.go ⟨false,Eq.trans (by first|rfl|(rw[if_neg c55];rfl)|(simp[*];done)) hE53.out.symm,hs,hd,(zN N7 (zN N6 (zN N5 (zN N4 (zN N3 (zN N2 (zN N1 (zN N0 ep12)))))))),S7,rfl⟩))
 case rest=>
  clear hs hd ep12 es12
  obtain⟨b52,hb_,hs,hd,ep13,es13,rfl⟩:=hc_
  simp only[List.drop_succ_cons,List.drop_zero,List.drop_nil]
  have H:=MW.bind_step HH.out (hb_.trans hE53.out)
  replace HH:=za H
  clear H hb_ hE53
  obtain⟨E57,hE57⟩:∃ e_:Bool,e_=(if b52=true then(true) else(if a0≥4449 then((decide (a0≤4469))) else(false))):=⟨_,rfl⟩
  replace hE57:=za hE57
  refine MW.list_cut 8 (fun a_ w_=>∃ b_:Bool,b_=E57∧a_.tmps.size=213∧a_.defers=[]∧a_.eval (.tmp 0)=.int .i32 a0∧a_.eval (.tmp 128)=.bool b_∧w=w_) (fun K_ hK_=>?seg) (fun af14 w_ hc_=>?rest)
  case seg=>
   simp only[List.take_succ_cons,List.take_zero,List.take_nil]
   clear HH
   by_cases c58:b52=true
   ·subst c58
    refine MW.ad 121 (.bool true) rfl hs hd rfl rfl (MW.ab_move rfl es13) fun _ hs hd S0 N0=>?_
    refine MW.ak 122 rfl hs hd rfl (MW.ab_want rfl H118 S0 rfl) fun _ hs hd S1 N1=>?_
    refine MW.ak 123 rfl hs hd rfl (MW.ab_want rfl H118 (zN N1 S0) rfl) fun _ hs hd S2 N2=>?_
    refine MW.ak 124 rfl hs hd rfl (MW.ab_want rfl H118 (zN N2 (zN N1 S0)) rfl) fun _ hs hd S3 N3=>?_
    refine MW.ak 125 rfl hs hd rfl (MW.ab_undef rfl H121 S3) fun _ hs hd S4 N4=>?_
    refine MW.ak 126 rfl hs hd rfl (MW.ab_undef rfl H121 (zN N4 S3)) fun _ hs hd S5 N5=>?_
    refine MW.ak 127 rfl hs hd rfl (MW.ab_want rfl H118 (zN N5 (zN N4 (zN N3 (zN N2 (zN N1 S0))))) rfl) fun _ hs hd S6 N6=>?_
    refine MW.ad 128 (.bool true) rfl hs hd rfl rfl (MW.ab_pick_t rfl (zN N6 (zN N5 (zN N4 (zN N3 (zN N2 (zN N1 S0)))))) rfl) fun _ hs hd S7 N7=>?_
    exact wpList_nil (hK_ _ _ (Stop.go ⟨true,Eq.trans (by first|rfl|(rw[];rfl)|(simp[*];done)) hE57.out.symm,hs,hd,(zN N7 (zN N6 (zN N5 (zN N4 (zN N3 (zN N2 (zN N1 (zN N0 ep13)))))))),S7,rfl⟩))
   replace c58:=Bool.eq_false_iff.mpr c58
   subst c58
   by_cases c59:a0≥4449
   ·refine MW.ad 121 (.bool false) rfl hs hd rfl rfl (MW.ab_move rfl es13) fun _ hs hd S0 N0=>?_
    refine MW.ad 122 (.int .i32 a0) rfl hs hd rfl (MW.ab_want rfl H118 S0 rfl) (MW.ab_move rfl (zN N0 ep13)) fun _ hs hd S1 N1=>?_
    refine MW.ad 123 (.bool true) rfl hs hd rfl (MW.ab_want rfl H118 (zN N1 S0) rfl) (MW.ab_cmp_t c59 rfl S1 (by kernel_rfl)) fun _ hs hd S2 N2=>?_
    refine MW.ad 124 (.bool true) rfl hs hd rfl (MW.ab_want rfl H118 (zN N2 (zN N1 S0)) rfl) (MW.ab_move rfl S2) fun _ hs hd S3 N3=>?_
    refine MW.ad 125 (.int .i32 a0) rfl hs hd rfl (MW.ab_want rfl H121 S3 rfl) (MW.ab_move rfl (zN N3 (zN N2 (zN N1 (zN N0 ep13))))) fun _ hs hd S4 N4=>?_
    refine MW.ad 126 (.bool (decide (a0≤4469))) rfl hs hd rfl (MW.ab_want rfl H121 (zN N4 S3) rfl) (MW.ab_bin rfl S4 (by kernel_rfl)) fun _ hs hd S5 N5=>?_
    refine MW.ad 127 (.bool (decide (a0≤4469))) rfl hs hd rfl (MW.ab_want rfl H118 (zN N5 (zN N4 (zN N3 (zN N2 (zN N1 S0))))) rfl) (MW.ab_pick_t rfl (zN N5 (zN N4 S3)) S5) fun _ hs hd S6 N6=>?_
    refine MW.ad 128 (.bool (decide (a0≤4469))) rfl hs hd rfl rfl (MW.ab_pick_f rfl (zN N6 (zN N5 (zN N4 (zN N3 (zN N2 (zN N1 S0)))))) S6) fun _ hs hd S7 N7=>?_
    exact wpList_nil (hK_ _ _ (Stop.go ⟨(decide (a0≤4469)),Eq.trans (by first|rfl|(rw[if_pos c59];rfl)|(simp[*];done)) hE57.out.symm,hs,hd,(zN N7 (zN N6 (zN N5 (zN N4 (zN N3 (zN N2 (zN N1 (zN N0 ep13)))))))),S7,rfl⟩))
   refine MW.ad 121 (.bool false) rfl hs hd rfl rfl (MW.ab_move rfl es13) fun _ hs hd S0 N0=>?_
   refine MW.ad 122 (.int .i32 a0) rfl hs hd rfl (MW.ab_want rfl H118 S0 rfl) (MW.ab_move rfl (zN N0 ep13)) fun _ hs hd S1 N1=>?_
   refine MW.ad 123 (.bool false) rfl hs hd rfl (MW.ab_want rfl H118 (zN N1 S0) rfl) (MW.ab_cmp_f c59 rfl S1 (by kernel_rfl)) fun _ hs hd S2 N2=>?_
   refine MW.ad 124 (.bool false) rfl hs hd rfl (MW.ab_want rfl H118 (zN N2 (zN N1 S0)) rfl) (MW.ab_move rfl S2) fun _ hs hd S3 N3=>?_
   refine MW.ak 125 rfl hs hd rfl (MW.ab_want rfl H121 S3 rfl) fun _ hs hd S4 N4=>?_
   refine MW.ak 126 rfl hs hd rfl (MW.ab_want rfl H121 (zN N4 S3) rfl) fun _ hs hd S5 N5=>?_
   refine MW.ad 127 (.bool false) rfl hs hd rfl (MW.ab_want rfl H118 (zN N5 (zN N4 (zN N3 (zN N2 (zN N1 S0))))) rfl) (MW.ab_pick_f rfl (zN N5 (zN N4 S3)) rfl) fun _ hs hd S6 N6=>?_
   refine MW.ad 128 (.bool false) rfl hs hd rfl rfl (MW.ab_pick_f rfl (zN N6 (zN N5 (zN N4 (zN N3 (zN N2 (zN N1 S0)))))) S6) fun _ hs hd S7 N7=>?_
   exact wpList_nil (hK_ _ _ (Stop.go ⟨false,Eq.trans (by first|rfl|(rw[if_neg c59];rfl)|(simp[*];done)) hE57.out.symm,hs,hd,(zN N7 (zN N6 (zN N5 (zN N4 (zN N3 (zN N2 (zN N1 (zN N0 ep13)))))))),S7,rfl⟩))
  case rest=>
   clear hs hd ep13 es13
   obtain⟨b56,hb_,hs,hd,ep14,es14,rfl⟩:=hc_
   simp only[List.drop_succ_cons,List.drop_zero,List.drop_nil]
   have H:=MW.bind_step HH.out (hb_.trans hE57.out)
   replace HH:=za H
   clear H hb_ hE57
   obtain⟨E61,hE61⟩:∃ e_:Bool,e_=(if b56=true then(true) else(if a0≥4520 then((decide (a0≤4546))) else(false))):=⟨_,rfl⟩
   replace hE61:=za hE61
   refine MW.list_cut 8 (fun a_ w_=>∃ b_:Bool,b_=E61∧a_.tmps.size=213∧a_.defers=[]∧a_.eval (.tmp 0)=.int .i32 a0∧a_.eval (.tmp 136)=.bool b_∧w=w_) (fun K_ hK_=>?seg) (fun af15 w_ hc_=>?rest)
   case seg=>
    simp only[List.take_succ_cons,List.take_zero,List.take_nil]
    clear HH
    by_cases c62:b56=true
    ·subst c62
     refine MW.ad 129 (.bool true) rfl hs hd rfl rfl (MW.ab_move rfl es14) fun _ hs hd S0 N0=>?_
     refine MW.ak 130 rfl hs hd rfl (MW.ab_want rfl H126 S0 rfl) fun _ hs hd S1 N1=>?_
     refine MW.ak 131 rfl hs hd rfl (MW.ab_want rfl H126 (zN N1 S0) rfl) fun _ hs hd S2 N2=>?_
     refine MW.ak 132 rfl hs hd rfl (MW.ab_want rfl H126 (zN N2 (zN N1 S0)) rfl) fun _ hs hd S3 N3=>?_
     refine MW.ak 133 rfl hs hd rfl (MW.ab_undef rfl H129 S3) fun _ hs hd S4 N4=>?_
     refine MW.ak 134 rfl hs hd rfl (MW.ab_undef rfl H129 (zN N4 S3)) fun _ hs hd S5 N5=>?_
     refine MW.ak 135 rfl hs hd rfl (MW.ab_want rfl H126 (zN N5 (zN N4 (zN N3 (zN N2 (zN N1 S0))))) rfl) fun _ hs hd S6 N6=>?_
     refine MW.ad 136 (.bool true) rfl hs hd rfl rfl (MW.ab_pick_t rfl (zN N6 (zN N5 (zN N4 (zN N3 (zN N2 (zN N1 S0)))))) rfl) fun _ hs hd S7 N7=>?_
     exact wpList_nil (hK_ _ _ (Stop.go ⟨true,Eq.trans (by first|rfl|(rw[];rfl)|(simp[*];done)) hE61.out.symm,hs,hd,(zN N7 (zN N6 (zN N5 (zN N4 (zN N3 (zN N2 (zN N1 (zN N0 ep14)))))))),S7,rfl⟩))
    replace c62:=Bool.eq_false_iff.mpr c62
    subst c62
    by_cases c63:a0≥4520
    ·refine MW.ad 129 (.bool false) rfl hs hd rfl rfl (MW.ab_move rfl es14) fun _ hs hd S0 N0=>?_
     refine MW.ad 130 (.int .i32 a0) rfl hs hd rfl (MW.ab_want rfl H126 S0 rfl) (MW.ab_move rfl (zN N0 ep14)) fun _ hs hd S1 N1=>?_
     refine MW.ad 131 (.bool true) rfl hs hd rfl (MW.ab_want rfl H126 (zN N1 S0) rfl) (MW.ab_cmp_t c63 rfl S1 (by kernel_rfl)) fun _ hs hd S2 N2=>?_
     refine MW.ad 132 (.bool true) rfl hs hd rfl (MW.ab_want rfl H126 (zN N2 (zN N1 S0)) rfl) (MW.ab_move rfl S2) fun _ hs hd S3 N3=>?_
     refine MW.ad 133 (.int .i32 a0) rfl hs hd rfl (MW.ab_want rfl H129 S3 rfl) (MW.ab_move rfl (zN N3 (zN N2 (zN N1 (zN N0 ep14))))) fun _ hs hd S4 N4=>?_
     refine MW.ad 134 (.bool (decide (a0≤4546))) rfl hs hd rfl (MW.ab_want rfl H129 (zN N4 S3) rfl) (MW.ab_bin rfl S4 (by kernel_rfl)) fun _ hs hd S5 N5=>?_
     refine MW.ad 135 (.bool (decide (a0≤4546))) rfl hs hd rfl (MW.ab_want rfl H126 (zN N5 (zN N4 (zN N3 (zN N2 (zN N1 S0))))) rfl) (MW.ab_pick_t rfl (zN N5 (zN N4 S3)) S5) fun _ hs hd S6 N6=>?_
     refine MW.ad 136 (.bool (decide (a0≤4546))) rfl hs hd rfl rfl (MW.ab_pick_f rfl (zN N6 (zN N5 (zN N4 (zN N3 (zN N2 (zN N1 S0)))))) S6) fun _ hs hd S7 N7=>?_
     exact wpList_nil (hK_ _ _ (Stop.go ⟨(decide (a0≤4546)),Eq.trans (by first|rfl|(rw[if_pos c63];rfl)|(simp[*];done)) hE61.out.symm,hs,hd,(zN N7 (zN N6 (zN N5 (zN N4 (zN N3 (zN N2 (zN N1 (zN N0 ep14)))))))),S7,rfl⟩))
    refine MW.ad 129 (.bool false) rfl hs hd rfl rfl (MW.ab_move rfl es14) fun _ hs hd S0 N0=>?_
    refine MW.ad 130 (.int .i32 a0) rfl hs hd rfl (MW.ab_want rfl H126 S0 rfl) (MW.ab_move rfl (zN N0 ep14)) fun _ hs hd S1 N1=>?_
    refine MW.ad 131 (.bool false) rfl hs hd rfl (MW.ab_want rfl H126 (zN N1 S0) rfl) (MW.ab_cmp_f c63 rfl S1 (by kernel_rfl)) fun _ hs hd S2 N2=>?_
    refine MW.ad 132 (.bool false) rfl hs hd rfl (MW.ab_want rfl H126 (zN N2 (zN N1 S0)) rfl) (MW.ab_move rfl S2) fun _ hs hd S3 N3=>?_
    refine MW.ak 133 rfl hs hd rfl (MW.ab_want rfl H129 S3 rfl) fun _ hs hd S4 N4=>?_
    refine MW.ak 134 rfl hs hd rfl (MW.ab_want rfl H129 (zN N4 S3) rfl) fun _ hs hd S5 N5=>?_
    refine MW.ad 135 (.bool false) rfl hs hd rfl (MW.ab_want rfl H126 (zN N5 (zN N4 (zN N3 (zN N2 (zN N1 S0))))) rfl) (MW.ab_pick_f rfl (zN N5 (zN N4 S3)) rfl) fun _ hs hd S6 N6=>?_
    refine MW.ad 136 (.bool false) rfl hs hd rfl rfl (MW.ab_pick_f rfl (zN N6 (zN N5 (zN N4 (zN N3 (zN N2 (zN N1 S0)))))) S6) fun _ hs hd S7 N7=>?_
    exact wpList_nil (hK_ _ _ (Stop.go ⟨false,Eq.trans (by first|rfl|(rw[if_neg c63];rfl)|(simp[*];done)) hE61.out.symm,hs,hd,(zN N7 (zN N6 (zN N5 (zN N4 (zN N3 (zN N2 (zN N1 (zN N0 ep14)))))))),S7,rfl⟩))
   case rest=>
    clear hs hd ep14 es14
    obtain⟨b60,hb_,hs,hd,ep15,es15,rfl⟩:=hc_
    simp only[List.drop_succ_cons,List.drop_zero,List.drop_nil]
    have H:=MW.bind_step HH.out (hb_.trans hE61.out)
    replace HH:=za H
    clear H hb_ hE61
    obtain⟨E65,hE65⟩:∃ e_:Bool,e_=(if b60=true then(true) else(if a0=8486 then(true) else(if a0≥8490 then((decide (a0≤8491))) else(false)))):=⟨_,rfl⟩
    replace hE65:=za hE65
    refine MW.list_cut 12 (fun a_ w_=>∃ b_:Bool,b_=E65∧a_.tmps.size=213∧a_.defers=[]∧a_.eval (.tmp 0)=.int .i32 a0∧a_.eval (.tmp 148)=.bool b_∧w=w_) (fun K_ hK_=>?seg) (fun af16 w_ hc_=>?rest)
    case seg=>
     simp only[List.take_succ_cons,List.take_zero,List.take_nil]
     clear HH
     by_cases c66:b60=true
     ·subst c66
      refine MW.ad 137 (.bool true) rfl hs hd rfl rfl (MW.ab_move rfl es15) fun _ hs hd S0 N0=>?_
      refine MW.ak 138 rfl hs hd rfl (MW.ab_want rfl H134 S0 rfl) fun _ hs hd S1 N1=>?_
      refine MW.ak 139 rfl hs hd rfl (MW.ab_want rfl H134 (zN N1 S0) rfl) fun _ hs hd S2 N2=>?_
      refine MW.ad 140 (.bool true) rfl hs hd rfl rfl (MW.ab_pick_t rfl (zN N2 (zN N1 S0)) rfl) fun _ hs hd S3 N3=>?_
      refine MW.ad 141 (.bool true) rfl hs hd rfl rfl (MW.ab_move rfl S3) fun _ hs hd S4 N4=>?_
      refine MW.ak 142 rfl hs hd rfl (MW.ab_want rfl H138 S4 rfl) fun _ hs hd S5 N5=>?_
      refine MW.ak 143 rfl hs hd rfl (MW.ab_want rfl H138 (zN N5 S4) rfl) fun _ hs hd S6 N6=>?_
      refine MW.ak 144 rfl hs hd rfl (MW.ab_want rfl H138 (zN N6 (zN N5 S4)) rfl) fun _ hs hd S7 N7=>?_
      refine MW.ak 145 rfl hs hd rfl (MW.ab_undef rfl H141 S7) fun _ hs hd S8 N8=>?_
      refine MW.ak 146 rfl hs hd rfl (MW.ab_undef rfl H141 (zN N8 S7)) fun _ hs hd S9 N9=>?_
      refine MW.ak 147 rfl hs hd rfl (MW.ab_want rfl H138 (zN N9 (zN N8 (zN N7 (zN N6 (zN N5 S4))))) rfl) fun _ hs hd S10 N10=>?_
      refine MW.ad 148 (.bool true) rfl hs hd rfl rfl (MW.ab_pick_t rfl (zN N10 (zN N9 (zN N8 (zN N7 (zN N6 (zN N5 S4)))))) rfl) fun _ hs hd S11 N11=>?_
      exact wpList_nil (hK_ _ _ (Stop.go ⟨true,Eq.trans (by first|rfl|(rw[];rfl)|(simp[*];done)) hE65.out.symm,hs,hd,(zN N11 (zN N10 (zN N9 (zN N8 (zN N7 (zN N6 (zN N5 (zN N4 (zN N3 (zN N2 (zN N1 (zN N0 ep15)))))))))))),S11,rfl⟩))
     replace c66:=Bool.eq_false_iff.mpr c66
     subst c66
     by_cases c67:a0=8486
     ·refine MW.ad 137 (.bool false) rfl hs hd rfl rfl (MW.ab_move rfl es15) fun _ hs hd S0 N0=>?_
      refine MW.ad 138 (.int .i32 a0) rfl hs hd rfl (MW.ab_want rfl H134 S0 rfl) (MW.ab_move rfl (zN N0 ep15)) fun _ hs hd S1 N1=>?_
      refine MW.ad 139 (.bool true) rfl hs hd rfl (MW.ab_want rfl H134 (zN N1 S0) rfl) (MW.ab_cmp_t c67 rfl S1 (by kernel_rfl)) fun _ hs hd S2 N2=>?_
      refine MW.ad 140 (.bool true) rfl hs hd rfl rfl (MW.ab_pick_f rfl (zN N2 (zN N1 S0)) S2) fun _ hs hd S3 N3=>?_
      refine MW.ad 141 (.bool true) rfl hs hd rfl rfl (MW.ab_move rfl S3) fun _ hs hd S4 N4=>?_
      refine MW.ak 142 rfl hs hd rfl (MW.ab_want rfl H138 S4 rfl) fun _ hs hd S5 N5=>?_
      refine MW.ak 143 rfl hs hd rfl (MW.ab_want rfl H138 (zN N5 S4) rfl) fun _ hs hd S6 N6=>?_
      refine MW.ak 144 rfl hs hd rfl (MW.ab_want rfl H138 (zN N6 (zN N5 S4)) rfl) fun _ hs hd S7 N7=>?_
      refine MW.ak 145 rfl hs hd rfl (MW.ab_undef rfl H141 S7) fun _ hs hd S8 N8=>?_
      refine MW.ak 146 rfl hs hd rfl (MW.ab_undef rfl H141 (zN N8 S7)) fun _ hs hd S9 N9=>?_
      refine MW.ak 147 rfl hs hd rfl (MW.ab_want rfl H138 (zN N9 (zN N8 (zN N7 (zN N6 (zN N5 S4))))) rfl) fun _ hs hd S10 N10=>?_
      refine MW.ad 148 (.bool true) rfl hs hd rfl rfl (MW.ab_pick_t rfl (zN N10 (zN N9 (zN N8 (zN N7 (zN N6 (zN N5 S4)))))) rfl) fun _ hs hd S11 N11=>?_
      exact wpList_nil (hK_ _ _ (Stop.go ⟨true,Eq.trans (by first|rfl|(rw[if_pos c67];rfl)|(simp[*];done)) hE65.out.symm,hs,hd,(zN N11 (zN N10 (zN N9 (zN N8 (zN N7 (zN N6 (zN N5 (zN N4 (zN N3 (zN N2 (zN N1 (zN N0 ep15)))))))))))),S11,rfl⟩))
     by_cases c68:a0≥8490
     ·refine MW.ad 137 (.bool false) rfl hs hd rfl rfl (MW.ab_move rfl es15) fun _ hs hd S0 N0=>?_
      refine MW.ad 138 (.int .i32 a0) rfl hs hd rfl (MW.ab_want rfl H134 S0 rfl) (MW.ab_move rfl (zN N0 ep15)) fun _ hs hd S1 N1=>?_
      refine MW.ad 139 (.bool false) rfl hs hd rfl (MW.ab_want rfl H134 (zN N1 S0) rfl) (MW.ab_cmp_f c67 rfl S1 (by kernel_rfl)) fun _ hs hd S2 N2=>?_
      refine MW.ad 140 (.bool false) rfl hs hd rfl rfl (MW.ab_pick_f rfl (zN N2 (zN N1 S0)) S2) fun _ hs hd S3 N3=>?_
      refine MW.ad 141 (.bool false) rfl hs hd rfl rfl (MW.ab_move rfl S3) fun _ hs hd S4 N4=>?_
      refine MW.ad 142 (.int .i32 a0) rfl hs hd rfl (MW.ab_want rfl H138 S4 rfl) (MW.ab_move rfl (zN N4 (zN N3 (zN N2 (zN N1 (zN N0 ep15)))))) fun _ hs hd S5 N5=>?_
      refine MW.ad 143 (.bool true) rfl hs hd rfl (MW.ab_want rfl H138 (zN N5 S4) rfl) (MW.ab_cmp_t c68 rfl S5 (by kernel_rfl)) fun _ hs hd S6 N6=>?_
      refine MW.ad 144 (.bool true) rfl hs hd rfl (MW.ab_want rfl H138 (zN N6 (zN N5 S4)) rfl) (MW.ab_move rfl S6) fun _ hs hd S7 N7=>?_
      refine MW.ad 145 (.int .i32 a0) rfl hs hd rfl (MW.ab_want rfl H141 S7 rfl) (MW.ab_move rfl (zN N7 (zN N6 (zN N5 (zN N4 (zN N3 (zN N2 (zN N1 (zN N0 ep15))))))))) fun _ hs hd S8 N8=>?_
      refine MW.ad 146 (.bool (decide (a0≤8491))) rfl hs hd rfl (MW.ab_want rfl H141 (zN N8 S7) rfl) (MW.ab_bin rfl S8 (by kernel_rfl)) fun _ hs hd S9 N9=>?_
      refine MW.ad 147 (.bool (decide (a0≤8491))) rfl hs hd rfl (MW.ab_want rfl H138 (zN N9 (zN N8 (zN N7 (zN N6 (zN N5 S4))))) rfl) (MW.ab_pick_t rfl (zN N9 (zN N8 S7)) S9) fun _ hs hd S10 N10=>?_
      refine MW.ad 148 (.bool (decide (a0≤8491))) rfl hs hd rfl rfl (MW.ab_pick_f rfl (zN N10 (zN N9 (zN N8 (zN N7 (zN N6 (zN N5 S4)))))) S10) fun _ hs hd S11 N11=>?_
      exact wpList_nil (hK_ _ _ (Stop.go ⟨(decide (a0≤8491)),Eq.trans (by first|rfl|(rw[if_neg c67,if_pos c68];rfl)|(simp[*];done)) hE65.out.symm,hs,hd,(zN N11 (zN N10 (zN N9 (zN N8 (zN N7 (zN N6 (zN N5 (zN N4 (zN N3 (zN N2 (zN N1 (zN N0 ep15)))))))))))),S11,rfl⟩))
     refine MW.ad 137 (.bool false) rfl hs hd rfl rfl (MW.ab_move rfl es15) fun _ hs hd S0 N0=>?_
     refine MW.ad 138 (.int .i32 a0) rfl hs hd rfl (MW.ab_want rfl H134 S0 rfl) (MW.ab_move rfl (zN N0 ep15)) fun _ hs hd S1 N1=>?_
     refine MW.ad 139 (.bool false) rfl hs hd rfl (MW.ab_want rfl H134 (zN N1 S0) rfl) (MW.ab_cmp_f c67 rfl S1 (by kernel_rfl)) fun _ hs hd S2 N2=>?_
     refine MW.ad 140 (.bool false) rfl hs hd rfl rfl (MW.ab_pick_f rfl (zN N2 (zN N1 S0)) S2) fun _ hs hd S3 N3=>?_
     refine MW.ad 141 (.bool false) rfl hs hd rfl rfl (MW.ab_move rfl S3) fun _ hs hd S4 N4=>?_
     refine MW.ad 142 (.int .i32 a0) rfl hs hd rfl (MW.ab_want rfl H138 S4 rfl) (MW.ab_move rfl (zN N4 (zN N3 (zN N2 (zN N1 (zN N0 ep15)))))) fun _ hs hd S5 N5=>?_
     refine MW.ad 143 (.bool false) rfl hs hd rfl (MW.ab_want rfl H138 (zN N5 S4) rfl) (MW.ab_cmp_f c68 rfl S5 (by kernel_rfl)) fun _ hs hd S6 N6=>?_
     refine MW.ad 144 (.bool false) rfl hs hd rfl (MW.ab_want rfl H138 (zN N6 (zN N5 S4)) rfl) (MW.ab_move rfl S6) fun _ hs hd S7 N7=>?_
     refine MW.ak 145 rfl hs hd rfl (MW.ab_want rfl H141 S7 rfl) fun _ hs hd S8 N8=>?_
     refine MW.ak 146 rfl hs hd rfl (MW.ab_want rfl H141 (zN N8 S7) rfl) fun _ hs hd S9 N9=>?_
     refine MW.ad 147 (.bool false) rfl hs hd rfl (MW.ab_want rfl H138 (zN N9 (zN N8 (zN N7 (zN N6 (zN N5 S4))))) rfl) (MW.ab_pick_f rfl (zN N9 (zN N8 S7)) rfl) fun _ hs hd S10 N10=>?_
     refine MW.ad 148 (.bool false) rfl hs hd rfl rfl (MW.ab_pick_f rfl (zN N10 (zN N9 (zN N8 (zN N7 (zN N6 (zN N5 S4)))))) S10) fun _ hs hd S11 N11=>?_
     exact wpList_nil (hK_ _ _ (Stop.go ⟨false,Eq.trans (by first|rfl|(rw[if_neg c67,if_neg c68];rfl)|(simp[*];done)) hE65.out.symm,hs,hd,(zN N11 (zN N10 (zN N9 (zN N8 (zN N7 (zN N6 (zN N5 (zN N4 (zN N3 (zN N2 (zN N1 (zN N0 ep15)))))))))))),S11,rfl⟩))
    case rest=>
     clear hs hd ep15 es15
     obtain⟨b64,hb_,hs,hd,ep16,es16,rfl⟩:=hc_
     simp only[List.drop_succ_cons,List.drop_zero,List.drop_nil]
     have H:=MW.bind_step HH.out (hb_.trans hE65.out)
     replace HH:=za H
     clear H hb_ hE65
     obtain⟨E70,hE70⟩:∃ e_:Bool,e_=(if b64=true then(true) else(if a0≥8544 then((decide (a0≤8555))) else(false))):=⟨_,rfl⟩
     replace hE70:=za hE70
     refine MW.list_cut 8 (fun a_ w_=>∃ b_:Bool,b_=E70∧a_.tmps.size=213∧a_.defers=[]∧a_.eval (.tmp 0)=.int .i32 a0∧a_.eval (.tmp 156)=.bool b_∧w=w_) (fun K_ hK_=>?seg) (fun af17 w_ hc_=>?rest)
     case seg=>
      simp only[List.take_succ_cons,List.take_zero,List.take_nil]
      clear HH
      by_cases c71:b64=true
      ·subst c71
       refine MW.ad 149 (.bool true) rfl hs hd rfl rfl (MW.ab_move rfl es16) fun _ hs hd S0 N0=>?_
       refine MW.ak 150 rfl hs hd rfl (MW.ab_want rfl H146 S0 rfl) fun _ hs hd S1 N1=>?_
       refine MW.ak 151 rfl hs hd rfl (MW.ab_want rfl H146 (zN N1 S0) rfl) fun _ hs hd S2 N2=>?_
       refine MW.ak 152 rfl hs hd rfl (MW.ab_want rfl H146 (zN N2 (zN N1 S0)) rfl) fun _ hs hd S3 N3=>?_
       refine MW.ak 153 rfl hs hd rfl (MW.ab_undef rfl H149 S3) fun _ hs hd S4 N4=>?_
       refine MW.ak 154 rfl hs hd rfl (MW.ab_undef rfl H149 (zN N4 S3)) fun _ hs hd S5 N5=>?_
       refine MW.ak 155 rfl hs hd rfl (MW.ab_want rfl H146 (zN N5 (zN N4 (zN N3 (zN N2 (zN N1 S0))))) rfl) fun _ hs hd S6 N6=>?_
       refine MW.ad 156 (.bool true) rfl hs hd rfl rfl (MW.ab_pick_t rfl (zN N6 (zN N5 (zN N4 (zN N3 (zN N2 (zN N1 S0)))))) rfl) fun _ hs hd S7 N7=>?_
       exact wpList_nil (hK_ _ _ (Stop.go ⟨true,Eq.trans (by first|rfl|(rw[];rfl)|(simp[*];done)) hE70.out.symm,hs,hd,(zN N7 (zN N6 (zN N5 (zN N4 (zN N3 (zN N2 (zN N1 (zN N0 ep16)))))))),S7,rfl⟩))
      replace c71:=Bool.eq_false_iff.mpr c71
      subst c71
      by_cases c72:a0≥8544
      ·refine MW.ad 149 (.bool false) rfl hs hd rfl rfl (MW.ab_move rfl es16) fun _ hs hd S0 N0=>?_
       refine MW.ad 150 (.int .i32 a0) rfl hs hd rfl (MW.ab_want rfl H146 S0 rfl) (MW.ab_move rfl (zN N0 ep16)) fun _ hs hd S1 N1=>?_
       refine MW.ad 151 (.bool true) rfl hs hd rfl (MW.ab_want rfl H146 (zN N1 S0) rfl) (MW.ab_cmp_t c72 rfl S1 (by kernel_rfl)) fun _ hs hd S2 N2=>?_
       refine MW.ad 152 (.bool true) rfl hs hd rfl (MW.ab_want rfl H146 (zN N2 (zN N1 S0)) rfl) (MW.ab_move rfl S2) fun _ hs hd S3 N3=>?_
       refine MW.ad 153 (.int .i32 a0) rfl hs hd rfl (MW.ab_want rfl H149 S3 rfl) (MW.ab_move rfl (zN N3 (zN N2 (zN N1 (zN N0 ep16))))) fun _ hs hd S4 N4=>?_
       refine MW.ad 154 (.bool (decide (a0≤8555))) rfl hs hd rfl (MW.ab_want rfl H149 (zN N4 S3) rfl) (MW.ab_bin rfl S4 (by kernel_rfl)) fun _ hs hd S5 N5=>?_
       refine MW.ad 155 (.bool (decide (a0≤8555))) rfl hs hd rfl (MW.ab_want rfl H146 (zN N5 (zN N4 (zN N3 (zN N2 (zN N1 S0))))) rfl) (MW.ab_pick_t rfl (zN N5 (zN N4 S3)) S5) fun _ hs hd S6 N6=>?_
       refine MW.ad 156 (.bool (decide (a0≤8555))) rfl hs hd rfl rfl (MW.ab_pick_f rfl (zN N6 (zN N5 (zN N4 (zN N3 (zN N2 (zN N1 S0)))))) S6) fun _ hs hd S7 N7=>?_
       exact wpList_nil (hK_ _ _ (Stop.go ⟨(decide (a0≤8555)),Eq.trans (by first|rfl|(rw[if_pos c72];rfl)|(simp[*];done)) hE70.out.symm,hs,hd,(zN N7 (zN N6 (zN N5 (zN N4 (zN N3 (zN N2 (zN N1 (zN N0 ep16)))))))),S7,rfl⟩))
      refine MW.ad 149 (.bool false) rfl hs hd rfl rfl (MW.ab_move rfl es16) fun _ hs hd S0 N0=>?_
      refine MW.ad 150 (.int .i32 a0) rfl hs hd rfl (MW.ab_want rfl H146 S0 rfl) (MW.ab_move rfl (zN N0 ep16)) fun _ hs hd S1 N1=>?_
      refine MW.ad 151 (.bool false) rfl hs hd rfl (MW.ab_want rfl H146 (zN N1 S0) rfl) (MW.ab_cmp_f c72 rfl S1 (by kernel_rfl)) fun _ hs hd S2 N2=>?_
      refine MW.ad 152 (.bool false) rfl hs hd rfl (MW.ab_want rfl H146 (zN N2 (zN N1 S0)) rfl) (MW.ab_move rfl S2) fun _ hs hd S3 N3=>?_
      refine MW.ak 153 rfl hs hd rfl (MW.ab_want rfl H149 S3 rfl) fun _ hs hd S4 N4=>?_
      refine MW.ak 154 rfl hs hd rfl (MW.ab_want rfl H149 (zN N4 S3) rfl) fun _ hs hd S5 N5=>?_
      refine MW.ad 155 (.bool false) rfl hs hd rfl (MW.ab_want rfl H146 (zN N5 (zN N4 (zN N3 (zN N2 (zN N1 S0))))) rfl) (MW.ab_pick_f rfl (zN N5 (zN N4 S3)) rfl) fun _ hs hd S6 N6=>?_
      refine MW.ad 156 (.bool false) rfl hs hd rfl rfl (MW.ab_pick_f rfl (zN N6 (zN N5 (zN N4 (zN N3 (zN N2 (zN N1 S0)))))) S6) fun _ hs hd S7 N7=>?_
      exact wpList_nil (hK_ _ _ (Stop.go ⟨false,Eq.trans (by first|rfl|(rw[if_neg c72];rfl)|(simp[*];done)) hE70.out.symm,hs,hd,(zN N7 (zN N6 (zN N5 (zN N4 (zN N3 (zN N2 (zN N1 (zN N0 ep16)))))))),S7,rfl⟩))
     case rest=>
      clear hs hd ep16 es16
      obtain⟨b69,hb_,hs,hd,ep17,es17,rfl⟩:=hc_
      simp only[List.drop_succ_cons,List.drop_zero,List.drop_nil]
      have H:=MW.bind_step HH.out (hb_.trans hE70.out)
      replace HH:=za H
      clear H hb_ hE70
      obtain⟨E74,hE74⟩:∃ e_:Bool,e_=(if b69=true then(true) else(if a0≥8560 then((decide (a0≤8571))) else(false))):=⟨_,rfl⟩
      replace hE74:=za hE74
      refine MW.list_cut 8 (fun a_ w_=>∃ b_:Bool,b_=E74∧a_.tmps.size=213∧a_.defers=[]∧a_.eval (.tmp 0)=.int .i32 a0∧a_.eval (.tmp 164)=.bool b_∧w=w_) (fun K_ hK_=>?seg) (fun af18 w_ hc_=>?rest)
      case seg=>
       simp only[List.take_succ_cons,List.take_zero,List.take_nil]
       clear HH
       by_cases c75:b69=true
       ·subst c75
        refine MW.ad 157 (.bool true) rfl hs hd rfl rfl (MW.ab_move rfl es17) fun _ hs hd S0 N0=>?_
        refine MW.ak 158 rfl hs hd rfl (MW.ab_want rfl H154 S0 rfl) fun _ hs hd S1 N1=>?_
        refine MW.ak 159 rfl hs hd rfl (MW.ab_want rfl H154 (zN N1 S0) rfl) fun _ hs hd S2 N2=>?_
        refine MW.ak 160 rfl hs hd rfl (MW.ab_want rfl H154 (zN N2 (zN N1 S0)) rfl) fun _ hs hd S3 N3=>?_
        refine MW.ak 161 rfl hs hd rfl (MW.ab_undef rfl H157 S3) fun _ hs hd S4 N4=>?_
        refine MW.ak 162 rfl hs hd rfl (MW.ab_undef rfl H157 (zN N4 S3)) fun _ hs hd S5 N5=>?_
        refine MW.ak 163 rfl hs hd rfl (MW.ab_want rfl H154 (zN N5 (zN N4 (zN N3 (zN N2 (zN N1 S0))))) rfl) fun _ hs hd S6 N6=>?_
        refine MW.ad 164 (.bool true) rfl hs hd rfl rfl (MW.ab_pick_t rfl (zN N6 (zN N5 (zN N4 (zN N3 (zN N2 (zN N1 S0)))))) rfl) fun _ hs hd S7 N7=>?_
        exact wpList_nil (hK_ _ _ (Stop.go ⟨true,Eq.trans (by first|rfl|(rw[];rfl)|(simp[*];done)) hE74.out.symm,hs,hd,(zN N7 (zN N6 (zN N5 (zN N4 (zN N3 (zN N2 (zN N1 (zN N0 ep17)))))))),S7,rfl⟩))
       replace c75:=Bool.eq_false_iff.mpr c75
       subst c75
       by_cases c76:a0≥8560
       ·refine MW.ad 157 (.bool false) rfl hs hd rfl rfl (MW.ab_move rfl es17) fun _ hs hd S0 N0=>?_
        refine MW.ad 158 (.int .i32 a0) rfl hs hd rfl (MW.ab_want rfl H154 S0 rfl) (MW.ab_move rfl (zN N0 ep17)) fun _ hs hd S1 N1=>?_
        refine MW.ad 159 (.bool true) rfl hs hd rfl (MW.ab_want rfl H154 (zN N1 S0) rfl) (MW.ab_cmp_t c76 rfl S1 (by kernel_rfl)) fun _ hs hd S2 N2=>?_
        refine MW.ad 160 (.bool true) rfl hs hd rfl (MW.ab_want rfl H154 (zN N2 (zN N1 S0)) rfl) (MW.ab_move rfl S2) fun _ hs hd S3 N3=>?_
        refine MW.ad 161 (.int .i32 a0) rfl hs hd rfl (MW.ab_want rfl H157 S3 rfl) (MW.ab_move rfl (zN N3 (zN N2 (zN N1 (zN N0 ep17))))) fun _ hs hd S4 N4=>?_
        refine MW.ad 162 (.bool (decide (a0≤8571))) rfl hs hd rfl (MW.ab_want rfl H157 (zN N4 S3) rfl) (MW.ab_bin rfl S4 (by kernel_rfl)) fun _ hs hd S5 N5=>?_
        refine MW.ad 163 (.bool (decide (a0≤8571))) rfl hs hd rfl (MW.ab_want rfl H154 (zN N5 (zN N4 (zN N3 (zN N2 (zN N1 S0))))) rfl) (MW.ab_pick_t rfl (zN N5 (zN N4 S3)) S5) fun _ hs hd S6 N6=>?_
        refine MW.ad 164 (.bool (decide (a0≤8571))) rfl hs hd rfl rfl (MW.ab_pick_f rfl (zN N6 (zN N5 (zN N4 (zN N3 (zN N2 (zN N1 S0)))))) S6) fun _ hs hd S7 N7=>?_
        exact wpList_nil (hK_ _ _ (Stop.go ⟨(decide (a0≤8571)),Eq.trans (by first|rfl|(rw[if_pos c76];rfl)|(simp[*];done)) hE74.out.symm,hs,hd,(zN N7 (zN N6 (zN N5 (zN N4 (zN N3 (zN N2 (zN N1 (zN N0 ep17)))))))),S7,rfl⟩))
       refine MW.ad 157 (.bool false) rfl hs hd rfl rfl (MW.ab_move rfl es17) fun _ hs hd S0 N0=>?_
       refine MW.ad 158 (.int .i32 a0) rfl hs hd rfl (MW.ab_want rfl H154 S0 rfl) (MW.ab_move rfl (zN N0 ep17)) fun _ hs hd S1 N1=>?_
       refine MW.ad 159 (.bool false) rfl hs hd rfl (MW.ab_want rfl H154 (zN N1 S0) rfl) (MW.ab_cmp_f c76 rfl S1 (by kernel_rfl)) fun _ hs hd S2 N2=>?_
       refine MW.ad 160 (.bool false) rfl hs hd rfl (MW.ab_want rfl H154 (zN N2 (zN N1 S0)) rfl) (MW.ab_move rfl S2) fun _ hs hd S3 N3=>?_
       refine MW.ak 161 rfl hs hd rfl (MW.ab_want rfl H157 S3 rfl) fun _ hs hd S4 N4=>?_
       refine MW.ak 162 rfl hs hd rfl (MW.ab_want rfl H157 (zN N4 S3) rfl) fun _ hs hd S5 N5=>?_
       refine MW.ad 163 (.bool false) rfl hs hd rfl (MW.ab_want rfl H154 (zN N5 (zN N4 (zN N3 (zN N2 (zN N1 S0))))) rfl) (MW.ab_pick_f rfl (zN N5 (zN N4 S3)) rfl) fun _ hs hd S6 N6=>?_
       refine MW.ad 164 (.bool false) rfl hs hd rfl rfl (MW.ab_pick_f rfl (zN N6 (zN N5 (zN N4 (zN N3 (zN N2 (zN N1 S0)))))) S6) fun _ hs hd S7 N7=>?_
       exact wpList_nil (hK_ _ _ (Stop.go ⟨false,Eq.trans (by first|rfl|(rw[if_neg c76];rfl)|(simp[*];done)) hE74.out.symm,hs,hd,(zN N7 (zN N6 (zN N5 (zN N4 (zN N3 (zN N2 (zN N1 (zN N0 ep17)))))))),S7,rfl⟩))
      case rest=>
       clear hs hd ep17 es17
       obtain⟨b73,hb_,hs,hd,ep18,es18,rfl⟩:=hc_
       simp only[List.drop_succ_cons,List.drop_zero,List.drop_nil]
       have H:=MW.bind_step HH.out (hb_.trans hE74.out)
       replace HH:=za H
       clear H hb_ hE74
       exact wpList_nil (hKC_ _ _ (Stop.go ⟨b73,HH.out,hs,hd,ep18,es18,rfl⟩))
theorem chars_letter.p1 {Q:Exit→Act→World→Prop} (OPS:Array Oper) (hO:OPS=chars_letter.ops.toArray) (a0:Int) (r:Bool) (w:World) (af6:Act) (b21:Bool) (hs:af6.tmps.size=213) (hd:af6.defers=[]) (ep6:af6.eval (.tmp 0)=.int .i32 a0) (es6:af6.eval (.tmp 52)=.bool b21) (h:((some (if b21=true then(true) else(if a0=700 then(true) else((a0==902))):Bool)).bind fun b25=>((some (if b25=true then(true) else(if a0≥904 then((decide (a0≤906))) else(false)):Bool)).bind fun b29=>((some (if b29=true then(true) else(if a0=908 then(true) else(if a0≥910 then((decide (a0≤929))) else(false))):Bool)).bind fun b33=>((some (if b33=true then(true) else(if a0≥931 then((decide (a0≤974))) else(false)):Bool)).bind fun b38=>((some (if b38=true then(true) else(if a0=1025 then(true) else(if a0≥1040 then((decide (a0≤1103))) else(false))):Bool)).bind fun b42=>((some (if b42=true then(true) else(if a0=1105 then(true) else(if a0≥1488 then((decide (a0≤1514))) else(false))):Bool)).bind fun b47=>((some (if b47=true then(true) else(if a0≥4352 then((decide (a0≤4370))) else(false)):Bool)).bind fun b52=>((some (if b52=true then(true) else(if a0≥4449 then((decide (a0≤4469))) else(false)):Bool)).bind fun b56=>((some (if b56=true then(true) else(if a0≥4520 then((decide (a0≤4546))) else(false)):Bool)).bind fun b60=>((some (if b60=true then(true) else(if a0=8486 then(true) else(if a0≥8490 then((decide (a0≤8491))) else(false))):Bool)).bind fun b64=>((some (if b64=true then(true) else(if a0≥8544 then((decide (a0≤8555))) else(false)):Bool)).bind fun b69=>((some (if b69=true then(true) else(if a0≥8560 then((decide (a0≤8571))) else(false)):Bool)).bind fun b73=>((some (if b73=true then(true) else(if a0≥12353 then((decide (a0≤12436))) else(false)):Bool)).bind fun b77=>((some (if b77=true then(true) else(if a0≥19968 then((decide (a0≤20223))) else(false)):Bool)).bind fun b81=>((some (if b81=true then(true) else(if a0≥44032 then((decide (a0≤55203))) else(false)):Bool)).bind fun b85=>((some (if b85=true then(true) else(if a0≥64256 then((decide (a0≤64261))) else(false)):Bool)).bind fun b89=>((some (if b89=true then(true) else(if a0≥65313 then((decide (a0≤65338))) else(false)):Bool)).bind fun b93=>((some (if b93=true then(true) else(if a0≥65345 then((decide (a0≤65370))) else(false)):Bool)).bind fun b97=>(some b97)))))))))))))))))))=some r) (fin:∀ a':Act,a'.tmps.size=213→a'.defers=[]→a'.eval (.tmp 2)=.bool r→Q .normal a' w):wpList Try.prog OPS Q (chars_letter.ops.drop 50) af6 w:=by
 have HH:=za h
 clear h
 have H50:(OPS[50]?).bind (·.dst)=some 53:=by rw[hO];rfl
 have H54:(OPS[54]?).bind (·.dst)=some 57:=by rw[hO];rfl
 have H58:(OPS[58]?).bind (·.dst)=some 61:=by rw[hO];rfl
 have H61:(OPS[61]?).bind (·.dst)=some 64:=by rw[hO];rfl
 have H66:(OPS[66]?).bind (·.dst)=some 69:=by rw[hO];rfl
 have H70:(OPS[70]?).bind (·.dst)=some 73:=by rw[hO];rfl
 have H73:(OPS[73]?).bind (·.dst)=some 76:=by rw[hO];rfl
 have H78:(OPS[78]?).bind (·.dst)=some 81:=by rw[hO];rfl
 have H81:(OPS[81]?).bind (·.dst)=some 84:=by rw[hO];rfl
 have H86:(OPS[86]?).bind (·.dst)=some 89:=by rw[hO];rfl
 have H90:(OPS[90]?).bind (·.dst)=some 93:=by rw[hO];rfl
 have H93:(OPS[93]?).bind (·.dst)=some 96:=by rw[hO];rfl
 have H98:(OPS[98]?).bind (·.dst)=some 101:=by rw[hO];rfl
 have H102:(OPS[102]?).bind (·.dst)=some 105:=by rw[hO];rfl
 have H105:(OPS[105]?).bind (·.dst)=some 108:=by rw[hO];rfl
 replace hO:=(Stop.go hO:Stop _ (.mk _))
 replace fin:=(Stop.go fin:Stop _ (.mk _))
 refine MW.list_cut 60 (fun a_ w_=>∃ b47:Bool,((some (if b47=true then(true) else(if a0≥4352 then((decide (a0≤4370))) else(false)):Bool)).bind fun b52=>((some (if b52=true then(true) else(if a0≥4449 then((decide (a0≤4469))) else(false)):Bool)).bind fun b56=>((some (if b56=true then(true) else(if a0≥4520 then((decide (a0≤4546))) else(false)):Bool)).bind fun b60=>((some (if b60=true then(true) else(if a0=8486 then(true) else(if a0≥8490 then((decide (a0≤8491))) else(false))):Bool)).bind fun b64=>((some (if b64=true then(true) else(if a0≥8544 then((decide (a0≤8555))) else(false)):Bool)).bind fun b69=>((some (if b69=true then(true) else(if a0≥8560 then((decide (a0≤8571))) else(false)):Bool)).bind fun b73=>((some (if b73=true then(true) else(if a0≥12353 then((decide (a0≤12436))) else(false)):Bool)).bind fun b77=>((some (if b77=true then(true) else(if a0≥19968 then((decide (a0≤20223))) else(false)):Bool)).bind fun b81=>((some (if b81=true then(true) else(if a0≥44032 then((decide (a0≤55203))) else(false)):Bool)).bind fun b85=>((some (if b85=true then(true) else(if a0≥64256 then((decide (a0≤64261))) else(false)):Bool)).bind fun b89=>((some (if b89=true then(true) else(if a0≥65313 then((decide (a0≤65338))) else(false)):Bool)).bind fun b93=>((some (if b93=true then(true) else(if a0≥65345 then((decide (a0≤65370))) else(false)):Bool)).bind fun b97=>(some b97)))))))))))))=some r∧a_.tmps.size=213∧a_.defers=[]∧a_.eval (.tmp 0)=.int .i32 a0∧a_.eval (.tmp 112)=.bool b47∧w=w_) (fun KC_ hKC_=>?chunk) (fun a_ w_ hc_=>?next)
 case next=>
  obtain⟨b_,hb_,hs,hd,ep,es,rfl⟩:=hc_
  rw[List.drop_drop]
  exact chars_letter.p2 OPS hO.out a0 r _ _ b_ hs hd ep es hb_ fin.out
 simp only[chars_letter.ops,Try.f23,List.append_eq,List.cons_append,List.nil_append,List.drop_succ_cons,List.drop_zero,List.take_succ_cons,List.take_zero]
 obtain⟨E26,hE26⟩:∃ e_:Bool,e_=(if b21=true then(true) else(if a0=700 then(true) else((a0==902)))):=⟨_,rfl⟩
 replace hE26:=za hE26
 refine MW.list_cut 8 (fun a_ w_=>∃ b_:Bool,b_=E26∧a_.tmps.size=213∧a_.defers=[]∧a_.eval (.tmp 0)=.int .i32 a0∧a_.eval (.tmp 60)=.bool b_∧w=w_) (fun K_ hK_=>?seg) (fun af7 w_ hc_=>?rest)
 case seg=>
  simp only[List.take_succ_cons,List.take_zero,List.take_nil]
  clear HH
  by_cases c27:b21=true
  ·subst c27
   refine MW.ad 53 (.bool true) rfl hs hd rfl rfl (MW.ab_move rfl es6) fun _ hs hd S0 N0=>?_
   refine MW.ak 54 rfl hs hd rfl (MW.ab_want rfl H50 S0 rfl) fun _ hs hd S1 N1=>?_
   refine MW.ak 55 rfl hs hd rfl (MW.ab_want rfl H50 (zN N1 S0) rfl) fun _ hs hd S2 N2=>?_
   refine MW.ad 56 (.bool true) rfl hs hd rfl rfl (MW.ab_pick_t rfl (zN N2 (zN N1 S0)) rfl) fun _ hs hd S3 N3=>?_
   refine MW.ad 57 (.bool true) rfl hs hd rfl rfl (MW.ab_move rfl S3) fun _ hs hd S4 N4=>?_
   refine MW.ak 58 rfl hs hd rfl (MW.ab_want rfl H54 S4 rfl) fun _ hs hd S5 N5=>?_
   refine MW.ak 59 rfl hs hd rfl (MW.ab_want rfl H54 (zN N5 S4) rfl) fun _ hs hd S6 N6=>?_
   refine MW.ad 60 (.bool true) rfl hs hd rfl rfl (MW.ab_pick_t rfl (zN N6 (zN N5 S4)) rfl) fun _ hs hd S7 N7=>?_
   exact wpList_nil (hK_ _ _ (Stop.go ⟨true,Eq.trans (by first|rfl|(rw[];rfl)|(simp[*];done)) hE26.out.symm,hs,hd,(zN N7 (zN N6 (zN N5 (zN N4 (zN N3 (zN N2 (zN N1 (zN N0 ep6)))))))),S7,rfl⟩))
  replace c27:=Bool.eq_false_iff.mpr c27
  subst c27
  by_cases c28:a0=700
  ·refine MW.ad 53 (.bool false) rfl hs hd rfl rfl (MW.ab_move rfl es6) fun _ hs hd S0 N0=>?_
   refine MW.ad 54 (.int .i32 a0) rfl hs hd rfl (MW.ab_want rfl H50 S0 rfl) (MW.ab_move rfl (zN N0 ep6)) fun _ hs hd S1 N1=>?_
   refine MW.ad 55 (.bool true) rfl hs hd rfl (MW.ab_want rfl H50 (zN N1 S0) rfl) (MW.ab_cmp_t c28 rfl S1 (by kernel_rfl)) fun _ hs hd S2 N2=>?_
   refine MW.ad 56 (.bool true) rfl hs hd rfl rfl (MW.ab_pick_f rfl (zN N2 (zN N1 S0)) S2) fun _ hs hd S3 N3=>?_
   refine MW.ad 57 (.bool true) rfl hs hd rfl rfl (MW.ab_move rfl S3) fun _ hs hd S4 N4=>?_
   refine MW.ak 58 rfl hs hd rfl (MW.ab_want rfl H54 S4 rfl) fun _ hs hd S5 N5=>?_
   refine MW.ak 59 rfl hs hd rfl (MW.ab_want rfl H54 (zN N5 S4) rfl) fun _ hs hd S6 N6=>?_
   refine MW.ad 60 (.bool true) rfl hs hd rfl rfl (MW.ab_pick_t rfl (zN N6 (zN N5 S4)) rfl) fun _ hs hd S7 N7=>?_
   exact wpList_nil (hK_ _ _ (Stop.go ⟨true,Eq.trans (by first|rfl|(rw[if_pos c28];rfl)|(simp[*];done)) hE26.out.symm,hs,hd,(zN N7 (zN N6 (zN N5 (zN N4 (zN N3 (zN N2 (zN N1 (zN N0 ep6)))))))),S7,rfl⟩))
  refine MW.ad 53 (.bool false) rfl hs hd rfl rfl (MW.ab_move rfl es6) fun _ hs hd S0 N0=>?_
  refine MW.ad 54 (.int .i32 a0) rfl hs hd rfl (MW.ab_want rfl H50 S0 rfl) (MW.ab_move rfl (zN N0 ep6)) fun _ hs hd S1 N1=>?_
  refine MW.ad 55 (.bool false) rfl hs hd rfl (MW.ab_want rfl H50 (zN N1 S0) rfl) (MW.ab_cmp_f c28 rfl S1 (by kernel_rfl)) fun _ hs hd S2 N2=>?_
  refine MW.ad 56 (.bool false) rfl hs hd rfl rfl (MW.ab_pick_f rfl (zN N2 (zN N1 S0)) S2) fun _ hs hd S3 N3=>?_
  refine MW.ad 57 (.bool false) rfl hs hd rfl rfl (MW.ab_move rfl S3) fun _ hs hd S4 N4=>?_
  refine MW.ad 58 (.int .i32 a0) rfl hs hd rfl (MW.ab_want rfl H54 S4 rfl) (MW.ab_move rfl (zN N4 (zN N3 (zN N2 (zN N1 (zN N0 ep6)))))) fun _ hs hd S5 N5=>?_
  refine MW.ad 59 (.bool (a0==902)) rfl hs hd rfl (MW.ab_want rfl H54 (zN N5 S4) rfl) (MW.ab_bin rfl S5 (by kernel_rfl)) fun _ hs hd S6 N6=>?_
  refine MW.ad 60 (.bool (a0==902)) rfl hs hd rfl rfl (MW.ab_pick_f rfl (zN N6 (zN N5 S4)) S6) fun _ hs hd S7 N7=>?_
  exact wpList_nil (hK_ _ _ (Stop.go ⟨(a0==902),Eq.trans (by first|rfl|(rw[if_neg c28];rfl)|(simp[*];done)) hE26.out.symm,hs,hd,(zN N7 (zN N6 (zN N5 (zN N4 (zN N3 (zN N2 (zN N1 (zN N0 ep6)))))))),S7,rfl⟩))
 case rest=>
  clear hs hd ep6 es6
  obtain⟨b25,hb_,hs,hd,ep7,es7,rfl⟩:=hc_
  simp only[List.drop_succ_cons,List.drop_zero,List.drop_nil]
  have H:=MW.bind_step HH.out (hb_.trans hE26.out)
  replace HH:=za H
  clear H hb_ hE26
  obtain⟨E30,hE30⟩:∃ e_:Bool,e_=(if b25=true then(true) else(if a0≥904 then((decide (a0≤906))) else(false))):=⟨_,rfl⟩
  replace hE30:=za hE30
  refine MW.list_cut 8 (fun a_ w_=>∃ b_:Bool,b_=E30∧a_.tmps.size=213∧a_.defers=[]∧a_.eval (.tmp 0)=.int .i32 a0∧a_.eval (.tmp 68)=.bool b_∧w=w_) (fun K_ hK_=>?seg) (fun af8 w_ hc_=>?rest)
  case seg=>
   simp only[List.take_succ_cons,List.take_zero,List.take_nil]
   clear HH
   by_cases c31:b25=true
   ·subst c31
    refine MW.ad 61 (.bool true) rfl hs hd rfl rfl (MW.ab_move rfl es7) fun _ hs hd S0 N0=>?_
    refine MW.ak 62 rfl hs hd rfl (MW.ab_want rfl H58 S0 rfl) fun _ hs hd S1 N1=>?_
    refine MW.ak 63 rfl hs hd rfl (MW.ab_want rfl H58 (zN N1 S0) rfl) fun _ hs hd S2 N2=>?_
    refine MW.ak 64 rfl hs hd rfl (MW.ab_want rfl H58 (zN N2 (zN N1 S0)) rfl) fun _ hs hd S3 N3=>?_
    refine MW.ak 65 rfl hs hd rfl (MW.ab_undef rfl H61 S3) fun _ hs hd S4 N4=>?_
    refine MW.ak 66 rfl hs hd rfl (MW.ab_undef rfl H61 (zN N4 S3)) fun _ hs hd S5 N5=>?_
    refine MW.ak 67 rfl hs hd rfl (MW.ab_want rfl H58 (zN N5 (zN N4 (zN N3 (zN N2 (zN N1 S0))))) rfl) fun _ hs hd S6 N6=>?_
    refine MW.ad 68 (.bool true) rfl hs hd rfl rfl (MW.ab_pick_t rfl (zN N6 (zN N5 (zN N4 (zN N3 (zN N2 (zN N1 S0)))))) rfl) fun _ hs hd S7 N7=>?_
    exact wpList_nil (hK_ _ _ (Stop.go ⟨true,Eq.trans (by first|rfl|(rw[];rfl)|(simp[*];done)) hE30.out.symm,hs,hd,(zN N7 (zN N6 (zN N5 (zN N4 (zN N3 (zN N2 (zN N1 (zN N0 ep7)))))))),S7,rfl⟩))
   replace c31:=Bool.eq_false_iff.mpr c31
   subst c31
   by_cases c32:a0≥904
   ·refine MW.ad 61 (.bool false) rfl hs hd rfl rfl (MW.ab_move rfl es7) fun _ hs hd S0 N0=>?_
    refine MW.ad 62 (.int .i32 a0) rfl hs hd rfl (MW.ab_want rfl H58 S0 rfl) (MW.ab_move rfl (zN N0 ep7)) fun _ hs hd S1 N1=>?_
    refine MW.ad 63 (.bool true) rfl hs hd rfl (MW.ab_want rfl H58 (zN N1 S0) rfl) (MW.ab_cmp_t c32 rfl S1 (by kernel_rfl)) fun _ hs hd S2 N2=>?_
    refine MW.ad 64 (.bool true) rfl hs hd rfl (MW.ab_want rfl H58 (zN N2 (zN N1 S0)) rfl) (MW.ab_move rfl S2) fun _ hs hd S3 N3=>?_
    refine MW.ad 65 (.int .i32 a0) rfl hs hd rfl (MW.ab_want rfl H61 S3 rfl) (MW.ab_move rfl (zN N3 (zN N2 (zN N1 (zN N0 ep7))))) fun _ hs hd S4 N4=>?_
    refine MW.ad 66 (.bool (decide (a0≤906))) rfl hs hd rfl (MW.ab_want rfl H61 (zN N4 S3) rfl) (MW.ab_bin rfl S4 (by kernel_rfl)) fun _ hs hd S5 N5=>?_
    refine MW.ad 67 (.bool (decide (a0≤906))) rfl hs hd rfl (MW.ab_want rfl H58 (zN N5 (zN N4 (zN N3 (zN N2 (zN N1 S0))))) rfl) (MW.ab_pick_t rfl (zN N5 (zN N4 S3)) S5) fun _ hs hd S6 N6=>?_
    refine MW.ad 68 (.bool (decide (a0≤906))) rfl hs hd rfl rfl (MW.ab_pick_f rfl (zN N6 (zN N5 (zN N4 (zN N3 (zN N2 (zN N1 S0)))))) S6) fun _ hs hd S7 N7=>?_
    exact wpList_nil (hK_ _ _ (Stop.go ⟨(decide (a0≤906)),Eq.trans (by first|rfl|(rw[if_pos c32];rfl)|(simp[*];done)) hE30.out.symm,hs,hd,(zN N7 (zN N6 (zN N5 (zN N4 (zN N3 (zN N2 (zN N1 (zN N0 ep7)))))))),S7,rfl⟩))
   refine MW.ad 61 (.bool false) rfl hs hd rfl rfl (MW.ab_move rfl es7) fun _ hs hd S0 N0=>?_
   refine MW.ad 62 (.int .i32 a0) rfl hs hd rfl (MW.ab_want rfl H58 S0 rfl) (MW.ab_move rfl (zN N0 ep7)) fun _ hs hd S1 N1=>?_
   refine MW.ad 63 (.bool false) rfl hs hd rfl (MW.ab_want rfl H58 (zN N1 S0) rfl) (MW.ab_cmp_f c32 rfl S1 (by kernel_rfl)) fun _ hs hd S2 N2=>?_
   refine MW.ad 64 (.bool false) rfl hs hd rfl (MW.ab_want rfl H58 (zN N2 (zN N1 S0)) rfl) (MW.ab_move rfl S2) fun _ hs hd S3 N3=>?_
   refine MW.ak 65 rfl hs hd rfl (MW.ab_want rfl H61 S3 rfl) fun _ hs hd S4 N4=>?_
   refine MW.ak 66 rfl hs hd rfl (MW.ab_want rfl H61 (zN N4 S3) rfl) fun _ hs hd S5 N5=>?_
   refine MW.ad 67 (.bool false) rfl hs hd rfl (MW.ab_want rfl H58 (zN N5 (zN N4 (zN N3 (zN N2 (zN N1 S0))))) rfl) (MW.ab_pick_f rfl (zN N5 (zN N4 S3)) rfl) fun _ hs hd S6 N6=>?_
   refine MW.ad 68 (.bool false) rfl hs hd rfl rfl (MW.ab_pick_f rfl (zN N6 (zN N5 (zN N4 (zN N3 (zN N2 (zN N1 S0)))))) S6) fun _ hs hd S7 N7=>?_
   exact wpList_nil (hK_ _ _ (Stop.go ⟨false,Eq.trans (by first|rfl|(rw[if_neg c32];rfl)|(simp[*];done)) hE30.out.symm,hs,hd,(zN N7 (zN N6 (zN N5 (zN N4 (zN N3 (zN N2 (zN N1 (zN N0 ep7)))))))),S7,rfl⟩))
  case rest=>
   clear hs hd ep7 es7
   obtain⟨b29,hb_,hs,hd,ep8,es8,rfl⟩:=hc_
   simp only[List.drop_succ_cons,List.drop_zero,List.drop_nil]
   have H:=MW.bind_step HH.out (hb_.trans hE30.out)
   replace HH:=za H
   clear H hb_ hE30
   obtain⟨E34,hE34⟩:∃ e_:Bool,e_=(if b29=true then(true) else(if a0=908 then(true) else(if a0≥910 then((decide (a0≤929))) else(false)))):=⟨_,rfl⟩
   replace hE34:=za hE34
   refine MW.list_cut 12 (fun a_ w_=>∃ b_:Bool,b_=E34∧a_.tmps.size=213∧a_.defers=[]∧a_.eval (.tmp 0)=.int .i32 a0∧a_.eval (.tmp 80)=.bool b_∧w=w_) (fun K_ hK_=>?seg) (fun af9 w_ hc_=>?rest)
   case seg=>
    simp only[List.take_succ_cons,List.take_zero,List.take_nil]
    clear HH
    by_cases c35:b29=true
    ·subst c35
     refine MW.ad 69 (.bool true) rfl hs hd rfl rfl (MW.ab_move rfl es8) fun _ hs hd S0 N0=>?_
     refine MW.ak 70 rfl hs hd rfl (MW.ab_want rfl H66 S0 rfl) fun _ hs hd S1 N1=>?_
     refine MW.ak 71 rfl hs hd rfl (MW.ab_want rfl H66 (zN N1 S0) rfl) fun _ hs hd S2 N2=>?_
     refine MW.ad 72 (.bool true) rfl hs hd rfl rfl (MW.ab_pick_t rfl (zN N2 (zN N1 S0)) rfl) fun _ hs hd S3 N3=>?_
     refine MW.ad 73 (.bool true) rfl hs hd rfl rfl (MW.ab_move rfl S3) fun _ hs hd S4 N4=>?_
     refine MW.ak 74 rfl hs hd rfl (MW.ab_want rfl H70 S4 rfl) fun _ hs hd S5 N5=>?_
     refine MW.ak 75 rfl hs hd rfl (MW.ab_want rfl H70 (zN N5 S4) rfl) fun _ hs hd S6 N6=>?_
     refine MW.ak 76 rfl hs hd rfl (MW.ab_want rfl H70 (zN N6 (zN N5 S4)) rfl) fun _ hs hd S7 N7=>?_
     refine MW.ak 77 rfl hs hd rfl (MW.ab_undef rfl H73 S7) fun _ hs hd S8 N8=>?_
     refine MW.ak 78 rfl hs hd rfl (MW.ab_undef rfl H73 (zN N8 S7)) fun _ hs hd S9 N9=>?_
     refine MW.ak 79 rfl hs hd rfl (MW.ab_want rfl H70 (zN N9 (zN N8 (zN N7 (zN N6 (zN N5 S4))))) rfl) fun _ hs hd S10 N10=>?_
     refine MW.ad 80 (.bool true) rfl hs hd rfl rfl (MW.ab_pick_t rfl (zN N10 (zN N9 (zN N8 (zN N7 (zN N6 (zN N5 S4)))))) rfl) fun _ hs hd S11 N11=>?_
     exact wpList_nil (hK_ _ _ (Stop.go ⟨true,Eq.trans (by first|rfl|(rw[];rfl)|(simp[*];done)) hE34.out.symm,hs,hd,(zN N11 (zN N10 (zN N9 (zN N8 (zN N7 (zN N6 (zN N5 (zN N4 (zN N3 (zN N2 (zN N1 (zN N0 ep8)))))))))))),S11,rfl⟩))
    replace c35:=Bool.eq_false_iff.mpr c35
    subst c35
    by_cases c36:a0=908
    ·refine MW.ad 69 (.bool false) rfl hs hd rfl rfl (MW.ab_move rfl es8) fun _ hs hd S0 N0=>?_
     refine MW.ad 70 (.int .i32 a0) rfl hs hd rfl (MW.ab_want rfl H66 S0 rfl) (MW.ab_move rfl (zN N0 ep8)) fun _ hs hd S1 N1=>?_
     refine MW.ad 71 (.bool true) rfl hs hd rfl (MW.ab_want rfl H66 (zN N1 S0) rfl) (MW.ab_cmp_t c36 rfl S1 (by kernel_rfl)) fun _ hs hd S2 N2=>?_
     refine MW.ad 72 (.bool true) rfl hs hd rfl rfl (MW.ab_pick_f rfl (zN N2 (zN N1 S0)) S2) fun _ hs hd S3 N3=>?_
     refine MW.ad 73 (.bool true) rfl hs hd rfl rfl (MW.ab_move rfl S3) fun _ hs hd S4 N4=>?_
     refine MW.ak 74 rfl hs hd rfl (MW.ab_want rfl H70 S4 rfl) fun _ hs hd S5 N5=>?_
     refine MW.ak 75 rfl hs hd rfl (MW.ab_want rfl H70 (zN N5 S4) rfl) fun _ hs hd S6 N6=>?_
     refine MW.ak 76 rfl hs hd rfl (MW.ab_want rfl H70 (zN N6 (zN N5 S4)) rfl) fun _ hs hd S7 N7=>?_
     refine MW.ak 77 rfl hs hd rfl (MW.ab_undef rfl H73 S7) fun _ hs hd S8 N8=>?_
     refine MW.ak 78 rfl hs hd rfl (MW.ab_undef rfl H73 (zN N8 S7)) fun _ hs hd S9 N9=>?_
     refine MW.ak 79 rfl hs hd rfl (MW.ab_want rfl H70 (zN N9 (zN N8 (zN N7 (zN N6 (zN N5 S4))))) rfl) fun _ hs hd S10 N10=>?_
     refine MW.ad 80 (.bool true) rfl hs hd rfl rfl (MW.ab_pick_t rfl (zN N10 (zN N9 (zN N8 (zN N7 (zN N6 (zN N5 S4)))))) rfl) fun _ hs hd S11 N11=>?_
     exact wpList_nil (hK_ _ _ (Stop.go ⟨true,Eq.trans (by first|rfl|(rw[if_pos c36];rfl)|(simp[*];done)) hE34.out.symm,hs,hd,(zN N11 (zN N10 (zN N9 (zN N8 (zN N7 (zN N6 (zN N5 (zN N4 (zN N3 (zN N2 (zN N1 (zN N0 ep8)))))))))))),S11,rfl⟩))
    by_cases c37:a0≥910
    ·refine MW.ad 69 (.bool false) rfl hs hd rfl rfl (MW.ab_move rfl es8) fun _ hs hd S0 N0=>?_
     refine MW.ad 70 (.int .i32 a0) rfl hs hd rfl (MW.ab_want rfl H66 S0 rfl) (MW.ab_move rfl (zN N0 ep8)) fun _ hs hd S1 N1=>?_
     refine MW.ad 71 (.bool false) rfl hs hd rfl (MW.ab_want rfl H66 (zN N1 S0) rfl) (MW.ab_cmp_f c36 rfl S1 (by kernel_rfl)) fun _ hs hd S2 N2=>?_
     refine MW.ad 72 (.bool false) rfl hs hd rfl rfl (MW.ab_pick_f rfl (zN N2 (zN N1 S0)) S2) fun _ hs hd S3 N3=>?_
     refine MW.ad 73 (.bool false) rfl hs hd rfl rfl (MW.ab_move rfl S3) fun _ hs hd S4 N4=>?_
     refine MW.ad 74 (.int .i32 a0) rfl hs hd rfl (MW.ab_want rfl H70 S4 rfl) (MW.ab_move rfl (zN N4 (zN N3 (zN N2 (zN N1 (zN N0 ep8)))))) fun _ hs hd S5 N5=>?_
     refine MW.ad 75 (.bool true) rfl hs hd rfl (MW.ab_want rfl H70 (zN N5 S4) rfl) (MW.ab_cmp_t c37 rfl S5 (by kernel_rfl)) fun _ hs hd S6 N6=>?_
     refine MW.ad 76 (.bool true) rfl hs hd rfl (MW.ab_want rfl H70 (zN N6 (zN N5 S4)) rfl) (MW.ab_move rfl S6) fun _ hs hd S7 N7=>?_
     refine MW.ad 77 (.int .i32 a0) rfl hs hd rfl (MW.ab_want rfl H73 S7 rfl) (MW.ab_move rfl (zN N7 (zN N6 (zN N5 (zN N4 (zN N3 (zN N2 (zN N1 (zN N0 ep8))))))))) fun _ hs hd S8 N8=>?_
     refine MW.ad 78 (.bool (decide (a0≤929))) rfl hs hd rfl (MW.ab_want rfl H73 (zN N8 S7) rfl) (MW.ab_bin rfl S8 (by kernel_rfl)) fun _ hs hd S9 N9=>?_
     refine MW.ad 79 (.bool (decide (a0≤929))) rfl hs hd rfl (MW.ab_want rfl H70 (zN N9 (zN N8 (zN N7 (zN N6 (zN N5 S4))))) rfl) (MW.ab_pick_t rfl (zN N9 (zN N8 S7)) S9) fun _ hs hd S10 N10=>?_
     refine MW.ad 80 (.bool (decide (a0≤929))) rfl hs hd rfl rfl (MW.ab_pick_f rfl (zN N10 (zN N9 (zN N8 (zN N7 (zN N6 (zN N5 S4)))))) S10) fun _ hs hd S11 N11=>?_
     exact wpList_nil (hK_ _ _ (Stop.go ⟨(decide (a0≤929)),Eq.trans (by first|rfl|(rw[if_neg c36,if_pos c37];rfl)|(simp[*];done)) hE34.out.symm,hs,hd,(zN N11 (zN N10 (zN N9 (zN N8 (zN N7 (zN N6 (zN N5 (zN N4 (zN N3 (zN N2 (zN N1 (zN N0 ep8)))))))))))),S11,rfl⟩))
    refine MW.ad 69 (.bool false) rfl hs hd rfl rfl (MW.ab_move rfl es8) fun _ hs hd S0 N0=>?_
    refine MW.ad 70 (.int .i32 a0) rfl hs hd rfl (MW.ab_want rfl H66 S0 rfl) (MW.ab_move rfl (zN N0 ep8)) fun _ hs hd S1 N1=>?_
    refine MW.ad 71 (.bool false) rfl hs hd rfl (MW.ab_want rfl H66 (zN N1 S0) rfl) (MW.ab_cmp_f c36 rfl S1 (by kernel_rfl)) fun _ hs hd S2 N2=>?_
    refine MW.ad 72 (.bool false) rfl hs hd rfl rfl (MW.ab_pick_f rfl (zN N2 (zN N1 S0)) S2) fun _ hs hd S3 N3=>?_
    refine MW.ad 73 (.bool false) rfl hs hd rfl rfl (MW.ab_move rfl S3) fun _ hs hd S4 N4=>?_
    refine MW.ad 74 (.int .i32 a0) rfl hs hd rfl (MW.ab_want rfl H70 S4 rfl) (MW.ab_move rfl (zN N4 (zN N3 (zN N2 (zN N1 (zN N0 ep8)))))) fun _ hs hd S5 N5=>?_
    refine MW.ad 75 (.bool false) rfl hs hd rfl (MW.ab_want rfl H70 (zN N5 S4) rfl) (MW.ab_cmp_f c37 rfl S5 (by kernel_rfl)) fun _ hs hd S6 N6=>?_
    refine MW.ad 76 (.bool false) rfl hs hd rfl (MW.ab_want rfl H70 (zN N6 (zN N5 S4)) rfl) (MW.ab_move rfl S6) fun _ hs hd S7 N7=>?_
    refine MW.ak 77 rfl hs hd rfl (MW.ab_want rfl H73 S7 rfl) fun _ hs hd S8 N8=>?_
    refine MW.ak 78 rfl hs hd rfl (MW.ab_want rfl H73 (zN N8 S7) rfl) fun _ hs hd S9 N9=>?_
    refine MW.ad 79 (.bool false) rfl hs hd rfl (MW.ab_want rfl H70 (zN N9 (zN N8 (zN N7 (zN N6 (zN N5 S4))))) rfl) (MW.ab_pick_f rfl (zN N9 (zN N8 S7)) rfl) fun _ hs hd S10 N10=>?_
    refine MW.ad 80 (.bool false) rfl hs hd rfl rfl (MW.ab_pick_f rfl (zN N10 (zN N9 (zN N8 (zN N7 (zN N6 (zN N5 S4)))))) S10) fun _ hs hd S11 N11=>?_
    exact wpList_nil (hK_ _ _ (Stop.go ⟨false,Eq.trans (by first|rfl|(rw[if_neg c36,if_neg c37];rfl)|(simp[*];done)) hE34.out.symm,hs,hd,(zN N11 (zN N10 (zN N9 (zN N8 (zN N7 (zN N6 (zN N5 (zN N4 (zN N3 (zN N2 (zN N1 (zN N0 ep8)))))))))))),S11,rfl⟩))
   case rest=>
    clear hs hd ep8 es8
    obtain⟨b33,hb_,hs,hd,ep9,es9,rfl⟩:=hc_
    simp only[List.drop_succ_cons,List.drop_zero,List.drop_nil]
    have H:=MW.bind_step HH.out (hb_.trans hE34.out)
    replace HH:=za H
    clear H hb_ hE34
    obtain⟨E39,hE39⟩:∃ e_:Bool,e_=(if b33=true then(true) else(if a0≥931 then((decide (a0≤974))) else(false))):=⟨_,rfl⟩
    replace hE39:=za hE39
    refine MW.list_cut 8 (fun a_ w_=>∃ b_:Bool,b_=E39∧a_.tmps.size=213∧a_.defers=[]∧a_.eval (.tmp 0)=.int .i32 a0∧a_.eval (.tmp 88)=.bool b_∧w=w_) (fun K_ hK_=>?seg) (fun af10 w_ hc_=>?rest)
    case seg=>
     simp only[List.take_succ_cons,List.take_zero,List.take_nil]
     clear HH
     by_cases c40:b33=true
     ·subst c40
      refine MW.ad 81 (.bool true) rfl hs hd rfl rfl (MW.ab_move rfl es9) fun _ hs hd S0 N0=>?_
      refine MW.ak 82 rfl hs hd rfl (MW.ab_want rfl H78 S0 rfl) fun _ hs hd S1 N1=>?_
      refine MW.ak 83 rfl hs hd rfl (MW.ab_want rfl H78 (zN N1 S0) rfl) fun _ hs hd S2 N2=>?_
      refine MW.ak 84 rfl hs hd rfl (MW.ab_want rfl H78 (zN N2 (zN N1 S0)) rfl) fun _ hs hd S3 N3=>?_
      refine MW.ak 85 rfl hs hd rfl (MW.ab_undef rfl H81 S3) fun _ hs hd S4 N4=>?_
      refine MW.ak 86 rfl hs hd rfl (MW.ab_undef rfl H81 (zN N4 S3)) fun _ hs hd S5 N5=>?_
      refine MW.ak 87 rfl hs hd rfl (MW.ab_want rfl H78 (zN N5 (zN N4 (zN N3 (zN N2 (zN N1 S0))))) rfl) fun _ hs hd S6 N6=>?_
      refine MW.ad 88 (.bool true) rfl hs hd rfl rfl (MW.ab_pick_t rfl (zN N6 (zN N5 (zN N4 (zN N3 (zN N2 (zN N1 S0)))))) rfl) fun _ hs hd S7 N7=>?_
      exact wpList_nil (hK_ _ _ (Stop.go ⟨true,Eq.trans (by first|rfl|(rw[];rfl)|(simp[*];done)) hE39.out.symm,hs,hd,(zN N7 (zN N6 (zN N5 (zN N4 (zN N3 (zN N2 (zN N1 (zN N0 ep9)))))))),S7,rfl⟩))
     replace c40:=Bool.eq_false_iff.mpr c40
     subst c40
     by_cases c41:a0≥931
     ·refine MW.ad 81 (.bool false) rfl hs hd rfl rfl (MW.ab_move rfl es9) fun _ hs hd S0 N0=>?_
      refine MW.ad 82 (.int .i32 a0) rfl hs hd rfl (MW.ab_want rfl H78 S0 rfl) (MW.ab_move rfl (zN N0 ep9)) fun _ hs hd S1 N1=>?_
      refine MW.ad 83 (.bool true) rfl hs hd rfl (MW.ab_want rfl H78 (zN N1 S0) rfl) (MW.ab_cmp_t c41 rfl S1 (by kernel_rfl)) fun _ hs hd S2 N2=>?_
      refine MW.ad 84 (.bool true) rfl hs hd rfl (MW.ab_want rfl H78 (zN N2 (zN N1 S0)) rfl) (MW.ab_move rfl S2) fun _ hs hd S3 N3=>?_
      refine MW.ad 85 (.int .i32 a0) rfl hs hd rfl (MW.ab_want rfl H81 S3 rfl) (MW.ab_move rfl (zN N3 (zN N2 (zN N1 (zN N0 ep9))))) fun _ hs hd S4 N4=>?_
      refine MW.ad 86 (.bool (decide (a0≤974))) rfl hs hd rfl (MW.ab_want rfl H81 (zN N4 S3) rfl) (MW.ab_bin rfl S4 (by kernel_rfl)) fun _ hs hd S5 N5=>?_
      refine MW.ad 87 (.bool (decide (a0≤974))) rfl hs hd rfl (MW.ab_want rfl H78 (zN N5 (zN N4 (zN N3 (zN N2 (zN N1 S0))))) rfl) (MW.ab_pick_t rfl (zN N5 (zN N4 S3)) S5) fun _ hs hd S6 N6=>?_
      refine MW.ad 88 (.bool (decide (a0≤974))) rfl hs hd rfl rfl (MW.ab_pick_f rfl (zN N6 (zN N5 (zN N4 (zN N3 (zN N2 (zN N1 S0)))))) S6) fun _ hs hd S7 N7=>?_
      exact wpList_nil (hK_ _ _ (Stop.go ⟨(decide (a0≤974)),Eq.trans (by first|rfl|(rw[if_pos c41];rfl)|(simp[*];done)) hE39.out.symm,hs,hd,(zN N7 (zN N6 (zN N5 (zN N4 (zN N3 (zN N2 (zN N1 (zN N0 ep9)))))))),S7,rfl⟩))
     refine MW.ad 81 (.bool false) rfl hs hd rfl rfl (MW.ab_move rfl es9) fun _ hs hd S0 N0=>?_
     refine MW.ad 82 (.int .i32 a0) rfl hs hd rfl (MW.ab_want rfl H78 S0 rfl) (MW.ab_move rfl (zN N0 ep9)) fun _ hs hd S1 N1=>?_
     refine MW.ad 83 (.bool false) rfl hs hd rfl (MW.ab_want rfl H78 (zN N1 S0) rfl) (MW.ab_cmp_f c41 rfl S1 (by kernel_rfl)) fun _ hs hd S2 N2=>?_
     refine MW.ad 84 (.bool false) rfl hs hd rfl (MW.ab_want rfl H78 (zN N2 (zN N1 S0)) rfl) (MW.ab_move rfl S2) fun _ hs hd S3 N3=>?_
     refine MW.ak 85 rfl hs hd rfl (MW.ab_want rfl H81 S3 rfl) fun _ hs hd S4 N4=>?_
     refine MW.ak 86 rfl hs hd rfl (MW.ab_want rfl H81 (zN N4 S3) rfl) fun _ hs hd S5 N5=>?_
     refine MW.ad 87 (.bool false) rfl hs hd rfl (MW.ab_want rfl H78 (zN N5 (zN N4 (zN N3 (zN N2 (zN N1 S0))))) rfl) (MW.ab_pick_f rfl (zN N5 (zN N4 S3)) rfl) fun _ hs hd S6 N6=>?_
     refine MW.ad 88 (.bool false) rfl hs hd rfl rfl (MW.ab_pick_f rfl (zN N6 (zN N5 (zN N4 (zN N3 (zN N2 (zN N1 S0)))))) S6) fun _ hs hd S7 N7=>?_
     exact wpList_nil (hK_ _ _ (Stop.go ⟨false,Eq.trans (by first|rfl|(rw[if_neg c41];rfl)|(simp[*];done)) hE39.out.symm,hs,hd,(zN N7 (zN N6 (zN N5 (zN N4 (zN N3 (zN N2 (zN N1 (zN N0 ep9)))))))),S7,rfl⟩))
    case rest=>
     clear hs hd ep9 es9
     obtain⟨b38,hb_,hs,hd,ep10,es10,rfl⟩:=hc_
     simp only[List.drop_succ_cons,List.drop_zero,List.drop_nil]
     have H:=MW.bind_step HH.out (hb_.trans hE39.out)
     replace HH:=za H
     clear H hb_ hE39
     obtain⟨E43,hE43⟩:∃ e_:Bool,e_=(if b38=true then(true) else(if a0=1025 then(true) else(if a0≥1040 then((decide (a0≤1103))) else(false)))):=⟨_,rfl⟩
     replace hE43:=za hE43
     refine MW.list_cut 12 (fun a_ w_=>∃ b_:Bool,b_=E43∧a_.tmps.size=213∧a_.defers=[]∧a_.eval (.tmp 0)=.int .i32 a0∧a_.eval (.tmp 100)=.bool b_∧w=w_) (fun K_ hK_=>?seg) (fun af11 w_ hc_=>?rest)
     case seg=>
      simp only[List.take_succ_cons,List.take_zero,List.take_nil]
      clear HH
      by_cases c44:b38=true
      ·subst c44
       refine MW.ad 89 (.bool true) rfl hs hd rfl rfl (MW.ab_move rfl es10) fun _ hs hd S0 N0=>?_
       refine MW.ak 90 rfl hs hd rfl (MW.ab_want rfl H86 S0 rfl) fun _ hs hd S1 N1=>?_
       refine MW.ak 91 rfl hs hd rfl (MW.ab_want rfl H86 (zN N1 S0) rfl) fun _ hs hd S2 N2=>?_
       refine MW.ad 92 (.bool true) rfl hs hd rfl rfl (MW.ab_pick_t rfl (zN N2 (zN N1 S0)) rfl) fun _ hs hd S3 N3=>?_
       refine MW.ad 93 (.bool true) rfl hs hd rfl rfl (MW.ab_move rfl S3) fun _ hs hd S4 N4=>?_
       refine MW.ak 94 rfl hs hd rfl (MW.ab_want rfl H90 S4 rfl) fun _ hs hd S5 N5=>?_
       refine MW.ak 95 rfl hs hd rfl (MW.ab_want rfl H90 (zN N5 S4) rfl) fun _ hs hd S6 N6=>?_
       refine MW.ak 96 rfl hs hd rfl (MW.ab_want rfl H90 (zN N6 (zN N5 S4)) rfl) fun _ hs hd S7 N7=>?_
       refine MW.ak 97 rfl hs hd rfl (MW.ab_undef rfl H93 S7) fun _ hs hd S8 N8=>?_
       refine MW.ak 98 rfl hs hd rfl (MW.ab_undef rfl H93 (zN N8 S7)) fun _ hs hd S9 N9=>?_
       refine MW.ak 99 rfl hs hd rfl (MW.ab_want rfl H90 (zN N9 (zN N8 (zN N7 (zN N6 (zN N5 S4))))) rfl) fun _ hs hd S10 N10=>?_
       refine MW.ad 100 (.bool true) rfl hs hd rfl rfl (MW.ab_pick_t rfl (zN N10 (zN N9 (zN N8 (zN N7 (zN N6 (zN N5 S4)))))) rfl) fun _ hs hd S11 N11=>?_
       exact wpList_nil (hK_ _ _ (Stop.go ⟨true,Eq.trans (by first|rfl|(rw[];rfl)|(simp[*];done)) hE43.out.symm,hs,hd,(zN N11 (zN N10 (zN N9 (zN N8 (zN N7 (zN N6 (zN N5 (zN N4 (zN N3 (zN N2 (zN N1 (zN N0 ep10)))))))))))),S11,rfl⟩))
      replace c44:=Bool.eq_false_iff.mpr c44
      subst c44
      by_cases c45:a0=1025
      ·refine MW.ad 89 (.bool false) rfl hs hd rfl rfl (MW.ab_move rfl es10) fun _ hs hd S0 N0=>?_
       refine MW.ad 90 (.int .i32 a0) rfl hs hd rfl (MW.ab_want rfl H86 S0 rfl) (MW.ab_move rfl (zN N0 ep10)) fun _ hs hd S1 N1=>?_
       refine MW.ad 91 (.bool true) rfl hs hd rfl (MW.ab_want rfl H86 (zN N1 S0) rfl) (MW.ab_cmp_t c45 rfl S1 (by kernel_rfl)) fun _ hs hd S2 N2=>?_
       refine MW.ad 92 (.bool true) rfl hs hd rfl rfl (MW.ab_pick_f rfl (zN N2 (zN N1 S0)) S2) fun _ hs hd S3 N3=>?_
       refine MW.ad 93 (.bool true) rfl hs hd rfl rfl (MW.ab_move rfl S3) fun _ hs hd S4 N4=>?_
       refine MW.ak 94 rfl hs hd rfl (MW.ab_want rfl H90 S4 rfl) fun _ hs hd S5 N5=>?_
       refine MW.ak 95 rfl hs hd rfl (MW.ab_want rfl H90 (zN N5 S4) rfl) fun _ hs hd S6 N6=>?_
       refine MW.ak 96 rfl hs hd rfl (MW.ab_want rfl H90 (zN N6 (zN N5 S4)) rfl) fun _ hs hd S7 N7=>?_
       refine MW.ak 97 rfl hs hd rfl (MW.ab_undef rfl H93 S7) fun _ hs hd S8 N8=>?_
       refine MW.ak 98 rfl hs hd rfl (MW.ab_undef rfl H93 (zN N8 S7)) fun _ hs hd S9 N9=>?_
       refine MW.ak 99 rfl hs hd rfl (MW.ab_want rfl H90 (zN N9 (zN N8 (zN N7 (zN N6 (zN N5 S4))))) rfl) fun _ hs hd S10 N10=>?_
       refine MW.ad 100 (.bool true) rfl hs hd rfl rfl (MW.ab_pick_t rfl (zN N10 (zN N9 (zN N8 (zN N7 (zN N6 (zN N5 S4)))))) rfl) fun _ hs hd S11 N11=>?_
       exact wpList_nil (hK_ _ _ (Stop.go ⟨true,Eq.trans (by first|rfl|(rw[if_pos c45];rfl)|(simp[*];done)) hE43.out.symm,hs,hd,(zN N11 (zN N10 (zN N9 (zN N8 (zN N7 (zN N6 (zN N5 (zN N4 (zN N3 (zN N2 (zN N1 (zN N0 ep10)))))))))))),S11,rfl⟩))
      by_cases c46:a0≥1040
      ·refine MW.ad 89 (.bool false) rfl hs hd rfl rfl (MW.ab_move rfl es10) fun _ hs hd S0 N0=>?_
       refine MW.ad 90 (.int .i32 a0) rfl hs hd rfl (MW.ab_want rfl H86 S0 rfl) (MW.ab_move rfl (zN N0 ep10)) fun _ hs hd S1 N1=>?_
       refine MW.ad 91 (.bool false) rfl hs hd rfl (MW.ab_want rfl H86 (zN N1 S0) rfl) (MW.ab_cmp_f c45 rfl S1 (by kernel_rfl)) fun _ hs hd S2 N2=>?_
       refine MW.ad 92 (.bool false) rfl hs hd rfl rfl (MW.ab_pick_f rfl (zN N2 (zN N1 S0)) S2) fun _ hs hd S3 N3=>?_
       refine MW.ad 93 (.bool false) rfl hs hd rfl rfl (MW.ab_move rfl S3) fun _ hs hd S4 N4=>?_
       refine MW.ad 94 (.int .i32 a0) rfl hs hd rfl (MW.ab_want rfl H90 S4 rfl) (MW.ab_move rfl (zN N4 (zN N3 (zN N2 (zN N1 (zN N0 ep10)))))) fun _ hs hd S5 N5=>?_
       refine MW.ad 95 (.bool true) rfl hs hd rfl (MW.ab_want rfl H90 (zN N5 S4) rfl) (MW.ab_cmp_t c46 rfl S5 (by kernel_rfl)) fun _ hs hd S6 N6=>?_
       refine MW.ad 96 (.bool true) rfl hs hd rfl (MW.ab_want rfl H90 (zN N6 (zN N5 S4)) rfl) (MW.ab_move rfl S6) fun _ hs hd S7 N7=>?_
       refine MW.ad 97 (.int .i32 a0) rfl hs hd rfl (MW.ab_want rfl H93 S7 rfl) (MW.ab_move rfl (zN N7 (zN N6 (zN N5 (zN N4 (zN N3 (zN N2 (zN N1 (zN N0 ep10))))))))) fun _ hs hd S8 N8=>?_
       refine MW.ad 98 (.bool (decide (a0≤1103))) rfl hs hd rfl (MW.ab_want rfl H93 (zN N8 S7) rfl) (MW.ab_bin rfl S8 (by kernel_rfl)) fun _ hs hd S9 N9=>?_
       refine MW.ad 99 (.bool (decide (a0≤1103))) rfl hs hd rfl (MW.ab_want rfl H90 (zN N9 (zN N8 (zN N7 (zN N6 (zN N5 S4))))) rfl) (MW.ab_pick_t rfl (zN N9 (zN N8 S7)) S9) fun _ hs hd S10 N10=>?_
       refine MW.ad 100 (.bool (decide (a0≤1103))) rfl hs hd rfl rfl (MW.ab_pick_f rfl (zN N10 (zN N9 (zN N8 (zN N7 (zN N6 (zN N5 S4)))))) S10) fun _ hs hd S11 N11=>?_
       exact wpList_nil (hK_ _ _ (Stop.go ⟨(decide (a0≤1103)),Eq.trans (by first|rfl|(rw[if_neg c45,if_pos c46];rfl)|(simp[*];done)) hE43.out.symm,hs,hd,(zN N11 (zN N10 (zN N9 (zN N8 (zN N7 (zN N6 (zN N5 (zN N4 (zN N3 (zN N2 (zN N1 (zN N0 ep10)))))))))))),S11,rfl⟩))
      refine MW.ad 89 (.bool false) rfl hs hd rfl rfl (MW.ab_move rfl es10) fun _ hs hd S0 N0=>?_
      refine MW.ad 90 (.int .i32 a0) rfl hs hd rfl (MW.ab_want rfl H86 S0 rfl) (MW.ab_move rfl (zN N0 ep10)) fun _ hs hd S1 N1=>?_
      refine MW.ad 91 (.bool false) rfl hs hd rfl (MW.ab_want rfl H86 (zN N1 S0) rfl) (MW.ab_cmp_f c45 rfl S1 (by kernel_rfl)) fun _ hs hd S2 N2=>?_
      refine MW.ad 92 (.bool false) rfl hs hd rfl rfl (MW.ab_pick_f rfl (zN N2 (zN N1 S0)) S2) fun _ hs hd S3 N3=>?_
      refine MW.ad 93 (.bool false) rfl hs hd rfl rfl (MW.ab_move rfl S3) fun _ hs hd S4 N4=>?_
      refine MW.ad 94 (.int .i32 a0) rfl hs hd rfl (MW.ab_want rfl H90 S4 rfl) (MW.ab_move rfl (zN N4 (zN N3 (zN N2 (zN N1 (zN N0 ep10)))))) fun _ hs hd S5 N5=>?_
      refine MW.ad 95 (.bool false) rfl hs hd rfl (MW.ab_want rfl H90 (zN N5 S4) rfl) (MW.ab_cmp_f c46 rfl S5 (by kernel_rfl)) fun _ hs hd S6 N6=>?_
      refine MW.ad 96 (.bool false) rfl hs hd rfl (MW.ab_want rfl H90 (zN N6 (zN N5 S4)) rfl) (MW.ab_move rfl S6) fun _ hs hd S7 N7=>?_
      refine MW.ak 97 rfl hs hd rfl (MW.ab_want rfl H93 S7 rfl) fun _ hs hd S8 N8=>?_
      refine MW.ak 98 rfl hs hd rfl (MW.ab_want rfl H93 (zN N8 S7) rfl) fun _ hs hd S9 N9=>?_
      refine MW.ad 99 (.bool false) rfl hs hd rfl (MW.ab_want rfl H90 (zN N9 (zN N8 (zN N7 (zN N6 (zN N5 S4))))) rfl) (MW.ab_pick_f rfl (zN N9 (zN N8 S7)) rfl) fun _ hs hd S10 N10=>?_
      refine MW.ad 100 (.bool false) rfl hs hd rfl rfl (MW.ab_pick_f rfl (zN N10 (zN N9 (zN N8 (zN N7 (zN N6 (zN N5 S4)))))) S10) fun _ hs hd S11 N11=>?_
      exact wpList_nil (hK_ _ _ (Stop.go ⟨false,Eq.trans (by first|rfl|(rw[if_neg c45,if_neg c46];rfl)|(simp[*];done)) hE43.out.symm,hs,hd,(zN N11 (zN N10 (zN N9 (zN N8 (zN N7 (zN N6 (zN N5 (zN N4 (zN N3 (zN N2 (zN N1 (zN N0 ep10)))))))))))),S11,rfl⟩))
     case rest=>
      clear hs hd ep10 es10
      obtain⟨b42,hb_,hs,hd,ep11,es11,rfl⟩:=hc_
      simp only[List.drop_succ_cons,List.drop_zero,List.drop_nil]
      have H:=MW.bind_step HH.out (hb_.trans hE43.out)
      replace HH:=za H
      clear H hb_ hE43
      obtain⟨E48,hE48⟩:∃ e_:Bool,e_=(if b42=true then(true) else(if a0=1105 then(true) else(if a0≥1488 then((decide (a0≤1514))) else(false)))):=⟨_,rfl⟩
      replace hE48:=za hE48
      refine MW.list_cut 12 (fun a_ w_=>∃ b_:Bool,b_=E48∧a_.tmps.size=213∧a_.defers=[]∧a_.eval (.tmp 0)=.int .i32 a0∧a_.eval (.tmp 112)=.bool b_∧w=w_) (fun K_ hK_=>?seg) (fun af12 w_ hc_=>?rest)
      case seg=>
       simp only[List.take_succ_cons,List.take_zero,List.take_nil]
       clear HH
       by_cases c49:b42=true
       ·subst c49
        refine MW.ad 101 (.bool true) rfl hs hd rfl rfl (MW.ab_move rfl es11) fun _ hs hd S0 N0=>?_
        refine MW.ak 102 rfl hs hd rfl (MW.ab_want rfl H98 S0 rfl) fun _ hs hd S1 N1=>?_
        refine MW.ak 103 rfl hs hd rfl (MW.ab_want rfl H98 (zN N1 S0) rfl) fun _ hs hd S2 N2=>?_
        refine MW.ad 104 (.bool true) rfl hs hd rfl rfl (MW.ab_pick_t rfl (zN N2 (zN N1 S0)) rfl) fun _ hs hd S3 N3=>?_
        refine MW.ad 105 (.bool true) rfl hs hd rfl rfl (MW.ab_move rfl S3) fun _ hs hd S4 N4=>?_
        refine MW.ak 106 rfl hs hd rfl (MW.ab_want rfl H102 S4 rfl) fun _ hs hd S5 N5=>?_
        refine MW.ak 107 rfl hs hd rfl (MW.ab_want rfl H102 (zN N5 S4) rfl) fun _ hs hd S6 N6=>?_
        refine MW.ak 108 rfl hs hd rfl (MW.ab_want rfl H102 (zN N6 (zN N5 S4)) rfl) fun _ hs hd S7 N7=>?_
        refine MW.ak 109 rfl hs hd rfl (MW.ab_undef rfl H105 S7) fun _ hs hd S8 N8=>?_
        refine MW.ak 110 rfl hs hd rfl (MW.ab_undef rfl H105 (zN N8 S7)) fun _ hs hd S9 N9=>?_
        refine MW.ak 111 rfl hs hd rfl (MW.ab_want rfl H102 (zN N9 (zN N8 (zN N7 (zN N6 (zN N5 S4))))) rfl) fun _ hs hd S10 N10=>?_
        refine MW.ad 112 (.bool true) rfl hs hd rfl rfl (MW.ab_pick_t rfl (zN N10 (zN N9 (zN N8 (zN N7 (zN N6 (zN N5 S4)))))) rfl) fun _ hs hd S11 N11=>?_
        exact wpList_nil (hK_ _ _ (Stop.go ⟨true,Eq.trans (by first|rfl|(rw[];rfl)|(simp[*];done)) hE48.out.symm,hs,hd,(zN N11 (zN N10 (zN N9 (zN N8 (zN N7 (zN N6 (zN N5 (zN N4 (zN N3 (zN N2 (zN N1 (zN N0 ep11)))))))))))),S11,rfl⟩))
       replace c49:=Bool.eq_false_iff.mpr c49
       subst c49
       by_cases c50:a0=1105
       ·refine MW.ad 101 (.bool false) rfl hs hd rfl rfl (MW.ab_move rfl es11) fun _ hs hd S0 N0=>?_
        refine MW.ad 102 (.int .i32 a0) rfl hs hd rfl (MW.ab_want rfl H98 S0 rfl) (MW.ab_move rfl (zN N0 ep11)) fun _ hs hd S1 N1=>?_
        refine MW.ad 103 (.bool true) rfl hs hd rfl (MW.ab_want rfl H98 (zN N1 S0) rfl) (MW.ab_cmp_t c50 rfl S1 (by kernel_rfl)) fun _ hs hd S2 N2=>?_
        refine MW.ad 104 (.bool true) rfl hs hd rfl rfl (MW.ab_pick_f rfl (zN N2 (zN N1 S0)) S2) fun _ hs hd S3 N3=>?_
        refine MW.ad 105 (.bool true) rfl hs hd rfl rfl (MW.ab_move rfl S3) fun _ hs hd S4 N4=>?_
        refine MW.ak 106 rfl hs hd rfl (MW.ab_want rfl H102 S4 rfl) fun _ hs hd S5 N5=>?_
        refine MW.ak 107 rfl hs hd rfl (MW.ab_want rfl H102 (zN N5 S4) rfl) fun _ hs hd S6 N6=>?_
        refine MW.ak 108 rfl hs hd rfl (MW.ab_want rfl H102 (zN N6 (zN N5 S4)) rfl) fun _ hs hd S7 N7=>?_
        refine MW.ak 109 rfl hs hd rfl (MW.ab_undef rfl H105 S7) fun _ hs hd S8 N8=>?_
        refine MW.ak 110 rfl hs hd rfl (MW.ab_undef rfl H105 (zN N8 S7)) fun _ hs hd S9 N9=>?_
        refine MW.ak 111 rfl hs hd rfl (MW.ab_want rfl H102 (zN N9 (zN N8 (zN N7 (zN N6 (zN N5 S4))))) rfl) fun _ hs hd S10 N10=>?_
        refine MW.ad 112 (.bool true) rfl hs hd rfl rfl (MW.ab_pick_t rfl (zN N10 (zN N9 (zN N8 (zN N7 (zN N6 (zN N5 S4)))))) rfl) fun _ hs hd S11 N11=>?_
        exact wpList_nil (hK_ _ _ (Stop.go ⟨true,Eq.trans (by first|rfl|(rw[if_pos c50];rfl)|(simp[*];done)) hE48.out.symm,hs,hd,(zN N11 (zN N10 (zN N9 (zN N8 (zN N7 (zN N6 (zN N5 (zN N4 (zN N3 (zN N2 (zN N1 (zN N0 ep11)))))))))))),S11,rfl⟩))
       by_cases c51:a0≥1488
       ·refine MW.ad 101 (.bool false) rfl hs hd rfl rfl (MW.ab_move rfl es11) fun _ hs hd S0 N0=>?_
        refine MW.ad 102 (.int .i32 a0) rfl hs hd rfl (MW.ab_want rfl H98 S0 rfl) (MW.ab_move rfl (zN N0 ep11)) fun _ hs hd S1 N1=>?_
        refine MW.ad 103 (.bool false) rfl hs hd rfl (MW.ab_want rfl H98 (zN N1 S0) rfl) (MW.ab_cmp_f c50 rfl S1 (by kernel_rfl)) fun _ hs hd S2 N2=>?_
        refine MW.ad 104 (.bool false) rfl hs hd rfl rfl (MW.ab_pick_f rfl (zN N2 (zN N1 S0)) S2) fun _ hs hd S3 N3=>?_
        refine MW.ad 105 (.bool false) rfl hs hd rfl rfl (MW.ab_move rfl S3) fun _ hs hd S4 N4=>?_
        refine MW.ad 106 (.int .i32 a0) rfl hs hd rfl (MW.ab_want rfl H102 S4 rfl) (MW.ab_move rfl (zN N4 (zN N3 (zN N2 (zN N1 (zN N0 ep11)))))) fun _ hs hd S5 N5=>?_
        refine MW.ad 107 (.bool true) rfl hs hd rfl (MW.ab_want rfl H102 (zN N5 S4) rfl) (MW.ab_cmp_t c51 rfl S5 (by kernel_rfl)) fun _ hs hd S6 N6=>?_
        refine MW.ad 108 (.bool true) rfl hs hd rfl (MW.ab_want rfl H102 (zN N6 (zN N5 S4)) rfl) (MW.ab_move rfl S6) fun _ hs hd S7 N7=>?_
        refine MW.ad 109 (.int .i32 a0) rfl hs hd rfl (MW.ab_want rfl H105 S7 rfl) (MW.ab_move rfl (zN N7 (zN N6 (zN N5 (zN N4 (zN N3 (zN N2 (zN N1 (zN N0 ep11))))))))) fun _ hs hd S8 N8=>?_
        refine MW.ad 110 (.bool (decide (a0≤1514))) rfl hs hd rfl (MW.ab_want rfl H105 (zN N8 S7) rfl) (MW.ab_bin rfl S8 (by kernel_rfl)) fun _ hs hd S9 N9=>?_
        refine MW.ad 111 (.bool (decide (a0≤1514))) rfl hs hd rfl (MW.ab_want rfl H102 (zN N9 (zN N8 (zN N7 (zN N6 (zN N5 S4))))) rfl) (MW.ab_pick_t rfl (zN N9 (zN N8 S7)) S9) fun _ hs hd S10 N10=>?_
        refine MW.ad 112 (.bool (decide (a0≤1514))) rfl hs hd rfl rfl (MW.ab_pick_f rfl (zN N10 (zN N9 (zN N8 (zN N7 (zN N6 (zN N5 S4)))))) S10) fun _ hs hd S11 N11=>?_
        exact wpList_nil (hK_ _ _ (Stop.go ⟨(decide (a0≤1514)),Eq.trans (by first|rfl|(rw[if_neg c50,if_pos c51];rfl)|(simp[*];done)) hE48.out.symm,hs,hd,(zN N11 (zN N10 (zN N9 (zN N8 (zN N7 (zN N6 (zN N5 (zN N4 (zN N3 (zN N2 (zN N1 (zN N0 ep11)))))))))))),S11,rfl⟩))
       refine MW.ad 101 (.bool false) rfl hs hd rfl rfl (MW.ab_move rfl es11) fun _ hs hd S0 N0=>?_
       refine MW.ad 102 (.int .i32 a0) rfl hs hd rfl (MW.ab_want rfl H98 S0 rfl) (MW.ab_move rfl (zN N0 ep11)) fun _ hs hd S1 N1=>?_
       refine MW.ad 103 (.bool false) rfl hs hd rfl (MW.ab_want rfl H98 (zN N1 S0) rfl) (MW.ab_cmp_f c50 rfl S1 (by kernel_rfl)) fun _ hs hd S2 N2=>?_
       refine MW.ad 104 (.bool false) rfl hs hd rfl rfl (MW.ab_pick_f rfl (zN N2 (zN N1 S0)) S2) fun _ hs hd S3 N3=>?_
       refine MW.ad 105 (.bool false) rfl hs hd rfl rfl (MW.ab_move rfl S3) fun _ hs hd S4 N4=>?_
       refine MW.ad 106 (.int .i32 a0) rfl hs hd rfl (MW.ab_want rfl H102 S4 rfl) (MW.ab_move rfl (zN N4 (zN N3 (zN N2 (zN N1 (zN N0 ep11)))))) fun _ hs hd S5 N5=>?_
       refine MW.ad 107 (.bool false) rfl hs hd rfl (MW.ab_want rfl H102 (zN N5 S4) rfl) (MW.ab_cmp_f c51 rfl S5 (by kernel_rfl)) fun _ hs hd S6 N6=>?_
       refine MW.ad 108 (.bool false) rfl hs hd rfl (MW.ab_want rfl H102 (zN N6 (zN N5 S4)) rfl) (MW.ab_move rfl S6) fun _ hs hd S7 N7=>?_
       refine MW.ak 109 rfl hs hd rfl (MW.ab_want rfl H105 S7 rfl) fun _ hs hd S8 N8=>?_
       refine MW.ak 110 rfl hs hd rfl (MW.ab_want rfl H105 (zN N8 S7) rfl) fun _ hs hd S9 N9=>?_
       refine MW.ad 111 (.bool false) rfl hs hd rfl (MW.ab_want rfl H102 (zN N9 (zN N8 (zN N7 (zN N6 (zN N5 S4))))) rfl) (MW.ab_pick_f rfl (zN N9 (zN N8 S7)) rfl) fun _ hs hd S10 N10=>?_
       refine MW.ad 112 (.bool false) rfl hs hd rfl rfl (MW.ab_pick_f rfl (zN N10 (zN N9 (zN N8 (zN N7 (zN N6 (zN N5 S4)))))) S10) fun _ hs hd S11 N11=>?_
       exact wpList_nil (hK_ _ _ (Stop.go ⟨false,Eq.trans (by first|rfl|(rw[if_neg c50,if_neg c51];rfl)|(simp[*];done)) hE48.out.symm,hs,hd,(zN N11 (zN N10 (zN N9 (zN N8 (zN N7 (zN N6 (zN N5 (zN N4 (zN N3 (zN N2 (zN N1 (zN N0 ep11)))))))))))),S11,rfl⟩))
      case rest=>
       clear hs hd ep11 es11
       obtain⟨b47,hb_,hs,hd,ep12,es12,rfl⟩:=hc_
       simp only[List.drop_succ_cons,List.drop_zero,List.drop_nil]
       have H:=MW.bind_step HH.out (hb_.trans hE48.out)
       replace HH:=za H
       clear H hb_ hE48
       exact wpList_nil (hKC_ _ _ (Stop.go ⟨b47,HH.out,hs,hd,ep12,es12,rfl⟩))
theorem chars_letter.p0 {Q:Exit→Act→World→Prop} (OPS:Array Oper) (hO:OPS=chars_letter.ops.toArray) (a0:Int) (r:Bool) (w:World) (af0:Act) (hs:af0.tmps.size=213) (hd:af0.defers=[]) (ep0:af0.eval (.tmp 0)=.int .i32 a0) (h:((some (if a0≥65 then((decide (a0≤90))) else(false):Bool)).bind fun b1=>((some (if b1=true then(true) else(if a0≥97 then((decide (a0≤122))) else(false)):Bool)).bind fun b4=>((some (if b4=true then(true) else(if a0=170 then(true) else((a0==181))):Bool)).bind fun b8=>((some (if b8=true then(true) else(if a0=186 then(true) else(if a0≥192 then((decide (a0≤214))) else(false))):Bool)).bind fun b12=>((some (if b12=true then(true) else(if a0≥216 then((decide (a0≤246))) else(false)):Bool)).bind fun b17=>((some (if b17=true then(true) else(if a0≥248 then((decide (a0≤383))) else(false)):Bool)).bind fun b21=>((some (if b21=true then(true) else(if a0=700 then(true) else((a0==902))):Bool)).bind fun b25=>((some (if b25=true then(true) else(if a0≥904 then((decide (a0≤906))) else(false)):Bool)).bind fun b29=>((some (if b29=true then(true) else(if a0=908 then(true) else(if a0≥910 then((decide (a0≤929))) else(false))):Bool)).bind fun b33=>((some (if b33=true then(true) else(if a0≥931 then((decide (a0≤974))) else(false)):Bool)).bind fun b38=>((some (if b38=true then(true) else(if a0=1025 then(true) else(if a0≥1040 then((decide (a0≤1103))) else(false))):Bool)).bind fun b42=>((some (if b42=true then(true) else(if a0=1105 then(true) else(if a0≥1488 then((decide (a0≤1514))) else(false))):Bool)).bind fun b47=>((some (if b47=true then(true) else(if a0≥4352 then((decide (a0≤4370))) else(false)):Bool)).bind fun b52=>((some (if b52=true then(true) else(if a0≥4449 then((decide (a0≤4469))) else(false)):Bool)).bind fun b56=>((some (if b56=true then(true) else(if a0≥4520 then((decide (a0≤4546))) else(false)):Bool)).bind fun b60=>((some (if b60=true then(true) else(if a0=8486 then(true) else(if a0≥8490 then((decide (a0≤8491))) else(false))):Bool)).bind fun b64=>((some (if b64=true then(true) else(if a0≥8544 then((decide (a0≤8555))) else(false)):Bool)).bind fun b69=>((some (if b69=true then(true) else(if a0≥8560 then((decide (a0≤8571))) else(false)):Bool)).bind fun b73=>((some (if b73=true then(true) else(if a0≥12353 then((decide (a0≤12436))) else(false)):Bool)).bind fun b77=>((some (if b77=true then(true) else(if a0≥19968 then((decide (a0≤20223))) else(false)):Bool)).bind fun b81=>((some (if b81=true then(true) else(if a0≥44032 then((decide (a0≤55203))) else(false)):Bool)).bind fun b85=>((some (if b85=true then(true) else(if a0≥64256 then((decide (a0≤64261))) else(false)):Bool)).bind fun b89=>((some (if b89=true then(true) else(if a0≥65313 then((decide (a0≤65338))) else(false)):Bool)).bind fun b93=>((some (if b93=true then(true) else(if a0≥65345 then((decide (a0≤65370))) else(false)):Bool)).bind fun b97=>(some b97)))))))))))))))))))))))))=some r) (fin:∀ a':Act,a'.tmps.size=213→a'.defers=[]→a'.eval (.tmp 2)=.bool r→Q .normal a' w):wpList Try.prog OPS Q (chars_letter.ops.drop 0) af0 w:=by
 have HH:=za h
 clear h
 have H2:(OPS[2]?).bind (·.dst)=some 5:=by rw[hO];rfl
 have H6:(OPS[6]?).bind (·.dst)=some 9:=by rw[hO];rfl
 have H9:(OPS[9]?).bind (·.dst)=some 12:=by rw[hO];rfl
 have H14:(OPS[14]?).bind (·.dst)=some 17:=by rw[hO];rfl
 have H18:(OPS[18]?).bind (·.dst)=some 21:=by rw[hO];rfl
 have H22:(OPS[22]?).bind (·.dst)=some 25:=by rw[hO];rfl
 have H26:(OPS[26]?).bind (·.dst)=some 29:=by rw[hO];rfl
 have H29:(OPS[29]?).bind (·.dst)=some 32:=by rw[hO];rfl
 have H34:(OPS[34]?).bind (·.dst)=some 37:=by rw[hO];rfl
 have H37:(OPS[37]?).bind (·.dst)=some 40:=by rw[hO];rfl
 have H42:(OPS[42]?).bind (·.dst)=some 45:=by rw[hO];rfl
 have H45:(OPS[45]?).bind (·.dst)=some 48:=by rw[hO];rfl
 replace hO:=(Stop.go hO:Stop _ (.mk _))
 replace fin:=(Stop.go fin:Stop _ (.mk _))
 refine MW.list_cut 50 (fun a_ w_=>∃ b21:Bool,((some (if b21=true then(true) else(if a0=700 then(true) else((a0==902))):Bool)).bind fun b25=>((some (if b25=true then(true) else(if a0≥904 then((decide (a0≤906))) else(false)):Bool)).bind fun b29=>((some (if b29=true then(true) else(if a0=908 then(true) else(if a0≥910 then((decide (a0≤929))) else(false))):Bool)).bind fun b33=>((some (if b33=true then(true) else(if a0≥931 then((decide (a0≤974))) else(false)):Bool)).bind fun b38=>((some (if b38=true then(true) else(if a0=1025 then(true) else(if a0≥1040 then((decide (a0≤1103))) else(false))):Bool)).bind fun b42=>((some (if b42=true then(true) else(if a0=1105 then(true) else(if a0≥1488 then((decide (a0≤1514))) else(false))):Bool)).bind fun b47=>((some (if b47=true then(true) else(if a0≥4352 then((decide (a0≤4370))) else(false)):Bool)).bind fun b52=>((some (if b52=true then(true) else(if a0≥4449 then((decide (a0≤4469))) else(false)):Bool)).bind fun b56=>((some (if b56=true then(true) else(if a0≥4520 then((decide (a0≤4546))) else(false)):Bool)).bind fun b60=>((some (if b60=true then(true) else(if a0=8486 then(true) else(if a0≥8490 then((decide (a0≤8491))) else(false))):Bool)).bind fun b64=>((some (if b64=true then(true) else(if a0≥8544 then((decide (a0≤8555))) else(false)):Bool)).bind fun b69=>((some (if b69=true then(true) else(if a0≥8560 then((decide (a0≤8571))) else(false)):Bool)).bind fun b73=>((some (if b73=true then(true) else(if a0≥12353 then((decide (a0≤12436))) else(false)):Bool)).bind fun b77=>((some (if b77=true then(true) else(if a0≥19968 then((decide (a0≤20223))) else(false)):Bool)).bind fun b81=>((some (if b81=true then(true) else(if a0≥44032 then((decide (a0≤55203))) else(false)):Bool)).bind fun b85=>((some (if b85=true then(true) else(if a0≥64256 then((decide (a0≤64261))) else(false)):Bool)).bind fun b89=>((some (if b89=true then(true) else(if a0≥65313 then((decide (a0≤65338))) else(false)):Bool)).bind fun b93=>((some (if b93=true then(true) else(if a0≥65345 then((decide (a0≤65370))) else(false)):Bool)).bind fun b97=>(some b97)))))))))))))))))))=some r∧a_.tmps.size=213∧a_.defers=[]∧a_.eval (.tmp 0)=.int .i32 a0∧a_.eval (.tmp 52)=.bool b21∧w=w_) (fun KC_ hKC_=>?chunk) (fun a_ w_ hc_=>?next)
 case next=>
  obtain⟨b_,hb_,hs,hd,ep,es,rfl⟩:=hc_
  rw[List.drop_drop]
  exact chars_letter.p1 OPS hO.out a0 r _ _ b_ hs hd ep es hb_ fin.out
 simp only[chars_letter.ops,Try.f23,List.append_eq,List.cons_append,List.nil_append,List.drop_succ_cons,List.drop_zero,List.take_succ_cons,List.take_zero]
 obtain⟨E2,hE2⟩:∃ e_:Bool,e_=(if a0≥65 then((decide (a0≤90))) else(false)):=⟨_,rfl⟩
 replace hE2:=za hE2
 refine MW.list_cut 6 (fun a_ w_=>∃ b_:Bool,b_=E2∧a_.tmps.size=213∧a_.defers=[]∧a_.eval (.tmp 0)=.int .i32 a0∧a_.eval (.tmp 8)=.bool b_∧w=w_) (fun K_ hK_=>?seg) (fun af1 w_ hc_=>?rest)
 case seg=>
  simp only[List.take_succ_cons,List.take_zero,List.take_nil]
  clear HH
  by_cases c3:a0≥65
  ·refine MW.ad 3 (.int .i32 a0) rfl hs hd rfl rfl (MW.ab_move rfl ep0) fun _ hs hd S0 N0=>?_
   refine MW.ad 4 (.bool true) rfl hs hd rfl rfl (MW.ab_cmp_t c3 rfl S0 (by kernel_rfl)) fun _ hs hd S1 N1=>?_
   refine MW.ad 5 (.bool true) rfl hs hd rfl rfl (MW.ab_move rfl S1) fun _ hs hd S2 N2=>?_
   refine MW.ad 6 (.int .i32 a0) rfl hs hd rfl (MW.ab_want rfl H2 S2 rfl) (MW.ab_move rfl (zN N2 (zN N1 (zN N0 ep0)))) fun _ hs hd S3 N3=>?_
   refine MW.ad 7 (.bool (decide (a0≤90))) rfl hs hd rfl (MW.ab_want rfl H2 (zN N3 S2) rfl) (MW.ab_bin rfl S3 (by kernel_rfl)) fun _ hs hd S4 N4=>?_
   refine MW.ad 8 (.bool (decide (a0≤90))) rfl hs hd rfl rfl (MW.ab_pick_t rfl (zN N4 (zN N3 S2)) S4) fun _ hs hd S5 N5=>?_
   exact wpList_nil (hK_ _ _ (Stop.go ⟨(decide (a0≤90)),Eq.trans (by first|rfl|(rw[if_pos c3];rfl)|(simp[*];done)) hE2.out.symm,hs,hd,(zN N5 (zN N4 (zN N3 (zN N2 (zN N1 (zN N0 ep0)))))),S5,rfl⟩))
  refine MW.ad 3 (.int .i32 a0) rfl hs hd rfl rfl (MW.ab_move rfl ep0) fun _ hs hd S0 N0=>?_
  refine MW.ad 4 (.bool false) rfl hs hd rfl rfl (MW.ab_cmp_f c3 rfl S0 (by kernel_rfl)) fun _ hs hd S1 N1=>?_
  refine MW.ad 5 (.bool false) rfl hs hd rfl rfl (MW.ab_move rfl S1) fun _ hs hd S2 N2=>?_
  refine MW.ak 6 rfl hs hd rfl (MW.ab_want rfl H2 S2 rfl) fun _ hs hd S3 N3=>?_
  refine MW.ak 7 rfl hs hd rfl (MW.ab_want rfl H2 (zN N3 S2) rfl) fun _ hs hd S4 N4=>?_
  refine MW.ad 8 (.bool false) rfl hs hd rfl rfl (MW.ab_pick_f rfl (zN N4 (zN N3 S2)) rfl) fun _ hs hd S5 N5=>?_
  exact wpList_nil (hK_ _ _ (Stop.go ⟨false,Eq.trans (by first|rfl|(rw[if_neg c3];rfl)|(simp[*];done)) hE2.out.symm,hs,hd,(zN N5 (zN N4 (zN N3 (zN N2 (zN N1 (zN N0 ep0)))))),S5,rfl⟩))
 case rest=>
  clear hs hd ep0
  obtain⟨b1,hb_,hs,hd,ep1,es1,rfl⟩:=hc_
  simp only[List.drop_succ_cons,List.drop_zero,List.drop_nil]
  have H:=MW.bind_step HH.out (hb_.trans hE2.out)
  replace HH:=za H
  clear H hb_ hE2
  obtain⟨E5,hE5⟩:∃ e_:Bool,e_=(if b1=true then(true) else(if a0≥97 then((decide (a0≤122))) else(false))):=⟨_,rfl⟩
  replace hE5:=za hE5
  refine MW.list_cut 8 (fun a_ w_=>∃ b_:Bool,b_=E5∧a_.tmps.size=213∧a_.defers=[]∧a_.eval (.tmp 0)=.int .i32 a0∧a_.eval (.tmp 16)=.bool b_∧w=w_) (fun K_ hK_=>?seg) (fun af2 w_ hc_=>?rest)
  case seg=>
   simp only[List.take_succ_cons,List.take_zero,List.take_nil]
   clear HH
   by_cases c6:b1=true
   ·subst c6
    refine MW.ad 9 (.bool true) rfl hs hd rfl rfl (MW.ab_move rfl es1) fun _ hs hd S0 N0=>?_
    refine MW.ak 10 rfl hs hd rfl (MW.ab_want rfl H6 S0 rfl) fun _ hs hd S1 N1=>?_
    refine MW.ak 11 rfl hs hd rfl (MW.ab_want rfl H6 (zN N1 S0) rfl) fun _ hs hd S2 N2=>?_
    refine MW.ak 12 rfl hs hd rfl (MW.ab_want rfl H6 (zN N2 (zN N1 S0)) rfl) fun _ hs hd S3 N3=>?_
    refine MW.ak 13 rfl hs hd rfl (MW.ab_undef rfl H9 S3) fun _ hs hd S4 N4=>?_
    refine MW.ak 14 rfl hs hd rfl (MW.ab_undef rfl H9 (zN N4 S3)) fun _ hs hd S5 N5=>?_
    refine MW.ak 15 rfl hs hd rfl (MW.ab_want rfl H6 (zN N5 (zN N4 (zN N3 (zN N2 (zN N1 S0))))) rfl) fun _ hs hd S6 N6=>?_
    refine MW.ad 16 (.bool true) rfl hs hd rfl rfl (MW.ab_pick_t rfl (zN N6 (zN N5 (zN N4 (zN N3 (zN N2 (zN N1 S0)))))) rfl) fun _ hs hd S7 N7=>?_
    exact wpList_nil (hK_ _ _ (Stop.go ⟨true,Eq.trans (by first|rfl|(rw[];rfl)|(simp[*];done)) hE5.out.symm,hs,hd,(zN N7 (zN N6 (zN N5 (zN N4 (zN N3 (zN N2 (zN N1 (zN N0 ep1)))))))),S7,rfl⟩))
   replace c6:=Bool.eq_false_iff.mpr c6
   subst c6
   by_cases c7:a0≥97
   ·refine MW.ad 9 (.bool false) rfl hs hd rfl rfl (MW.ab_move rfl es1) fun _ hs hd S0 N0=>?_
    refine MW.ad 10 (.int .i32 a0) rfl hs hd rfl (MW.ab_want rfl H6 S0 rfl) (MW.ab_move rfl (zN N0 ep1)) fun _ hs hd S1 N1=>?_
    refine MW.ad 11 (.bool true) rfl hs hd rfl (MW.ab_want rfl H6 (zN N1 S0) rfl) (MW.ab_cmp_t c7 rfl S1 (by kernel_rfl)) fun _ hs hd S2 N2=>?_
    refine MW.ad 12 (.bool true) rfl hs hd rfl (MW.ab_want rfl H6 (zN N2 (zN N1 S0)) rfl) (MW.ab_move rfl S2) fun _ hs hd S3 N3=>?_
    refine MW.ad 13 (.int .i32 a0) rfl hs hd rfl (MW.ab_want rfl H9 S3 rfl) (MW.ab_move rfl (zN N3 (zN N2 (zN N1 (zN N0 ep1))))) fun _ hs hd S4 N4=>?_
    refine MW.ad 14 (.bool (decide (a0≤122))) rfl hs hd rfl (MW.ab_want rfl H9 (zN N4 S3) rfl) (MW.ab_bin rfl S4 (by kernel_rfl)) fun _ hs hd S5 N5=>?_
    refine MW.ad 15 (.bool (decide (a0≤122))) rfl hs hd rfl (MW.ab_want rfl H6 (zN N5 (zN N4 (zN N3 (zN N2 (zN N1 S0))))) rfl) (MW.ab_pick_t rfl (zN N5 (zN N4 S3)) S5) fun _ hs hd S6 N6=>?_
    refine MW.ad 16 (.bool (decide (a0≤122))) rfl hs hd rfl rfl (MW.ab_pick_f rfl (zN N6 (zN N5 (zN N4 (zN N3 (zN N2 (zN N1 S0)))))) S6) fun _ hs hd S7 N7=>?_
    exact wpList_nil (hK_ _ _ (Stop.go ⟨(decide (a0≤122)),Eq.trans (by first|rfl|(rw[if_pos c7];rfl)|(simp[*];done)) hE5.out.symm,hs,hd,(zN N7 (zN N6 (zN N5 (zN N4 (zN N3 (zN N2 (zN N1 (zN N0 ep1)))))))),S7,rfl⟩))
   refine MW.ad 9 (.bool false) rfl hs hd rfl rfl (MW.ab_move rfl es1) fun _ hs hd S0 N0=>?_
   refine MW.ad 10 (.int .i32 a0) rfl hs hd rfl (MW.ab_want rfl H6 S0 rfl) (MW.ab_move rfl (zN N0 ep1)) fun _ hs hd S1 N1=>?_
   refine MW.ad 11 (.bool false) rfl hs hd rfl (MW.ab_want rfl H6 (zN N1 S0) rfl) (MW.ab_cmp_f c7 rfl S1 (by kernel_rfl)) fun _ hs hd S2 N2=>?_
   refine MW.ad 12 (.bool false) rfl hs hd rfl (MW.ab_want rfl H6 (zN N2 (zN N1 S0)) rfl) (MW.ab_move rfl S2) fun _ hs hd S3 N3=>?_
   refine MW.ak 13 rfl hs hd rfl (MW.ab_want rfl H9 S3 rfl) fun _ hs hd S4 N4=>?_
   refine MW.ak 14 rfl hs hd rfl (MW.ab_want rfl H9 (zN N4 S3) rfl) fun _ hs hd S5 N5=>?_
   refine MW.ad 15 (.bool false) rfl hs hd rfl (MW.ab_want rfl H6 (zN N5 (zN N4 (zN N3 (zN N2 (zN N1 S0))))) rfl) (MW.ab_pick_f rfl (zN N5 (zN N4 S3)) rfl) fun _ hs hd S6 N6=>?_
   refine MW.ad 16 (.bool false) rfl hs hd rfl rfl (MW.ab_pick_f rfl (zN N6 (zN N5 (zN N4 (zN N3 (zN N2 (zN N1 S0)))))) S6) fun _ hs hd S7 N7=>?_
   exact wpList_nil (hK_ _ _ (Stop.go ⟨false,Eq.trans (by first|rfl|(rw[if_neg c7];rfl)|(simp[*];done)) hE5.out.symm,hs,hd,(zN N7 (zN N6 (zN N5 (zN N4 (zN N3 (zN N2 (zN N1 (zN N0 ep1)))))))),S7,rfl⟩))
  case rest=>
   clear hs hd ep1 es1
   obtain⟨b4,hb_,hs,hd,ep2,es2,rfl⟩:=hc_
   simp only[List.drop_succ_cons,List.drop_zero,List.drop_nil]
   have H:=MW.bind_step HH.out (hb_.trans hE5.out)
   replace HH:=za H
   clear H hb_ hE5
   obtain⟨E9,hE9⟩:∃ e_:Bool,e_=(if b4=true then(true) else(if a0=170 then(true) else((a0==181)))):=⟨_,rfl⟩
   replace hE9:=za hE9
   refine MW.list_cut 8 (fun a_ w_=>∃ b_:Bool,b_=E9∧a_.tmps.size=213∧a_.defers=[]∧a_.eval (.tmp 0)=.int .i32 a0∧a_.eval (.tmp 24)=.bool b_∧w=w_) (fun K_ hK_=>?seg) (fun af3 w_ hc_=>?rest)
   case seg=>
    simp only[List.take_succ_cons,List.take_zero,List.take_nil]
    clear HH
    by_cases c10:b4=true
    ·subst c10
     refine MW.ad 17 (.bool true) rfl hs hd rfl rfl (MW.ab_move rfl es2) fun _ hs hd S0 N0=>?_
     refine MW.ak 18 rfl hs hd rfl (MW.ab_want rfl H14 S0 rfl) fun _ hs hd S1 N1=>?_
     refine MW.ak 19 rfl hs hd rfl (MW.ab_want rfl H14 (zN N1 S0) rfl) fun _ hs hd S2 N2=>?_
     refine MW.ad 20 (.bool true) rfl hs hd rfl rfl (MW.ab_pick_t rfl (zN N2 (zN N1 S0)) rfl) fun _ hs hd S3 N3=>?_
     refine MW.ad 21 (.bool true) rfl hs hd rfl rfl (MW.ab_move rfl S3) fun _ hs hd S4 N4=>?_
     refine MW.ak 22 rfl hs hd rfl (MW.ab_want rfl H18 S4 rfl) fun _ hs hd S5 N5=>?_
     refine MW.ak 23 rfl hs hd rfl (MW.ab_want rfl H18 (zN N5 S4) rfl) fun _ hs hd S6 N6=>?_
     refine MW.ad 24 (.bool true) rfl hs hd rfl rfl (MW.ab_pick_t rfl (zN N6 (zN N5 S4)) rfl) fun _ hs hd S7 N7=>?_
     exact wpList_nil (hK_ _ _ (Stop.go ⟨true,Eq.trans (by first|rfl|(rw[];rfl)|(simp[*];done)) hE9.out.symm,hs,hd,(zN N7 (zN N6 (zN N5 (zN N4 (zN N3 (zN N2 (zN N1 (zN N0 ep2)))))))),S7,rfl⟩))
    replace c10:=Bool.eq_false_iff.mpr c10
    subst c10
    by_cases c11:a0=170
    ·refine MW.ad 17 (.bool false) rfl hs hd rfl rfl (MW.ab_move rfl es2) fun _ hs hd S0 N0=>?_
     refine MW.ad 18 (.int .i32 a0) rfl hs hd rfl (MW.ab_want rfl H14 S0 rfl) (MW.ab_move rfl (zN N0 ep2)) fun _ hs hd S1 N1=>?_
     refine MW.ad 19 (.bool true) rfl hs hd rfl (MW.ab_want rfl H14 (zN N1 S0) rfl) (MW.ab_cmp_t c11 rfl S1 (by kernel_rfl)) fun _ hs hd S2 N2=>?_
     refine MW.ad 20 (.bool true) rfl hs hd rfl rfl (MW.ab_pick_f rfl (zN N2 (zN N1 S0)) S2) fun _ hs hd S3 N3=>?_
     refine MW.ad 21 (.bool true) rfl hs hd rfl rfl (MW.ab_move rfl S3) fun _ hs hd S4 N4=>?_
     refine MW.ak 22 rfl hs hd rfl (MW.ab_want rfl H18 S4 rfl) fun _ hs hd S5 N5=>?_
     refine MW.ak 23 rfl hs hd rfl (MW.ab_want rfl H18 (zN N5 S4) rfl) fun _ hs hd S6 N6=>?_
     refine MW.ad 24 (.bool true) rfl hs hd rfl rfl (MW.ab_pick_t rfl (zN N6 (zN N5 S4)) rfl) fun _ hs hd S7 N7=>?_
     exact wpList_nil (hK_ _ _ (Stop.go ⟨true,Eq.trans (by first|rfl|(rw[if_pos c11];rfl)|(simp[*];done)) hE9.out.symm,hs,hd,(zN N7 (zN N6 (zN N5 (zN N4 (zN N3 (zN N2 (zN N1 (zN N0 ep2)))))))),S7,rfl⟩))
    refine MW.ad 17 (.bool false) rfl hs hd rfl rfl (MW.ab_move rfl es2) fun _ hs hd S0 N0=>?_
    refine MW.ad 18 (.int .i32 a0) rfl hs hd rfl (MW.ab_want rfl H14 S0 rfl) (MW.ab_move rfl (zN N0 ep2)) fun _ hs hd S1 N1=>?_
    refine MW.ad 19 (.bool false) rfl hs hd rfl (MW.ab_want rfl H14 (zN N1 S0) rfl) (MW.ab_cmp_f c11 rfl S1 (by kernel_rfl)) fun _ hs hd S2 N2=>?_
    refine MW.ad 20 (.bool false) rfl hs hd rfl rfl (MW.ab_pick_f rfl (zN N2 (zN N1 S0)) S2) fun _ hs hd S3 N3=>?_
    refine MW.ad 21 (.bool false) rfl hs hd rfl rfl (MW.ab_move rfl S3) fun _ hs hd S4 N4=>?_
    refine MW.ad 22 (.int .i32 a0) rfl hs hd rfl (MW.ab_want rfl H18 S4 rfl) (MW.ab_move rfl (zN N4 (zN N3 (zN N2 (zN N1 (zN N0 ep2)))))) fun _ hs hd S5 N5=>?_
    refine MW.ad 23 (.bool (a0==181)) rfl hs hd rfl (MW.ab_want rfl H18 (zN N5 S4) rfl) (MW.ab_bin rfl S5 (by kernel_rfl)) fun _ hs hd S6 N6=>?_
    refine MW.ad 24 (.bool (a0==181)) rfl hs hd rfl rfl (MW.ab_pick_f rfl (zN N6 (zN N5 S4)) S6) fun _ hs hd S7 N7=>?_
    exact wpList_nil (hK_ _ _ (Stop.go ⟨(a0==181),Eq.trans (by first|rfl|(rw[if_neg c11];rfl)|(simp[*];done)) hE9.out.symm,hs,hd,(zN N7 (zN N6 (zN N5 (zN N4 (zN N3 (zN N2 (zN N1 (zN N0 ep2)))))))),S7,rfl⟩))
   case rest=>
    clear hs hd ep2 es2
    obtain⟨b8,hb_,hs,hd,ep3,es3,rfl⟩:=hc_
    simp only[List.drop_succ_cons,List.drop_zero,List.drop_nil]
    have H:=MW.bind_step HH.out (hb_.trans hE9.out)
    replace HH:=za H
    clear H hb_ hE9
    obtain⟨E13,hE13⟩:∃ e_:Bool,e_=(if b8=true then(true) else(if a0=186 then(true) else(if a0≥192 then((decide (a0≤214))) else(false)))):=⟨_,rfl⟩
    replace hE13:=za hE13
    refine MW.list_cut 12 (fun a_ w_=>∃ b_:Bool,b_=E13∧a_.tmps.size=213∧a_.defers=[]∧a_.eval (.tmp 0)=.int .i32 a0∧a_.eval (.tmp 36)=.bool b_∧w=w_) (fun K_ hK_=>?seg) (fun af4 w_ hc_=>?rest)
    case seg=>
     simp only[List.take_succ_cons,List.take_zero,List.take_nil]
     clear HH
     by_cases c14:b8=true
     ·subst c14
      refine MW.ad 25 (.bool true) rfl hs hd rfl rfl (MW.ab_move rfl es3) fun _ hs hd S0 N0=>?_
      refine MW.ak 26 rfl hs hd rfl (MW.ab_want rfl H22 S0 rfl) fun _ hs hd S1 N1=>?_
      refine MW.ak 27 rfl hs hd rfl (MW.ab_want rfl H22 (zN N1 S0) rfl) fun _ hs hd S2 N2=>?_
      refine MW.ad 28 (.bool true) rfl hs hd rfl rfl (MW.ab_pick_t rfl (zN N2 (zN N1 S0)) rfl) fun _ hs hd S3 N3=>?_
      refine MW.ad 29 (.bool true) rfl hs hd rfl rfl (MW.ab_move rfl S3) fun _ hs hd S4 N4=>?_
      refine MW.ak 30 rfl hs hd rfl (MW.ab_want rfl H26 S4 rfl) fun _ hs hd S5 N5=>?_
      refine MW.ak 31 rfl hs hd rfl (MW.ab_want rfl H26 (zN N5 S4) rfl) fun _ hs hd S6 N6=>?_
      refine MW.ak 32 rfl hs hd rfl (MW.ab_want rfl H26 (zN N6 (zN N5 S4)) rfl) fun _ hs hd S7 N7=>?_
      refine MW.ak 33 rfl hs hd rfl (MW.ab_undef rfl H29 S7) fun _ hs hd S8 N8=>?_
      refine MW.ak 34 rfl hs hd rfl (MW.ab_undef rfl H29 (zN N8 S7)) fun _ hs hd S9 N9=>?_
      refine MW.ak 35 rfl hs hd rfl (MW.ab_want rfl H26 (zN N9 (zN N8 (zN N7 (zN N6 (zN N5 S4))))) rfl) fun _ hs hd S10 N10=>?_
      refine MW.ad 36 (.bool true) rfl hs hd rfl rfl (MW.ab_pick_t rfl (zN N10 (zN N9 (zN N8 (zN N7 (zN N6 (zN N5 S4)))))) rfl) fun _ hs hd S11 N11=>?_
      exact wpList_nil (hK_ _ _ (Stop.go ⟨true,Eq.trans (by first|rfl|(rw[];rfl)|(simp[*];done)) hE13.out.symm,hs,hd,(zN N11 (zN N10 (zN N9 (zN N8 (zN N7 (zN N6 (zN N5 (zN N4 (zN N3 (zN N2 (zN N1 (zN N0 ep3)))))))))))),S11,rfl⟩))
     replace c14:=Bool.eq_false_iff.mpr c14
     subst c14
     by_cases c15:a0=186
     ·refine MW.ad 25 (.bool false) rfl hs hd rfl rfl (MW.ab_move rfl es3) fun _ hs hd S0 N0=>?_
      refine MW.ad 26 (.int .i32 a0) rfl hs hd rfl (MW.ab_want rfl H22 S0 rfl) (MW.ab_move rfl (zN N0 ep3)) fun _ hs hd S1 N1=>?_
      refine MW.ad 27 (.bool true) rfl hs hd rfl (MW.ab_want rfl H22 (zN N1 S0) rfl) (MW.ab_cmp_t c15 rfl S1 (by kernel_rfl)) fun _ hs hd S2 N2=>?_
      refine MW.ad 28 (.bool true) rfl hs hd rfl rfl (MW.ab_pick_f rfl (zN N2 (zN N1 S0)) S2) fun _ hs hd S3 N3=>?_
      refine MW.ad 29 (.bool true) rfl hs hd rfl rfl (MW.ab_move rfl S3) fun _ hs hd S4 N4=>?_
      refine MW.ak 30 rfl hs hd rfl (MW.ab_want rfl H26 S4 rfl) fun _ hs hd S5 N5=>?_
      refine MW.ak 31 rfl hs hd rfl (MW.ab_want rfl H26 (zN N5 S4) rfl) fun _ hs hd S6 N6=>?_
      refine MW.ak 32 rfl hs hd rfl (MW.ab_want rfl H26 (zN N6 (zN N5 S4)) rfl) fun _ hs hd S7 N7=>?_
      refine MW.ak 33 rfl hs hd rfl (MW.ab_undef rfl H29 S7) fun _ hs hd S8 N8=>?_
      refine MW.ak 34 rfl hs hd rfl (MW.ab_undef rfl H29 (zN N8 S7)) fun _ hs hd S9 N9=>?_
      refine MW.ak 35 rfl hs hd rfl (MW.ab_want rfl H26 (zN N9 (zN N8 (zN N7 (zN N6 (zN N5 S4))))) rfl) fun _ hs hd S10 N10=>?_
      refine MW.ad 36 (.bool true) rfl hs hd rfl rfl (MW.ab_pick_t rfl (zN N10 (zN N9 (zN N8 (zN N7 (zN N6 (zN N5 S4)))))) rfl) fun _ hs hd S11 N11=>?_
      exact wpList_nil (hK_ _ _ (Stop.go ⟨true,Eq.trans (by first|rfl|(rw[if_pos c15];rfl)|(simp[*];done)) hE13.out.symm,hs,hd,(zN N11 (zN N10 (zN N9 (zN N8 (zN N7 (zN N6 (zN N5 (zN N4 (zN N3 (zN N2 (zN N1 (zN N0 ep3)))))))))))),S11,rfl⟩))
     by_cases c16:a0≥192
     ·refine MW.ad 25 (.bool false) rfl hs hd rfl rfl (MW.ab_move rfl es3) fun _ hs hd S0 N0=>?_
      refine MW.ad 26 (.int .i32 a0) rfl hs hd rfl (MW.ab_want rfl H22 S0 rfl) (MW.ab_move rfl (zN N0 ep3)) fun _ hs hd S1 N1=>?_
      refine MW.ad 27 (.bool false) rfl hs hd rfl (MW.ab_want rfl H22 (zN N1 S0) rfl) (MW.ab_cmp_f c15 rfl S1 (by kernel_rfl)) fun _ hs hd S2 N2=>?_
      refine MW.ad 28 (.bool false) rfl hs hd rfl rfl (MW.ab_pick_f rfl (zN N2 (zN N1 S0)) S2) fun _ hs hd S3 N3=>?_
      refine MW.ad 29 (.bool false) rfl hs hd rfl rfl (MW.ab_move rfl S3) fun _ hs hd S4 N4=>?_
      refine MW.ad 30 (.int .i32 a0) rfl hs hd rfl (MW.ab_want rfl H26 S4 rfl) (MW.ab_move rfl (zN N4 (zN N3 (zN N2 (zN N1 (zN N0 ep3)))))) fun _ hs hd S5 N5=>?_
      refine MW.ad 31 (.bool true) rfl hs hd rfl (MW.ab_want rfl H26 (zN N5 S4) rfl) (MW.ab_cmp_t c16 rfl S5 (by kernel_rfl)) fun _ hs hd S6 N6=>?_
      refine MW.ad 32 (.bool true) rfl hs hd rfl (MW.ab_want rfl H26 (zN N6 (zN N5 S4)) rfl) (MW.ab_move rfl S6) fun _ hs hd S7 N7=>?_
      refine MW.ad 33 (.int .i32 a0) rfl hs hd rfl (MW.ab_want rfl H29 S7 rfl) (MW.ab_move rfl (zN N7 (zN N6 (zN N5 (zN N4 (zN N3 (zN N2 (zN N1 (zN N0 ep3))))))))) fun _ hs hd S8 N8=>?_
      refine MW.ad 34 (.bool (decide (a0≤214))) rfl hs hd rfl (MW.ab_want rfl H29 (zN N8 S7) rfl) (MW.ab_bin rfl S8 (by kernel_rfl)) fun _ hs hd S9 N9=>?_
      refine MW.ad 35 (.bool (decide (a0≤214))) rfl hs hd rfl (MW.ab_want rfl H26 (zN N9 (zN N8 (zN N7 (zN N6 (zN N5 S4))))) rfl) (MW.ab_pick_t rfl (zN N9 (zN N8 S7)) S9) fun _ hs hd S10 N10=>?_
      refine MW.ad 36 (.bool (decide (a0≤214))) rfl hs hd rfl rfl (MW.ab_pick_f rfl (zN N10 (zN N9 (zN N8 (zN N7 (zN N6 (zN N5 S4)))))) S10) fun _ hs hd S11 N11=>?_
      exact wpList_nil (hK_ _ _ (Stop.go ⟨(decide (a0≤214)),Eq.trans (by first|rfl|(rw[if_neg c15,if_pos c16];rfl)|(simp[*];done)) hE13.out.symm,hs,hd,(zN N11 (zN N10 (zN N9 (zN N8 (zN N7 (zN N6 (zN N5 (zN N4 (zN N3 (zN N2 (zN N1 (zN N0 ep3)))))))))))),S11,rfl⟩))
     refine MW.ad 25 (.bool false) rfl hs hd rfl rfl (MW.ab_move rfl es3) fun _ hs hd S0 N0=>?_
     refine MW.ad 26 (.int .i32 a0) rfl hs hd rfl (MW.ab_want rfl H22 S0 rfl) (MW.ab_move rfl (zN N0 ep3)) fun _ hs hd S1 N1=>?_
     refine MW.ad 27 (.bool false) rfl hs hd rfl (MW.ab_want rfl H22 (zN N1 S0) rfl) (MW.ab_cmp_f c15 rfl S1 (by kernel_rfl)) fun _ hs hd S2 N2=>?_
     refine MW.ad 28 (.bool false) rfl hs hd rfl rfl (MW.ab_pick_f rfl (zN N2 (zN N1 S0)) S2) fun _ hs hd S3 N3=>?_
     refine MW.ad 29 (.bool false) rfl hs hd rfl rfl (MW.ab_move rfl S3) fun _ hs hd S4 N4=>?_
     refine MW.ad 30 (.int .i32 a0) rfl hs hd rfl (MW.ab_want rfl H26 S4 rfl) (MW.ab_move rfl (zN N4 (zN N3 (zN N2 (zN N1 (zN N0 ep3)))))) fun _ hs hd S5 N5=>?_
     refine MW.ad 31 (.bool false) rfl hs hd rfl (MW.ab_want rfl H26 (zN N5 S4) rfl) (MW.ab_cmp_f c16 rfl S5 (by kernel_rfl)) fun _ hs hd S6 N6=>?_
     refine MW.ad 32 (.bool false) rfl hs hd rfl (MW.ab_want rfl H26 (zN N6 (zN N5 S4)) rfl) (MW.ab_move rfl S6) fun _ hs hd S7 N7=>?_
     refine MW.ak 33 rfl hs hd rfl (MW.ab_want rfl H29 S7 rfl) fun _ hs hd S8 N8=>?_
     refine MW.ak 34 rfl hs hd rfl (MW.ab_want rfl H29 (zN N8 S7) rfl) fun _ hs hd S9 N9=>?_
     refine MW.ad 35 (.bool false) rfl hs hd rfl (MW.ab_want rfl H26 (zN N9 (zN N8 (zN N7 (zN N6 (zN N5 S4))))) rfl) (MW.ab_pick_f rfl (zN N9 (zN N8 S7)) rfl) fun _ hs hd S10 N10=>?_
     refine MW.ad 36 (.bool false) rfl hs hd rfl rfl (MW.ab_pick_f rfl (zN N10 (zN N9 (zN N8 (zN N7 (zN N6 (zN N5 S4)))))) S10) fun _ hs hd S11 N11=>?_
     exact wpList_nil (hK_ _ _ (Stop.go ⟨false,Eq.trans (by first|rfl|(rw[if_neg c15,if_neg c16];rfl)|(simp[*];done)) hE13.out.symm,hs,hd,(zN N11 (zN N10 (zN N9 (zN N8 (zN N7 (zN N6 (zN N5 (zN N4 (zN N3 (zN N2 (zN N1 (zN N0 ep3)))))))))))),S11,rfl⟩))
    case rest=>
     clear hs hd ep3 es3
     obtain⟨b12,hb_,hs,hd,ep4,es4,rfl⟩:=hc_
     simp only[List.drop_succ_cons,List.drop_zero,List.drop_nil]
     have H:=MW.bind_step HH.out (hb_.trans hE13.out)
     replace HH:=za H
     clear H hb_ hE13
     obtain⟨E18,hE18⟩:∃ e_:Bool,e_=(if b12=true then(true) else(if a0≥216 then((decide (a0≤246))) else(false))):=⟨_,rfl⟩
     replace hE18:=za hE18
     refine MW.list_cut 8 (fun a_ w_=>∃ b_:Bool,b_=E18∧a_.tmps.size=213∧a_.defers=[]∧a_.eval (.tmp 0)=.int .i32 a0∧a_.eval (.tmp 44)=.bool b_∧w=w_) (fun K_ hK_=>?seg) (fun af5 w_ hc_=>?rest)
     case seg=>
      simp only[List.take_succ_cons,List.take_zero,List.take_nil]
      clear HH
      by_cases c19:b12=true
      ·subst c19
       refine MW.ad 37 (.bool true) rfl hs hd rfl rfl (MW.ab_move rfl es4) fun _ hs hd S0 N0=>?_
       refine MW.ak 38 rfl hs hd rfl (MW.ab_want rfl H34 S0 rfl) fun _ hs hd S1 N1=>?_
       refine MW.ak 39 rfl hs hd rfl (MW.ab_want rfl H34 (zN N1 S0) rfl) fun _ hs hd S2 N2=>?_
       refine MW.ak 40 rfl hs hd rfl (MW.ab_want rfl H34 (zN N2 (zN N1 S0)) rfl) fun _ hs hd S3 N3=>?_
       refine MW.ak 41 rfl hs hd rfl (MW.ab_undef rfl H37 S3) fun _ hs hd S4 N4=>?_
       refine MW.ak 42 rfl hs hd rfl (MW.ab_undef rfl H37 (zN N4 S3)) fun _ hs hd S5 N5=>?_
       refine MW.ak 43 rfl hs hd rfl (MW.ab_want rfl H34 (zN N5 (zN N4 (zN N3 (zN N2 (zN N1 S0))))) rfl) fun _ hs hd S6 N6=>?_
       refine MW.ad 44 (.bool true) rfl hs hd rfl rfl (MW.ab_pick_t rfl (zN N6 (zN N5 (zN N4 (zN N3 (zN N2 (zN N1 S0)))))) rfl) fun _ hs hd S7 N7=>?_
       exact wpList_nil (hK_ _ _ (Stop.go ⟨true,Eq.trans (by first|rfl|(rw[];rfl)|(simp[*];done)) hE18.out.symm,hs,hd,(zN N7 (zN N6 (zN N5 (zN N4 (zN N3 (zN N2 (zN N1 (zN N0 ep4)))))))),S7,rfl⟩))
      replace c19:=Bool.eq_false_iff.mpr c19
      subst c19
      by_cases c20:a0≥216
      ·refine MW.ad 37 (.bool false) rfl hs hd rfl rfl (MW.ab_move rfl es4) fun _ hs hd S0 N0=>?_
       refine MW.ad 38 (.int .i32 a0) rfl hs hd rfl (MW.ab_want rfl H34 S0 rfl) (MW.ab_move rfl (zN N0 ep4)) fun _ hs hd S1 N1=>?_
       refine MW.ad 39 (.bool true) rfl hs hd rfl (MW.ab_want rfl H34 (zN N1 S0) rfl) (MW.ab_cmp_t c20 rfl S1 (by kernel_rfl)) fun _ hs hd S2 N2=>?_
       refine MW.ad 40 (.bool true) rfl hs hd rfl (MW.ab_want rfl H34 (zN N2 (zN N1 S0)) rfl) (MW.ab_move rfl S2) fun _ hs hd S3 N3=>?_
       refine MW.ad 41 (.int .i32 a0) rfl hs hd rfl (MW.ab_want rfl H37 S3 rfl) (MW.ab_move rfl (zN N3 (zN N2 (zN N1 (zN N0 ep4))))) fun _ hs hd S4 N4=>?_
       refine MW.ad 42 (.bool (decide (a0≤246))) rfl hs hd rfl (MW.ab_want rfl H37 (zN N4 S3) rfl) (MW.ab_bin rfl S4 (by kernel_rfl)) fun _ hs hd S5 N5=>?_
       refine MW.ad 43 (.bool (decide (a0≤246))) rfl hs hd rfl (MW.ab_want rfl H34 (zN N5 (zN N4 (zN N3 (zN N2 (zN N1 S0))))) rfl) (MW.ab_pick_t rfl (zN N5 (zN N4 S3)) S5) fun _ hs hd S6 N6=>?_
       refine MW.ad 44 (.bool (decide (a0≤246))) rfl hs hd rfl rfl (MW.ab_pick_f rfl (zN N6 (zN N5 (zN N4 (zN N3 (zN N2 (zN N1 S0)))))) S6) fun _ hs hd S7 N7=>?_
       exact wpList_nil (hK_ _ _ (Stop.go ⟨(decide (a0≤246)),Eq.trans (by first|rfl|(rw[if_pos c20];rfl)|(simp[*];done)) hE18.out.symm,hs,hd,(zN N7 (zN N6 (zN N5 (zN N4 (zN N3 (zN N2 (zN N1 (zN N0 ep4)))))))),S7,rfl⟩))
      refine MW.ad 37 (.bool false) rfl hs hd rfl rfl (MW.ab_move rfl es4) fun _ hs hd S0 N0=>?_
      refine MW.ad 38 (.int .i32 a0) rfl hs hd rfl (MW.ab_want rfl H34 S0 rfl) (MW.ab_move rfl (zN N0 ep4)) fun _ hs hd S1 N1=>?_
      refine MW.ad 39 (.bool false) rfl hs hd rfl (MW.ab_want rfl H34 (zN N1 S0) rfl) (MW.ab_cmp_f c20 rfl S1 (by kernel_rfl)) fun _ hs hd S2 N2=>?_
      refine MW.ad 40 (.bool false) rfl hs hd rfl (MW.ab_want rfl H34 (zN N2 (zN N1 S0)) rfl) (MW.ab_move rfl S2) fun _ hs hd S3 N3=>?_
      refine MW.ak 41 rfl hs hd rfl (MW.ab_want rfl H37 S3 rfl) fun _ hs hd S4 N4=>?_
      refine MW.ak 42 rfl hs hd rfl (MW.ab_want rfl H37 (zN N4 S3) rfl) fun _ hs hd S5 N5=>?_
      refine MW.ad 43 (.bool false) rfl hs hd rfl (MW.ab_want rfl H34 (zN N5 (zN N4 (zN N3 (zN N2 (zN N1 S0))))) rfl) (MW.ab_pick_f rfl (zN N5 (zN N4 S3)) rfl) fun _ hs hd S6 N6=>?_
      refine MW.ad 44 (.bool false) rfl hs hd rfl rfl (MW.ab_pick_f rfl (zN N6 (zN N5 (zN N4 (zN N3 (zN N2 (zN N1 S0)))))) S6) fun _ hs hd S7 N7=>?_
      exact wpList_nil (hK_ _ _ (Stop.go ⟨false,Eq.trans (by first|rfl|(rw[if_neg c20];rfl)|(simp[*];done)) hE18.out.symm,hs,hd,(zN N7 (zN N6 (zN N5 (zN N4 (zN N3 (zN N2 (zN N1 (zN N0 ep4)))))))),S7,rfl⟩))
     case rest=>
      clear hs hd ep4 es4
      obtain⟨b17,hb_,hs,hd,ep5,es5,rfl⟩:=hc_
      simp only[List.drop_succ_cons,List.drop_zero,List.drop_nil]
      have H:=MW.bind_step HH.out (hb_.trans hE18.out)
      replace HH:=za H
      clear H hb_ hE18
      obtain⟨E22,hE22⟩:∃ e_:Bool,e_=(if b17=true then(true) else(if a0≥248 then((decide (a0≤383))) else(false))):=⟨_,rfl⟩
      replace hE22:=za hE22
      refine MW.list_cut 8 (fun a_ w_=>∃ b_:Bool,b_=E22∧a_.tmps.size=213∧a_.defers=[]∧a_.eval (.tmp 0)=.int .i32 a0∧a_.eval (.tmp 52)=.bool b_∧w=w_) (fun K_ hK_=>?seg) (fun af6 w_ hc_=>?rest)
      case seg=>
       simp only[List.take_succ_cons,List.take_zero,List.take_nil]
       clear HH
       by_cases c23:b17=true
       ·subst c23
        refine MW.ad 45 (.bool true) rfl hs hd rfl rfl (MW.ab_move rfl es5) fun _ hs hd S0 N0=>?_
        refine MW.ak 46 rfl hs hd rfl (MW.ab_want rfl H42 S0 rfl) fun _ hs hd S1 N1=>?_
        refine MW.ak 47 rfl hs hd rfl (MW.ab_want rfl H42 (zN N1 S0) rfl) fun _ hs hd S2 N2=>?_
        refine MW.ak 48 rfl hs hd rfl (MW.ab_want rfl H42 (zN N2 (zN N1 S0)) rfl) fun _ hs hd S3 N3=>?_
        refine MW.ak 49 rfl hs hd rfl (MW.ab_undef rfl H45 S3) fun _ hs hd S4 N4=>?_
        refine MW.ak 50 rfl hs hd rfl (MW.ab_undef rfl H45 (zN N4 S3)) fun _ hs hd S5 N5=>?_
        refine MW.ak 51 rfl hs hd rfl (MW.ab_want rfl H42 (zN N5 (zN N4 (zN N3 (zN N2 (zN N1 S0))))) rfl) fun _ hs hd S6 N6=>?_
        refine MW.ad 52 (.bool true) rfl hs hd rfl rfl (MW.ab_pick_t rfl (zN N6 (zN N5 (zN N4 (zN N3 (zN N2 (zN N1 S0)))))) rfl) fun _ hs hd S7 N7=>?_
        exact wpList_nil (hK_ _ _ (Stop.go ⟨true,Eq.trans (by first|rfl|(rw[];rfl)|(simp[*];done)) hE22.out.symm,hs,hd,(zN N7 (zN N6 (zN N5 (zN N4 (zN N3 (zN N2 (zN N1 (zN N0 ep5)))))))),S7,rfl⟩))
       replace c23:=Bool.eq_false_iff.mpr c23
       subst c23
       by_cases c24:a0≥248
       ·refine MW.ad 45 (.bool false) rfl hs hd rfl rfl (MW.ab_move rfl es5) fun _ hs hd S0 N0=>?_
        refine MW.ad 46 (.int .i32 a0) rfl hs hd rfl (MW.ab_want rfl H42 S0 rfl) (MW.ab_move rfl (zN N0 ep5)) fun _ hs hd S1 N1=>?_
        refine MW.ad 47 (.bool true) rfl hs hd rfl (MW.ab_want rfl H42 (zN N1 S0) rfl) (MW.ab_cmp_t c24 rfl S1 (by kernel_rfl)) fun _ hs hd S2 N2=>?_
        refine MW.ad 48 (.bool true) rfl hs hd rfl (MW.ab_want rfl H42 (zN N2 (zN N1 S0)) rfl) (MW.ab_move rfl S2) fun _ hs hd S3 N3=>?_
        refine MW.ad 49 (.int .i32 a0) rfl hs hd rfl (MW.ab_want rfl H45 S3 rfl) (MW.ab_move rfl (zN N3 (zN N2 (zN N1 (zN N0 ep5))))) fun _ hs hd S4 N4=>?_
        refine MW.ad 50 (.bool (decide (a0≤383))) rfl hs hd rfl (MW.ab_want rfl H45 (zN N4 S3) rfl) (MW.ab_bin rfl S4 (by kernel_rfl)) fun _ hs hd S5 N5=>?_
        refine MW.ad 51 (.bool (decide (a0≤383))) rfl hs hd rfl (MW.ab_want rfl H42 (zN N5 (zN N4 (zN N3 (zN N2 (zN N1 S0))))) rfl) (MW.ab_pick_t rfl (zN N5 (zN N4 S3)) S5) fun _ hs hd S6 N6=>?_
        refine MW.ad 52 (.bool (decide (a0≤383))) rfl hs hd rfl rfl (MW.ab_pick_f rfl (zN N6 (zN N5 (zN N4 (zN N3 (zN N2 (zN N1 S0)))))) S6) fun _ hs hd S7 N7=>?_
        exact wpList_nil (hK_ _ _ (Stop.go ⟨(decide (a0≤383)),Eq.trans (by first|rfl|(rw[if_pos c24];rfl)|(simp[*];done)) hE22.out.symm,hs,hd,(zN N7 (zN N6 (zN N5 (zN N4 (zN N3 (zN N2 (zN N1 (zN N0 ep5)))))))),S7,rfl⟩))
       refine MW.ad 45 (.bool false) rfl hs hd rfl rfl (MW.ab_move rfl es5) fun _ hs hd S0 N0=>?_
       refine MW.ad 46 (.int .i32 a0) rfl hs hd rfl (MW.ab_want rfl H42 S0 rfl) (MW.ab_move rfl (zN N0 ep5)) fun _ hs hd S1 N1=>?_
       refine MW.ad 47 (.bool false) rfl hs hd rfl (MW.ab_want rfl H42 (zN N1 S0) rfl) (MW.ab_cmp_f c24 rfl S1 (by kernel_rfl)) fun _ hs hd S2 N2=>?_
       refine MW.ad 48 (.bool false) rfl hs hd rfl (MW.ab_want rfl H42 (zN N2 (zN N1 S0)) rfl) (MW.ab_move rfl S2) fun _ hs hd S3 N3=>?_
       refine MW.ak 49 rfl hs hd rfl (MW.ab_want rfl H45 S3 rfl) fun _ hs hd S4 N4=>?_
       refine MW.ak 50 rfl hs hd rfl (MW.ab_want rfl H45 (zN N4 S3) rfl) fun _ hs hd S5 N5=>?_
       refine MW.ad 51 (.bool false) rfl hs hd rfl (MW.ab_want rfl H42 (zN N5 (zN N4 (zN N3 (zN N2 (zN N1 S0))))) rfl) (MW.ab_pick_f rfl (zN N5 (zN N4 S3)) rfl) fun _ hs hd S6 N6=>?_
       refine MW.ad 52 (.bool false) rfl hs hd rfl rfl (MW.ab_pick_f rfl (zN N6 (zN N5 (zN N4 (zN N3 (zN N2 (zN N1 S0)))))) S6) fun _ hs hd S7 N7=>?_
       exact wpList_nil (hK_ _ _ (Stop.go ⟨false,Eq.trans (by first|rfl|(rw[if_neg c24];rfl)|(simp[*];done)) hE22.out.symm,hs,hd,(zN N7 (zN N6 (zN N5 (zN N4 (zN N3 (zN N2 (zN N1 (zN N0 ep5)))))))),S7,rfl⟩))
      case rest=>
       clear hs hd ep5 es5
       obtain⟨b21,hb_,hs,hd,ep6,es6,rfl⟩:=hc_
       simp only[List.drop_succ_cons,List.drop_zero,List.drop_nil]
       have H:=MW.bind_step HH.out (hb_.trans hE22.out)
       replace HH:=za H
       clear H hb_ hE22
       exact wpList_nil (hKC_ _ _ (Stop.go ⟨b21,HH.out,hs,hd,ep6,es6,rfl⟩))
theorem chars_letter.calls (a0:Int) (r:Bool) (w:World) (h:chars_letter.f a0=some r):
  Calls Try.prog 23 #[.int .i32 a0] w (fun e w'=>e=.returned (.bool r)∧Drawn0 w w'):=by
 have HH:=za h
 clear h
 unfold chars_letter.f at HH
 go_enter Try.func23,Try.ntmps23
 repeat(first|(refine MW.region_ops (id:=1) ?_)|go_step)
 intro OPS hO
 refine chars_letter.p0 OPS hO a0 r w _ (by kernel_rfl) (by kernel_rfl) (by kernel_rfl) HH.out ?_
 intro a' hs hd es
 repeat go_step
 refine bodyPost_ret (results_tmp rfl _ _ _) hd ?_
 exact⟨congrArg Ending.returned es,Drawn0.refl _⟩
end Go.Proofs.Ytkbiiijmgbjnkaa.GA
