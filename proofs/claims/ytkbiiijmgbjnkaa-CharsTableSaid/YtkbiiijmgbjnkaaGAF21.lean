import Derived.Test.YtkbiiijmgbjnkaaGA0
import Derived.Test.YtkbiiijmgbjnkaaGM1
import Derived.Test.YtkbiiijmgbjnkaaMS
import Derived.Test.YtkbiiijmgbjnkaaMT
import Derived.Test.YtkbiiijmgbjnkaaMX
namespace Go.Proofs.Ytkbiiijmgbjnkaa.GA
open Go.RowKit Go.Proofs.Ytkbiiijmgbjnkaa Go.Proofs.Ytkbiiijmgbjnkaa.MW Go.Proofs.YtkbiiijmgbjnkaaW.PrintWords Go.Proofs.YtkbiiijmgbjnkaaW.PrintLast Go.Proofs.YtkbiiijmgbjnkaaW.PrintMore
attribute [local go_sem] max2_int min2_int max_two min_two
set_option maxHeartbeats 8000000
set_option maxRecDepth 100000
set_option linter.unusedVariables false
set_option linter.unusedSimpArgs false
def toponymref03_Table.l0:Nat→(List (S38))→Int→(List (S38))→Option ((List (S38)))
 |0,_,_,_=>none
 |k+1,x5,x8,t1=>if x8<(t1.length:Int) then((if (x5.length:Int)>0 then(if 0≤(wrap64 ((x5.length:Int) - 1)) then(if (wrap64 ((x5.length:Int) - 1))<(x5.length:Int) then(if 0≤x8 then(if ((rd_T38 x5 (wrap64 ((x5.length:Int) - 1))).f2)=((rd_T38 t1 x8).f2) then(some (((wrap32 (((rd_T38 x5 (wrap64 ((x5.length:Int) - 1))).f1)+1))==((rd_T38 t1 x8).f0)))) else(some (false))) else(none)) else(none)) else(none)) else(some (false))).bind fun b18=>(if b18=true then(if 0≤(wrap64 ((x5.length:Int) - 1)) then(if (wrap64 ((x5.length:Int) - 1))<(x5.length:Int) then(if 0≤x8 then(if (wrap64 ((x5.length:Int) - 1))≤(x5.length:Int) then((some (List.take (wrap64 ((x5.length:Int) - 1)).toNat x5:List (S38))).bind fun y62=>(if ([]:List (S38)).length+y62.length<8796093022208 then((some (([]:List (S38))++y62:List (S38))).bind fun y69=>(if y69.length+[(⟨(rd_T38 x5 (wrap64 ((x5.length:Int) - 1))).f0,(rd_T38 t1 x8).f1,(rd_T38 t1 x8).f2⟩:S38)].length<8796093022208 then((some (y69++[(⟨(rd_T38 x5 (wrap64 ((x5.length:Int) - 1))).f0,(rd_T38 t1 x8).f1,(rd_T38 t1 x8).f2⟩:S38)]:List (S38))).bind fun y83=>((toponymref03_Table.l0 k y83 (wrap64 (x8+1)) t1))) else(none))) else(none))) else(none)) else(none)) else(none)) else(none)) else(if 0≤x8 then(if x5.length<8796093022208 then((some (x5++[(⟨(rd_T38 t1 x8).f0,(rd_T38 t1 x8).f1,(rd_T38 t1 x8).f2⟩:S38)]:List (S38))).bind fun y139=>((toponymref03_Table.l0 k y139 (wrap64 (x8+1)) t1))) else(none)) else(none)))) else(some x5)
def toponymref03_Table.f (k:Nat)  :Option ((List (S38))):=(toponymref03_Rows.f k).bind fun t1=>((toponymref03_Table.l0 k ([]:List (S38)) 0 t1))
theorem toponymref03_Table.mono_l:∀ k,(∀ y0 y1 y2,LeO (toponymref03_Table.l0 k y0 y1 y2) (toponymref03_Table.l0 (k+1) y0 y1 y2))
 |0=>fun _ _ _ r h=>by simp[toponymref03_Table.l0] at h
 |k+1=>by
  have ih0:=toponymref03_Table.mono_l k
  ·intro y0 y1 y2
   unfold toponymref03_Table.l0
   with_reducible repeat' first|exact ih0 _ _ _|exact toponymref03_Rows.mono _|exact LeO.refl _|exact LeO.none _|refine LeO.ite ?_ ?_|refine LeO.bind ?_ (fun _=>?_)
theorem toponymref03_Table.mono:∀ k,LeO (toponymref03_Table.f k) (toponymref03_Table.f (k+1)):=by
 intro  k
 have ih0:=toponymref03_Table.mono_l k
 unfold toponymref03_Table.f
 with_reducible repeat' first|exact ih0 _ _ _|exact toponymref03_Rows.mono _|exact LeO.refl _|exact LeO.none _|refine LeO.ite ?_ ?_|refine LeO.bind ?_ (fun _=>?_)
theorem toponymref03_Table.calls (k:Nat) (r:List (S38)) (w:World) (h:toponymref03_Table.f k  =some r):
  Calls Try.prog 21 #[] w (fun e w'=>∃ v0_:Value,e=.returned (v0_)∧Kd.N k38 38 w' w.heap.size (fun k_=>w.heap.size≤k_) v0_ r∧Below w.heap.size w w'):=by
 unfold toponymref03_Table.f at h
 have HH:=za h
 clear h
 have HB:=za (Below.refl w.heap.size w)
 have hu38:=Try.underlying38
 go_enter Try.func21,Try.ntmps21
 replace HH:=zd HH
 obtain⟨t1,At2,HH⟩:=HH
 go_wp2_with ((with_reducible refine gc 31 rfl ?_);refine zc 31 (some 5) Try.func31 #[] (h:=?_);(with_reducible refine(toponymref03_Rows.calls k  t1 _  At2.out).mono ?_);rintro e w3 ⟨v4,rfl,hn4,hb⟩;refine⟨_,rfl,?_⟩)
 refine zg ?_
 have hba:=Kd.N_base hn4
 have HN4:=znl (ok2:=(fun k_=>(w.heap.size≤k_))) hn4 (below_size HB.out) (fun k_ h_=>(Nat.le_trans (below_size HB.out) h_))
 replace HB:=zhb HB.out hb
 clear hn4 hba hb
 go_wp2
 go_loopg [2,3] k (fun kq u2 u3 w'=>∃ (x5:List (S38)) (x8:Int),u3=.int .i64 x8∧Aside0 ((toponymref03_Table.l0 kq x5 x8 t1)=some r)∧Aside0 (kq≤k)∧Aside0 (Kd.N k38 38 w' w.heap.size (fun k_=>(w.heap.size≤k_)∧some k_≠(u2:Value).ownBlock) v4 t1)∧Aside0 (Kd.N k38 38 w' w.heap.size (fun k_=>(w.heap.size≤k_)∧some k_≠(v4:Value).ownBlock) u2 x5)∧Aside0 (Below w.heap.size w w'))
 case atStart=>exact⟨([]:List (S38)),0,(by first|rfl|(simp;done)|(simp[*];done)),HH,⟨Nat.le_refl _⟩,⟨(Kd.N_mono (ok:=(fun k_=>(w.heap.size≤k_))) HN4.out (fun k_ hk_=>⟨hk_,(by simp[Value.ownBlock])⟩))⟩,⟨Kd.N_nil _ _ _ _ _⟩,⟨HB.out⟩⟩
 case round=>
  clear HH
  clear HN4 HB
  obtain⟨x5,x8,rfl,HA,HK0,HN4,HN7,HB⟩:=hrel
  obtain⟨v6,rfl⟩:∃ z_:Value,z_=u2:=⟨_,rfl⟩
  obtain⟨w10,rfl⟩:∃ wo_:World,wo_=wr:=⟨_,rfl⟩
  cases gk with
  |zero=>exact absurd HA.out (by simp[toponymref03_Table.l0])
  |succ k9=>
   have H:=HA.out
   clear HA
   simp only[toponymref03_Table.l0] at H
   have HH:=za H
   clear H
   obtain⟨A11,cp12,he_⟩:=Kd.N_slice HN4.out
   subst he_
   replace HH:=zqt HH
   rcases HH with⟨HH,hk14,hk15⟩|⟨HH,hk144,hk145⟩
   ·obtain⟨A16,cp17,he_⟩:=Kd.N_slice HN7.out
    subst he_
    replace HH:=zd HH
    obtain⟨b18,At19,HH⟩:=HH
    go_wp2
    obtain⟨R_,hR_⟩:∃ R_:Act→World→Prop,R_=(fun a_ w_=>∃ u14 u15 u16 u17 u18 u19 u20 u21 u22 u23 u24 u25 u26 u27 u28 u29 u30 u31 u32 u33 u34 u35 u36 u37 u38 u39 u40 u41 u42 u43:Value,a_=(⟨[(.slice none 0 0),(.slice A11 t1.length cp12),(.slice A16 x5.length cp17),(.int .i64 x8),(.int .i64 (x5.length:Int)),(.slice A11 t1.length cp12),(.int .i64 x8),(.slice A11 t1.length cp12),(.int .i64 (t1.length:Int)),(.bool true),u10,u11,(.slice A16 x5.length cp17),(.int .i64 (x5.length:Int)),u14,u15,u16,u17,u18,u19,u20,u21,u22,u23,u24,u25,u26,u27,u28,u29,u30,u31,u32,u33,u34,u35,u36,u37,u38,u39,u40,u41,u42,u43,.bool b18,u45,u46,u47,u48,u49,u50,u51,u52,u53,u54,u55,u56,u57,u58,u59,u60,u61,u62,u63,u64,u65,u66,u67,u68,u69,u70,u71,u72,u73,u74,u75,u76,undef].toArray,[]⟩:Act)∧Drawn0 w10 w_):=⟨_,rfl⟩
    replace hR_:=za hR_
    refine MS.join R_ ?_ ?_
    ·clear HH
     have HH:=At19
     clear At19
     replace HH:=zqK 0 HH
     rcases HH with⟨HH,hk22,hk23⟩|⟨HH,hk42,hk43⟩
     ·replace HH:=zqdo HH
      obtain⟨HH,hk25⟩:=HH
      replace HH:=zqto HH
      obtain⟨HH,hk27,hk28⟩:=HH
      have p29:0≤((wrap64 ((x5.length:Int) - 1)):Int):=of_decide_eq_true (by first|(with_reducible assumption)|assumption)
      have q29:(wrap64 ((x5.length:Int) - 1))<(x5.length:Int):=of_decide_eq_true (by first|(with_reducible assumption)|assumption)
      obtain⟨ad29,e29,hx29_0,hx29_1,hx29_2⟩:=atF_T38 (Kd.N_F HN7.out) (wrap64 ((x5.length:Int) - 1)) p29 q29
      cases e29
      replace p29:=eq_true p29
      replace q29:=eq_true q29
      replace HH:=zqdo HH
      obtain⟨HH,hk31⟩:=HH
      have p32:0≤(x8:Int):=of_decide_eq_true (by first|(with_reducible assumption)|assumption)
      have q32:x8<(t1.length:Int):=of_decide_eq_true (by first|(with_reducible assumption)|assumption)
      obtain⟨ad32,e32,hx32_0,hx32_1,hx32_2⟩:=atF_T38 (Kd.N_F HN4.out) x8 p32 q32
      cases e32
      replace p32:=eq_true p32
      replace q32:=eq_true q32
      replace HH:=zqe HH
      rcases HH with⟨HH,hk34,hk35⟩|⟨HH,hk36,hk37⟩
      ·go_wp2
       go_quiet (fail)
       obtain rfl:=Option.some.inj HH.out
       go_wp2
       refine MS.Joined.mk ?_
       rw[hR_.out]
       exact⟨_,_,_,_,_,_,_,_,_,_,_,_,_,_,_,_,_,_,_,_,_,_,_,_,_,_,_,_,_,_,rfl,by repeat(first|exact Drawn0.refl _|apply Drawn0.step)⟩
      go_wp2
      go_quiet (fail)
      obtain rfl:=Option.some.inj HH.out
      go_wp2
      refine MS.Joined.mk ?_
      rw[hR_.out]
      exact⟨_,_,_,_,_,_,_,_,_,_,_,_,_,_,_,_,_,_,_,_,_,_,_,_,_,_,_,_,_,_,rfl,by repeat(first|exact Drawn0.refl _|apply Drawn0.step)⟩
     go_wp2
     go_quiet (fail)
     obtain rfl:=Option.some.inj HH.out
     go_wp2
     refine MS.Joined.mk ?_
     rw[hR_.out]
     exact⟨_,_,_,_,_,_,_,_,_,_,_,_,_,_,_,_,_,_,_,_,_,_,_,_,_,_,_,_,_,_,rfl,by repeat(first|exact Drawn0.refl _|apply Drawn0.step)⟩
    intro a_ w20 hd_
    rw[hR_.out] at hd_
    obtain⟨u14,u15,u16,u17,u18,u19,u20,u21,u22,u23,u24,u25,u26,u27,u28,u29,u30,u31,u32,u33,u34,u35,u36,u37,u38,u39,u40,u41,u42,u43,rfl,hd_⟩:=hd_
    have hb:=MS.drawn_below hd_
    clear At19 hd_ hR_ R_
    replace HN4:=znb HN4.out hb
    replace HN7:=znb HN7.out hb
    replace HB:=zhb HB.out hb
    clear hb
    by_cases c44:b18=true
    ·replace HH:=MW.hpos HH c44
     subst c44
     go_wp2
     have hwr_:∀ n_:Int,IntKind.i64.wrap n_=wrap64 n_:=fun n_=>IntWalk.i64_left n_
     refine wp_region_any (by kernel_rfl) ?_
     change wpAny _ _ _ _ 26 #[false,false,false,false,false,false,false,false,false,false,false,false,false,false,false,false,false,false,false,false,false,false,false,false,false,false] _ w20.drew
     obtain⟨w45,hw_⟩:∃ w_:World,w_=w20.drew:=⟨_,rfl⟩
     rw[← hw_]
     have hb:Below w20.heap.size w20 w45:=by rw[hw_];exact below_drew1 (Below.refl _ _)
     clear hw_
     replace HN4:=znb HN4.out hb
     replace HN7:=znb HN7.out hb
     replace HB:=zhb HB.out hb
     clear hb
     replace HH:=zqdo HH
     obtain⟨HH,hk47⟩:=HH
     replace HH:=zqto HH
     obtain⟨HH,hk49,hk50⟩:=HH
     have p51:0≤((wrap64 ((x5.length:Int) - 1)):Int):=of_decide_eq_true (by first|(with_reducible assumption)|assumption)
     have q51:(wrap64 ((x5.length:Int) - 1))<(x5.length:Int):=of_decide_eq_true (by first|(with_reducible assumption)|assumption)
     obtain⟨ad51,e51,hx51_0,hx51_1,hx51_2⟩:=atF_T38 (Kd.N_F HN7.out) (wrap64 ((x5.length:Int) - 1)) p51 q51
     cases e51
     replace p51:=eq_true p51
     replace q51:=eq_true q51
     replace HH:=zqdo HH
     obtain⟨HH,hk53⟩:=HH
     have p54:0≤(x8:Int):=of_decide_eq_true (by first|(with_reducible assumption)|assumption)
     have q54:x8<(t1.length:Int):=of_decide_eq_true (by first|(with_reducible assumption)|assumption)
     obtain⟨ad54,e54,hx54_0,hx54_1,hx54_2⟩:=atF_T38 (Kd.N_F HN4.out) x8 p54 q54
     cases e54
     replace p54:=eq_true p54
     replace q54:=eq_true q54
     refine MW.last_in (ds:=[23,24]) (zk hx54_1 (zk hx54_2 (zk hx51_0 z0))) ?_
     refine zlp 1 ((.slice (some ad51) x5.length cp17)) #[_,_,_,_,_,_,_,_,_,_,_,_,_,_,_,_,_,_,_,_,_,_,_,_,_,_] ⟨[_,_,_,_,_,_,_,_,_,_,_,_,_,_,_,_,_,_,_,_,_,_,_,_,_,_,_,_,_,_,_,_,_,_,_,_,_,_,_,_,_,_,_,_,_,_,_,_,_,_,_,_,_,_,_,_,_,_,_,_,_,_,_,_,_,_,_,_,_,_,_,_,_,_,_,_,_,_].toArray,[]⟩ (h:=?_)
     refine zlp 2 (.int .i64 (x5.length:Int)) #[_,_,_,_,_,_,_,_,_,_,_,_,_,_,_,_,_,_,_,_,_,_,_,_,_,_] ⟨[_,_,_,_,_,_,_,_,_,_,_,_,_,_,_,_,_,_,_,_,_,_,_,_,_,_,_,_,_,_,_,_,_,_,_,_,_,_,_,_,_,_,_,_,_,_,_,_,_,_,_,_,_,_,_,_,_,_,_,_,_,_,_,_,_,_,_,_,_,_,_,_,_,_,_,_,_,_].toArray,[]⟩ (h:=?_)
     refine zlp 3 (.int .i64 (wrap64 ((x5.length:Int) - 1))) #[_,_,_,_,_,_,_,_,_,_,_,_,_,_,_,_,_,_,_,_,_,_,_,_,_,_] ⟨[_,_,_,_,_,_,_,_,_,_,_,_,_,_,_,_,_,_,_,_,_,_,_,_,_,_,_,_,_,_,_,_,_,_,_,_,_,_,_,_,_,_,_,_,_,_,_,_,_,_,_,_,_,_,_,_,_,_,_,_,_,_,_,_,_,_,_,_,_,_,_,_,_,_,_,_,_,_].toArray,[]⟩ (h:=?_)
     have HL58:=za (Kd.N_reads' HN7.out).2.1
     have HF57:=za (Kd.N_F HN7.out)
     clear HN7
     replace HN4:=za (Kd.N_mono (ok:=(fun k_=>(w.heap.size≤k_)∧some k_≠((.slice (some ad51) x5.length cp17):Value).ownBlock)) HN4.out (fun k_ hk_=>hk_.1):Kd.N k38 _ _ _ (fun k_=>(w.heap.size≤k_)) _ _)
     replace HH:=zqdo HH
     obtain⟨HH,hk61⟩:=HH
     (try simp only[hk61,Bool.not_true,Bool.not_false])
     obtain⟨i059,hi059,_,hsz59,_⟩:=info_parts info38
     have ql59:((wrap64 ((x5.length:Int) - 1)):Int)≤(x5.length:Int):=(by first|exact Int.le_refl _|exact of_decide_eq_true (by first|(with_reducible assumption)|assumption)|(simp;done))
     have q059:0≤((wrap64 ((x5.length:Int) - 1)):Int):=(by first|exact Int.natCast_nonneg _|exact of_decide_eq_true (by first|(with_reducible assumption)|assumption))
     have hcut59:=cut_to (P:=Try.prog) 33 38 .i64 Try.underlying33 hi059 (some ad51) x5.length cp17 (wrap64 ((x5.length:Int) - 1)) q059 ql59 HL58.out
     have hr59:=Kd.F_take (m:=(wrap64 ((x5.length:Int) - 1)).toNat) HF57.out (by omega)
     have hy59:(List.take (wrap64 ((x5.length:Int) - 1)).toNat x5).length=(wrap64 ((x5.length:Int) - 1)).toNat:=(by rw[List.length_take];omega)
     try simp only[Int.toNat_ofNat] at hcut59 hr59 hy59
     rw[← hy59] at hcut59
     have hl59:(List.take (wrap64 ((x5.length:Int) - 1)).toNat x5).length≤cp17:=(by have:=HL58.out;rw[List.length_take];omega)
     clear hy59 ql59 q059
     have HF59:=za hr59
     have HL59:=za hl59
     clear hr59 hl59 hi059 hsz59
     obtain⟨y62,hy62⟩:∃ y_:List (S38),y_=List.take (wrap64 ((x5.length:Int) - 1)).toNat x5:=⟨_,rfl⟩
     rw[← hy62] at hcut59 HL59 HF59
     have H:(if ([]:List (S38)).length+y62.length<8796093022208 then((some (([]:List (S38))++y62:List (S38))).bind fun y69=>(if y69.length+[(⟨(rd_T38 x5 (wrap64 ((x5.length:Int) - 1))).f0,(rd_T38 t1 x8).f1,(rd_T38 t1 x8).f2⟩:S38)].length<8796093022208 then((some (y69++[(⟨(rd_T38 x5 (wrap64 ((x5.length:Int) - 1))).f0,(rd_T38 t1 x8).f1,(rd_T38 t1 x8).f2⟩:S38)]:List (S38))).bind fun y83=>((toponymref03_Table.l0 k9 y83 (wrap64 (x8+1)) t1))) else(none))) else(none))=some r:=by rw[hy62];exact HH.out
     replace HH:=za H
     clear H
     clear hy62
     refine zlp 4 (.slice (some ad51) y62.length cp17) #[_,_,_,_,_,_,_,_,_,_,_,_,_,_,_,_,_,_,_,_,_,_,_,_,_,_] ⟨[_,_,_,_,_,_,_,_,_,_,_,_,_,_,_,_,_,_,_,_,_,_,_,_,_,_,_,_,_,_,_,_,_,_,_,_,_,_,_,_,_,_,_,_,_,_,_,_,_,_,_,_,_,_,_,_,_,_,_,_,_,_,_,_,_,_,_,_,_,_,_,_,_,_,_,_,_,_].toArray,[]⟩ (h:=?_)
     refine zlp 6 (.slice (some ad51) x5.length cp17) #[_,_,_,_,_,_,_,_,_,_,_,_,_,_,_,_,_,_,_,_,_,_,_,_,_,_] ⟨[_,_,_,_,_,_,_,_,_,_,_,_,_,_,_,_,_,_,_,_,_,_,_,_,_,_,_,_,_,_,_,_,_,_,_,_,_,_,_,_,_,_,_,_,_,_,_,_,_,_,_,_,_,_,_,_,_,_,_,_,_,_,_,_,_,_,_,_,_,_,_,_,_,_,_,_,_,_].toArray,[]⟩ (h:=?_)
     refine zlp 7 (.int .i64 (x5.length:Int)) #[_,_,_,_,_,_,_,_,_,_,_,_,_,_,_,_,_,_,_,_,_,_,_,_,_,_] ⟨[_,_,_,_,_,_,_,_,_,_,_,_,_,_,_,_,_,_,_,_,_,_,_,_,_,_,_,_,_,_,_,_,_,_,_,_,_,_,_,_,_,_,_,_,_,_,_,_,_,_,_,_,_,_,_,_,_,_,_,_,_,_,_,_,_,_,_,_,_,_,_,_,_,_,_,_,_,_].toArray,[]⟩ (h:=?_)
     refine zlp 8 (.int .i64 (wrap64 ((x5.length:Int) - 1))) #[_,_,_,_,_,_,_,_,_,_,_,_,_,_,_,_,_,_,_,_,_,_,_,_,_,_] ⟨[_,_,_,_,_,_,_,_,_,_,_,_,_,_,_,_,_,_,_,_,_,_,_,_,_,_,_,_,_,_,_,_,_,_,_,_,_,_,_,_,_,_,_,_,_,_,_,_,_,_,_,_,_,_,_,_,_,_,_,_,_,_,_,_,_,_,_,_,_,_,_,_,_,_,_,_,_,_].toArray,[]⟩ (h:=?_)
     refine zlp 9 (.pointer (some (ad51.add ((wrap64 ((x5.length:Int) - 1)).toNat*3)))) #[_,_,_,_,_,_,_,_,_,_,_,_,_,_,_,_,_,_,_,_,_,_,_,_,_,_] ⟨[_,_,_,_,_,_,_,_,_,_,_,_,_,_,_,_,_,_,_,_,_,_,_,_,_,_,_,_,_,_,_,_,_,_,_,_,_,_,_,_,_,_,_,_,_,_,_,_,_,_,_,_,_,_,_,_,_,_,_,_,_,_,_,_,_,_,_,_,_,_,_,_,_,_,_,_,_,_].toArray,[]⟩ (h:=?_)
     refine zlp 10 (.pointer (some (ad51.add ((wrap64 ((x5.length:Int) - 1)).toNat*3)))) #[_,_,_,_,_,_,_,_,_,_,_,_,_,_,_,_,_,_,_,_,_,_,_,_,_,_] ⟨[_,_,_,_,_,_,_,_,_,_,_,_,_,_,_,_,_,_,_,_,_,_,_,_,_,_,_,_,_,_,_,_,_,_,_,_,_,_,_,_,_,_,_,_,_,_,_,_,_,_,_,_,_,_,_,_,_,_,_,_,_,_,_,_,_,_,_,_,_,_,_,_,_,_,_,_,_,_].toArray,[]⟩ (h:=?_)
     refine zlp 12 ((.slice (some ad54) t1.length cp12)) #[_,_,_,_,_,_,_,_,_,_,_,_,_,_,_,_,_,_,_,_,_,_,_,_,_,_] ⟨[_,_,_,_,_,_,_,_,_,_,_,_,_,_,_,_,_,_,_,_,_,_,_,_,_,_,_,_,_,_,_,_,_,_,_,_,_,_,_,_,_,_,_,_,_,_,_,_,_,_,_,_,_,_,_,_,_,_,_,_,_,_,_,_,_,_,_,_,_,_,_,_,_,_,_,_,_,_].toArray,[]⟩ (h:=?_)
     refine zlp 13 (.int .i64 x8) #[_,_,_,_,_,_,_,_,_,_,_,_,_,_,_,_,_,_,_,_,_,_,_,_,_,_] ⟨[_,_,_,_,_,_,_,_,_,_,_,_,_,_,_,_,_,_,_,_,_,_,_,_,_,_,_,_,_,_,_,_,_,_,_,_,_,_,_,_,_,_,_,_,_,_,_,_,_,_,_,_,_,_,_,_,_,_,_,_,_,_,_,_,_,_,_,_,_,_,_,_,_,_,_,_,_,_].toArray,[]⟩ (h:=?_)
     refine zlp 14 (.pointer (some (ad54.add (x8.toNat*3)))) #[_,_,_,_,_,_,_,_,_,_,_,_,_,_,_,_,_,_,_,_,_,_,_,_,_,_] ⟨[_,_,_,_,_,_,_,_,_,_,_,_,_,_,_,_,_,_,_,_,_,_,_,_,_,_,_,_,_,_,_,_,_,_,_,_,_,_,_,_,_,_,_,_,_,_,_,_,_,_,_,_,_,_,_,_,_,_,_,_,_,_,_,_,_,_,_,_,_,_,_,_,_,_,_,_,_,_].toArray,[]⟩ (h:=?_)
     refine zlp 15 (.pointer (some ⟨(ad54.add (x8.toNat*3)).block,(ad54.add (x8.toNat*3)).off+1,none⟩)) #[_,_,_,_,_,_,_,_,_,_,_,_,_,_,_,_,_,_,_,_,_,_,_,_,_,_] ⟨[_,_,_,_,_,_,_,_,_,_,_,_,_,_,_,_,_,_,_,_,_,_,_,_,_,_,_,_,_,_,_,_,_,_,_,_,_,_,_,_,_,_,_,_,_,_,_,_,_,_,_,_,_,_,_,_,_,_,_,_,_,_,_,_,_,_,_,_,_,_,_,_,_,_,_,_,_,_].toArray,[]⟩ (h:=?_)
     refine zlp 17 ((.slice (some ad54) t1.length cp12)) #[_,_,_,_,_,_,_,_,_,_,_,_,_,_,_,_,_,_,_,_,_,_,_,_,_,_] ⟨[_,_,_,_,_,_,_,_,_,_,_,_,_,_,_,_,_,_,_,_,_,_,_,_,_,_,_,_,_,_,_,_,_,_,_,_,_,_,_,_,_,_,_,_,_,_,_,_,_,_,_,_,_,_,_,_,_,_,_,_,_,_,_,_,_,_,_,_,_,_,_,_,_,_,_,_,_,_].toArray,[]⟩ (h:=?_)
     refine zlp 18 (.int .i64 x8) #[_,_,_,_,_,_,_,_,_,_,_,_,_,_,_,_,_,_,_,_,_,_,_,_,_,_] ⟨[_,_,_,_,_,_,_,_,_,_,_,_,_,_,_,_,_,_,_,_,_,_,_,_,_,_,_,_,_,_,_,_,_,_,_,_,_,_,_,_,_,_,_,_,_,_,_,_,_,_,_,_,_,_,_,_,_,_,_,_,_,_,_,_,_,_,_,_,_,_,_,_,_,_,_,_,_,_].toArray,[]⟩ (h:=?_)
     refine zlp 19 (.pointer (some (ad54.add (x8.toNat*3)))) #[_,_,_,_,_,_,_,_,_,_,_,_,_,_,_,_,_,_,_,_,_,_,_,_,_,_] ⟨[_,_,_,_,_,_,_,_,_,_,_,_,_,_,_,_,_,_,_,_,_,_,_,_,_,_,_,_,_,_,_,_,_,_,_,_,_,_,_,_,_,_,_,_,_,_,_,_,_,_,_,_,_,_,_,_,_,_,_,_,_,_,_,_,_,_,_,_,_,_,_,_,_,_,_,_,_,_].toArray,[]⟩ (h:=?_)
     refine zlp 20 (.pointer (some ⟨(ad54.add (x8.toNat*3)).block,(ad54.add (x8.toNat*3)).off+2,none⟩)) #[_,_,_,_,_,_,_,_,_,_,_,_,_,_,_,_,_,_,_,_,_,_,_,_,_,_] ⟨[_,_,_,_,_,_,_,_,_,_,_,_,_,_,_,_,_,_,_,_,_,_,_,_,_,_,_,_,_,_,_,_,_,_,_,_,_,_,_,_,_,_,_,_,_,_,_,_,_,_,_,_,_,_,_,_,_,_,_,_,_,_,_,_,_,_,_,_,_,_,_,_,_,_,_,_,_,_].toArray,[]⟩ (h:=?_)
     refine MW.last_take (i:=11) (v:=.int .i32 ((rd_T38 x5 (wrap64 ((x5.length:Int) - 1))).f0)) (listed':= #[_,_,_,_,_,_,_,_,_,_,_,_,_,_,_,_,_,_,_,_,_,_,_,_,_,_]) (a':=⟨[_,_,_,_,_,_,_,_,_,_,_,_,_,_,_,_,_,_,_,_,_,_,_,_,_,_,_,_,_,_,_,_,_,_,_,_,_,_,_,_,_,_,_,_,_,_,_,_,_,_,_,_,_,_,_,_,_,_,_,_,_,_,_,_,_,_,_,_,_,_,_,_,_,_,_,_,_,_].toArray,[]⟩) rfl (by kernel_rfl) (by kernel_rfl) (by kernel_rfl) (by kernel_rfl) (by kernel_rfl) (fun _ _ _ h_=>h_) (by kernel_rfl) (fun w_ hS_=>?go) (zk hx54_1 (zk hx54_2 (zk hx51_0 z0))) rfl rfl ?_
     case go=>obtain⟨_,_,hs2_,_⟩:=hS_;first|(go_simp;done)|(go_simp;rfl)
     refine MW.last_take (i:=16) (v:=.int .i32 ((rd_T38 t1 x8).f1)) (listed':= #[_,_,_,_,_,_,_,_,_,_,_,_,_,_,_,_,_,_,_,_,_,_,_,_,_,_]) (a':=⟨[_,_,_,_,_,_,_,_,_,_,_,_,_,_,_,_,_,_,_,_,_,_,_,_,_,_,_,_,_,_,_,_,_,_,_,_,_,_,_,_,_,_,_,_,_,_,_,_,_,_,_,_,_,_,_,_,_,_,_,_,_,_,_,_,_,_,_,_,_,_,_,_,_,_,_,_,_,_].toArray,[]⟩) rfl (by kernel_rfl) (by kernel_rfl) (by kernel_rfl) (by kernel_rfl) (by kernel_rfl) (fun _ _ _ h_=>h_) (by kernel_rfl) (fun w_ hS_=>?go) (zk hx54_1 (zk hx54_2 (zk hx51_0 z0))) rfl rfl ?_
     case go=>obtain⟨hs0_,_,_,_⟩:=hS_;first|(go_simp;done)|(go_simp;rfl)
     refine MW.last_take (i:=21) (v:=.int .i64 ((rd_T38 t1 x8).f2)) (listed':= #[_,_,_,_,_,_,_,_,_,_,_,_,_,_,_,_,_,_,_,_,_,_,_,_,_,_]) (a':=⟨[_,_,_,_,_,_,_,_,_,_,_,_,_,_,_,_,_,_,_,_,_,_,_,_,_,_,_,_,_,_,_,_,_,_,_,_,_,_,_,_,_,_,_,_,_,_,_,_,_,_,_,_,_,_,_,_,_,_,_,_,_,_,_,_,_,_,_,_,_,_,_,_,_,_,_,_,_,_].toArray,[]⟩) rfl (by kernel_rfl) (by kernel_rfl) (by kernel_rfl) (by kernel_rfl) (by kernel_rfl) (fun _ _ _ h_=>h_) (by kernel_rfl) (fun w_ hS_=>?go) (zk hx54_1 (zk hx54_2 (zk hx51_0 z0))) rfl rfl ?_
     case go=>obtain⟨_,hs1_,_,_⟩:=hS_;first|(go_simp;done)|(go_simp;rfl)
     refine zlp 22 (.agg #[.int .i32 ((rd_T38 x5 (wrap64 ((x5.length:Int) - 1))).f0),.int .i32 ((rd_T38 t1 x8).f1),.int .i64 ((rd_T38 t1 x8).f2)]) #[_,_,_,_,_,_,_,_,_,_,_,_,_,_,_,_,_,_,_,_,_,_,_,_,_,_] ⟨[_,_,_,_,_,_,_,_,_,_,_,_,_,_,_,_,_,_,_,_,_,_,_,_,_,_,_,_,_,_,_,_,_,_,_,_,_,_,_,_,_,_,_,_,_,_,_,_,_,_,_,_,_,_,_,_,_,_,_,_,_,_,_,_,_,_,_,_,_,_,_,_,_,_,_,_,_,_].toArray,[]⟩ (h:=?_)
     refine MS.last_fork (i:=0) (j:=23) (by kernel_rfl) ?_ ?_
     ·refine MS.one_act (i:=0) (listed':= #[true,true,true,true,true,false,true,true,true,true,true,true,true,true,true,true,true,true,true,true,true,true,true,false,false,false]) rfl (by kernel_rfl) (by decide) ?_
      go_wp2_with (((with_reducible refine gate_dst (N:=45) rfl ?_);(try(refine gate_guard (by rfl) ?_;dsimp only));refine Kd.N_lit k38 w.heap.size 38 rfl (N':=45) rfl (xs:=([]:List (S38))) (inner:=[]) (ok:=(fun k_=>(w.heap.size≤k_)∧some k_≠((.slice (some ad54) t1.length cp12):Value).ownBlock)) (okp:=(fun k_=>(w.heap.size≤k_)∧some k_≠((.slice (some ad54) t1.length cp12):Value).ownBlock)) ?hr ?hp (fun _ hk_=>hk_) ?hf HB.out (below_size HB.out) (by first|simp|decide) ?_;(case hr=>first|(go_simp;done)|(go_simp;rfl));(case hp=>exact(Reps.none _ _));(case hf=>exact(show ∀ k_,w45.heap.size≤k_→(fun k_=>(w.heap.size≤k_)∧some k_≠((.slice (some ad54) t1.length cp12):Value).ownBlock) k_ from fun k_ h_=>⟨(Nat.le_trans (below_size HB.out) h_),Kd.fresh' (Kd.N_lt HN4.out) k_ h_⟩) _ (Nat.le_refl _));intro v63 w64 hn1 hb1 hg1 hat1);replace hat1:=za hat1;refine stop_ ?_)
      refine zg ?_
      replace hat1:=hat1.out
      have hbe:=MW.grown_below hg1
      have hba:=MW.base_of hat1
      replace HF57:=za (Kd.F_mono (Kd.F_elder' (ok:=(fun k_=>(w.heap.size≤k_)∧some k_≠((.slice (some ad54) t1.length cp12):Value).ownBlock)) HF57.out hba hbe) (fun k_ hk_=>hk_):Kd.F k38 _ (fun k_=>((w.heap.size≤k_)∧some k_≠((.slice (some ad54) t1.length cp12):Value).ownBlock)∧some k_≠(v63:Value).ownBlock) _ _ _)
      replace HF59:=za (Kd.F_mono (Kd.F_elder' (ok:=(fun k_=>(w.heap.size≤k_)∧some k_≠((.slice (some ad54) t1.length cp12):Value).ownBlock)) HF59.out hba hbe) (fun k_ hk_=>hk_):Kd.F k38 _ (fun k_=>((w.heap.size≤k_)∧some k_≠((.slice (some ad54) t1.length cp12):Value).ownBlock)∧some k_≠(v63:Value).ownBlock) _ _ _)
      replace HN4:=za (Kd.N_mono (Kd.N_elder' (ok:=(fun k_=>(w.heap.size≤k_))) HN4.out hba hbe) (fun k_ hk_=>hk_):Kd.N k38 _ _ _ (fun k_=>(w.heap.size≤k_)∧some k_≠(v63:Value).ownBlock) _ _)
      replace HB:=za hb1
      have HN65:=za hn1
      clear hn1 hb1 hg1 hat1 hbe hba
      clear hx51_0 hx51_1 hx51_2 p51 q51 hx54_0 hx54_1 hx54_2 p54 q54 hcut59
      have p66:0≤((wrap64 ((x5.length:Int) - 1)):Int):=of_decide_eq_true (by first|(with_reducible assumption)|assumption)
      have q66:(wrap64 ((x5.length:Int) - 1))<(x5.length:Int):=of_decide_eq_true (by first|(with_reducible assumption)|assumption)
      obtain⟨ad66,e66,hx66_0,hx66_1,hx66_2⟩:=atF_T38 HF57.out (wrap64 ((x5.length:Int) - 1)) p66 q66
      cases e66
      replace p66:=eq_true p66
      replace q66:=eq_true q66
      have p67:0≤(x8:Int):=of_decide_eq_true (by first|(with_reducible assumption)|assumption)
      have q67:x8<(t1.length:Int):=of_decide_eq_true (by first|(with_reducible assumption)|assumption)
      obtain⟨ad67,e67,hx67_0,hx67_1,hx67_2⟩:=atF_T38 (Kd.N_F HN4.out) x8 p67 q67
      cases e67
      replace p67:=eq_true p67
      replace q67:=eq_true q67
      refine wpList_nil ?_
      change MW.Cells _ _∧wpAnyLast _ _ _ _ _ _ 4 #[true,true,true,true,true,false,true,true,true,true,true,true,true,true,true,true,true,true,true,true,true,true,true,false,false,false] ⟨[_,_,_,_,_,_,_,_,_,_,_,_,_,_,_,_,_,_,_,_,_,_,_,_,_,_,_,_,_,_,_,_,_,_,_,_,_,_,_,_,_,_,_,_,_,_,_,_,_,_,_,_,_,_,_,_,_,_,_,_,_,_,_,_,_,_,_,_,_,_,_,_,_,_,_,_,_,_].toArray,[]⟩ _
      refine⟨(zk hx67_1 (zk hx67_2 (zk hx66_0 z0))),?_⟩
      refine MS.last_fork (i:=5) (j:=23) (by kernel_rfl) ?_ ?_
      ·refine MS.one_act (i:=5) (listed':= #[true,true,true,true,true,true,true,true,true,true,true,true,true,true,true,true,true,true,true,true,true,true,true,false,false,false]) rfl (by kernel_rfl) (by decide) ?_
       obtain⟨HH,LMc68⟩:=zlm HH
       obtain⟨y69,hy69⟩:∃ y_:List (S38),y_=(([]:List (S38))++y62):=⟨_,rfl⟩
       have H:(if y69.length+[(⟨(rd_T38 x5 (wrap64 ((x5.length:Int) - 1))).f0,(rd_T38 t1 x8).f1,(rd_T38 t1 x8).f2⟩:S38)].length<8796093022208 then((some (y69++[(⟨(rd_T38 x5 (wrap64 ((x5.length:Int) - 1))).f0,(rd_T38 t1 x8).f1,(rd_T38 t1 x8).f2⟩:S38)]:List (S38))).bind fun y83=>((toponymref03_Table.l0 k9 y83 (wrap64 (x8+1)) t1))) else(none))=some r:=by rw[hy69];exact HH.out
       replace HH:=za H
       clear H
       have NYy69:=za hy69
       clear hy69
       go_wp2_with (((with_reducible refine gate_dst (N:=50) rfl ?_);(try(refine gate_guard (by rfl) ?_;dsimp only));refine Kd.N_append_rows k38 w.heap.size rfl _ _ 33 38 (.agg #[(.int .i32 0),(.int .i32 0),(.int .i64 0)]) 16 rfl Try.underlying33 info38 rfl (by decide) (by decide) (v63) ([]:List (S38)) y62 _ _ _ (fun k_=>(w.heap.size≤k_)∧some k_≠((.slice (some ad54) t1.length cp12):Value).ownBlock) (fun k_=>(fun k_=>(w.heap.size≤k_)∧some k_≠((.slice (some ad54) t1.length cp12):Value).ownBlock) k_∧some k_≠(v63:Value).ownBlock) rfl rfl HN65.out (Kd.F_mono (ok:=(fun k_=>((w.heap.size≤k_)∧some k_≠((.slice (some ad54) t1.length cp12):Value).ownBlock)∧some k_≠(v63:Value).ownBlock)) HF59.out (fun k_ hk_=>⟨hk_.1,hk_.2⟩)) (fun _ hk_=>hk_) (fun k_ h_=>⟨(Nat.le_trans (below_size HB.out) h_),Kd.fresh' (Kd.N_lt HN4.out) k_ h_⟩) HB.out (below_size HB.out) (by first|(have:=LMc68.out;simp only[List.length_nil] at *;omega)|(have:=LMc68.out;simp at *;omega)) ?_;intro v70 w71 hn1 hb1 hg1 hat1);replace hat1:=za hat1;refine stop_ ?_)
       refine zg ?_
       replace hat1:=hat1.out
       replace HF57:=za (Kd.F_mono (Kd.F_after (v:=v63) (ok:=(fun k_=>(w.heap.size≤k_)∧some k_≠((.slice (some ad54) t1.length cp12):Value).ownBlock)) (Kd.F_mono (ok:=(fun k_=>((w.heap.size≤k_)∧some k_≠((.slice (some ad54) t1.length cp12):Value).ownBlock)∧some k_≠(v63:Value).ownBlock)) HF57.out (fun k_ hk_=>⟨hk_.1,hk_.2⟩)) hg1 hat1) (fun k_ hk_=>hk_):Kd.F k38 _ (fun k_=>((w.heap.size≤k_)∧some k_≠((.slice (some ad54) t1.length cp12):Value).ownBlock)∧some k_≠(v70:Value).ownBlock) _ _ _)
       replace HN4:=za (Kd.N_mono (Kd.N_after (u:=v63) (ok:=(fun k_=>(w.heap.size≤k_))) (Kd.N_mono (ok:=(fun k_=>(w.heap.size≤k_)∧some k_≠(v63:Value).ownBlock)) HN4.out (fun k_ hk_=>⟨hk_.1,hk_.2⟩)) hg1 hat1) (fun k_ hk_=>hk_):Kd.N k38 _ _ _ (fun k_=>(w.heap.size≤k_)∧some k_≠(v70:Value).ownBlock) _ _)
       replace HB:=za hb1
       clear HN65
       have HN72:=za hn1
       clear hn1 hb1 hg1 hat1
       replace HN72:=za (by rw[NYy69.out];exact HN72.out:Kd.N k38 38 w71 w.heap.size (fun k_=>(w.heap.size≤k_)∧some k_≠((.slice (some ad54) t1.length cp12):Value).ownBlock) v70 y69)
       clear hx66_0 hx66_1 hx66_2 p66 q66 hx67_0 hx67_1 hx67_2 p67 q67
       have p73:0≤((wrap64 ((x5.length:Int) - 1)):Int):=of_decide_eq_true (by first|(with_reducible assumption)|assumption)
       have q73:(wrap64 ((x5.length:Int) - 1))<(x5.length:Int):=of_decide_eq_true (by first|(with_reducible assumption)|assumption)
       obtain⟨ad73,e73,hx73_0,hx73_1,hx73_2⟩:=atF_T38 HF57.out (wrap64 ((x5.length:Int) - 1)) p73 q73
       cases e73
       replace p73:=eq_true p73
       replace q73:=eq_true q73
       have p74:0≤(x8:Int):=of_decide_eq_true (by first|(with_reducible assumption)|assumption)
       have q74:x8<(t1.length:Int):=of_decide_eq_true (by first|(with_reducible assumption)|assumption)
       obtain⟨ad74,e74,hx74_0,hx74_1,hx74_2⟩:=atF_T38 (Kd.N_F HN4.out) x8 p74 q74
       cases e74
       replace p74:=eq_true p74
       replace q74:=eq_true q74
       refine wpList_nil ?_
       change MW.Cells _ _∧wpAnyLast _ _ _ _ _ _ 3 #[true,true,true,true,true,true,true,true,true,true,true,true,true,true,true,true,true,true,true,true,true,true,true,false,false,false] ⟨[_,_,_,_,_,_,_,_,_,_,_,_,_,_,_,_,_,_,_,_,_,_,_,_,_,_,_,_,_,_,_,_,_,_,_,_,_,_,_,_,_,_,_,_,_,_,_,_,_,_,_,_,_,_,_,_,_,_,_,_,_,_,_,_,_,_,_,_,_,_,_,_,_,_,_,_,_,_].toArray,[]⟩ _
       refine⟨(zk hx74_1 (zk hx74_2 (zk hx73_0 z0))),?_⟩
       refine MW.last_fin (i:=23) (listed':= #[true,true,true,true,true,true,true,true,true,true,true,true,true,true,true,true,true,true,true,true,true,true,true,true,false,false]) rfl (by kernel_rfl) (by kernel_rfl) (by kernel_rfl) ?_
       go_wp2_with (((with_reducible refine gate_dst (N:=68) rfl ?_);(try(refine gate_guard (by rfl) ?_;dsimp only));refine Kd.N_lit k38 w.heap.size 38 rfl (N':=68) rfl (xs:=[(⟨(rd_T38 x5 (wrap64 ((x5.length:Int) - 1))).f0,(rd_T38 t1 x8).f1,(rd_T38 t1 x8).f2⟩:S38)]) (inner:=[.int .i32 ((rd_T38 x5 (wrap64 ((x5.length:Int) - 1))).f0),.int .i32 ((rd_T38 t1 x8).f1),.int .i64 ((rd_T38 t1 x8).f2)]) (ok:=(fun k_=>((w.heap.size≤k_)∧some k_≠((.slice (some ad54) t1.length cp12):Value).ownBlock)∧some k_≠(v70:Value).ownBlock)) (okp:=(fun k_=>((w.heap.size≤k_)∧some k_≠((.slice (some ad54) t1.length cp12):Value).ownBlock)∧some k_≠(v70:Value).ownBlock)) ?hr ?hp (fun _ hk_=>hk_) ?hf HB.out (below_size HB.out) (by first|simp|decide) ?_;(case hr=>first|(go_simp;done)|(go_simp;rfl));(case hp=>exact(Reps.c3 (k38_mkF _ _ (⟨(rd_T38 x5 (wrap64 ((x5.length:Int) - 1))).f0,(rd_T38 t1 x8).f1,(rd_T38 t1 x8).f2⟩:S38)) (Reps.none _ _)));(case hf=>exact(show ∀ k_,w71.heap.size≤k_→(fun k_=>((w.heap.size≤k_)∧some k_≠((.slice (some ad54) t1.length cp12):Value).ownBlock)∧some k_≠(v70:Value).ownBlock) k_ from fun k_ h_=>⟨⟨(Nat.le_trans (below_size HB.out) h_),Kd.fresh' (Kd.N_lt HN4.out) k_ h_⟩,Kd.fresh' (Kd.N_lt HN72.out) k_ h_⟩) _ (Nat.le_refl _));intro v75 w76 hn1 hb1 hg1 hat1);replace hat1:=za hat1;refine stop_ ?_)
       refine zg ?_
       replace hat1:=hat1.out
       have hbe:=MW.grown_below hg1
       have hba:=MW.base_of hat1
       replace HN4:=za (Kd.N_mono (Kd.N_elder' (ok:=(fun k_=>(w.heap.size≤k_)∧some k_≠(v70:Value).ownBlock)) HN4.out hba hbe) (fun k_ hk_=>hk_):Kd.N k38 _ _ _ (fun k_=>((w.heap.size≤k_)∧some k_≠(v70:Value).ownBlock)∧some k_≠(v75:Value).ownBlock) _ _)
       replace HN72:=za (Kd.N_mono (Kd.N_elder' (ok:=(fun k_=>(w.heap.size≤k_)∧some k_≠((.slice (some ad54) t1.length cp12):Value).ownBlock)) HN72.out hba hbe) (fun k_ hk_=>hk_):Kd.N k38 _ _ _ (fun k_=>((w.heap.size≤k_)∧some k_≠((.slice (some ad54) t1.length cp12):Value).ownBlock)∧some k_≠(v75:Value).ownBlock) _ _)
       replace HB:=za hb1
       have HN77:=za hn1
       clear hn1 hb1 hg1 hat1 hbe hba
       clear hx73_0 hx73_1 hx73_2 p73 q73 hx74_0 hx74_1 hx74_2 p74 q74
       refine wpList_nil ?_
       change wpAnyLast _ _ _ _ _ _ 2 #[true,true,true,true,true,true,true,true,true,true,true,true,true,true,true,true,true,true,true,true,true,true,true,true,false,false] ⟨[_,_,_,_,_,_,_,_,_,_,_,_,_,_,_,_,_,_,_,_,_,_,_,_,_,_,_,_,_,_,_,_,_,_,_,_,_,_,_,_,_,_,_,_,_,_,_,_,_,_,_,_,_,_,_,_,_,_,_,_,_,_,_,_,_,_,_,_,_,_,_,_,_,_,_,_,_,_].toArray,[]⟩ _
       refine MW.last_fin (i:=24) (listed':= #[true,true,true,true,true,true,true,true,true,true,true,true,true,true,true,true,true,true,true,true,true,true,true,true,true,false]) rfl (by kernel_rfl) (by kernel_rfl) (by kernel_rfl) ?_
       obtain⟨A78,cp79,he_⟩:=Kd.N_slice HN77.out
       subst he_
       have HF80:=za (Kd.N_F HN77.out)
       clear HN77
       replace HN4:=za (Kd.N_mono (ok:=(fun k_=>((w.heap.size≤k_)∧some k_≠(v70:Value).ownBlock)∧some k_≠((.slice A78 [(⟨(rd_T38 x5 (wrap64 ((x5.length:Int) - 1))).f0,(rd_T38 t1 x8).f1,(rd_T38 t1 x8).f2⟩:S38)].length cp79):Value).ownBlock)) HN4.out (fun k_ hk_=>hk_.1):Kd.N k38 _ _ _ (fun k_=>(w.heap.size≤k_)∧some k_≠(v70:Value).ownBlock) _ _)
       replace HN72:=za (Kd.N_mono (ok:=(fun k_=>((w.heap.size≤k_)∧some k_≠((.slice (some ad54) t1.length cp12):Value).ownBlock)∧some k_≠((.slice A78 [(⟨(rd_T38 x5 (wrap64 ((x5.length:Int) - 1))).f0,(rd_T38 t1 x8).f1,(rd_T38 t1 x8).f2⟩:S38)].length cp79):Value).ownBlock)) HN72.out (fun k_ hk_=>hk_.1):Kd.N k38 _ _ _ (fun k_=>(w.heap.size≤k_)∧some k_≠((.slice (some ad54) t1.length cp12):Value).ownBlock) _ _)
       obtain⟨HH,LMc82⟩:=zlm HH
       obtain⟨y83,hy83⟩:∃ y_:List (S38),y_=(y69++[(⟨(rd_T38 x5 (wrap64 ((x5.length:Int) - 1))).f0,(rd_T38 t1 x8).f1,(rd_T38 t1 x8).f2⟩:S38)]):=⟨_,rfl⟩
       have H:((toponymref03_Table.l0 k9 y83 (wrap64 (x8+1)) t1))=some r:=by rw[hy83];exact HH.out
       replace HH:=za H
       clear H
       have NYy83:=za hy83
       clear hy83
       go_wp2_with (((with_reducible refine gate_dst (N:=69) rfl ?_);(try(refine gate_guard (by rfl) ?_;dsimp only));refine Kd.N_append_rows k38 w.heap.size rfl _ _ 33 38 (.agg #[(.int .i32 0),(.int .i32 0),(.int .i64 0)]) 16 rfl Try.underlying33 info38 rfl (by decide) (by decide) (v70) y69 [(⟨(rd_T38 x5 (wrap64 ((x5.length:Int) - 1))).f0,(rd_T38 t1 x8).f1,(rd_T38 t1 x8).f2⟩:S38)] _ _ _ (fun k_=>(w.heap.size≤k_)∧some k_≠((.slice (some ad54) t1.length cp12):Value).ownBlock) (fun k_=>(fun k_=>(w.heap.size≤k_)∧some k_≠((.slice (some ad54) t1.length cp12):Value).ownBlock) k_∧some k_≠(v70:Value).ownBlock) rfl rfl HN72.out (Kd.F_mono (ok:=(fun k_=>((w.heap.size≤k_)∧some k_≠((.slice (some ad54) t1.length cp12):Value).ownBlock)∧some k_≠(v70:Value).ownBlock)) HF80.out (fun k_ hk_=>⟨hk_.1,hk_.2⟩)) (fun _ hk_=>hk_) (fun k_ h_=>⟨(Nat.le_trans (below_size HB.out) h_),Kd.fresh' (Kd.N_lt HN4.out) k_ h_⟩) HB.out (below_size HB.out) (by first|(have:=LMc82.out;simp only[List.length_nil] at *;omega)|(have:=LMc82.out;simp at *;omega)) ?_;intro v84 w85 hn1 hb1 hg1 hat1);replace hat1:=za hat1;refine stop_ ?_)
       refine zg ?_
       replace hat1:=hat1.out
       replace HN4:=za (Kd.N_mono (Kd.N_after (u:=v70) (ok:=(fun k_=>(w.heap.size≤k_))) (Kd.N_mono (ok:=(fun k_=>(w.heap.size≤k_)∧some k_≠(v70:Value).ownBlock)) HN4.out (fun k_ hk_=>⟨hk_.1,hk_.2⟩)) hg1 hat1) (fun k_ hk_=>hk_):Kd.N k38 _ _ _ (fun k_=>(w.heap.size≤k_)∧some k_≠(v84:Value).ownBlock) _ _)
       replace HB:=za hb1
       clear HN72
       have HN86:=za hn1
       clear hn1 hb1 hg1 hat1
       replace HN86:=za (by rw[NYy83.out];exact HN86.out:Kd.N k38 38 w85 w.heap.size (fun k_=>(w.heap.size≤k_)∧some k_≠((.slice (some ad54) t1.length cp12):Value).ownBlock) v84 y83)
       refine wpList_nil ?_
       change wpAnyLast _ _ _ _ _ _ 1 #[true,true,true,true,true,true,true,true,true,true,true,true,true,true,true,true,true,true,true,true,true,true,true,true,true,false] ⟨[_,_,_,_,_,_,_,_,_,_,_,_,_,_,_,_,_,_,_,_,_,_,_,_,_,_,_,_,_,_,_,_,_,_,_,_,_,_,_,_,_,_,_,_,_,_,_,_,_,_,_,_,_,_,_,_,_,_,_,_,_,_,_,_,_,_,_,_,_,_,_,_,_,_,_,_,_,_].toArray,[]⟩ _
       refine zlp 25 (v84) #[_,_,_,_,_,_,_,_,_,_,_,_,_,_,_,_,_,_,_,_,_,_,_,_,_,_] ⟨[_,_,_,_,_,_,_,_,_,_,_,_,_,_,_,_,_,_,_,_,_,_,_,_,_,_,_,_,_,_,_,_,_,_,_,_,_,_,_,_,_,_,_,_,_,_,_,_,_,_,_,_,_,_,_,_,_,_,_,_,_,_,_,_,_,_,_,_,_,_,_,_,_,_,_,_,_,_].toArray,[]⟩ (h:=?_)
       refine MW.last_done (by kernel_rfl) ?_ _
       clear hwr_
       go_wp2
       go_roundg k9
       case measure=>have:=HK0.out;omega
       case rel=>exact⟨y83,wrap64 (x8+1),(by first|rfl|(simp;done)|(simp[*];done)),HH,⟨by have:=HK0.out;omega⟩,⟨(Kd.N_mono (ok:=(fun k_=>(w.heap.size≤k_)∧some k_≠(v84:Value).ownBlock)) HN4.out (fun k_ hk_=>hk_))⟩,⟨(Kd.N_mono (ok:=(fun k_=>(w.heap.size≤k_)∧some k_≠((.slice (some ad54) t1.length cp12):Value).ownBlock)) HN86.out (fun k_ hk_=>hk_))⟩,⟨HB.out⟩⟩
      refine MS.one_fin (i:=23) (listed':= #[true,true,true,true,true,false,true,true,true,true,true,true,true,true,true,true,true,true,true,true,true,true,true,true,false,false]) rfl (by kernel_rfl) (by kernel_rfl) ?_
      go_wp2_with (((with_reducible refine gate_dst (N:=68) rfl ?_);(try(refine gate_guard (by rfl) ?_;dsimp only));refine Kd.N_lit k38 w.heap.size 38 rfl (N':=68) rfl (xs:=[(⟨(rd_T38 x5 (wrap64 ((x5.length:Int) - 1))).f0,(rd_T38 t1 x8).f1,(rd_T38 t1 x8).f2⟩:S38)]) (inner:=[.int .i32 ((rd_T38 x5 (wrap64 ((x5.length:Int) - 1))).f0),.int .i32 ((rd_T38 t1 x8).f1),.int .i64 ((rd_T38 t1 x8).f2)]) (ok:=(fun k_=>((w.heap.size≤k_)∧some k_≠((.slice (some ad54) t1.length cp12):Value).ownBlock)∧some k_≠(v63:Value).ownBlock)) (okp:=(fun k_=>((w.heap.size≤k_)∧some k_≠((.slice (some ad54) t1.length cp12):Value).ownBlock)∧some k_≠(v63:Value).ownBlock)) ?hr ?hp (fun _ hk_=>hk_) ?hf HB.out (below_size HB.out) (by first|simp|decide) ?_;(case hr=>first|(go_simp;done)|(go_simp;rfl));(case hp=>exact(Reps.c3 (k38_mkF _ _ (⟨(rd_T38 x5 (wrap64 ((x5.length:Int) - 1))).f0,(rd_T38 t1 x8).f1,(rd_T38 t1 x8).f2⟩:S38)) (Reps.none _ _)));(case hf=>exact(show ∀ k_,w64.heap.size≤k_→(fun k_=>((w.heap.size≤k_)∧some k_≠((.slice (some ad54) t1.length cp12):Value).ownBlock)∧some k_≠(v63:Value).ownBlock) k_ from fun k_ h_=>⟨⟨(Nat.le_trans (below_size HB.out) h_),Kd.fresh' (Kd.N_lt HN4.out) k_ h_⟩,Kd.fresh' (Kd.N_lt HN65.out) k_ h_⟩) _ (Nat.le_refl _));intro v87 w88 hn1 hb1 hg1 hat1);replace hat1:=za hat1;refine stop_ ?_)
      refine zg ?_
      replace hat1:=hat1.out
      have hbe:=MW.grown_below hg1
      have hba:=MW.base_of hat1
      replace HF57:=za (Kd.F_mono (Kd.F_elder' (ok:=(fun k_=>((w.heap.size≤k_)∧some k_≠((.slice (some ad54) t1.length cp12):Value).ownBlock)∧some k_≠(v63:Value).ownBlock)) HF57.out hba hbe) (fun k_ hk_=>hk_):Kd.F k38 _ (fun k_=>(((w.heap.size≤k_)∧some k_≠((.slice (some ad54) t1.length cp12):Value).ownBlock)∧some k_≠(v63:Value).ownBlock)∧some k_≠(v87:Value).ownBlock) _ _ _)
      replace HF59:=za (Kd.F_mono (Kd.F_elder' (ok:=(fun k_=>((w.heap.size≤k_)∧some k_≠((.slice (some ad54) t1.length cp12):Value).ownBlock)∧some k_≠(v63:Value).ownBlock)) HF59.out hba hbe) (fun k_ hk_=>hk_):Kd.F k38 _ (fun k_=>(((w.heap.size≤k_)∧some k_≠((.slice (some ad54) t1.length cp12):Value).ownBlock)∧some k_≠(v63:Value).ownBlock)∧some k_≠(v87:Value).ownBlock) _ _ _)
      replace HN4:=za (Kd.N_mono (Kd.N_elder' (ok:=(fun k_=>(w.heap.size≤k_)∧some k_≠(v63:Value).ownBlock)) HN4.out hba hbe) (fun k_ hk_=>hk_):Kd.N k38 _ _ _ (fun k_=>((w.heap.size≤k_)∧some k_≠(v63:Value).ownBlock)∧some k_≠(v87:Value).ownBlock) _ _)
      replace HN65:=za (Kd.N_mono (Kd.N_elder' (ok:=(fun k_=>(w.heap.size≤k_)∧some k_≠((.slice (some ad54) t1.length cp12):Value).ownBlock)) HN65.out hba hbe) (fun k_ hk_=>hk_):Kd.N k38 _ _ _ (fun k_=>((w.heap.size≤k_)∧some k_≠((.slice (some ad54) t1.length cp12):Value).ownBlock)∧some k_≠(v87:Value).ownBlock) _ _)
      replace HB:=za hb1
      have HN89:=za hn1
      clear hn1 hb1 hg1 hat1 hbe hba
      clear hx66_0 hx66_1 hx66_2 p66 q66 hx67_0 hx67_1 hx67_2 p67 q67
      refine wpList_nil ?_
      change wpAnyLast _ _ _ _ _ _ 3 #[true,true,true,true,true,false,true,true,true,true,true,true,true,true,true,true,true,true,true,true,true,true,true,true,false,false] ⟨[_,_,_,_,_,_,_,_,_,_,_,_,_,_,_,_,_,_,_,_,_,_,_,_,_,_,_,_,_,_,_,_,_,_,_,_,_,_,_,_,_,_,_,_,_,_,_,_,_,_,_,_,_,_,_,_,_,_,_,_,_,_,_,_,_,_,_,_,_,_,_,_,_,_,_,_,_,_].toArray,[]⟩ _
      refine MW.last_act (i:=5) (listed':= #[true,true,true,true,true,true,true,true,true,true,true,true,true,true,true,true,true,true,true,true,true,true,true,true,false,false]) rfl (by kernel_rfl) (by kernel_rfl) (by decide) ?_
      obtain⟨HH,LMc90⟩:=zlm HH
      obtain⟨y91,hy91⟩:∃ y_:List (S38),y_=(([]:List (S38))++y62):=⟨_,rfl⟩
      have H:(if y91.length+[(⟨(rd_T38 x5 (wrap64 ((x5.length:Int) - 1))).f0,(rd_T38 t1 x8).f1,(rd_T38 t1 x8).f2⟩:S38)].length<8796093022208 then((some (y91++[(⟨(rd_T38 x5 (wrap64 ((x5.length:Int) - 1))).f0,(rd_T38 t1 x8).f1,(rd_T38 t1 x8).f2⟩:S38)]:List (S38))).bind fun y102=>((toponymref03_Table.l0 k9 y102 (wrap64 (x8+1)) t1))) else(none))=some r:=by rw[hy91];exact HH.out
      replace HH:=za H
      clear H
      have NYy91:=za hy91
      clear hy91
      go_wp2_with (((with_reducible refine gate_dst (N:=50) rfl ?_);(try(refine gate_guard (by rfl) ?_;dsimp only));refine Kd.N_append_rows k38 w.heap.size rfl _ _ 33 38 (.agg #[(.int .i32 0),(.int .i32 0),(.int .i64 0)]) 16 rfl Try.underlying33 info38 rfl (by decide) (by decide) (v63) ([]:List (S38)) y62 _ _ _ (fun k_=>((w.heap.size≤k_)∧some k_≠((.slice (some ad54) t1.length cp12):Value).ownBlock)∧some k_≠(v87:Value).ownBlock) (fun k_=>(fun k_=>((w.heap.size≤k_)∧some k_≠((.slice (some ad54) t1.length cp12):Value).ownBlock)∧some k_≠(v87:Value).ownBlock) k_∧some k_≠(v63:Value).ownBlock) rfl rfl HN65.out (Kd.F_mono (ok:=(fun k_=>(((w.heap.size≤k_)∧some k_≠((.slice (some ad54) t1.length cp12):Value).ownBlock)∧some k_≠(v63:Value).ownBlock)∧some k_≠(v87:Value).ownBlock)) HF59.out (fun k_ hk_=>⟨⟨⟨hk_.1.1.1,hk_.1.1.2⟩,hk_.2⟩,hk_.1.2⟩)) (fun _ hk_=>hk_) (fun k_ h_=>⟨⟨(Nat.le_trans (below_size HB.out) h_),Kd.fresh' (Kd.N_lt HN4.out) k_ h_⟩,Kd.fresh' (Kd.N_lt HN89.out) k_ h_⟩) HB.out (below_size HB.out) (by first|(have:=LMc90.out;simp only[List.length_nil] at *;omega)|(have:=LMc90.out;simp at *;omega)) ?_;intro v92 w93 hn1 hb1 hg1 hat1);replace hat1:=za hat1;refine stop_ ?_)
      refine zg ?_
      replace hat1:=hat1.out
      replace HF57:=za (Kd.F_mono (Kd.F_after (v:=v63) (ok:=(fun k_=>((w.heap.size≤k_)∧some k_≠((.slice (some ad54) t1.length cp12):Value).ownBlock)∧some k_≠(v87:Value).ownBlock)) (Kd.F_mono (ok:=(fun k_=>(((w.heap.size≤k_)∧some k_≠((.slice (some ad54) t1.length cp12):Value).ownBlock)∧some k_≠(v63:Value).ownBlock)∧some k_≠(v87:Value).ownBlock)) HF57.out (fun k_ hk_=>⟨⟨⟨hk_.1.1.1,hk_.1.1.2⟩,hk_.2⟩,hk_.1.2⟩)) hg1 hat1) (fun k_ hk_=>hk_):Kd.F k38 _ (fun k_=>(((w.heap.size≤k_)∧some k_≠((.slice (some ad54) t1.length cp12):Value).ownBlock)∧some k_≠(v87:Value).ownBlock)∧some k_≠(v92:Value).ownBlock) _ _ _)
      replace HN4:=za (Kd.N_mono (Kd.N_after (u:=v63) (ok:=(fun k_=>(w.heap.size≤k_)∧some k_≠(v87:Value).ownBlock)) (Kd.N_mono (ok:=(fun k_=>((w.heap.size≤k_)∧some k_≠(v63:Value).ownBlock)∧some k_≠(v87:Value).ownBlock)) HN4.out (fun k_ hk_=>⟨⟨hk_.1.1,hk_.2⟩,hk_.1.2⟩)) hg1 hat1) (fun k_ hk_=>hk_):Kd.N k38 _ _ _ (fun k_=>((w.heap.size≤k_)∧some k_≠(v87:Value).ownBlock)∧some k_≠(v92:Value).ownBlock) _ _)
      replace HN89:=za (Kd.N_mono (Kd.N_after (u:=v63) (ok:=(fun k_=>(w.heap.size≤k_)∧some k_≠((.slice (some ad54) t1.length cp12):Value).ownBlock)) (Kd.N_mono (ok:=(fun k_=>((w.heap.size≤k_)∧some k_≠((.slice (some ad54) t1.length cp12):Value).ownBlock)∧some k_≠(v63:Value).ownBlock)) HN89.out (fun k_ hk_=>⟨hk_.1,hk_.2⟩)) hg1 hat1) (fun k_ hk_=>hk_):Kd.N k38 _ _ _ (fun k_=>((w.heap.size≤k_)∧some k_≠((.slice (some ad54) t1.length cp12):Value).ownBlock)∧some k_≠(v92:Value).ownBlock) _ _)
      replace HB:=za hb1
      clear HN65
      have HN94:=za hn1
      clear hn1 hb1 hg1 hat1
      replace HN94:=za (by rw[NYy91.out];exact HN94.out:Kd.N k38 38 w93 w.heap.size (fun k_=>((w.heap.size≤k_)∧some k_≠((.slice (some ad54) t1.length cp12):Value).ownBlock)∧some k_≠(v87:Value).ownBlock) v92 y91)
      have p95:0≤((wrap64 ((x5.length:Int) - 1)):Int):=of_decide_eq_true (by first|(with_reducible assumption)|assumption)
      have q95:(wrap64 ((x5.length:Int) - 1))<(x5.length:Int):=of_decide_eq_true (by first|(with_reducible assumption)|assumption)
      obtain⟨ad95,e95,hx95_0,hx95_1,hx95_2⟩:=atF_T38 HF57.out (wrap64 ((x5.length:Int) - 1)) p95 q95
      cases e95
      replace p95:=eq_true p95
      replace q95:=eq_true q95
      have p96:0≤(x8:Int):=of_decide_eq_true (by first|(with_reducible assumption)|assumption)
      have q96:x8<(t1.length:Int):=of_decide_eq_true (by first|(with_reducible assumption)|assumption)
      obtain⟨ad96,e96,hx96_0,hx96_1,hx96_2⟩:=atF_T38 (Kd.N_F HN4.out) x8 p96 q96
      cases e96
      replace p96:=eq_true p96
      replace q96:=eq_true q96
      refine wpList_nil ?_
      change MW.Cells _ _∧wpAnyLast _ _ _ _ _ _ 2 #[true,true,true,true,true,true,true,true,true,true,true,true,true,true,true,true,true,true,true,true,true,true,true,true,false,false] ⟨[_,_,_,_,_,_,_,_,_,_,_,_,_,_,_,_,_,_,_,_,_,_,_,_,_,_,_,_,_,_,_,_,_,_,_,_,_,_,_,_,_,_,_,_,_,_,_,_,_,_,_,_,_,_,_,_,_,_,_,_,_,_,_,_,_,_,_,_,_,_,_,_,_,_,_,_,_,_].toArray,[]⟩ _
      refine⟨(zk hx96_1 (zk hx96_2 (zk hx95_0 z0))),?_⟩
      refine MW.last_fin (i:=24) (listed':= #[true,true,true,true,true,true,true,true,true,true,true,true,true,true,true,true,true,true,true,true,true,true,true,true,true,false]) rfl (by kernel_rfl) (by kernel_rfl) (by kernel_rfl) ?_
      obtain⟨A97,cp98,he_⟩:=Kd.N_slice HN89.out
      subst he_
      have HF99:=za (Kd.N_F HN89.out)
      clear HN89
      replace HN4:=za (Kd.N_mono (ok:=(fun k_=>((w.heap.size≤k_)∧some k_≠((.slice A97 [(⟨(rd_T38 x5 (wrap64 ((x5.length:Int) - 1))).f0,(rd_T38 t1 x8).f1,(rd_T38 t1 x8).f2⟩:S38)].length cp98):Value).ownBlock)∧some k_≠(v92:Value).ownBlock)) HN4.out (fun k_ hk_=>⟨hk_.1.1,hk_.2⟩):Kd.N k38 _ _ _ (fun k_=>(w.heap.size≤k_)∧some k_≠(v92:Value).ownBlock) _ _)
      replace HN94:=za (Kd.N_mono (ok:=(fun k_=>((w.heap.size≤k_)∧some k_≠((.slice (some ad54) t1.length cp12):Value).ownBlock)∧some k_≠((.slice A97 [(⟨(rd_T38 x5 (wrap64 ((x5.length:Int) - 1))).f0,(rd_T38 t1 x8).f1,(rd_T38 t1 x8).f2⟩:S38)].length cp98):Value).ownBlock)) HN94.out (fun k_ hk_=>hk_.1):Kd.N k38 _ _ _ (fun k_=>(w.heap.size≤k_)∧some k_≠((.slice (some ad54) t1.length cp12):Value).ownBlock) _ _)
      obtain⟨HH,LMc101⟩:=zlm HH
      obtain⟨y102,hy102⟩:∃ y_:List (S38),y_=(y91++[(⟨(rd_T38 x5 (wrap64 ((x5.length:Int) - 1))).f0,(rd_T38 t1 x8).f1,(rd_T38 t1 x8).f2⟩:S38)]):=⟨_,rfl⟩
      have H:((toponymref03_Table.l0 k9 y102 (wrap64 (x8+1)) t1))=some r:=by rw[hy102];exact HH.out
      replace HH:=za H
      clear H
      have NYy102:=za hy102
      clear hy102
      go_wp2_with (((with_reducible refine gate_dst (N:=69) rfl ?_);(try(refine gate_guard (by rfl) ?_;dsimp only));refine Kd.N_append_rows k38 w.heap.size rfl _ _ 33 38 (.agg #[(.int .i32 0),(.int .i32 0),(.int .i64 0)]) 16 rfl Try.underlying33 info38 rfl (by decide) (by decide) (v92) y91 [(⟨(rd_T38 x5 (wrap64 ((x5.length:Int) - 1))).f0,(rd_T38 t1 x8).f1,(rd_T38 t1 x8).f2⟩:S38)] _ _ _ (fun k_=>(w.heap.size≤k_)∧some k_≠((.slice (some ad54) t1.length cp12):Value).ownBlock) (fun k_=>(fun k_=>(w.heap.size≤k_)∧some k_≠((.slice (some ad54) t1.length cp12):Value).ownBlock) k_∧some k_≠(v92:Value).ownBlock) rfl rfl HN94.out (Kd.F_mono (ok:=(fun k_=>((w.heap.size≤k_)∧some k_≠((.slice (some ad54) t1.length cp12):Value).ownBlock)∧some k_≠(v92:Value).ownBlock)) HF99.out (fun k_ hk_=>⟨hk_.1,hk_.2⟩)) (fun _ hk_=>hk_) (fun k_ h_=>⟨(Nat.le_trans (below_size HB.out) h_),Kd.fresh' (Kd.N_lt HN4.out) k_ h_⟩) HB.out (below_size HB.out) (by first|(have:=LMc101.out;simp only[List.length_nil] at *;omega)|(have:=LMc101.out;simp at *;omega)) ?_;intro v103 w104 hn1 hb1 hg1 hat1);replace hat1:=za hat1;refine stop_ ?_)
      refine zg ?_
      replace hat1:=hat1.out
      replace HN4:=za (Kd.N_mono (Kd.N_after (u:=v92) (ok:=(fun k_=>(w.heap.size≤k_))) (Kd.N_mono (ok:=(fun k_=>(w.heap.size≤k_)∧some k_≠(v92:Value).ownBlock)) HN4.out (fun k_ hk_=>⟨hk_.1,hk_.2⟩)) hg1 hat1) (fun k_ hk_=>hk_):Kd.N k38 _ _ _ (fun k_=>(w.heap.size≤k_)∧some k_≠(v103:Value).ownBlock) _ _)
      replace HB:=za hb1
      clear HN94
      have HN105:=za hn1
      clear hn1 hb1 hg1 hat1
      replace HN105:=za (by rw[NYy102.out];exact HN105.out:Kd.N k38 38 w104 w.heap.size (fun k_=>(w.heap.size≤k_)∧some k_≠((.slice (some ad54) t1.length cp12):Value).ownBlock) v103 y102)
      clear hx95_0 hx95_1 hx95_2 p95 q95 hx96_0 hx96_1 hx96_2 p96 q96
      refine wpList_nil ?_
      change wpAnyLast _ _ _ _ _ _ 1 #[true,true,true,true,true,true,true,true,true,true,true,true,true,true,true,true,true,true,true,true,true,true,true,true,true,false] ⟨[_,_,_,_,_,_,_,_,_,_,_,_,_,_,_,_,_,_,_,_,_,_,_,_,_,_,_,_,_,_,_,_,_,_,_,_,_,_,_,_,_,_,_,_,_,_,_,_,_,_,_,_,_,_,_,_,_,_,_,_,_,_,_,_,_,_,_,_,_,_,_,_,_,_,_,_,_,_].toArray,[]⟩ _
      refine zlp 25 (v103) #[_,_,_,_,_,_,_,_,_,_,_,_,_,_,_,_,_,_,_,_,_,_,_,_,_,_] ⟨[_,_,_,_,_,_,_,_,_,_,_,_,_,_,_,_,_,_,_,_,_,_,_,_,_,_,_,_,_,_,_,_,_,_,_,_,_,_,_,_,_,_,_,_,_,_,_,_,_,_,_,_,_,_,_,_,_,_,_,_,_,_,_,_,_,_,_,_,_,_,_,_,_,_,_,_,_,_].toArray,[]⟩ (h:=?_)
      refine MW.last_done (by kernel_rfl) ?_ _
      clear hwr_
      go_wp2
      go_roundg k9
      case measure=>have:=HK0.out;omega
      case rel=>exact⟨y102,wrap64 (x8+1),(by first|rfl|(simp;done)|(simp[*];done)),HH,⟨by have:=HK0.out;omega⟩,⟨(Kd.N_mono (ok:=(fun k_=>(w.heap.size≤k_)∧some k_≠(v103:Value).ownBlock)) HN4.out (fun k_ hk_=>hk_))⟩,⟨(Kd.N_mono (ok:=(fun k_=>(w.heap.size≤k_)∧some k_≠((.slice (some ad54) t1.length cp12):Value).ownBlock)) HN105.out (fun k_ hk_=>hk_))⟩,⟨HB.out⟩⟩
     refine MS.one_fin (i:=23) (listed':= #[false,true,true,true,true,false,true,true,true,true,true,true,true,true,true,true,true,true,true,true,true,true,true,true,false,false]) rfl (by kernel_rfl) (by kernel_rfl) ?_
     go_wp2_with (((with_reducible refine gate_dst (N:=68) rfl ?_);(try(refine gate_guard (by rfl) ?_;dsimp only));refine Kd.N_lit k38 w.heap.size 38 rfl (N':=68) rfl (xs:=[(⟨(rd_T38 x5 (wrap64 ((x5.length:Int) - 1))).f0,(rd_T38 t1 x8).f1,(rd_T38 t1 x8).f2⟩:S38)]) (inner:=[.int .i32 ((rd_T38 x5 (wrap64 ((x5.length:Int) - 1))).f0),.int .i32 ((rd_T38 t1 x8).f1),.int .i64 ((rd_T38 t1 x8).f2)]) (ok:=(fun k_=>(w.heap.size≤k_)∧some k_≠((.slice (some ad54) t1.length cp12):Value).ownBlock)) (okp:=(fun k_=>(w.heap.size≤k_)∧some k_≠((.slice (some ad54) t1.length cp12):Value).ownBlock)) ?hr ?hp (fun _ hk_=>hk_) ?hf HB.out (below_size HB.out) (by first|simp|decide) ?_;(case hr=>first|(go_simp;done)|(go_simp;rfl));(case hp=>exact(Reps.c3 (k38_mkF _ _ (⟨(rd_T38 x5 (wrap64 ((x5.length:Int) - 1))).f0,(rd_T38 t1 x8).f1,(rd_T38 t1 x8).f2⟩:S38)) (Reps.none _ _)));(case hf=>exact(show ∀ k_,w45.heap.size≤k_→(fun k_=>(w.heap.size≤k_)∧some k_≠((.slice (some ad54) t1.length cp12):Value).ownBlock) k_ from fun k_ h_=>⟨(Nat.le_trans (below_size HB.out) h_),Kd.fresh' (Kd.N_lt HN4.out) k_ h_⟩) _ (Nat.le_refl _));intro v106 w107 hn1 hb1 hg1 hat1);replace hat1:=za hat1;refine stop_ ?_)
     refine zg ?_
     replace hat1:=hat1.out
     have hbe:=MW.grown_below hg1
     have hba:=MW.base_of hat1
     replace HF57:=za (Kd.F_mono (Kd.F_elder' (ok:=(fun k_=>(w.heap.size≤k_)∧some k_≠((.slice (some ad54) t1.length cp12):Value).ownBlock)) HF57.out hba hbe) (fun k_ hk_=>hk_):Kd.F k38 _ (fun k_=>((w.heap.size≤k_)∧some k_≠((.slice (some ad54) t1.length cp12):Value).ownBlock)∧some k_≠(v106:Value).ownBlock) _ _ _)
     replace HF59:=za (Kd.F_mono (Kd.F_elder' (ok:=(fun k_=>(w.heap.size≤k_)∧some k_≠((.slice (some ad54) t1.length cp12):Value).ownBlock)) HF59.out hba hbe) (fun k_ hk_=>hk_):Kd.F k38 _ (fun k_=>((w.heap.size≤k_)∧some k_≠((.slice (some ad54) t1.length cp12):Value).ownBlock)∧some k_≠(v106:Value).ownBlock) _ _ _)
     replace HN4:=za (Kd.N_mono (Kd.N_elder' (ok:=(fun k_=>(w.heap.size≤k_))) HN4.out hba hbe) (fun k_ hk_=>hk_):Kd.N k38 _ _ _ (fun k_=>(w.heap.size≤k_)∧some k_≠(v106:Value).ownBlock) _ _)
     replace HB:=za hb1
     have HN108:=za hn1
     clear hn1 hb1 hg1 hat1 hbe hba
     clear hx51_0 hx51_1 hx51_2 p51 q51 hx54_0 hx54_1 hx54_2 p54 q54 hcut59
     refine wpList_nil ?_
     change wpAnyLast _ _ _ _ _ _ 4 #[false,true,true,true,true,false,true,true,true,true,true,true,true,true,true,true,true,true,true,true,true,true,true,true,false,false] ⟨[_,_,_,_,_,_,_,_,_,_,_,_,_,_,_,_,_,_,_,_,_,_,_,_,_,_,_,_,_,_,_,_,_,_,_,_,_,_,_,_,_,_,_,_,_,_,_,_,_,_,_,_,_,_,_,_,_,_,_,_,_,_,_,_,_,_,_,_,_,_,_,_,_,_,_,_,_,_].toArray,[]⟩ _
     refine MW.last_act (i:=0) (listed':= #[true,true,true,true,true,false,true,true,true,true,true,true,true,true,true,true,true,true,true,true,true,true,true,true,false,false]) rfl (by kernel_rfl) (by kernel_rfl) (by decide) ?_
     go_wp2_with (((with_reducible refine gate_dst (N:=45) rfl ?_);(try(refine gate_guard (by rfl) ?_;dsimp only));refine Kd.N_lit k38 w.heap.size 38 rfl (N':=45) rfl (xs:=([]:List (S38))) (inner:=[]) (ok:=(fun k_=>((w.heap.size≤k_)∧some k_≠((.slice (some ad54) t1.length cp12):Value).ownBlock)∧some k_≠(v106:Value).ownBlock)) (okp:=(fun k_=>((w.heap.size≤k_)∧some k_≠((.slice (some ad54) t1.length cp12):Value).ownBlock)∧some k_≠(v106:Value).ownBlock)) ?hr ?hp (fun _ hk_=>hk_) ?hf HB.out (below_size HB.out) (by first|simp|decide) ?_;(case hr=>first|(go_simp;done)|(go_simp;rfl));(case hp=>exact(Reps.none _ _));(case hf=>exact(show ∀ k_,w107.heap.size≤k_→(fun k_=>((w.heap.size≤k_)∧some k_≠((.slice (some ad54) t1.length cp12):Value).ownBlock)∧some k_≠(v106:Value).ownBlock) k_ from fun k_ h_=>⟨⟨(Nat.le_trans (below_size HB.out) h_),Kd.fresh' (Kd.N_lt HN4.out) k_ h_⟩,Kd.fresh' (Kd.N_lt HN108.out) k_ h_⟩) _ (Nat.le_refl _));intro v109 w110 hn1 hb1 hg1 hat1);replace hat1:=za hat1;refine stop_ ?_)
     refine zg ?_
     replace hat1:=hat1.out
     have hbe:=MW.grown_below hg1
     have hba:=MW.base_of hat1
     replace HF57:=za (Kd.F_mono (Kd.F_elder' (ok:=(fun k_=>((w.heap.size≤k_)∧some k_≠((.slice (some ad54) t1.length cp12):Value).ownBlock)∧some k_≠(v106:Value).ownBlock)) HF57.out hba hbe) (fun k_ hk_=>hk_):Kd.F k38 _ (fun k_=>(((w.heap.size≤k_)∧some k_≠((.slice (some ad54) t1.length cp12):Value).ownBlock)∧some k_≠(v106:Value).ownBlock)∧some k_≠(v109:Value).ownBlock) _ _ _)
     replace HF59:=za (Kd.F_mono (Kd.F_elder' (ok:=(fun k_=>((w.heap.size≤k_)∧some k_≠((.slice (some ad54) t1.length cp12):Value).ownBlock)∧some k_≠(v106:Value).ownBlock)) HF59.out hba hbe) (fun k_ hk_=>hk_):Kd.F k38 _ (fun k_=>(((w.heap.size≤k_)∧some k_≠((.slice (some ad54) t1.length cp12):Value).ownBlock)∧some k_≠(v106:Value).ownBlock)∧some k_≠(v109:Value).ownBlock) _ _ _)
     replace HN4:=za (Kd.N_mono (Kd.N_elder' (ok:=(fun k_=>(w.heap.size≤k_)∧some k_≠(v106:Value).ownBlock)) HN4.out hba hbe) (fun k_ hk_=>hk_):Kd.N k38 _ _ _ (fun k_=>((w.heap.size≤k_)∧some k_≠(v106:Value).ownBlock)∧some k_≠(v109:Value).ownBlock) _ _)
     replace HN108:=za (Kd.N_mono (Kd.N_elder' (ok:=(fun k_=>(w.heap.size≤k_)∧some k_≠((.slice (some ad54) t1.length cp12):Value).ownBlock)) HN108.out hba hbe) (fun k_ hk_=>hk_):Kd.N k38 _ _ _ (fun k_=>((w.heap.size≤k_)∧some k_≠((.slice (some ad54) t1.length cp12):Value).ownBlock)∧some k_≠(v109:Value).ownBlock) _ _)
     replace HB:=za hb1
     have HN111:=za hn1
     clear hn1 hb1 hg1 hat1 hbe hba
     have p112:0≤((wrap64 ((x5.length:Int) - 1)):Int):=of_decide_eq_true (by first|(with_reducible assumption)|assumption)
     have q112:(wrap64 ((x5.length:Int) - 1))<(x5.length:Int):=of_decide_eq_true (by first|(with_reducible assumption)|assumption)
     obtain⟨ad112,e112,hx112_0,hx112_1,hx112_2⟩:=atF_T38 HF57.out (wrap64 ((x5.length:Int) - 1)) p112 q112
     cases e112
     replace p112:=eq_true p112
     replace q112:=eq_true q112
     have p113:0≤(x8:Int):=of_decide_eq_true (by first|(with_reducible assumption)|assumption)
     have q113:x8<(t1.length:Int):=of_decide_eq_true (by first|(with_reducible assumption)|assumption)
     obtain⟨ad113,e113,hx113_0,hx113_1,hx113_2⟩:=atF_T38 (Kd.N_F HN4.out) x8 p113 q113
     cases e113
     replace p113:=eq_true p113
     replace q113:=eq_true q113
     refine wpList_nil ?_
     change MW.Cells _ _∧wpAnyLast _ _ _ _ _ _ 3 #[true,true,true,true,true,false,true,true,true,true,true,true,true,true,true,true,true,true,true,true,true,true,true,true,false,false] ⟨[_,_,_,_,_,_,_,_,_,_,_,_,_,_,_,_,_,_,_,_,_,_,_,_,_,_,_,_,_,_,_,_,_,_,_,_,_,_,_,_,_,_,_,_,_,_,_,_,_,_,_,_,_,_,_,_,_,_,_,_,_,_,_,_,_,_,_,_,_,_,_,_,_,_,_,_,_,_].toArray,[]⟩ _
     refine⟨(zk hx113_1 (zk hx113_2 (zk hx112_0 z0))),?_⟩
     refine MW.last_act (i:=5) (listed':= #[true,true,true,true,true,true,true,true,true,true,true,true,true,true,true,true,true,true,true,true,true,true,true,true,false,false]) rfl (by kernel_rfl) (by kernel_rfl) (by decide) ?_
     obtain⟨HH,LMc114⟩:=zlm HH
     obtain⟨y115,hy115⟩:∃ y_:List (S38),y_=(([]:List (S38))++y62):=⟨_,rfl⟩
     have H:(if y115.length+[(⟨(rd_T38 x5 (wrap64 ((x5.length:Int) - 1))).f0,(rd_T38 t1 x8).f1,(rd_T38 t1 x8).f2⟩:S38)].length<8796093022208 then((some (y115++[(⟨(rd_T38 x5 (wrap64 ((x5.length:Int) - 1))).f0,(rd_T38 t1 x8).f1,(rd_T38 t1 x8).f2⟩:S38)]:List (S38))).bind fun y126=>((toponymref03_Table.l0 k9 y126 (wrap64 (x8+1)) t1))) else(none))=some r:=by rw[hy115];exact HH.out
     replace HH:=za H
     clear H
     have NYy115:=za hy115
     clear hy115
     go_wp2_with (((with_reducible refine gate_dst (N:=50) rfl ?_);(try(refine gate_guard (by rfl) ?_;dsimp only));refine Kd.N_append_rows k38 w.heap.size rfl _ _ 33 38 (.agg #[(.int .i32 0),(.int .i32 0),(.int .i64 0)]) 16 rfl Try.underlying33 info38 rfl (by decide) (by decide) (v109) ([]:List (S38)) y62 _ _ _ (fun k_=>((w.heap.size≤k_)∧some k_≠((.slice (some ad54) t1.length cp12):Value).ownBlock)∧some k_≠(v106:Value).ownBlock) (fun k_=>(fun k_=>((w.heap.size≤k_)∧some k_≠((.slice (some ad54) t1.length cp12):Value).ownBlock)∧some k_≠(v106:Value).ownBlock) k_∧some k_≠(v109:Value).ownBlock) rfl rfl HN111.out (Kd.F_mono (ok:=(fun k_=>(((w.heap.size≤k_)∧some k_≠((.slice (some ad54) t1.length cp12):Value).ownBlock)∧some k_≠(v106:Value).ownBlock)∧some k_≠(v109:Value).ownBlock)) HF59.out (fun k_ hk_=>⟨hk_.1,hk_.2⟩)) (fun _ hk_=>hk_) (fun k_ h_=>⟨⟨(Nat.le_trans (below_size HB.out) h_),Kd.fresh' (Kd.N_lt HN4.out) k_ h_⟩,Kd.fresh' (Kd.N_lt HN108.out) k_ h_⟩) HB.out (below_size HB.out) (by first|(have:=LMc114.out;simp only[List.length_nil] at *;omega)|(have:=LMc114.out;simp at *;omega)) ?_;intro v116 w117 hn1 hb1 hg1 hat1);replace hat1:=za hat1;refine stop_ ?_)
     refine zg ?_
     replace hat1:=hat1.out
     replace HF57:=za (Kd.F_mono (Kd.F_after (v:=v109) (ok:=(fun k_=>((w.heap.size≤k_)∧some k_≠((.slice (some ad54) t1.length cp12):Value).ownBlock)∧some k_≠(v106:Value).ownBlock)) (Kd.F_mono (ok:=(fun k_=>(((w.heap.size≤k_)∧some k_≠((.slice (some ad54) t1.length cp12):Value).ownBlock)∧some k_≠(v106:Value).ownBlock)∧some k_≠(v109:Value).ownBlock)) HF57.out (fun k_ hk_=>⟨hk_.1,hk_.2⟩)) hg1 hat1) (fun k_ hk_=>hk_):Kd.F k38 _ (fun k_=>(((w.heap.size≤k_)∧some k_≠((.slice (some ad54) t1.length cp12):Value).ownBlock)∧some k_≠(v106:Value).ownBlock)∧some k_≠(v116:Value).ownBlock) _ _ _)
     replace HN4:=za (Kd.N_mono (Kd.N_after (u:=v109) (ok:=(fun k_=>(w.heap.size≤k_)∧some k_≠(v106:Value).ownBlock)) (Kd.N_mono (ok:=(fun k_=>((w.heap.size≤k_)∧some k_≠(v106:Value).ownBlock)∧some k_≠(v109:Value).ownBlock)) HN4.out (fun k_ hk_=>⟨hk_.1,hk_.2⟩)) hg1 hat1) (fun k_ hk_=>hk_):Kd.N k38 _ _ _ (fun k_=>((w.heap.size≤k_)∧some k_≠(v106:Value).ownBlock)∧some k_≠(v116:Value).ownBlock) _ _)
     replace HN108:=za (Kd.N_mono (Kd.N_after (u:=v109) (ok:=(fun k_=>(w.heap.size≤k_)∧some k_≠((.slice (some ad54) t1.length cp12):Value).ownBlock)) (Kd.N_mono (ok:=(fun k_=>((w.heap.size≤k_)∧some k_≠((.slice (some ad54) t1.length cp12):Value).ownBlock)∧some k_≠(v109:Value).ownBlock)) HN108.out (fun k_ hk_=>⟨hk_.1,hk_.2⟩)) hg1 hat1) (fun k_ hk_=>hk_):Kd.N k38 _ _ _ (fun k_=>((w.heap.size≤k_)∧some k_≠((.slice (some ad54) t1.length cp12):Value).ownBlock)∧some k_≠(v116:Value).ownBlock) _ _)
     replace HB:=za hb1
     clear HN111
     have HN118:=za hn1
     clear hn1 hb1 hg1 hat1
     replace HN118:=za (by rw[NYy115.out];exact HN118.out:Kd.N k38 38 w117 w.heap.size (fun k_=>((w.heap.size≤k_)∧some k_≠((.slice (some ad54) t1.length cp12):Value).ownBlock)∧some k_≠(v106:Value).ownBlock) v116 y115)
     clear hx112_0 hx112_1 hx112_2 p112 q112 hx113_0 hx113_1 hx113_2 p113 q113
     have p119:0≤((wrap64 ((x5.length:Int) - 1)):Int):=of_decide_eq_true (by first|(with_reducible assumption)|assumption)
     have q119:(wrap64 ((x5.length:Int) - 1))<(x5.length:Int):=of_decide_eq_true (by first|(with_reducible assumption)|assumption)
     obtain⟨ad119,e119,hx119_0,hx119_1,hx119_2⟩:=atF_T38 HF57.out (wrap64 ((x5.length:Int) - 1)) p119 q119
     cases e119
     replace p119:=eq_true p119
     replace q119:=eq_true q119
     have p120:0≤(x8:Int):=of_decide_eq_true (by first|(with_reducible assumption)|assumption)
     have q120:x8<(t1.length:Int):=of_decide_eq_true (by first|(with_reducible assumption)|assumption)
     obtain⟨ad120,e120,hx120_0,hx120_1,hx120_2⟩:=atF_T38 (Kd.N_F HN4.out) x8 p120 q120
     cases e120
     replace p120:=eq_true p120
     replace q120:=eq_true q120
     refine wpList_nil ?_
     change MW.Cells _ _∧wpAnyLast _ _ _ _ _ _ 2 #[true,true,true,true,true,true,true,true,true,true,true,true,true,true,true,true,true,true,true,true,true,true,true,true,false,false] ⟨[_,_,_,_,_,_,_,_,_,_,_,_,_,_,_,_,_,_,_,_,_,_,_,_,_,_,_,_,_,_,_,_,_,_,_,_,_,_,_,_,_,_,_,_,_,_,_,_,_,_,_,_,_,_,_,_,_,_,_,_,_,_,_,_,_,_,_,_,_,_,_,_,_,_,_,_,_,_].toArray,[]⟩ _
     refine⟨(zk hx120_1 (zk hx120_2 (zk hx119_0 z0))),?_⟩
     refine MW.last_fin (i:=24) (listed':= #[true,true,true,true,true,true,true,true,true,true,true,true,true,true,true,true,true,true,true,true,true,true,true,true,true,false]) rfl (by kernel_rfl) (by kernel_rfl) (by kernel_rfl) ?_
     obtain⟨A121,cp122,he_⟩:=Kd.N_slice HN108.out
     subst he_
     have HF123:=za (Kd.N_F HN108.out)
     clear HN108
     replace HN4:=za (Kd.N_mono (ok:=(fun k_=>((w.heap.size≤k_)∧some k_≠((.slice A121 [(⟨(rd_T38 x5 (wrap64 ((x5.length:Int) - 1))).f0,(rd_T38 t1 x8).f1,(rd_T38 t1 x8).f2⟩:S38)].length cp122):Value).ownBlock)∧some k_≠(v116:Value).ownBlock)) HN4.out (fun k_ hk_=>⟨hk_.1.1,hk_.2⟩):Kd.N k38 _ _ _ (fun k_=>(w.heap.size≤k_)∧some k_≠(v116:Value).ownBlock) _ _)
     replace HN118:=za (Kd.N_mono (ok:=(fun k_=>((w.heap.size≤k_)∧some k_≠((.slice (some ad54) t1.length cp12):Value).ownBlock)∧some k_≠((.slice A121 [(⟨(rd_T38 x5 (wrap64 ((x5.length:Int) - 1))).f0,(rd_T38 t1 x8).f1,(rd_T38 t1 x8).f2⟩:S38)].length cp122):Value).ownBlock)) HN118.out (fun k_ hk_=>hk_.1):Kd.N k38 _ _ _ (fun k_=>(w.heap.size≤k_)∧some k_≠((.slice (some ad54) t1.length cp12):Value).ownBlock) _ _)
     obtain⟨HH,LMc125⟩:=zlm HH
     obtain⟨y126,hy126⟩:∃ y_:List (S38),y_=(y115++[(⟨(rd_T38 x5 (wrap64 ((x5.length:Int) - 1))).f0,(rd_T38 t1 x8).f1,(rd_T38 t1 x8).f2⟩:S38)]):=⟨_,rfl⟩
     have H:((toponymref03_Table.l0 k9 y126 (wrap64 (x8+1)) t1))=some r:=by rw[hy126];exact HH.out
     replace HH:=za H
     clear H
     have NYy126:=za hy126
     clear hy126
     go_wp2_with (((with_reducible refine gate_dst (N:=69) rfl ?_);(try(refine gate_guard (by rfl) ?_;dsimp only));refine Kd.N_append_rows k38 w.heap.size rfl _ _ 33 38 (.agg #[(.int .i32 0),(.int .i32 0),(.int .i64 0)]) 16 rfl Try.underlying33 info38 rfl (by decide) (by decide) (v116) y115 [(⟨(rd_T38 x5 (wrap64 ((x5.length:Int) - 1))).f0,(rd_T38 t1 x8).f1,(rd_T38 t1 x8).f2⟩:S38)] _ _ _ (fun k_=>(w.heap.size≤k_)∧some k_≠((.slice (some ad54) t1.length cp12):Value).ownBlock) (fun k_=>(fun k_=>(w.heap.size≤k_)∧some k_≠((.slice (some ad54) t1.length cp12):Value).ownBlock) k_∧some k_≠(v116:Value).ownBlock) rfl rfl HN118.out (Kd.F_mono (ok:=(fun k_=>((w.heap.size≤k_)∧some k_≠((.slice (some ad54) t1.length cp12):Value).ownBlock)∧some k_≠(v116:Value).ownBlock)) HF123.out (fun k_ hk_=>⟨hk_.1,hk_.2⟩)) (fun _ hk_=>hk_) (fun k_ h_=>⟨(Nat.le_trans (below_size HB.out) h_),Kd.fresh' (Kd.N_lt HN4.out) k_ h_⟩) HB.out (below_size HB.out) (by first|(have:=LMc125.out;simp only[List.length_nil] at *;omega)|(have:=LMc125.out;simp at *;omega)) ?_;intro v127 w128 hn1 hb1 hg1 hat1);replace hat1:=za hat1;refine stop_ ?_)
     refine zg ?_
     replace hat1:=hat1.out
     replace HN4:=za (Kd.N_mono (Kd.N_after (u:=v116) (ok:=(fun k_=>(w.heap.size≤k_))) (Kd.N_mono (ok:=(fun k_=>(w.heap.size≤k_)∧some k_≠(v116:Value).ownBlock)) HN4.out (fun k_ hk_=>⟨hk_.1,hk_.2⟩)) hg1 hat1) (fun k_ hk_=>hk_):Kd.N k38 _ _ _ (fun k_=>(w.heap.size≤k_)∧some k_≠(v127:Value).ownBlock) _ _)
     replace HB:=za hb1
     clear HN118
     have HN129:=za hn1
     clear hn1 hb1 hg1 hat1
     replace HN129:=za (by rw[NYy126.out];exact HN129.out:Kd.N k38 38 w128 w.heap.size (fun k_=>(w.heap.size≤k_)∧some k_≠((.slice (some ad54) t1.length cp12):Value).ownBlock) v127 y126)
     clear hx119_0 hx119_1 hx119_2 p119 q119 hx120_0 hx120_1 hx120_2 p120 q120
     refine wpList_nil ?_
     change wpAnyLast _ _ _ _ _ _ 1 #[true,true,true,true,true,true,true,true,true,true,true,true,true,true,true,true,true,true,true,true,true,true,true,true,true,false] ⟨[_,_,_,_,_,_,_,_,_,_,_,_,_,_,_,_,_,_,_,_,_,_,_,_,_,_,_,_,_,_,_,_,_,_,_,_,_,_,_,_,_,_,_,_,_,_,_,_,_,_,_,_,_,_,_,_,_,_,_,_,_,_,_,_,_,_,_,_,_,_,_,_,_,_,_,_,_,_].toArray,[]⟩ _
     refine zlp 25 (v127) #[_,_,_,_,_,_,_,_,_,_,_,_,_,_,_,_,_,_,_,_,_,_,_,_,_,_] ⟨[_,_,_,_,_,_,_,_,_,_,_,_,_,_,_,_,_,_,_,_,_,_,_,_,_,_,_,_,_,_,_,_,_,_,_,_,_,_,_,_,_,_,_,_,_,_,_,_,_,_,_,_,_,_,_,_,_,_,_,_,_,_,_,_,_,_,_,_,_,_,_,_,_,_,_,_,_,_].toArray,[]⟩ (h:=?_)
     refine MW.last_done (by kernel_rfl) ?_ _
     clear hwr_
     go_wp2
     go_roundg k9
     case measure=>have:=HK0.out;omega
     case rel=>exact⟨y126,wrap64 (x8+1),(by first|rfl|(simp;done)|(simp[*];done)),HH,⟨by have:=HK0.out;omega⟩,⟨(Kd.N_mono (ok:=(fun k_=>(w.heap.size≤k_)∧some k_≠(v127:Value).ownBlock)) HN4.out (fun k_ hk_=>hk_))⟩,⟨(Kd.N_mono (ok:=(fun k_=>(w.heap.size≤k_)∧some k_≠((.slice (some ad54) t1.length cp12):Value).ownBlock)) HN129.out (fun k_ hk_=>hk_))⟩,⟨HB.out⟩⟩
    replace HH:=MW.hneg HH c44
    replace c44:=Bool.eq_false_iff.mpr c44
    subst c44
    replace HH:=zqdo HH
    obtain⟨HH,hk136⟩:=HH
    have p137:0≤(x8:Int):=of_decide_eq_true (by first|(with_reducible assumption)|assumption)
    have q137:x8<(t1.length:Int):=of_decide_eq_true (by first|(with_reducible assumption)|assumption)
    obtain⟨ad137,e137,hx137_0,hx137_1,hx137_2⟩:=atF_T38 (Kd.N_F HN4.out) x8 p137 q137
    cases e137
    replace p137:=eq_true p137
    replace q137:=eq_true q137
    obtain⟨HH,LMc138⟩:=zlm HH
    obtain⟨y139,hy139⟩:∃ y_:List (S38),y_=(x5++[(⟨(rd_T38 t1 x8).f0,(rd_T38 t1 x8).f1,(rd_T38 t1 x8).f2⟩:S38)]):=⟨_,rfl⟩
    have H:((toponymref03_Table.l0 k9 y139 (wrap64 (x8+1)) t1))=some r:=by rw[hy139];exact HH.out
    replace HH:=za H
    clear H
    have NYy139:=za hy139
    clear hy139
    go_wp2_with (((with_reducible refine gate_dst (N:=76) rfl ?_);(try(refine gate_guard (by rfl) ?_;dsimp only));refine Kd.N_append k38 w.heap.size rfl _ _ 33 38 (.agg #[(.int .i32 0),(.int .i32 0),(.int .i64 0)]) 16 rfl Try.underlying33 info38 rfl (by decide) (by decide) ((.slice A16 x5.length cp17)) x5 (⟨(rd_T38 t1 x8).f0,(rd_T38 t1 x8).f1,(rd_T38 t1 x8).f2⟩:S38) [.int .i32 ((rd_T38 t1 x8).f0),.int .i32 ((rd_T38 t1 x8).f1),.int .i64 ((rd_T38 t1 x8).f2)] (fun k_=>(w.heap.size≤k_)∧some k_≠((.slice (some ad137) t1.length cp12):Value).ownBlock) (fun k_=>(fun k_=>(w.heap.size≤k_)∧some k_≠((.slice (some ad137) t1.length cp12):Value).ownBlock) k_∧some k_≠((.slice A16 x5.length cp17):Value).ownBlock) rfl rfl (k38_mkF _ _ (⟨(rd_T38 t1 x8).f0,(rd_T38 t1 x8).f1,(rd_T38 t1 x8).f2⟩:S38)) (fun _ hk_=>hk_) (fun k_ h_=>⟨(Nat.le_trans (below_size (by repeat(first|(with_reducible first|exact HB.out|apply below_alloc|apply pw_below_drewN|apply below_drew1)|exact HB.out))) h_),Kd.fresh' (Kd.N_lt (by(with_reducible repeat(first|apply Kd.N_alloc|apply Kd.N_drewN|apply Kd.N_drew));exact HN4.out)) k_ h_⟩) (by(with_reducible repeat(first|apply Kd.N_alloc|apply Kd.N_drewN|apply Kd.N_drew));exact HN7.out) (by repeat(first|(with_reducible first|exact HB.out|apply below_alloc|apply pw_below_drewN|apply below_drew1)|exact HB.out)) (below_size (by repeat(first|(with_reducible first|exact HB.out|apply below_alloc|apply pw_below_drewN|apply below_drew1)|exact HB.out))) (by first|(have:=LMc138.out;omega)|(have:=LMc138.out;simp at *;omega)) ?_;intro v140 w141 hn1 hb1 hg1 hat1);replace hat1:=za hat1;refine stop_ ?_)
    refine zg ?_
    replace hat1:=hat1.out
    replace HN4:=za (Kd.N_mono (Kd.N_after (u:=(.slice A16 x5.length cp17)) (ok:=(fun k_=>(w.heap.size≤k_))) (Kd.N_mono (ok:=(fun k_=>(w.heap.size≤k_)∧some k_≠((.slice A16 x5.length cp17):Value).ownBlock)) (by(with_reducible repeat(first|apply Kd.N_alloc|apply Kd.N_drewN|apply Kd.N_drew));exact HN4.out) (fun k_ hk_=>⟨hk_.1,hk_.2⟩)) hg1 hat1) (fun k_ hk_=>hk_):Kd.N k38 _ _ _ (fun k_=>(w.heap.size≤k_)∧some k_≠(v140:Value).ownBlock) _ _)
    replace HB:=za hb1
    clear HN7
    have HN142:=za hn1
    clear hn1 hb1 hg1 hat1
    replace HN142:=za (by rw[NYy139.out];exact HN142.out:Kd.N k38 38 w141 w.heap.size (fun k_=>(w.heap.size≤k_)∧some k_≠((.slice (some ad137) t1.length cp12):Value).ownBlock) v140 y139)
    clear hx137_0 hx137_1 hx137_2 p137 q137
    go_wp2
    go_roundg k9
    case measure=>have:=HK0.out;omega
    case rel=>exact⟨y139,wrap64 (x8+1),(by first|rfl|(simp;done)|(simp[*];done)),HH,⟨by have:=HK0.out;omega⟩,⟨(Kd.N_mono (ok:=(fun k_=>(w.heap.size≤k_)∧some k_≠(v140:Value).ownBlock)) HN4.out (fun k_ hk_=>hk_))⟩,⟨(Kd.N_mono (ok:=(fun k_=>(w.heap.size≤k_)∧some k_≠((.slice (some ad137) t1.length cp12):Value).ownBlock)) HN142.out (fun k_ hk_=>hk_))⟩,⟨HB.out⟩⟩
   obtain rfl:=Option.some.inj HH.out
   clear HH
   go_wp2
   go_ret
   exact⟨_,by first|rfl|(simp;done)|(simp[*];done),(Kd.N_mono (ok:=(fun k_=>(w.heap.size≤k_)∧some k_≠((.slice A11 t1.length cp12):Value).ownBlock)) HN7.out (fun k_ hk_=>hk_.1)),HB.out⟩
end Go.Proofs.Ytkbiiijmgbjnkaa.GA
