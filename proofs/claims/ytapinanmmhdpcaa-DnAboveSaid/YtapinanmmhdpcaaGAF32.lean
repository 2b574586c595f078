import Derived.Test.YtapinanmmhdpcaaGA0
import Derived.Test.YtapinanmmhdpcaaGM1
import Derived.Test.YtapinanmmhdpcaaMX
namespace Go.Proofs.Ytapinanmmhdpcaa.GA
open Go.RowKit Go.Proofs.Ytapinanmmhdpcaa Go.Proofs.Ytapinanmmhdpcaa.MW Go.Proofs.YtapinanmmhdpcaaW.PrintWords Go.Proofs.YtapinanmmhdpcaaW.PrintLast Go.Proofs.YtapinanmmhdpcaaW.PrintMore
attribute [local go_sem] max2_int min2_int max_two min_two
set_option maxHeartbeats 8000000
set_option maxRecDepth 100000
set_option linter.unusedVariables false
set_option linter.unusedSimpArgs false
def dn_reader_value.l0:Nat→Bool→(List Int)→Int→ByteArray→Option (ByteArray × Bool × ByteArray × Int)
 |0,_,_,_,_=>none
 |k+1,x9,x10,x12,a0_0=>if x12=(a0_0.size:Int) then(if (x10.length:Int)>0 then(some (strOfNums x10,!x9,a0_0,x12)) else(some (strOfNums x10,false,a0_0,x12))) else(if 0≤x12 then(if x12<(a0_0.size:Int) then(if (bt a0_0 x12)=44 then(if (x10.length:Int)>0 then(some (strOfNums x10,!x9,a0_0,x12)) else(some (strOfNums x10,false,a0_0,x12))) else(if (bt a0_0 x12)=43 then(if (x10.length:Int)>0 then(some (strOfNums x10,!x9,a0_0,x12)) else(some (strOfNums x10,false,a0_0,x12))) else(if (bt a0_0 x12)=92 then(if 0≤(wrap64 (x12+1)) then(if (wrap64 (x12+1))≤(a0_0.size:Int) then((some (a0_0.extract (wrap64 (x12+1)).toNat a0_0.size)).bind fun y81=>(if y81.toList=([]:List UInt8) then(some ((⟨#[]⟩:ByteArray),false,a0_0,x12)) else(if 0<(y81.size:Int) then((dn_special.f (bt y81 0)).bind fun t93=>(if t93=true then(if x10.length<140737488355328 then((some (x10++[bt y81 0]:List Int)).bind fun y98=>((dn_reader_value.l0 k false y98 (wrap64 (x12+2)) a0_0))) else(none)) else(if (bt y81 0)=32 then(if x10.length<140737488355328 then((some (x10++[bt y81 0]:List Int)).bind fun y119=>((dn_reader_value.l0 k false y119 (wrap64 (x12+2)) a0_0))) else(none)) else(if (bt y81 0)=35 then(if x10.length<140737488355328 then((some (x10++[bt y81 0]:List Int)).bind fun y142=>((dn_reader_value.l0 k false y142 (wrap64 (x12+2)) a0_0))) else(none)) else(if (y81.size:Int)<2 then(some ((⟨#[]⟩:ByteArray),false,a0_0,x12)) else((dn_digit.f (bt y81 0)).bind fun t168=>(if t168<0 then(some ((⟨#[]⟩:ByteArray),false,a0_0,x12)) else(if 1<(y81.size:Int) then((dn_digit.f (bt y81 1)).bind fun t182=>(if t182<0 then(some ((⟨#[]⟩:ByteArray),false,a0_0,x12)) else((dn_digit.f (bt y81 0)).bind fun t198=>((dn_digit.f (bt y81 1)).bind fun t201=>(if x10.length+([(Go.bits .or .i64 (wrap64 (t198*16)) t201) % 256]:List Int).length<140737488355328 then((some (x10++([(Go.bits .or .i64 (wrap64 (t198*16)) t201) % 256]:List Int):List Int)).bind fun y215=>((dn_reader_value.l0 k false y215 (wrap64 (x12+3)) a0_0))) else(none)))))) else(none))))))))) else(none)))) else(none)) else(none)) else((dn_special.f (bt a0_0 x12)).bind fun t244=>(if t244=true then(some ((⟨#[]⟩:ByteArray),false,a0_0,x12)) else(if (x10.length:Int)=0 then(if (bt a0_0 x12)=32 then(some ((⟨#[]⟩:ByteArray),false,a0_0,x12)) else(if (bt a0_0 x12)=35 then(some ((⟨#[]⟩:ByteArray),false,a0_0,x12)) else(if x10.length<140737488355328 then((some (x10++[bt a0_0 x12]:List Int)).bind fun y264=>((dn_reader_value.l0 k ((bt a0_0 x12)==32) y264 (wrap64 (x12+1)) a0_0))) else(none)))) else(if x10.length<140737488355328 then((some (x10++[bt a0_0 x12]:List Int)).bind fun y285=>((dn_reader_value.l0 k ((bt a0_0 x12)==32) y285 (wrap64 (x12+1)) a0_0))) else(none)))))))) else(none)) else(none))
def dn_reader_value.f (k:Nat) (a0_0:ByteArray) (a0_1:Int):Option (ByteArray × Bool × ByteArray × Int):=(dn_reader_value.l0 k false ([]:List Int) a0_1 a0_0)
theorem dn_reader_value.mono_l:∀ k,(∀ y0 y1 y2 y3,LeO (dn_reader_value.l0 k y0 y1 y2 y3) (dn_reader_value.l0 (k+1) y0 y1 y2 y3))
 |0=>fun _ _ _ _ r h=>by simp[dn_reader_value.l0] at h
 |k+1=>by
  have ih0:=dn_reader_value.mono_l k
  ·intro y0 y1 y2 y3
   unfold dn_reader_value.l0
   with_reducible repeat' first|exact ih0 _ _ _ _|exact LeO.refl _|exact LeO.none _|refine LeO.ite ?_ ?_|refine LeO.bind ?_ (fun _=>?_)
theorem dn_reader_value.mono:∀ a0_ a1_ k,LeO (dn_reader_value.f k a0_ a1_) (dn_reader_value.f (k+1) a0_ a1_):=by
 intro a0_ a1_ k
 have ih0:=dn_reader_value.mono_l k
 unfold dn_reader_value.f
 with_reducible repeat' first|exact ih0 _ _ _ _|exact LeO.refl _|exact LeO.none _|refine LeO.ite ?_ ?_|refine LeO.bind ?_ (fun _=>?_)
def dn_reader_value.Post (B_:Nat) (g0:Nat) (a0_0:ByteArray) (a0_1:Int) (w:World) (r1:ByteArray) (r2:Bool) (r3:ByteArray) (r4:Int) (e:Ending) (w':World):Prop:=e=.returned (.tuple #[.string r1,.bool r2])∧w'.heap[g0]? =some (.cells #[.string r3,.int .i64 r4] 61 (0,0))∧(∀ k_:Nat,k_≠g0→k_<w.heap.size→w'.heap[k_]? =w.heap[k_]?)∧Below B_ w w'
theorem dn_reader_value.calls (k:Nat) (B_:Nat) (g0:Nat) (a0_0:ByteArray) (a0_1:Int) (r1:ByteArray) (r2:Bool) (r3:ByteArray) (r4:Int) (w:World) (hB0:B_≤w.heap.size) (hb0:w.heap[g0]? =some (.cells #[.string a0_0,.int .i64 a0_1] 61 (0,0))) (hge0:B_≤g0) (h:dn_reader_value.f k a0_0 a0_1=some (r1,r2,r3,r4)):
  Calls Try.prog 32 #[.pointer (some ⟨g0,0,none⟩)] w (fun e w'=>dn_reader_value.Post B_ g0 a0_0 a0_1 w r1 r2 r3 r4 e w'):=by
 unfold dn_reader_value.f at h
 have HH:=za h
 clear h
 obtain⟨P0_,HPO⟩:∃ P0_:Nat→Prop,P0_=(fun k_=>k_≠g0):=⟨_,rfl⟩
 have HFfr:=za (MB.frK_new w (fun k_ hk_=>by rw[HPO] at hk_;exact⟨trivial,hk_⟩):Kd.F (MB.frK w P0_) w (fun k_=>True∧k_≠g0) (some ⟨0,0,none⟩) [()].length [()])
 replace HPO:=za HPO
 have hB_:=za hB0
 have BKg0:=za hb0
 have GEg0:=za hge0
 clear hb0 hge0
 replace cBKg0:=MB.lz2 BKg0.out
 have HB:=za (Below.refl B_ w)
 go_enter Try.func32,Try.ntmps32
 (try go_wp2)
 refine MW.scope_labs ?_
 go_wp2_with ((with_reducible refine gd 4 rfl ?_);refine zb 4 72 #[.slice none 0 0] (h:=?_);intro g3 hg w4 BKg3 hb)
 refine zg ?_
 have GEg3:=zge hg (Nat.le_trans hB_.out (MB.bsize (a:=B_) HB.out))
 have NEg0_g3:=znq hg BKg0.out
 have NEg3_g0:=zsy NEg0_g3
 replace HFfr:=zfe HFfr.out hg hb
 replace BKg0:=zbb BKg0.out hb
 replace HB:=za (MB.below_stepB hB_.out HB.out hb)
 clear hg hb
 replace cBKg0:=MB.lz2 BKg0.out
 have j7:=MB.lz1 BKg3.out
 go_wp2
 refine MW.lab_loop 0 (by assumption) (by kernel_rfl) (fun kq a_ w'=>∃ (u2 u3 u5 u6 u7 u8 u9 u10 u11 u12 u13 u14 u15 u16 u17 u18 u19 u20 u21 u22 u23 u24 u25 u26 u27 u28 u29 u30 u31 u32 u33 u34 u35 u36 u37 u38 u39 u40 u41 u42 u43 u44 u45 u46 u47 u48 u49 u50 u51 u52 u53 u54 u55 u56 u57 u58 u59 u60 u61 u62 u63 u64 u65 u66 u67 u68 u69 u70 u71 u72 u73 u74 u75 u76 u77 u78 u79 u80 u81 u82 u83 u84 u85 u86 u87 u88 u89 u90 u91 u92 u93 u94 u95:Value),(∃ (x9:Bool) (x10:List Int) (x12:Int) (v8:Value),u5=.bool x9∧Aside0 ((dn_reader_value.l0 kq x9 x10 x12 a0_0)=some (r1,r2,r3,r4))∧Aside0 (kq≤k)∧Aside0 (Kd.F (MB.frK w P0_) w' (fun k_=>((True∧some k_≠(v8:Value).ownBlock)∧k_≠g0)∧k_≠g3) (some ⟨0,0,none⟩) [()].length [()])∧Aside0 (Kd.N (Kd.int .u8) 5 w' B_ (fun k_=>((True∧(w.heap.size≤k_))∧k_≠g0)∧k_≠g3) v8 x10)∧Aside0 (w'.heap[g0]? =some (.cells #[.string a0_0,.int .i64 x12] 61 (0,0)))∧Aside0 (w'.heap[g3]? =some (.cells #[v8] 72 (0,0)))∧Aside0 (Below B_ w w'))∧a_=⟨[(.pointer (some ⟨g0,0,none⟩)),undef,u2,u3,(.pointer (some ⟨g3,0,none⟩)),u5,u6,u7,u8,u9,u10,u11,u12,u13,u14,u15,u16,u17,u18,u19,u20,u21,u22,u23,u24,u25,u26,u27,u28,u29,u30,u31,u32,u33,u34,u35,u36,u37,u38,u39,u40,u41,u42,u43,u44,u45,u46,u47,u48,u49,u50,u51,u52,u53,u54,u55,u56,u57,u58,u59,u60,u61,u62,u63,u64,u65,u66,u67,u68,u69,u70,u71,u72,u73,u74,u75,u76,u77,u78,u79,u80,u81,u82,u83,u84,u85,u86,u87,u88,u89,u90,u91,u92,u93,u94,u95].toArray,[]⟩) k ?atStart ?round
 case atStart=>(repeat apply Exists.intro);refine⟨?_,rfl⟩;exact⟨false,([]:List Int),a0_1,.slice none 0 0,(by first|rfl|(simp;done)|(simp[*];done)),HH,⟨Nat.le_refl _⟩,⟨(Kd.F_mono (ok:=(fun k_=>(True∧k_≠g0)∧k_≠g3)) HFfr.out (fun k_ hk_=>⟨⟨⟨hk_.1.1,(by simp[Value.ownBlock])⟩,hk_.1.2⟩,hk_.2⟩))⟩,⟨Kd.N_nil _ _ _ _ _⟩,⟨BKg0.out⟩,⟨BKg3.out⟩,⟨HB.out⟩⟩
 case round=>
  intro gk _ wr hinv
  obtain⟨u2,u3,u5,u6,u7,u8,u9,u10,u11,u12,u13,u14,u15,u16,u17,u18,u19,u20,u21,u22,u23,u24,u25,u26,u27,u28,u29,u30,u31,u32,u33,u34,u35,u36,u37,u38,u39,u40,u41,u42,u43,u44,u45,u46,u47,u48,u49,u50,u51,u52,u53,u54,u55,u56,u57,u58,u59,u60,u61,u62,u63,u64,u65,u66,u67,u68,u69,u70,u71,u72,u73,u74,u75,u76,u77,u78,u79,u80,u81,u82,u83,u84,u85,u86,u87,u88,u89,u90,u91,u92,u93,u94,u95,hrel,rfl⟩:=hinv
  intro _ _ _ hKq0
  clear j7
  clear HH
  clear HFfr BKg0 BKg3 HB
  obtain⟨x9,x10,x12,v8,rfl,HA,HK0,HFfr,HN11,BKg0,BKg3,HB⟩:=hrel
  obtain⟨w14,rfl⟩:∃ wo_:World,wo_=wr:=⟨_,rfl⟩
  cases gk with
  |zero=>exact absurd HA.out (by simp[dn_reader_value.l0])
  |succ k15=>
   have H:=HA.out
   clear HA
   simp only[dn_reader_value.l0] at H
   have HH:=za H
   clear H
   replace cBKg0:=MB.lz2 BKg0.out
   have ji:=MB.lz1 BKg3.out
   replace HH:=zqe HH
   rcases HH with⟨HH,hk20,hk21⟩|⟨HH,hk33,hk34⟩
   ·obtain⟨A22,cp23,he_⟩:=Kd.N_slice HN11.out
    subst he_
    have HF24:=za (Kd.N_F HN11.out)
    clear HN11
    replace HFfr:=za (Kd.F_mono (ok:=(fun k_=>((True∧some k_≠((.slice A22 x10.length cp23):Value).ownBlock)∧k_≠g0)∧k_≠g3)) HFfr.out (fun k_ hk_=>⟨⟨hk_.1.1.1,hk_.1.2⟩,hk_.2⟩):Kd.F (MB.frK w P0_) _ (fun k_=>(True∧k_≠g0)∧k_≠g3) _ _ _)
    have hcv26:=Kd.C_string (P:=Try.prog) (A:=A22) (c:=cp23) Try.underlying72 Try.underlying5 Try.underlying9 (Kd.F_now HF24.out)
    have hcv27:=fun m_:Nat=>Kd.C_string (P:=Try.prog) (A:=A22) (c:=cp23) Try.underlying72 Try.underlying5 Try.underlying9 (Kd.F_now (Kd.F_drewN HF24.out m_))
    replace HH:=zqK 0 HH
    rcases HH with⟨HH,hk29,hk30⟩|⟨HH,hk31,hk32⟩
    ·have H:=HH.out
     simp only[Option.some.injEq,Prod.mk.injEq] at H
     obtain⟨rfl,rfl,rfl,rfl⟩:=H
     clear HH
     go_wp2
     go_quiet (fail)
     go_wp2
     (try simp only[MW.backTo_ret,MW.labs_ret])
     go_ret2
     unfold dn_reader_value.Post
     exact⟨by first|rfl|(simp;done)|(simp[*];done),(by first|exact(by(with_reducible repeat(first|refine blk_drewN ?_ _|refine blk_drew ?_|refine blk_alloc ?_ _));exact BKg0.out)|(have h_:=(by(with_reducible repeat(first|refine blk_drewN ?_ _|refine blk_drew ?_|refine blk_alloc ?_ _));exact BKg0.out);simp only[*] at h_;exact h_)|(have h_:=(by(with_reducible repeat(first|refine blk_drewN ?_ _|refine blk_drew ?_|refine blk_alloc ?_ _));exact BKg0.out);simp[*] at h_ ⊢;exact h_)),(fun k_ hg_ hlt_=>MB.frK_out (by(with_reducible repeat(first|apply Kd.F_alloc|apply Kd.F_drewN|apply Kd.F_drew));exact HFfr.out) k_ (by rw[HPO.out];exact hg_) hlt_),(by repeat(first|(with_reducible first|exact HB.out|apply MB.below_allocB hB_.out|apply pw_below_drewN|apply below_drew1)|exact HB.out))⟩
    have H:=HH.out
    simp only[Option.some.injEq,Prod.mk.injEq] at H
    obtain⟨rfl,rfl,rfl,rfl⟩:=H
    clear HH
    go_wp2
    go_quiet (fail)
    go_wp2
    (try simp only[MW.backTo_ret,MW.labs_ret])
    go_ret2
    unfold dn_reader_value.Post
    exact⟨by first|rfl|(simp;done)|(simp[*];done),(by first|exact(by(with_reducible repeat(first|refine blk_drewN ?_ _|refine blk_drew ?_|refine blk_alloc ?_ _));exact BKg0.out)|(have h_:=(by(with_reducible repeat(first|refine blk_drewN ?_ _|refine blk_drew ?_|refine blk_alloc ?_ _));exact BKg0.out);simp only[*] at h_;exact h_)|(have h_:=(by(with_reducible repeat(first|refine blk_drewN ?_ _|refine blk_drew ?_|refine blk_alloc ?_ _));exact BKg0.out);simp[*] at h_ ⊢;exact h_)),(fun k_ hg_ hlt_=>MB.frK_out (by(with_reducible repeat(first|apply Kd.F_alloc|apply Kd.F_drewN|apply Kd.F_drew));exact HFfr.out) k_ (by rw[HPO.out];exact hg_) hlt_),(by repeat(first|(with_reducible first|exact HB.out|apply MB.below_allocB hB_.out|apply pw_below_drewN|apply below_drew1)|exact HB.out))⟩
   replace HH:=zqdo HH
   obtain⟨HH,hk36⟩:=HH
   replace HH:=zqto HH
   obtain⟨HH,hk38,hk39⟩:=HH
   have p40:0≤(x12:Int):=of_decide_eq_true (by first|(with_reducible assumption)|assumption)
   have q40:x12<(a0_0.size:Int):=of_decide_eq_true (by first|(with_reducible assumption)|assumption)
   have hx40:=MW.bt_at' a0_0 x12
   replace p40:=eq_true p40
   replace q40:=eq_true q40
   replace HH:=zqe HH
   rcases HH with⟨HH,hk42,hk43⟩|⟨HH,hk55,hk56⟩
   ·obtain⟨A44,cp45,he_⟩:=Kd.N_slice HN11.out
    subst he_
    have HF46:=za (Kd.N_F HN11.out)
    clear HN11
    replace HFfr:=za (Kd.F_mono (ok:=(fun k_=>((True∧some k_≠((.slice A44 x10.length cp45):Value).ownBlock)∧k_≠g0)∧k_≠g3)) HFfr.out (fun k_ hk_=>⟨⟨hk_.1.1.1,hk_.1.2⟩,hk_.2⟩):Kd.F (MB.frK w P0_) _ (fun k_=>(True∧k_≠g0)∧k_≠g3) _ _ _)
    have hcv48:=Kd.C_string (P:=Try.prog) (A:=A44) (c:=cp45) Try.underlying72 Try.underlying5 Try.underlying9 (Kd.F_now HF46.out)
    have hcv49:=fun m_:Nat=>Kd.C_string (P:=Try.prog) (A:=A44) (c:=cp45) Try.underlying72 Try.underlying5 Try.underlying9 (Kd.F_now (Kd.F_drewN HF46.out m_))
    replace HH:=zqK 0 HH
    rcases HH with⟨HH,hk51,hk52⟩|⟨HH,hk53,hk54⟩
    ·have H:=HH.out
     simp only[Option.some.injEq,Prod.mk.injEq] at H
     obtain⟨rfl,rfl,rfl,rfl⟩:=H
     clear HH
     go_wp2
     go_quiet (fail)
     go_wp2
     go_quiet (fail)
     go_wp2
     (try simp only[MW.backTo_ret,MW.labs_ret])
     go_ret2
     unfold dn_reader_value.Post
     exact⟨by first|rfl|(simp;done)|(simp[*];done),(by first|exact(by(with_reducible repeat(first|refine blk_drewN ?_ _|refine blk_drew ?_|refine blk_alloc ?_ _));exact BKg0.out)|(have h_:=(by(with_reducible repeat(first|refine blk_drewN ?_ _|refine blk_drew ?_|refine blk_alloc ?_ _));exact BKg0.out);simp only[*] at h_;exact h_)|(have h_:=(by(with_reducible repeat(first|refine blk_drewN ?_ _|refine blk_drew ?_|refine blk_alloc ?_ _));exact BKg0.out);simp[*] at h_ ⊢;exact h_)),(fun k_ hg_ hlt_=>MB.frK_out (by(with_reducible repeat(first|apply Kd.F_alloc|apply Kd.F_drewN|apply Kd.F_drew));exact HFfr.out) k_ (by rw[HPO.out];exact hg_) hlt_),(by repeat(first|(with_reducible first|exact HB.out|apply MB.below_allocB hB_.out|apply pw_below_drewN|apply below_drew1)|exact HB.out))⟩
    have H:=HH.out
    simp only[Option.some.injEq,Prod.mk.injEq] at H
    obtain⟨rfl,rfl,rfl,rfl⟩:=H
    clear HH
    go_wp2
    go_quiet (fail)
    go_wp2
    go_quiet (fail)
    go_wp2
    (try simp only[MW.backTo_ret,MW.labs_ret])
    go_ret2
    unfold dn_reader_value.Post
    exact⟨by first|rfl|(simp;done)|(simp[*];done),(by first|exact(by(with_reducible repeat(first|refine blk_drewN ?_ _|refine blk_drew ?_|refine blk_alloc ?_ _));exact BKg0.out)|(have h_:=(by(with_reducible repeat(first|refine blk_drewN ?_ _|refine blk_drew ?_|refine blk_alloc ?_ _));exact BKg0.out);simp only[*] at h_;exact h_)|(have h_:=(by(with_reducible repeat(first|refine blk_drewN ?_ _|refine blk_drew ?_|refine blk_alloc ?_ _));exact BKg0.out);simp[*] at h_ ⊢;exact h_)),(fun k_ hg_ hlt_=>MB.frK_out (by(with_reducible repeat(first|apply Kd.F_alloc|apply Kd.F_drewN|apply Kd.F_drew));exact HFfr.out) k_ (by rw[HPO.out];exact hg_) hlt_),(by repeat(first|(with_reducible first|exact HB.out|apply MB.below_allocB hB_.out|apply pw_below_drewN|apply below_drew1)|exact HB.out))⟩
   replace HH:=zqe HH
   rcases HH with⟨HH,hk58,hk59⟩|⟨HH,hk71,hk72⟩
   ·obtain⟨A60,cp61,he_⟩:=Kd.N_slice HN11.out
    subst he_
    have HF62:=za (Kd.N_F HN11.out)
    clear HN11
    replace HFfr:=za (Kd.F_mono (ok:=(fun k_=>((True∧some k_≠((.slice A60 x10.length cp61):Value).ownBlock)∧k_≠g0)∧k_≠g3)) HFfr.out (fun k_ hk_=>⟨⟨hk_.1.1.1,hk_.1.2⟩,hk_.2⟩):Kd.F (MB.frK w P0_) _ (fun k_=>(True∧k_≠g0)∧k_≠g3) _ _ _)
    have hcv64:=Kd.C_string (P:=Try.prog) (A:=A60) (c:=cp61) Try.underlying72 Try.underlying5 Try.underlying9 (Kd.F_now HF62.out)
    have hcv65:=fun m_:Nat=>Kd.C_string (P:=Try.prog) (A:=A60) (c:=cp61) Try.underlying72 Try.underlying5 Try.underlying9 (Kd.F_now (Kd.F_drewN HF62.out m_))
    replace HH:=zqK 0 HH
    rcases HH with⟨HH,hk67,hk68⟩|⟨HH,hk69,hk70⟩
    ·have H:=HH.out
     simp only[Option.some.injEq,Prod.mk.injEq] at H
     obtain⟨rfl,rfl,rfl,rfl⟩:=H
     clear HH
     go_wp2
     go_quiet (fail)
     go_wp2
     go_quiet (fail)
     go_wp2
     (try simp only[MW.backTo_ret,MW.labs_ret])
     go_ret2
     unfold dn_reader_value.Post
     exact⟨by first|rfl|(simp;done)|(simp[*];done),(by first|exact(by(with_reducible repeat(first|refine blk_drewN ?_ _|refine blk_drew ?_|refine blk_alloc ?_ _));exact BKg0.out)|(have h_:=(by(with_reducible repeat(first|refine blk_drewN ?_ _|refine blk_drew ?_|refine blk_alloc ?_ _));exact BKg0.out);simp only[*] at h_;exact h_)|(have h_:=(by(with_reducible repeat(first|refine blk_drewN ?_ _|refine blk_drew ?_|refine blk_alloc ?_ _));exact BKg0.out);simp[*] at h_ ⊢;exact h_)),(fun k_ hg_ hlt_=>MB.frK_out (by(with_reducible repeat(first|apply Kd.F_alloc|apply Kd.F_drewN|apply Kd.F_drew));exact HFfr.out) k_ (by rw[HPO.out];exact hg_) hlt_),(by repeat(first|(with_reducible first|exact HB.out|apply MB.below_allocB hB_.out|apply pw_below_drewN|apply below_drew1)|exact HB.out))⟩
    have H:=HH.out
    simp only[Option.some.injEq,Prod.mk.injEq] at H
    obtain⟨rfl,rfl,rfl,rfl⟩:=H
    clear HH
    go_wp2
    go_quiet (fail)
    go_wp2
    go_quiet (fail)
    go_wp2
    (try simp only[MW.backTo_ret,MW.labs_ret])
    go_ret2
    unfold dn_reader_value.Post
    exact⟨by first|rfl|(simp;done)|(simp[*];done),(by first|exact(by(with_reducible repeat(first|refine blk_drewN ?_ _|refine blk_drew ?_|refine blk_alloc ?_ _));exact BKg0.out)|(have h_:=(by(with_reducible repeat(first|refine blk_drewN ?_ _|refine blk_drew ?_|refine blk_alloc ?_ _));exact BKg0.out);simp only[*] at h_;exact h_)|(have h_:=(by(with_reducible repeat(first|refine blk_drewN ?_ _|refine blk_drew ?_|refine blk_alloc ?_ _));exact BKg0.out);simp[*] at h_ ⊢;exact h_)),(fun k_ hg_ hlt_=>MB.frK_out (by(with_reducible repeat(first|apply Kd.F_alloc|apply Kd.F_drewN|apply Kd.F_drew));exact HFfr.out) k_ (by rw[HPO.out];exact hg_) hlt_),(by repeat(first|(with_reducible first|exact HB.out|apply MB.below_allocB hB_.out|apply pw_below_drewN|apply below_drew1)|exact HB.out))⟩
   replace HH:=zqe HH
   rcases HH with⟨HH,hk74,hk75⟩|⟨HH,hk242,hk243⟩
   ·go_wp2
    go_quiet (fail)
    go_wp2
    go_quiet (fail)
    go_wp2_with (((with_reducible refine gate_callee (f:=47) rfl ?_);(try(refine gate_guard (by rfl) ?_;dsimp only));refine goesL_ (some 56) rfl rfl Try.func47 (by kernel_rfl) rfl #[.pointer (some ⟨g0,0,none⟩),.pointer (some ⟨g3,0,none⟩)] rfl (by(try simp only[List.map_toArray,List.map_cons,List.map_nil]);first|done|rfl) ?_);refine stop_ ?_)
    refine zg ?_
    go_enter Try.func47,Try.ntmps47
    replace HH:=zqdo HH
    obtain⟨HH,hk77⟩:=HH
    replace HH:=zqdo HH
    obtain⟨HH,hk79⟩:=HH
    obtain⟨y81,hy81⟩:∃ y_:ByteArray,y_=(a0_0.extract (wrap64 (x12+1)).toNat a0_0.size):=⟨_,rfl⟩
    have H:(if y81.toList=([]:List UInt8) then(some ((⟨#[]⟩:ByteArray),false,a0_0,x12)) else(if 0<(y81.size:Int) then((dn_special.f (bt y81 0)).bind fun t93=>(if t93=true then(if x10.length<140737488355328 then((some (x10++[bt y81 0]:List Int)).bind fun y98=>((dn_reader_value.l0 k15 false y98 (wrap64 (x12+2)) a0_0))) else(none)) else(if (bt y81 0)=32 then(if x10.length<140737488355328 then((some (x10++[bt y81 0]:List Int)).bind fun y119=>((dn_reader_value.l0 k15 false y119 (wrap64 (x12+2)) a0_0))) else(none)) else(if (bt y81 0)=35 then(if x10.length<140737488355328 then((some (x10++[bt y81 0]:List Int)).bind fun y142=>((dn_reader_value.l0 k15 false y142 (wrap64 (x12+2)) a0_0))) else(none)) else(if (y81.size:Int)<2 then(some ((⟨#[]⟩:ByteArray),false,a0_0,x12)) else((dn_digit.f (bt y81 0)).bind fun t168=>(if t168<0 then(some ((⟨#[]⟩:ByteArray),false,a0_0,x12)) else(if 1<(y81.size:Int) then((dn_digit.f (bt y81 1)).bind fun t182=>(if t182<0 then(some ((⟨#[]⟩:ByteArray),false,a0_0,x12)) else((dn_digit.f (bt y81 0)).bind fun t198=>((dn_digit.f (bt y81 1)).bind fun t201=>(if x10.length+([(Go.bits .or .i64 (wrap64 (t198*16)) t201) % 256]:List Int).length<140737488355328 then((some (x10++([(Go.bits .or .i64 (wrap64 (t198*16)) t201) % 256]:List Int):List Int)).bind fun y215=>((dn_reader_value.l0 k15 false y215 (wrap64 (x12+3)) a0_0))) else(none)))))) else(none))))))))) else(none)))=some (r1,r2,r3,r4):=by rw[hy81];exact HH.out
    replace HH:=za H
    clear H
    have hcty81:a0_0.extract (wrap64 (x12+1)).toNat a0_0.size=y81:=hy81.symm
    have NYy81:=za hy81
    clear hy81
    have hh080:(0≤((wrap64 (x12+1)):Int))=True:=eq_true (by first|exact Int.natCast_nonneg _|exact(of_decide_eq_true (by first|(with_reducible assumption)|assumption|(simp;done)):0≤((wrap64 (x12+1)):Int)))
    have hh180:(((wrap64 (x12+1)):Int)≤((a0_0.size:Int):Int))=True:=eq_true (by first|exact Int.le_refl _|exact(of_decide_eq_true (by first|(with_reducible assumption)|assumption|(simp;done)):((wrap64 (x12+1)):Int)≤((a0_0.size:Int):Int)))
    replace HH:=zqe HH
    rcases HH with⟨HH,hk83,hk84⟩|⟨HH,hk85,hk86⟩
    ·go_wp2
     go_quiet (fail)
     go_wp2
     go_ret
     refine⟨_,rfl,?_⟩
     have H:=HH.out
     simp only[Option.some.injEq,Prod.mk.injEq] at H
     obtain⟨rfl,rfl,rfl,rfl⟩:=H
     clear HH
     go_wp2
     (try simp only[MW.backTo_ret,MW.labs_ret])
     go_ret2
     unfold dn_reader_value.Post
     exact⟨by first|rfl|(simp;done)|(simp[*];done),(by first|exact(by(with_reducible repeat(first|refine blk_drewN ?_ _|refine blk_drew ?_|refine blk_alloc ?_ _));exact BKg0.out)|(have h_:=(by(with_reducible repeat(first|refine blk_drewN ?_ _|refine blk_drew ?_|refine blk_alloc ?_ _));exact BKg0.out);simp only[*] at h_;exact h_)|(have h_:=(by(with_reducible repeat(first|refine blk_drewN ?_ _|refine blk_drew ?_|refine blk_alloc ?_ _));exact BKg0.out);simp[*] at h_ ⊢;exact h_)),(fun k_ hg_ hlt_=>MB.frK_out (by(with_reducible repeat(first|apply Kd.F_alloc|apply Kd.F_drewN|apply Kd.F_drew));exact HFfr.out) k_ (by rw[HPO.out];exact hg_) hlt_),(by repeat(first|(with_reducible first|exact HB.out|apply MB.below_allocB hB_.out|apply pw_below_drewN|apply below_drew1)|exact HB.out))⟩
    replace HH:=zqno 0 HH
    obtain⟨HH,hk88,hk89,hk90,hk91⟩:=HH
    have p92:0≤(0:Int):=(by omega)
    have q92:0<y81.size:=(by have:(0:Int)<(y81.size:Int):=of_decide_eq_true (by first|(with_reducible assumption)|assumption);omega)
    have hx92:∀ h:0<y81.size,((y81[0]'h).toNat:Int)=bt y81 0:=MW.bt_at' y81 0
    clear p92
    have qi92:(0<(y81.size:Int))=True:=eq_true (of_decide_eq_true (by first|(with_reducible assumption)|assumption))
    replace q92:=eq_true q92
    replace HH:=zd HH
    obtain⟨t93,At94,HH⟩:=HH
    go_wp2
    go_quiet (fail)
    go_wp2_with ((with_reducible refine gc 48 rfl ?_);refine zc 48 (some 22) Try.func48 #[.int .u8 (bt y81 0)] (h:=?_);(with_reducible refine(dn_special.calls  (bt y81 0) t93 _  At94.out).mono ?_);rintro e w' ⟨rfl,⟨nd,rfl⟩⟩;refine⟨_,rfl,?_⟩)
    refine zg ?_
    by_cases c96:t93=true
    ·replace HH:=MW.hpos HH c96
     subst c96
     obtain⟨HH,LMc97⟩:=zlm HH
     obtain⟨y98,hy98⟩:∃ y_:List Int,y_=(x10++[bt y81 0]):=⟨_,rfl⟩
     have H:((dn_reader_value.l0 k15 false y98 (wrap64 (x12+2)) a0_0))=some (r1,r2,r3,r4):=by rw[hy98];exact HH.out
     replace HH:=za H
     clear H
     have NYy98:=za hy98
     clear hy98
     go_wp2_with (((with_reducible refine gate_dst (N:=37) rfl ?_);(try(refine gate_guard (by rfl) ?_;dsimp only));refine Kd.N_append (Kd.int .u8) B_ rfl _ _ 72 5 (.int .u8 0) 1 rfl Try.underlying72 info5 rfl (by decide) (by decide) (v8) x10 (bt y81 0) [.int .u8 (bt y81 0)] (fun k_=>((True∧(w.heap.size≤k_))∧k_≠g0)∧k_≠g3) (fun k_=>(fun k_=>((True∧(w.heap.size≤k_))∧k_≠g0)∧k_≠g3) k_∧some k_≠(v8:Value).ownBlock) rfl rfl (fun _ _=>rfl) (fun _ hk_=>hk_) (fun k_ h_=>⟨⟨⟨trivial,((Nat.le_trans (MB.bsize (a:=B_) (by repeat(first|(with_reducible first|exact HB.out|apply MB.below_allocB hB_.out|apply pw_below_drewN|apply below_drew1)|exact HB.out))) h_))⟩,Kd.freshB (g:=g0) (o:=.cells #[.string a0_0,.int .i64 x12] 61 (0,0)) (by(with_reducible repeat(first|refine blk_drewN ?_ _|refine blk_drew ?_|refine blk_alloc ?_ _));exact BKg0.out) k_ h_⟩,Kd.freshB (g:=g3) (o:=.cells #[v8] 72 (0,0)) (by(with_reducible repeat(first|refine blk_drewN ?_ _|refine blk_drew ?_|refine blk_alloc ?_ _));exact BKg3.out) k_ h_⟩) (by(with_reducible repeat(first|apply Kd.N_alloc|apply Kd.N_drewN|apply Kd.N_drew));exact HN11.out) (by repeat(first|(with_reducible first|exact HB.out|apply MB.below_allocB hB_.out|apply pw_below_drewN|apply below_drew1)|exact HB.out)) (Nat.le_trans hB_.out (MB.bsize (a:=B_) (by repeat(first|(with_reducible first|exact HB.out|apply MB.below_allocB hB_.out|apply pw_below_drewN|apply below_drew1)|exact HB.out)))) (by first|(have:=LMc97.out;omega)|(have:=LMc97.out;simp at *;omega)) ?_;intro v99 w100 hn1 hb1 hg1 hat1);replace hat1:=za hat1;refine stop_ ?_)
     refine zg ?_
     replace hat1:=hat1.out
     replace HFfr:=za (Kd.F_mono (Kd.F_after (v:=v8) (ok:=(fun k_=>(True∧k_≠g0)∧k_≠g3)) (Kd.F_mono (ok:=(fun k_=>((True∧some k_≠(v8:Value).ownBlock)∧k_≠g0)∧k_≠g3)) (by(with_reducible repeat(first|apply Kd.F_alloc|apply Kd.F_drewN|apply Kd.F_drew));exact HFfr.out) (fun k_ hk_=>⟨⟨⟨hk_.1.1.1,hk_.1.2⟩,hk_.2⟩,hk_.1.1.2⟩)) hg1 hat1) (fun k_ hk_=>hk_):Kd.F (MB.frK w P0_) _ (fun k_=>((True∧k_≠g0)∧k_≠g3)∧some k_≠(v99:Value).ownBlock) _ _ _)
     replace BKg0:=za (blk_grown (g:=g0) (o:=.cells #[.string a0_0,.int .i64 x12] 61 (0,0)) (by(with_reducible repeat(first|refine blk_drewN ?_ _|refine blk_drew ?_|refine blk_alloc ?_ _));exact BKg0.out) hg1 (Kd.N_away (ok:=(fun k_=>((True∧(w.heap.size≤k_))∧k_≠g0)∧k_≠g3)) HN11.out (fun k_ hk_=>hk_.1.2)))
     replace BKg3:=za (blk_grown (g:=g3) (o:=.cells #[v8] 72 (0,0)) (by(with_reducible repeat(first|refine blk_drewN ?_ _|refine blk_drew ?_|refine blk_alloc ?_ _));exact BKg3.out) hg1 (Kd.N_away (ok:=(fun k_=>((True∧(w.heap.size≤k_))∧k_≠g0)∧k_≠g3)) HN11.out (fun k_ hk_=>hk_.2)))
     replace HB:=za hb1
     clear HN11
     have HN101:=za hn1
     clear hn1 hb1 hg1 hat1
     replace HN101:=za (by rw[NYy98.out];exact HN101.out:Kd.N (Kd.int .u8) 5 w100 B_ (fun k_=>((True∧(w.heap.size≤k_))∧k_≠g0)∧k_≠g3) v99 y98)
     clear ji hh080 hh180 hcty81
     replace cBKg0:=MB.lz2 BKg0.out
     have j1G:=MB.lz1 BKg3.out
     obtain⟨A106,cp107,he_⟩:=Kd.N_slice HN101.out
     subst he_
     go_wp2_with ((with_reducible refine gs 72 38 rfl ?_);refine zs 72 38 #[(.slice A106 y98.length cp107)] BKg3.out [(.slice A106 y98.length cp107)] (h:=?_);intro w105 hbk hg)
     refine zg ?_
     replace HFfr:=zfg HFfr.out hg fun k_ hk_=>hk_.1.2
     replace HN101:=zng HN101.out hg fun k_ hk_=>hk_.2
     replace BKg0:=zbg BKg0.out hg NEg0_g3
     replace HB:=zhg HB.out hg (Nat.le_trans hB_.out (MB.bsize (a:=B_) HB.out)) GEg3
     replace BKg3:=hbk
     clear hg hbk
     clear j1G
     replace cBKg0:=MB.lz2 BKg0.out
     have j1M:=MB.lz1 BKg3.out
     go_wp2
     go_ret
     refine⟨_,rfl,?_⟩
     go_wp2_with ((with_reducible refine gs 3 66 rfl ?_);refine zs 3 66 #[.string a0_0,.int .i64 (wrap64 (x12+2))] BKg0.out [.int .i64 (wrap64 (x12+2))] (h:=?_);intro w111 hbk hg)
     refine zg ?_
     replace HFfr:=zfg HFfr.out hg fun k_ hk_=>hk_.1.1.2
     replace HN101:=zng HN101.out hg fun k_ hk_=>hk_.1.2
     replace BKg3:=zbg BKg3.out hg NEg3_g0
     replace HB:=zhg HB.out hg (Nat.le_trans hB_.out (MB.bsize (a:=B_) HB.out)) GEg0
     replace BKg0:=hbk
     clear hg hbk
     clear j1M
     replace cBKg0:=MB.lz2 BKg0.out
     have j1Q:=MB.lz1 BKg3.out
     go_wp2
     apply wp_goto
     refine MW.goto_back (hKq0 _ _ ?_)
     go_roundg k15
     case measure=>have:=HK0.out;omega
     case rel=>exact⟨false,y98,wrap64 (x12+2),(.slice A106 y98.length cp107),(by first|rfl|(simp;done)|(simp[*];done)),HH,⟨by have:=HK0.out;omega⟩,⟨(Kd.F_mono (ok:=(fun k_=>((True∧k_≠g0)∧k_≠g3)∧some k_≠((.slice A106 y98.length cp107):Value).ownBlock)) HFfr.out (fun k_ hk_=>⟨⟨⟨hk_.1.1.1,hk_.2⟩,hk_.1.1.2⟩,hk_.1.2⟩))⟩,⟨(Kd.N_mono (ok:=(fun k_=>((True∧(w.heap.size≤k_))∧k_≠g0)∧k_≠g3)) HN101.out (fun k_ hk_=>hk_))⟩,⟨BKg0.out⟩,⟨BKg3.out⟩,⟨HB.out⟩⟩
    replace HH:=MW.hneg HH c96
    replace c96:=Bool.eq_false_iff.mpr c96
    subst c96
    replace HH:=zqe HH
    rcases HH with⟨HH,hk116,hk117⟩|⟨HH,hk136,hk137⟩
    ·obtain⟨HH,LMc118⟩:=zlm HH
     obtain⟨y119,hy119⟩:∃ y_:List Int,y_=(x10++[bt y81 0]):=⟨_,rfl⟩
     have H:((dn_reader_value.l0 k15 false y119 (wrap64 (x12+2)) a0_0))=some (r1,r2,r3,r4):=by rw[hy119];exact HH.out
     replace HH:=za H
     clear H
     have NYy119:=za hy119
     clear hy119
     go_wp2_with (((with_reducible refine gate_dst (N:=37) rfl ?_);(try(refine gate_guard (by rfl) ?_;dsimp only));refine Kd.N_append (Kd.int .u8) B_ rfl _ _ 72 5 (.int .u8 0) 1 rfl Try.underlying72 info5 rfl (by decide) (by decide) (v8) x10 (bt y81 0) [.int .u8 (bt y81 0)] (fun k_=>((True∧(w.heap.size≤k_))∧k_≠g0)∧k_≠g3) (fun k_=>(fun k_=>((True∧(w.heap.size≤k_))∧k_≠g0)∧k_≠g3) k_∧some k_≠(v8:Value).ownBlock) rfl rfl (fun _ _=>rfl) (fun _ hk_=>hk_) (fun k_ h_=>⟨⟨⟨trivial,((Nat.le_trans (MB.bsize (a:=B_) (by repeat(first|(with_reducible first|exact HB.out|apply MB.below_allocB hB_.out|apply pw_below_drewN|apply below_drew1)|exact HB.out))) h_))⟩,Kd.freshB (g:=g0) (o:=.cells #[.string a0_0,.int .i64 x12] 61 (0,0)) (by(with_reducible repeat(first|refine blk_drewN ?_ _|refine blk_drew ?_|refine blk_alloc ?_ _));exact BKg0.out) k_ h_⟩,Kd.freshB (g:=g3) (o:=.cells #[v8] 72 (0,0)) (by(with_reducible repeat(first|refine blk_drewN ?_ _|refine blk_drew ?_|refine blk_alloc ?_ _));exact BKg3.out) k_ h_⟩) (by(with_reducible repeat(first|apply Kd.N_alloc|apply Kd.N_drewN|apply Kd.N_drew));exact HN11.out) (by repeat(first|(with_reducible first|exact HB.out|apply MB.below_allocB hB_.out|apply pw_below_drewN|apply below_drew1)|exact HB.out)) (Nat.le_trans hB_.out (MB.bsize (a:=B_) (by repeat(first|(with_reducible first|exact HB.out|apply MB.below_allocB hB_.out|apply pw_below_drewN|apply below_drew1)|exact HB.out)))) (by first|(have:=LMc118.out;omega)|(have:=LMc118.out;simp at *;omega)) ?_;intro v120 w121 hn1 hb1 hg1 hat1);replace hat1:=za hat1;refine stop_ ?_)
     refine zg ?_
     replace hat1:=hat1.out
     replace HFfr:=za (Kd.F_mono (Kd.F_after (v:=v8) (ok:=(fun k_=>(True∧k_≠g0)∧k_≠g3)) (Kd.F_mono (ok:=(fun k_=>((True∧some k_≠(v8:Value).ownBlock)∧k_≠g0)∧k_≠g3)) (by(with_reducible repeat(first|apply Kd.F_alloc|apply Kd.F_drewN|apply Kd.F_drew));exact HFfr.out) (fun k_ hk_=>⟨⟨⟨hk_.1.1.1,hk_.1.2⟩,hk_.2⟩,hk_.1.1.2⟩)) hg1 hat1) (fun k_ hk_=>hk_):Kd.F (MB.frK w P0_) _ (fun k_=>((True∧k_≠g0)∧k_≠g3)∧some k_≠(v120:Value).ownBlock) _ _ _)
     replace BKg0:=za (blk_grown (g:=g0) (o:=.cells #[.string a0_0,.int .i64 x12] 61 (0,0)) (by(with_reducible repeat(first|refine blk_drewN ?_ _|refine blk_drew ?_|refine blk_alloc ?_ _));exact BKg0.out) hg1 (Kd.N_away (ok:=(fun k_=>((True∧(w.heap.size≤k_))∧k_≠g0)∧k_≠g3)) HN11.out (fun k_ hk_=>hk_.1.2)))
     replace BKg3:=za (blk_grown (g:=g3) (o:=.cells #[v8] 72 (0,0)) (by(with_reducible repeat(first|refine blk_drewN ?_ _|refine blk_drew ?_|refine blk_alloc ?_ _));exact BKg3.out) hg1 (Kd.N_away (ok:=(fun k_=>((True∧(w.heap.size≤k_))∧k_≠g0)∧k_≠g3)) HN11.out (fun k_ hk_=>hk_.2)))
     replace HB:=za hb1
     clear HN11
     have HN122:=za hn1
     clear hn1 hb1 hg1 hat1
     replace HN122:=za (by rw[NYy119.out];exact HN122.out:Kd.N (Kd.int .u8) 5 w121 B_ (fun k_=>((True∧(w.heap.size≤k_))∧k_≠g0)∧k_≠g3) v120 y119)
     clear ji hh080 hh180 hcty81
     replace cBKg0:=MB.lz2 BKg0.out
     have j21:=MB.lz1 BKg3.out
     obtain⟨A127,cp128,he_⟩:=Kd.N_slice HN122.out
     subst he_
     go_wp2_with ((with_reducible refine gs 72 38 rfl ?_);refine zs 72 38 #[(.slice A127 y119.length cp128)] BKg3.out [(.slice A127 y119.length cp128)] (h:=?_);intro w126 hbk hg)
     refine zg ?_
     replace HFfr:=zfg HFfr.out hg fun k_ hk_=>hk_.1.2
     replace HN122:=zng HN122.out hg fun k_ hk_=>hk_.2
     replace BKg0:=zbg BKg0.out hg NEg0_g3
     replace HB:=zhg HB.out hg (Nat.le_trans hB_.out (MB.bsize (a:=B_) HB.out)) GEg3
     replace BKg3:=hbk
     clear hg hbk
     clear j21
     replace cBKg0:=MB.lz2 BKg0.out
     have j27:=MB.lz1 BKg3.out
     go_wp2
     go_ret
     refine⟨_,rfl,?_⟩
     go_wp2_with ((with_reducible refine gs 3 66 rfl ?_);refine zs 3 66 #[.string a0_0,.int .i64 (wrap64 (x12+2))] BKg0.out [.int .i64 (wrap64 (x12+2))] (h:=?_);intro w132 hbk hg)
     refine zg ?_
     replace HFfr:=zfg HFfr.out hg fun k_ hk_=>hk_.1.1.2
     replace HN122:=zng HN122.out hg fun k_ hk_=>hk_.1.2
     replace BKg3:=zbg BKg3.out hg NEg3_g0
     replace HB:=zhg HB.out hg (Nat.le_trans hB_.out (MB.bsize (a:=B_) HB.out)) GEg0
     replace BKg0:=hbk
     clear hg hbk
     clear j27
     replace cBKg0:=MB.lz2 BKg0.out
     have j2b:=MB.lz1 BKg3.out
     go_wp2
     apply wp_goto
     refine MW.goto_back (hKq0 _ _ ?_)
     go_roundg k15
     case measure=>have:=HK0.out;omega
     case rel=>exact⟨false,y119,wrap64 (x12+2),(.slice A127 y119.length cp128),(by first|rfl|(simp;done)|(simp[*];done)),HH,⟨by have:=HK0.out;omega⟩,⟨(Kd.F_mono (ok:=(fun k_=>((True∧k_≠g0)∧k_≠g3)∧some k_≠((.slice A127 y119.length cp128):Value).ownBlock)) HFfr.out (fun k_ hk_=>⟨⟨⟨hk_.1.1.1,hk_.2⟩,hk_.1.1.2⟩,hk_.1.2⟩))⟩,⟨(Kd.N_mono (ok:=(fun k_=>((True∧(w.heap.size≤k_))∧k_≠g0)∧k_≠g3)) HN122.out (fun k_ hk_=>hk_))⟩,⟨BKg0.out⟩,⟨BKg3.out⟩,⟨HB.out⟩⟩
    replace HH:=zqe HH
    rcases HH with⟨HH,hk139,hk140⟩|⟨HH,hk159,hk160⟩
    ·obtain⟨HH,LMc141⟩:=zlm HH
     obtain⟨y142,hy142⟩:∃ y_:List Int,y_=(x10++[bt y81 0]):=⟨_,rfl⟩
     have H:((dn_reader_value.l0 k15 false y142 (wrap64 (x12+2)) a0_0))=some (r1,r2,r3,r4):=by rw[hy142];exact HH.out
     replace HH:=za H
     clear H
     have NYy142:=za hy142
     clear hy142
     go_wp2_with (((with_reducible refine gate_dst (N:=37) rfl ?_);(try(refine gate_guard (by rfl) ?_;dsimp only));refine Kd.N_append (Kd.int .u8) B_ rfl _ _ 72 5 (.int .u8 0) 1 rfl Try.underlying72 info5 rfl (by decide) (by decide) (v8) x10 (bt y81 0) [.int .u8 (bt y81 0)] (fun k_=>((True∧(w.heap.size≤k_))∧k_≠g0)∧k_≠g3) (fun k_=>(fun k_=>((True∧(w.heap.size≤k_))∧k_≠g0)∧k_≠g3) k_∧some k_≠(v8:Value).ownBlock) rfl rfl (fun _ _=>rfl) (fun _ hk_=>hk_) (fun k_ h_=>⟨⟨⟨trivial,((Nat.le_trans (MB.bsize (a:=B_) (by repeat(first|(with_reducible first|exact HB.out|apply MB.below_allocB hB_.out|apply pw_below_drewN|apply below_drew1)|exact HB.out))) h_))⟩,Kd.freshB (g:=g0) (o:=.cells #[.string a0_0,.int .i64 x12] 61 (0,0)) (by(with_reducible repeat(first|refine blk_drewN ?_ _|refine blk_drew ?_|refine blk_alloc ?_ _));exact BKg0.out) k_ h_⟩,Kd.freshB (g:=g3) (o:=.cells #[v8] 72 (0,0)) (by(with_reducible repeat(first|refine blk_drewN ?_ _|refine blk_drew ?_|refine blk_alloc ?_ _));exact BKg3.out) k_ h_⟩) (by(with_reducible repeat(first|apply Kd.N_alloc|apply Kd.N_drewN|apply Kd.N_drew));exact HN11.out) (by repeat(first|(with_reducible first|exact HB.out|apply MB.below_allocB hB_.out|apply pw_below_drewN|apply below_drew1)|exact HB.out)) (Nat.le_trans hB_.out (MB.bsize (a:=B_) (by repeat(first|(with_reducible first|exact HB.out|apply MB.below_allocB hB_.out|apply pw_below_drewN|apply below_drew1)|exact HB.out)))) (by first|(have:=LMc141.out;omega)|(have:=LMc141.out;simp at *;omega)) ?_;intro v143 w144 hn1 hb1 hg1 hat1);replace hat1:=za hat1;refine stop_ ?_)
     refine zg ?_
     replace hat1:=hat1.out
     replace HFfr:=za (Kd.F_mono (Kd.F_after (v:=v8) (ok:=(fun k_=>(True∧k_≠g0)∧k_≠g3)) (Kd.F_mono (ok:=(fun k_=>((True∧some k_≠(v8:Value).ownBlock)∧k_≠g0)∧k_≠g3)) (by(with_reducible repeat(first|apply Kd.F_alloc|apply Kd.F_drewN|apply Kd.F_drew));exact HFfr.out) (fun k_ hk_=>⟨⟨⟨hk_.1.1.1,hk_.1.2⟩,hk_.2⟩,hk_.1.1.2⟩)) hg1 hat1) (fun k_ hk_=>hk_):Kd.F (MB.frK w P0_) _ (fun k_=>((True∧k_≠g0)∧k_≠g3)∧some k_≠(v143:Value).ownBlock) _ _ _)
     replace BKg0:=za (blk_grown (g:=g0) (o:=.cells #[.string a0_0,.int .i64 x12] 61 (0,0)) (by(with_reducible repeat(first|refine blk_drewN ?_ _|refine blk_drew ?_|refine blk_alloc ?_ _));exact BKg0.out) hg1 (Kd.N_away (ok:=(fun k_=>((True∧(w.heap.size≤k_))∧k_≠g0)∧k_≠g3)) HN11.out (fun k_ hk_=>hk_.1.2)))
     replace BKg3:=za (blk_grown (g:=g3) (o:=.cells #[v8] 72 (0,0)) (by(with_reducible repeat(first|refine blk_drewN ?_ _|refine blk_drew ?_|refine blk_alloc ?_ _));exact BKg3.out) hg1 (Kd.N_away (ok:=(fun k_=>((True∧(w.heap.size≤k_))∧k_≠g0)∧k_≠g3)) HN11.out (fun k_ hk_=>hk_.2)))
     replace HB:=za hb1
     clear HN11
     have HN145:=za hn1
     clear hn1 hb1 hg1 hat1
     replace HN145:=za (by rw[NYy142.out];exact HN145.out:Kd.N (Kd.int .u8) 5 w144 B_ (fun k_=>((True∧(w.heap.size≤k_))∧k_≠g0)∧k_≠g3) v143 y142)
     clear ji hh080 hh180 hcty81
     replace cBKg0:=MB.lz2 BKg0.out
     have j2o:=MB.lz1 BKg3.out
     obtain⟨A150,cp151,he_⟩:=Kd.N_slice HN145.out
     subst he_
     go_wp2_with ((with_reducible refine gs 72 38 rfl ?_);refine zs 72 38 #[(.slice A150 y142.length cp151)] BKg3.out [(.slice A150 y142.length cp151)] (h:=?_);intro w149 hbk hg)
     refine zg ?_
     replace HFfr:=zfg HFfr.out hg fun k_ hk_=>hk_.1.2
     replace HN145:=zng HN145.out hg fun k_ hk_=>hk_.2
     replace BKg0:=zbg BKg0.out hg NEg0_g3
     replace HB:=zhg HB.out hg (Nat.le_trans hB_.out (MB.bsize (a:=B_) HB.out)) GEg3
     replace BKg3:=hbk
     clear hg hbk
     clear j2o
     replace cBKg0:=MB.lz2 BKg0.out
     have j2u:=MB.lz1 BKg3.out
     go_wp2
     go_ret
     refine⟨_,rfl,?_⟩
     go_wp2_with ((with_reducible refine gs 3 66 rfl ?_);refine zs 3 66 #[.string a0_0,.int .i64 (wrap64 (x12+2))] BKg0.out [.int .i64 (wrap64 (x12+2))] (h:=?_);intro w155 hbk hg)
     refine zg ?_
     replace HFfr:=zfg HFfr.out hg fun k_ hk_=>hk_.1.1.2
     replace HN145:=zng HN145.out hg fun k_ hk_=>hk_.1.2
     replace BKg3:=zbg BKg3.out hg NEg3_g0
     replace HB:=zhg HB.out hg (Nat.le_trans hB_.out (MB.bsize (a:=B_) HB.out)) GEg0
     replace BKg0:=hbk
     clear hg hbk
     clear j2u
     replace cBKg0:=MB.lz2 BKg0.out
     have j2y:=MB.lz1 BKg3.out
     go_wp2
     apply wp_goto
     refine MW.goto_back (hKq0 _ _ ?_)
     go_roundg k15
     case measure=>have:=HK0.out;omega
     case rel=>exact⟨false,y142,wrap64 (x12+2),(.slice A150 y142.length cp151),(by first|rfl|(simp;done)|(simp[*];done)),HH,⟨by have:=HK0.out;omega⟩,⟨(Kd.F_mono (ok:=(fun k_=>((True∧k_≠g0)∧k_≠g3)∧some k_≠((.slice A150 y142.length cp151):Value).ownBlock)) HFfr.out (fun k_ hk_=>⟨⟨⟨hk_.1.1.1,hk_.2⟩,hk_.1.1.2⟩,hk_.1.2⟩))⟩,⟨(Kd.N_mono (ok:=(fun k_=>((True∧(w.heap.size≤k_))∧k_≠g0)∧k_≠g3)) HN145.out (fun k_ hk_=>hk_))⟩,⟨BKg0.out⟩,⟨BKg3.out⟩,⟨HB.out⟩⟩
    replace HH:=zqN 2 HH
    rcases HH with⟨HH,hk162,hk163,hk164⟩|⟨HH,hk165,hk166,hk167⟩
    ·go_wp2
     go_ret
     refine⟨_,rfl,?_⟩
     have H:=HH.out
     simp only[Option.some.injEq,Prod.mk.injEq] at H
     obtain⟨rfl,rfl,rfl,rfl⟩:=H
     clear HH
     go_wp2
     (try simp only[MW.backTo_ret,MW.labs_ret])
     go_ret2
     unfold dn_reader_value.Post
     exact⟨by first|rfl|(simp;done)|(simp[*];done),(by first|exact(by(with_reducible repeat(first|refine blk_drewN ?_ _|refine blk_drew ?_|refine blk_alloc ?_ _));exact BKg0.out)|(have h_:=(by(with_reducible repeat(first|refine blk_drewN ?_ _|refine blk_drew ?_|refine blk_alloc ?_ _));exact BKg0.out);simp only[*] at h_;exact h_)|(have h_:=(by(with_reducible repeat(first|refine blk_drewN ?_ _|refine blk_drew ?_|refine blk_alloc ?_ _));exact BKg0.out);simp[*] at h_ ⊢;exact h_)),(fun k_ hg_ hlt_=>MB.frK_out (by(with_reducible repeat(first|apply Kd.F_alloc|apply Kd.F_drewN|apply Kd.F_drew));exact HFfr.out) k_ (by rw[HPO.out];exact hg_) hlt_),(by repeat(first|(with_reducible first|exact HB.out|apply MB.below_allocB hB_.out|apply pw_below_drewN|apply below_drew1)|exact HB.out))⟩
    replace HH:=zd HH
    obtain⟨t168,At169,HH⟩:=HH
    go_wp2_with ((with_reducible refine gc 54 rfl ?_);refine zc 54 (some 45) Try.func54 #[.int .u8 (bt y81 0)] (h:=?_);(with_reducible refine(dn_digit.calls  (bt y81 0) t168 _  At169.out).mono ?_);rintro e w' ⟨rfl,⟨nd,rfl⟩⟩;refine⟨_,rfl,?_⟩)
    refine zg ?_
    replace HH:=zqt HH
    rcases HH with⟨HH,hk172,hk173⟩|⟨HH,hk174,hk175⟩
    ·go_wp2
     go_ret
     refine⟨_,rfl,?_⟩
     have H:=HH.out
     simp only[Option.some.injEq,Prod.mk.injEq] at H
     obtain⟨rfl,rfl,rfl,rfl⟩:=H
     clear HH
     go_wp2
     (try simp only[MW.backTo_ret,MW.labs_ret])
     go_ret2
     unfold dn_reader_value.Post
     exact⟨by first|rfl|(simp;done)|(simp[*];done),(by first|exact(by(with_reducible repeat(first|refine blk_drewN ?_ _|refine blk_drew ?_|refine blk_alloc ?_ _));exact BKg0.out)|(have h_:=(by(with_reducible repeat(first|refine blk_drewN ?_ _|refine blk_drew ?_|refine blk_alloc ?_ _));exact BKg0.out);simp only[*] at h_;exact h_)|(have h_:=(by(with_reducible repeat(first|refine blk_drewN ?_ _|refine blk_drew ?_|refine blk_alloc ?_ _));exact BKg0.out);simp[*] at h_ ⊢;exact h_)),(fun k_ hg_ hlt_=>MB.frK_out (by(with_reducible repeat(first|apply Kd.F_alloc|apply Kd.F_drewN|apply Kd.F_drew));exact HFfr.out) k_ (by rw[HPO.out];exact hg_) hlt_),(by repeat(first|(with_reducible first|exact HB.out|apply MB.below_allocB hB_.out|apply pw_below_drewN|apply below_drew1)|exact HB.out))⟩
    replace HH:=zqno 1 HH
    obtain⟨HH,hk177,hk178,hk179,hk180⟩:=HH
    have p181:0≤(1:Int):=(by omega)
    have q181:1<y81.size:=(by have:(1:Int)<(y81.size:Int):=of_decide_eq_true (by first|(with_reducible assumption)|assumption);omega)
    have hx181:∀ h:1<y81.size,((y81[1]'h).toNat:Int)=bt y81 1:=MW.bt_at' y81 1
    clear p181
    have qi181:(1<(y81.size:Int))=True:=eq_true (of_decide_eq_true (by first|(with_reducible assumption)|assumption))
    replace q181:=eq_true q181
    replace HH:=zd HH
    obtain⟨t182,At183,HH⟩:=HH
    go_wp2_with ((with_reducible refine gc 54 rfl ?_);refine zc 54 (some 51) Try.func54 #[.int .u8 (bt y81 1)] (h:=?_);(with_reducible refine(dn_digit.calls  (bt y81 1) t182 _  At183.out).mono ?_);rintro e w' ⟨rfl,⟨nd,rfl⟩⟩;refine⟨_,rfl,?_⟩)
    refine zg ?_
    replace HH:=zqt HH
    rcases HH with⟨HH,hk186,hk187⟩|⟨HH,hk188,hk189⟩
    ·go_wp2
     go_ret
     refine⟨_,rfl,?_⟩
     have H:=HH.out
     simp only[Option.some.injEq,Prod.mk.injEq] at H
     obtain⟨rfl,rfl,rfl,rfl⟩:=H
     clear HH
     go_wp2
     (try simp only[MW.backTo_ret,MW.labs_ret])
     go_ret2
     unfold dn_reader_value.Post
     exact⟨by first|rfl|(simp;done)|(simp[*];done),(by first|exact(by(with_reducible repeat(first|refine blk_drewN ?_ _|refine blk_drew ?_|refine blk_alloc ?_ _));exact BKg0.out)|(have h_:=(by(with_reducible repeat(first|refine blk_drewN ?_ _|refine blk_drew ?_|refine blk_alloc ?_ _));exact BKg0.out);simp only[*] at h_;exact h_)|(have h_:=(by(with_reducible repeat(first|refine blk_drewN ?_ _|refine blk_drew ?_|refine blk_alloc ?_ _));exact BKg0.out);simp[*] at h_ ⊢;exact h_)),(fun k_ hg_ hlt_=>MB.frK_out (by(with_reducible repeat(first|apply Kd.F_alloc|apply Kd.F_drewN|apply Kd.F_drew));exact HFfr.out) k_ (by rw[HPO.out];exact hg_) hlt_),(by repeat(first|(with_reducible first|exact HB.out|apply MB.below_allocB hB_.out|apply pw_below_drewN|apply below_drew1)|exact HB.out))⟩
    go_wp2
    refine MW.name_world (W0:=w14) (by repeat(first|exact Drawn0.refl _|apply Drawn0.step)) ?_
    intro w190 hb
    replace HFfr:=zfb HFfr.out hb
    replace HN11:=znb HN11.out hb
    replace BKg0:=zbb BKg0.out hb
    replace BKg3:=zbb BKg3.out hb
    replace HB:=za (MB.below_stepB hB_.out HB.out hb)
    clear hb
    clear ji hh080 hh180 hcty81
    replace cBKg0:=MB.lz2 BKg0.out
    have j37:=MB.lz1 BKg3.out
    go_wp2
    have hwr_:∀ n_:Int,IntKind.i64.wrap n_=wrap64 n_:=fun n_=>IntWalk.i64_left n_
    refine wp_region_any (by kernel_rfl) ?_
    change wpAny _ _ _ _ 17 #[false,false,false,false,false,false,false,false,false,false,false,false,false,false,false,false,false] _ w190.drew
    obtain⟨w194,hw_⟩:∃ w_:World,w_=w190.drew:=⟨_,rfl⟩
    rw[← hw_]
    have hb:Below w190.heap.size w190 w194:=by rw[hw_];exact below_drew1 (Below.refl _ _)
    clear hw_
    replace HFfr:=zfb HFfr.out hb
    replace HN11:=znb HN11.out hb
    replace BKg0:=zbb BKg0.out hb
    replace BKg3:=zbb BKg3.out hb
    replace HB:=za (MB.below_stepB hB_.out HB.out hb)
    clear hb
    clear j37
    replace cBKg0:=MB.lz2 BKg0.out
    have j3b:=MB.lz1 BKg3.out
    refine MW.last_in (ds:=[14,16]) (zk j3b z0) ?_
    refine zlp 0 (.pointer (some ⟨g3,0,none⟩)) #[_,_,_,_,_,_,_,_,_,_,_,_,_,_,_,_,_] ⟨[_,_,_,_,_,_,_,_,_,_,_,_,_,_,_,_,_,_,_,_,_,_,_,_,_,_,_,_,_,_,_,_,_,_,_,_,_,_,_,_,_,_,_,_,_,_,_,_,_,_,_,_,_,_,_,_,_,_,_,_,_,_,_,_,_,_,_,_,_,_].toArray,[]⟩ (h:=?_)
    refine zlp 1 (.pointer (some ⟨g3,0,none⟩)) #[_,_,_,_,_,_,_,_,_,_,_,_,_,_,_,_,_] ⟨[_,_,_,_,_,_,_,_,_,_,_,_,_,_,_,_,_,_,_,_,_,_,_,_,_,_,_,_,_,_,_,_,_,_,_,_,_,_,_,_,_,_,_,_,_,_,_,_,_,_,_,_,_,_,_,_,_,_,_,_,_,_,_,_,_,_,_,_,_,_].toArray,[]⟩ (h:=?_)
    refine zlp 2 (.pointer (some ⟨g3,0,none⟩)) #[_,_,_,_,_,_,_,_,_,_,_,_,_,_,_,_,_] ⟨[_,_,_,_,_,_,_,_,_,_,_,_,_,_,_,_,_,_,_,_,_,_,_,_,_,_,_,_,_,_,_,_,_,_,_,_,_,_,_,_,_,_,_,_,_,_,_,_,_,_,_,_,_,_,_,_,_,_,_,_,_,_,_,_,_,_,_,_,_,_].toArray,[]⟩ (h:=?_)
    refine zlp 4 (.string y81) #[_,_,_,_,_,_,_,_,_,_,_,_,_,_,_,_,_] ⟨[_,_,_,_,_,_,_,_,_,_,_,_,_,_,_,_,_,_,_,_,_,_,_,_,_,_,_,_,_,_,_,_,_,_,_,_,_,_,_,_,_,_,_,_,_,_,_,_,_,_,_,_,_,_,_,_,_,_,_,_,_,_,_,_,_,_,_,_,_,_].toArray,[]⟩ (h:=?_)
    refine zlp 5 (.int .u8 (bt y81 0)) #[_,_,_,_,_,_,_,_,_,_,_,_,_,_,_,_,_] ⟨[_,_,_,_,_,_,_,_,_,_,_,_,_,_,_,_,_,_,_,_,_,_,_,_,_,_,_,_,_,_,_,_,_,_,_,_,_,_,_,_,_,_,_,_,_,_,_,_,_,_,_,_,_,_,_,_,_,_,_,_,_,_,_,_,_,_,_,_,_,_].toArray,[]⟩ (h:=?_)
    refine zlp 8 (.string y81) #[_,_,_,_,_,_,_,_,_,_,_,_,_,_,_,_,_] ⟨[_,_,_,_,_,_,_,_,_,_,_,_,_,_,_,_,_,_,_,_,_,_,_,_,_,_,_,_,_,_,_,_,_,_,_,_,_,_,_,_,_,_,_,_,_,_,_,_,_,_,_,_,_,_,_,_,_,_,_,_,_,_,_,_,_,_,_,_,_,_].toArray,[]⟩ (h:=?_)
    refine zlp 9 (.int .u8 (bt y81 1)) #[_,_,_,_,_,_,_,_,_,_,_,_,_,_,_,_,_] ⟨[_,_,_,_,_,_,_,_,_,_,_,_,_,_,_,_,_,_,_,_,_,_,_,_,_,_,_,_,_,_,_,_,_,_,_,_,_,_,_,_,_,_,_,_,_,_,_,_,_,_,_,_,_,_,_,_,_,_,_,_,_,_,_,_,_,_,_,_,_,_].toArray,[]⟩ (h:=?_)
    refine MW.last_take (i:=3) (v:=v8) (listed':= #[_,_,_,_,_,_,_,_,_,_,_,_,_,_,_,_,_]) (a':=⟨[_,_,_,_,_,_,_,_,_,_,_,_,_,_,_,_,_,_,_,_,_,_,_,_,_,_,_,_,_,_,_,_,_,_,_,_,_,_,_,_,_,_,_,_,_,_,_,_,_,_,_,_,_,_,_,_,_,_,_,_,_,_,_,_,_,_,_,_,_,_].toArray,[]⟩) rfl (by kernel_rfl) (by kernel_rfl) (by kernel_rfl) (by kernel_rfl) (by kernel_rfl) (fun _ _ _ h_=>h_) (by kernel_rfl) (fun w_ hS_=>?go) (zk j3b z0) rfl rfl ?_
    case go=>obtain⟨hs0_,_⟩:=hS_;first|(go_simp;done)|(go_simp;rfl)
    refine MW.last_act (i:=6) (listed':= #[true,true,true,true,true,true,true,false,true,true,false,false,false,false,false,false,false]) rfl (by kernel_rfl) (by kernel_rfl) (by decide) ?_
    replace HH:=zd HH
    obtain⟨t198,At199,HH⟩:=HH
    go_wp2_with ((with_reducible refine gc 54 rfl ?_);refine zc 54 (some 60) Try.func54 #[.int .u8 (bt y81 0)] (h:=?_);(with_reducible refine(dn_digit.calls  (bt y81 0) t198 _  At199.out).mono ?_);rintro e w' ⟨rfl,⟨nd,rfl⟩⟩;refine⟨_,rfl,?_⟩)
    refine zg ?_
    refine wpList_nil ?_
    change MW.Cells _ _∧wpAnyLast _ _ _ _ _ _ 8 #[true,true,true,true,true,true,true,false,true,true,false,false,false,false,false,false,false] ⟨[_,_,_,_,_,_,_,_,_,_,_,_,_,_,_,_,_,_,_,_,_,_,_,_,_,_,_,_,_,_,_,_,_,_,_,_,_,_,_,_,_,_,_,_,_,_,_,_,_,_,_,_,_,_,_,_,_,_,_,_,_,_,_,_,_,_,_,_,_,_].toArray,[]⟩ _
    refine⟨(zk j3b z0),?_⟩
    refine zlp 7 (.int .i64 (wrap64 (t198*16))) #[_,_,_,_,_,_,_,_,_,_,_,_,_,_,_,_,_] ⟨[_,_,_,_,_,_,_,_,_,_,_,_,_,_,_,_,_,_,_,_,_,_,_,_,_,_,_,_,_,_,_,_,_,_,_,_,_,_,_,_,_,_,_,_,_,_,_,_,_,_,_,_,_,_,_,_,_,_,_,_,_,_,_,_,_,_,_,_,_,_].toArray,[]⟩ (h:=?_)
    refine MW.last_act (i:=10) (listed':= #[true,true,true,true,true,true,true,true,true,true,true,false,false,false,false,false,false]) rfl (by kernel_rfl) (by kernel_rfl) (by decide) ?_
    replace HH:=zd HH
    obtain⟨t201,At202,HH⟩:=HH
    go_wp2_with ((with_reducible refine gc 54 rfl ?_);refine zc 54 (some 64) Try.func54 #[.int .u8 (bt y81 1)] (h:=?_);(with_reducible refine(dn_digit.calls  (bt y81 1) t201 _  At202.out).mono ?_);rintro e w' ⟨rfl,⟨nd,rfl⟩⟩;refine⟨_,rfl,?_⟩)
    refine zg ?_
    refine wpList_nil ?_
    change MW.Cells _ _∧wpAnyLast _ _ _ _ _ _ 6 #[true,true,true,true,true,true,true,true,true,true,true,false,false,false,false,false,false] ⟨[_,_,_,_,_,_,_,_,_,_,_,_,_,_,_,_,_,_,_,_,_,_,_,_,_,_,_,_,_,_,_,_,_,_,_,_,_,_,_,_,_,_,_,_,_,_,_,_,_,_,_,_,_,_,_,_,_,_,_,_,_,_,_,_,_,_,_,_,_,_].toArray,[]⟩ _
    refine⟨(zk j3b z0),?_⟩
    refine zlp 11 (.int .i64 (Go.bits .or .i64 (wrap64 (t198*16)) t201)) #[_,_,_,_,_,_,_,_,_,_,_,_,_,_,_,_,_] ⟨[_,_,_,_,_,_,_,_,_,_,_,_,_,_,_,_,_,_,_,_,_,_,_,_,_,_,_,_,_,_,_,_,_,_,_,_,_,_,_,_,_,_,_,_,_,_,_,_,_,_,_,_,_,_,_,_,_,_,_,_,_,_,_,_,_,_,_,_,_,_].toArray,[]⟩ (h:=?_)
    refine zlp 12 (.int .u8 ((Go.bits .or .i64 (wrap64 (t198*16)) t201) % 256)) #[_,_,_,_,_,_,_,_,_,_,_,_,_,_,_,_,_] ⟨[_,_,_,_,_,_,_,_,_,_,_,_,_,_,_,_,_,_,_,_,_,_,_,_,_,_,_,_,_,_,_,_,_,_,_,_,_,_,_,_,_,_,_,_,_,_,_,_,_,_,_,_,_,_,_,_,_,_,_,_,_,_,_,_,_,_,_,_,_,_].toArray,[]⟩ (h:=?_)
    refine MW.last_act (i:=13) (listed':= #[true,true,true,true,true,true,true,true,true,true,true,true,true,true,false,false,false]) rfl (by kernel_rfl) (by kernel_rfl) (by decide) ?_
    go_wp2_with (((with_reducible refine gate_dst (N:=67) rfl ?_);(try(refine gate_guard (by rfl) ?_;dsimp only));refine Kd.N_lit (Kd.int .u8) B_ 5 rfl (N':=67) rfl (xs:=([(Go.bits .or .i64 (wrap64 (t198*16)) t201) % 256]:List Int)) (inner:=[.int .u8 ((Go.bits .or .i64 (wrap64 (t198*16)) t201) % 256)]) (ok:=(fun k_=>(((True∧(w.heap.size≤k_))∧some k_≠(v8:Value).ownBlock)∧k_≠g0)∧k_≠g3)) (okp:=(fun k_=>(((True∧(w.heap.size≤k_))∧some k_≠(v8:Value).ownBlock)∧k_≠g0)∧k_≠g3)) ?hr ?hp (fun _ hk_=>hk_) ?hf (by repeat(first|(with_reducible first|exact HB.out|apply MB.below_allocB hB_.out|apply pw_below_drewN|apply below_drew1)|exact HB.out)) (Nat.le_trans hB_.out (MB.bsize (a:=B_) (by repeat(first|(with_reducible first|exact HB.out|apply MB.below_allocB hB_.out|apply pw_below_drewN|apply below_drew1)|exact HB.out)))) (by first|simp|decide) ?_;(case hr=>first|(go_simp;done)|(go_simp;rfl));(case hp=>exact(Reps.one (fun _ _=>rfl) (Reps.none _ _)));(case hf=>exact(show ∀ k_,w194.heap.size≤k_→(fun k_=>(((True∧(w.heap.size≤k_))∧some k_≠(v8:Value).ownBlock)∧k_≠g0)∧k_≠g3) k_ from fun k_ h_=>⟨⟨⟨⟨trivial,((Nat.le_trans (MB.bsize (a:=B_) (by repeat(first|(with_reducible first|exact HB.out|apply MB.below_allocB hB_.out|apply pw_below_drewN|apply below_drew1)|exact HB.out))) h_))⟩,Kd.fresh' (Kd.N_lt (by(with_reducible repeat(first|apply Kd.N_alloc|apply Kd.N_drewN|apply Kd.N_drew));exact HN11.out)) k_ h_⟩,Kd.freshB (g:=g0) (o:=.cells #[.string a0_0,.int .i64 x12] 61 (0,0)) (by(with_reducible repeat(first|refine blk_drewN ?_ _|refine blk_drew ?_|refine blk_alloc ?_ _));exact BKg0.out) k_ h_⟩,Kd.freshB (g:=g3) (o:=.cells #[v8] 72 (0,0)) (by(with_reducible repeat(first|refine blk_drewN ?_ _|refine blk_drew ?_|refine blk_alloc ?_ _));exact BKg3.out) k_ h_⟩) _ (Nat.le_refl _));intro v204 w205 hn1 hb1 hg1 hat1);replace hat1:=za hat1;refine stop_ ?_)
    refine zg ?_
    replace hat1:=hat1.out
    have hbe:=MW.grown_below hg1
    have hba:=MW.base_of hat1
    replace HFfr:=za (Kd.F_mono (Kd.F_elder' (ok:=(fun k_=>((True∧some k_≠(v8:Value).ownBlock)∧k_≠g0)∧k_≠g3)) (by(with_reducible repeat(first|apply Kd.F_alloc|apply Kd.F_drewN|apply Kd.F_drew));exact HFfr.out) hba hbe) (fun k_ hk_=>hk_):Kd.F (MB.frK w P0_) _ (fun k_=>(((True∧some k_≠(v8:Value).ownBlock)∧k_≠g0)∧k_≠g3)∧some k_≠(v204:Value).ownBlock) _ _ _)
    replace HN11:=za (Kd.N_mono (Kd.N_elder' (ok:=(fun k_=>((True∧(w.heap.size≤k_))∧k_≠g0)∧k_≠g3)) (by(with_reducible repeat(first|apply Kd.N_alloc|apply Kd.N_drewN|apply Kd.N_drew));exact HN11.out) hba hbe) (fun k_ hk_=>hk_):Kd.N (Kd.int .u8) _ _ _ (fun k_=>(((True∧(w.heap.size≤k_))∧k_≠g0)∧k_≠g3)∧some k_≠(v204:Value).ownBlock) _ _)
    replace BKg0:=za (blk_below (g:=g0) (o:=.cells #[.string a0_0,.int .i64 x12] 61 (0,0)) (by(with_reducible repeat(first|refine blk_drewN ?_ _|refine blk_drew ?_|refine blk_alloc ?_ _));exact BKg0.out) hbe)
    replace BKg3:=za (blk_below (g:=g3) (o:=.cells #[v8] 72 (0,0)) (by(with_reducible repeat(first|refine blk_drewN ?_ _|refine blk_drew ?_|refine blk_alloc ?_ _));exact BKg3.out) hbe)
    replace HB:=za hb1
    have HN206:=za hn1
    clear hn1 hb1 hg1 hat1 hbe hba
    clear j3b
    replace cBKg0:=MB.lz2 BKg0.out
    have j3n:=MB.lz1 BKg3.out
    refine wpList_nil ?_
    change MW.Cells _ _∧wpAnyLast _ _ _ _ _ _ 3 #[true,true,true,true,true,true,true,true,true,true,true,true,true,true,false,false,false] ⟨[_,_,_,_,_,_,_,_,_,_,_,_,_,_,_,_,_,_,_,_,_,_,_,_,_,_,_,_,_,_,_,_,_,_,_,_,_,_,_,_,_,_,_,_,_,_,_,_,_,_,_,_,_,_,_,_,_,_,_,_,_,_,_,_,_,_,_,_,_,_].toArray,[]⟩ _
    refine⟨(zk j3n z0),?_⟩
    refine MW.last_fin (i:=14) (listed':= #[true,true,true,true,true,true,true,true,true,true,true,true,true,true,true,false,false]) rfl (by kernel_rfl) (by kernel_rfl) (by kernel_rfl) ?_
    obtain⟨A210,cp211,he_⟩:=Kd.N_slice HN206.out
    subst he_
    have HF212:=za (Kd.N_F HN206.out)
    clear HN206
    replace HFfr:=za (Kd.F_mono (ok:=(fun k_=>(((True∧some k_≠(v8:Value).ownBlock)∧k_≠g0)∧k_≠g3)∧some k_≠((.slice A210 ([(Go.bits .or .i64 (wrap64 (t198*16)) t201) % 256]:List Int).length cp211):Value).ownBlock)) HFfr.out (fun k_ hk_=>hk_.1):Kd.F (MB.frK w P0_) _ (fun k_=>((True∧some k_≠(v8:Value).ownBlock)∧k_≠g0)∧k_≠g3) _ _ _)
    replace HN11:=za (Kd.N_mono (ok:=(fun k_=>(((True∧(w.heap.size≤k_))∧k_≠g0)∧k_≠g3)∧some k_≠((.slice A210 ([(Go.bits .or .i64 (wrap64 (t198*16)) t201) % 256]:List Int).length cp211):Value).ownBlock)) HN11.out (fun k_ hk_=>hk_.1):Kd.N (Kd.int .u8) _ _ _ (fun k_=>((True∧(w.heap.size≤k_))∧k_≠g0)∧k_≠g3) _ _)
    obtain⟨HH,LMc214⟩:=zlm HH
    obtain⟨y215,hy215⟩:∃ y_:List Int,y_=(x10++([(Go.bits .or .i64 (wrap64 (t198*16)) t201) % 256]:List Int)):=⟨_,rfl⟩
    have H:((dn_reader_value.l0 k15 false y215 (wrap64 (x12+3)) a0_0))=some (r1,r2,r3,r4):=by rw[hy215];exact HH.out
    replace HH:=za H
    clear H
    have NYy215:=za hy215
    clear hy215
    go_wp2_with (((with_reducible refine gate_dst (N:=68) rfl ?_);(try(refine gate_guard (by rfl) ?_;dsimp only));refine Kd.N_append_rows (Kd.int .u8) B_ rfl _ _ 72 5 (.int .u8 0) 1 rfl Try.underlying72 info5 rfl (by decide) (by decide) (v8) x10 ([(Go.bits .or .i64 (wrap64 (t198*16)) t201) % 256]:List Int) _ _ _ (fun k_=>((True∧(w.heap.size≤k_))∧k_≠g0)∧k_≠g3) (fun k_=>(fun k_=>((True∧(w.heap.size≤k_))∧k_≠g0)∧k_≠g3) k_∧some k_≠(v8:Value).ownBlock) rfl rfl HN11.out (Kd.F_mono (ok:=(fun k_=>(((True∧(w.heap.size≤k_))∧some k_≠(v8:Value).ownBlock)∧k_≠g0)∧k_≠g3)) HF212.out (fun k_ hk_=>⟨⟨⟨⟨hk_.1.1.1.1,hk_.1.1.1.2⟩,hk_.1.2⟩,hk_.2⟩,hk_.1.1.2⟩)) (fun _ hk_=>hk_) (fun k_ h_=>⟨⟨⟨trivial,((Nat.le_trans (MB.bsize (a:=B_) HB.out) h_))⟩,Kd.freshB (g:=g0) BKg0.out k_ h_⟩,Kd.freshB (g:=g3) BKg3.out k_ h_⟩) HB.out (Nat.le_trans hB_.out (MB.bsize (a:=B_) HB.out)) (by first|(have:=LMc214.out;simp only[List.length_nil] at *;omega)|(have:=LMc214.out;simp at *;omega)) ?_;intro v216 w217 hn1 hb1 hg1 hat1);replace hat1:=za hat1;refine stop_ ?_)
    refine zg ?_
    replace hat1:=hat1.out
    replace HFfr:=za (Kd.F_mono (Kd.F_after (v:=v8) (ok:=(fun k_=>(True∧k_≠g0)∧k_≠g3)) (Kd.F_mono (ok:=(fun k_=>((True∧some k_≠(v8:Value).ownBlock)∧k_≠g0)∧k_≠g3)) HFfr.out (fun k_ hk_=>⟨⟨⟨hk_.1.1.1,hk_.1.2⟩,hk_.2⟩,hk_.1.1.2⟩)) hg1 hat1) (fun k_ hk_=>hk_):Kd.F (MB.frK w P0_) _ (fun k_=>((True∧k_≠g0)∧k_≠g3)∧some k_≠(v216:Value).ownBlock) _ _ _)
    replace BKg0:=za (blk_grown (g:=g0) BKg0.out hg1 (Kd.N_away (ok:=(fun k_=>((True∧(w.heap.size≤k_))∧k_≠g0)∧k_≠g3)) HN11.out (fun k_ hk_=>hk_.1.2)))
    replace BKg3:=za (blk_grown (g:=g3) BKg3.out hg1 (Kd.N_away (ok:=(fun k_=>((True∧(w.heap.size≤k_))∧k_≠g0)∧k_≠g3)) HN11.out (fun k_ hk_=>hk_.2)))
    replace HB:=za hb1
    clear HN11
    have HN218:=za hn1
    clear hn1 hb1 hg1 hat1
    replace HN218:=za (by rw[NYy215.out];exact HN218.out:Kd.N (Kd.int .u8) 5 w217 B_ (fun k_=>((True∧(w.heap.size≤k_))∧k_≠g0)∧k_≠g3) v216 y215)
    clear j3n
    replace cBKg0:=MB.lz2 BKg0.out
    have j3z:=MB.lz1 BKg3.out
    refine wpList_nil ?_
    change wpAnyLast _ _ _ _ _ _ 2 #[true,true,true,true,true,true,true,true,true,true,true,true,true,true,true,false,false] ⟨[_,_,_,_,_,_,_,_,_,_,_,_,_,_,_,_,_,_,_,_,_,_,_,_,_,_,_,_,_,_,_,_,_,_,_,_,_,_,_,_,_,_,_,_,_,_,_,_,_,_,_,_,_,_,_,_,_,_,_,_,_,_,_,_,_,_,_,_,_,_].toArray,[]⟩ _
    refine zlp 15 (.pointer (some ⟨g3,0,none⟩)) #[_,_,_,_,_,_,_,_,_,_,_,_,_,_,_,_,_] ⟨[_,_,_,_,_,_,_,_,_,_,_,_,_,_,_,_,_,_,_,_,_,_,_,_,_,_,_,_,_,_,_,_,_,_,_,_,_,_,_,_,_,_,_,_,_,_,_,_,_,_,_,_,_,_,_,_,_,_,_,_,_,_,_,_,_,_,_,_,_,_].toArray,[]⟩ (h:=?_)
    refine MW.last_fin (i:=16) (listed':= #[true,true,true,true,true,true,true,true,true,true,true,true,true,true,true,true,true]) rfl (by kernel_rfl) (by kernel_rfl) (by kernel_rfl) ?_
    obtain⟨A223,cp224,he_⟩:=Kd.N_slice HN218.out
    subst he_
    go_wp2_with ((with_reducible refine gs 72 69 rfl ?_);refine zs 72 69 #[(.slice A223 y215.length cp224)] BKg3.out [(.slice A223 y215.length cp224)] (h:=?_);intro w222 hbk hg)
    refine zg ?_
    replace HFfr:=zfg HFfr.out hg fun k_ hk_=>hk_.1.2
    replace HN218:=zng HN218.out hg fun k_ hk_=>hk_.2
    replace BKg0:=zbg BKg0.out hg NEg0_g3
    replace HB:=zhg HB.out hg (Nat.le_trans hB_.out (MB.bsize (a:=B_) HB.out)) GEg3
    replace BKg3:=hbk
    clear hg hbk
    clear j3z
    replace cBKg0:=MB.lz2 BKg0.out
    have j3F:=MB.lz1 BKg3.out
    refine wpList_nil ?_
    refine⟨(by kernel_rfl),?_⟩
    clear hwr_
    go_wp2
    go_ret
    refine⟨_,rfl,?_⟩
    go_wp2_with ((with_reducible refine gs 3 66 rfl ?_);refine zs 3 66 #[.string a0_0,.int .i64 (wrap64 (x12+3))] BKg0.out [.int .i64 (wrap64 (x12+3))] (h:=?_);intro w228 hbk hg)
    refine zg ?_
    replace HFfr:=zfg HFfr.out hg fun k_ hk_=>hk_.1.1.2
    replace HN218:=zng HN218.out hg fun k_ hk_=>hk_.1.2
    replace BKg3:=zbg BKg3.out hg NEg3_g0
    replace HB:=zhg HB.out hg (Nat.le_trans hB_.out (MB.bsize (a:=B_) HB.out)) GEg0
    replace BKg0:=hbk
    clear hg hbk
    clear j3F
    replace cBKg0:=MB.lz2 BKg0.out
    have j3J:=MB.lz1 BKg3.out
    go_wp2
    apply wp_goto
    refine MW.goto_back (hKq0 _ _ ?_)
    go_roundg k15
    case measure=>have:=HK0.out;omega
    case rel=>exact⟨false,y215,wrap64 (x12+3),(.slice A223 y215.length cp224),(by first|rfl|(simp;done)|(simp[*];done)),HH,⟨by have:=HK0.out;omega⟩,⟨(Kd.F_mono (ok:=(fun k_=>((True∧k_≠g0)∧k_≠g3)∧some k_≠((.slice A223 y215.length cp224):Value).ownBlock)) HFfr.out (fun k_ hk_=>⟨⟨⟨hk_.1.1.1,hk_.2⟩,hk_.1.1.2⟩,hk_.1.2⟩))⟩,⟨(Kd.N_mono (ok:=(fun k_=>((True∧(w.heap.size≤k_))∧k_≠g0)∧k_≠g3)) HN218.out (fun k_ hk_=>hk_))⟩,⟨BKg0.out⟩,⟨BKg3.out⟩,⟨HB.out⟩⟩
   replace HH:=zd HH
   obtain⟨t244,At245,HH⟩:=HH
   go_wp2
   go_quiet (fail)
   go_wp2
   go_quiet (fail)
   go_wp2_with ((with_reducible refine gc 48 rfl ?_);refine zc 48 (some 69) Try.func48 #[.int .u8 (bt a0_0 x12)] (h:=?_);(with_reducible refine(dn_special.calls  (bt a0_0 x12) t244 _  At245.out).mono ?_);rintro e w' ⟨rfl,⟨nd,rfl⟩⟩;refine⟨_,rfl,?_⟩)
   refine zg ?_
   by_cases c247:t244=true
   ·replace HH:=MW.hpos HH c247
    subst c247
    have H:=HH.out
    simp only[Option.some.injEq,Prod.mk.injEq] at H
    obtain⟨rfl,rfl,rfl,rfl⟩:=H
    clear HH
    go_wp2
    (try simp only[MW.backTo_ret,MW.labs_ret])
    go_ret2
    unfold dn_reader_value.Post
    exact⟨by first|rfl|(simp;done)|(simp[*];done),(by first|exact(by(with_reducible repeat(first|refine blk_drewN ?_ _|refine blk_drew ?_|refine blk_alloc ?_ _));exact BKg0.out)|(have h_:=(by(with_reducible repeat(first|refine blk_drewN ?_ _|refine blk_drew ?_|refine blk_alloc ?_ _));exact BKg0.out);simp only[*] at h_;exact h_)|(have h_:=(by(with_reducible repeat(first|refine blk_drewN ?_ _|refine blk_drew ?_|refine blk_alloc ?_ _));exact BKg0.out);simp[*] at h_ ⊢;exact h_)),(fun k_ hg_ hlt_=>MB.frK_out (by(with_reducible repeat(first|apply Kd.F_alloc|apply Kd.F_drewN|apply Kd.F_drew));exact HFfr.out) k_ (by rw[HPO.out];exact hg_) hlt_),(by repeat(first|(with_reducible first|exact HB.out|apply MB.below_allocB hB_.out|apply pw_below_drewN|apply below_drew1)|exact HB.out))⟩
   replace HH:=MW.hneg HH c247
   replace c247:=Bool.eq_false_iff.mpr c247
   subst c247
   obtain⟨A248,cp249,he_⟩:=Kd.N_slice HN11.out
   subst he_
   by_cases c250:(x10.length:Int)=0
   ·replace HH:=MW.hpos HH c250
    have hk251:((x10.length:Int)==0)=true:=beq_iff_eq.mpr c250
    have hk252:((x10.length:Int) != 0)=false:=bne_eq_false_iff_eq.mpr c250
    clear c250
    replace HH:=zqe HH
    rcases HH with⟨HH,hk254,hk255⟩|⟨HH,hk256,hk257⟩
    ·have H:=HH.out
     simp only[Option.some.injEq,Prod.mk.injEq] at H
     obtain⟨rfl,rfl,rfl,rfl⟩:=H
     clear HH
     go_wp2
     (try simp only[MW.backTo_ret,MW.labs_ret])
     go_ret2
     unfold dn_reader_value.Post
     exact⟨by first|rfl|(simp;done)|(simp[*];done),(by first|exact(by(with_reducible repeat(first|refine blk_drewN ?_ _|refine blk_drew ?_|refine blk_alloc ?_ _));exact BKg0.out)|(have h_:=(by(with_reducible repeat(first|refine blk_drewN ?_ _|refine blk_drew ?_|refine blk_alloc ?_ _));exact BKg0.out);simp only[*] at h_;exact h_)|(have h_:=(by(with_reducible repeat(first|refine blk_drewN ?_ _|refine blk_drew ?_|refine blk_alloc ?_ _));exact BKg0.out);simp[*] at h_ ⊢;exact h_)),(fun k_ hg_ hlt_=>MB.frK_out (by(with_reducible repeat(first|apply Kd.F_alloc|apply Kd.F_drewN|apply Kd.F_drew));exact HFfr.out) k_ (by rw[HPO.out];exact hg_) hlt_),(by repeat(first|(with_reducible first|exact HB.out|apply MB.below_allocB hB_.out|apply pw_below_drewN|apply below_drew1)|exact HB.out))⟩
    replace HH:=zqe HH
    rcases HH with⟨HH,hk259,hk260⟩|⟨HH,hk261,hk262⟩
    ·have H:=HH.out
     simp only[Option.some.injEq,Prod.mk.injEq] at H
     obtain⟨rfl,rfl,rfl,rfl⟩:=H
     clear HH
     go_wp2
     (try simp only[MW.backTo_ret,MW.labs_ret])
     go_ret2
     unfold dn_reader_value.Post
     exact⟨by first|rfl|(simp;done)|(simp[*];done),(by first|exact(by(with_reducible repeat(first|refine blk_drewN ?_ _|refine blk_drew ?_|refine blk_alloc ?_ _));exact BKg0.out)|(have h_:=(by(with_reducible repeat(first|refine blk_drewN ?_ _|refine blk_drew ?_|refine blk_alloc ?_ _));exact BKg0.out);simp only[*] at h_;exact h_)|(have h_:=(by(with_reducible repeat(first|refine blk_drewN ?_ _|refine blk_drew ?_|refine blk_alloc ?_ _));exact BKg0.out);simp[*] at h_ ⊢;exact h_)),(fun k_ hg_ hlt_=>MB.frK_out (by(with_reducible repeat(first|apply Kd.F_alloc|apply Kd.F_drewN|apply Kd.F_drew));exact HFfr.out) k_ (by rw[HPO.out];exact hg_) hlt_),(by repeat(first|(with_reducible first|exact HB.out|apply MB.below_allocB hB_.out|apply pw_below_drewN|apply below_drew1)|exact HB.out))⟩
    obtain⟨HH,LMc263⟩:=zlm HH
    obtain⟨y264,hy264⟩:∃ y_:List Int,y_=(x10++[bt a0_0 x12]):=⟨_,rfl⟩
    have H:((dn_reader_value.l0 k15 ((bt a0_0 x12)==32) y264 (wrap64 (x12+1)) a0_0))=some (r1,r2,r3,r4):=by rw[hy264];exact HH.out
    replace HH:=za H
    clear H
    have NYy264:=za hy264
    clear hy264
    go_wp2_with (((with_reducible refine gate_dst (N:=88) rfl ?_);(try(refine gate_guard (by rfl) ?_;dsimp only));refine Kd.N_append (Kd.int .u8) B_ rfl _ _ 72 5 (.int .u8 0) 1 rfl Try.underlying72 info5 rfl (by decide) (by decide) ((.slice A248 x10.length cp249)) x10 (bt a0_0 x12) [.int .u8 (bt a0_0 x12)] (fun k_=>((True∧(w.heap.size≤k_))∧k_≠g0)∧k_≠g3) (fun k_=>(fun k_=>((True∧(w.heap.size≤k_))∧k_≠g0)∧k_≠g3) k_∧some k_≠((.slice A248 x10.length cp249):Value).ownBlock) rfl rfl (fun _ _=>rfl) (fun _ hk_=>hk_) (fun k_ h_=>⟨⟨⟨trivial,((Nat.le_trans (MB.bsize (a:=B_) (by repeat(first|(with_reducible first|exact HB.out|apply MB.below_allocB hB_.out|apply pw_below_drewN|apply below_drew1)|exact HB.out))) h_))⟩,Kd.freshB (g:=g0) (o:=.cells #[.string a0_0,.int .i64 x12] 61 (0,0)) (by(with_reducible repeat(first|refine blk_drewN ?_ _|refine blk_drew ?_|refine blk_alloc ?_ _));exact BKg0.out) k_ h_⟩,Kd.freshB (g:=g3) (o:=.cells #[(.slice A248 x10.length cp249)] 72 (0,0)) (by(with_reducible repeat(first|refine blk_drewN ?_ _|refine blk_drew ?_|refine blk_alloc ?_ _));exact BKg3.out) k_ h_⟩) (by(with_reducible repeat(first|apply Kd.N_alloc|apply Kd.N_drewN|apply Kd.N_drew));exact HN11.out) (by repeat(first|(with_reducible first|exact HB.out|apply MB.below_allocB hB_.out|apply pw_below_drewN|apply below_drew1)|exact HB.out)) (Nat.le_trans hB_.out (MB.bsize (a:=B_) (by repeat(first|(with_reducible first|exact HB.out|apply MB.below_allocB hB_.out|apply pw_below_drewN|apply below_drew1)|exact HB.out)))) (by first|(have:=LMc263.out;omega)|(have:=LMc263.out;simp at *;omega)) ?_;intro v265 w266 hn1 hb1 hg1 hat1);replace hat1:=za hat1;refine stop_ ?_)
    refine zg ?_
    replace hat1:=hat1.out
    replace HFfr:=za (Kd.F_mono (Kd.F_after (v:=(.slice A248 x10.length cp249)) (ok:=(fun k_=>(True∧k_≠g0)∧k_≠g3)) (Kd.F_mono (ok:=(fun k_=>((True∧some k_≠((.slice A248 x10.length cp249):Value).ownBlock)∧k_≠g0)∧k_≠g3)) (by(with_reducible repeat(first|apply Kd.F_alloc|apply Kd.F_drewN|apply Kd.F_drew));exact HFfr.out) (fun k_ hk_=>⟨⟨⟨hk_.1.1.1,hk_.1.2⟩,hk_.2⟩,hk_.1.1.2⟩)) hg1 hat1) (fun k_ hk_=>hk_):Kd.F (MB.frK w P0_) _ (fun k_=>((True∧k_≠g0)∧k_≠g3)∧some k_≠(v265:Value).ownBlock) _ _ _)
    replace BKg0:=za (blk_grown (g:=g0) (o:=.cells #[.string a0_0,.int .i64 x12] 61 (0,0)) (by(with_reducible repeat(first|refine blk_drewN ?_ _|refine blk_drew ?_|refine blk_alloc ?_ _));exact BKg0.out) hg1 (Kd.N_away (ok:=(fun k_=>((True∧(w.heap.size≤k_))∧k_≠g0)∧k_≠g3)) HN11.out (fun k_ hk_=>hk_.1.2)))
    replace BKg3:=za (blk_grown (g:=g3) (o:=.cells #[(.slice A248 x10.length cp249)] 72 (0,0)) (by(with_reducible repeat(first|refine blk_drewN ?_ _|refine blk_drew ?_|refine blk_alloc ?_ _));exact BKg3.out) hg1 (Kd.N_away (ok:=(fun k_=>((True∧(w.heap.size≤k_))∧k_≠g0)∧k_≠g3)) HN11.out (fun k_ hk_=>hk_.2)))
    replace HB:=za hb1
    clear HN11
    have HN267:=za hn1
    clear hn1 hb1 hg1 hat1
    replace HN267:=za (by rw[NYy264.out];exact HN267.out:Kd.N (Kd.int .u8) 5 w266 B_ (fun k_=>((True∧(w.heap.size≤k_))∧k_≠g0)∧k_≠g3) v265 y264)
    clear ji
    replace cBKg0:=MB.lz2 BKg0.out
    have j4m:=MB.lz1 BKg3.out
    obtain⟨A272,cp273,he_⟩:=Kd.N_slice HN267.out
    subst he_
    go_wp2_with ((with_reducible refine gs 72 4 rfl ?_);refine zs 72 4 #[(.slice A272 y264.length cp273)] BKg3.out [(.slice A272 y264.length cp273)] (h:=?_);intro w271 hbk hg)
    refine zg ?_
    replace HFfr:=zfg HFfr.out hg fun k_ hk_=>hk_.1.2
    replace HN267:=zng HN267.out hg fun k_ hk_=>hk_.2
    replace BKg0:=zbg BKg0.out hg NEg0_g3
    replace HB:=zhg HB.out hg (Nat.le_trans hB_.out (MB.bsize (a:=B_) HB.out)) GEg3
    replace BKg3:=hbk
    clear hg hbk
    clear j4m
    replace cBKg0:=MB.lz2 BKg0.out
    have j4s:=MB.lz1 BKg3.out
    go_wp2_with ((with_reducible refine gs 3 95 rfl ?_);refine zs 3 95 #[.string a0_0,.int .i64 (wrap64 (x12+1))] BKg0.out [.int .i64 (wrap64 (x12+1))] (h:=?_);intro w277 hbk hg)
    refine zg ?_
    replace HFfr:=zfg HFfr.out hg fun k_ hk_=>hk_.1.1.2
    replace HN267:=zng HN267.out hg fun k_ hk_=>hk_.1.2
    replace BKg3:=zbg BKg3.out hg NEg3_g0
    replace HB:=zhg HB.out hg (Nat.le_trans hB_.out (MB.bsize (a:=B_) HB.out)) GEg0
    replace BKg0:=hbk
    clear hg hbk
    clear j4s
    replace cBKg0:=MB.lz2 BKg0.out
    have j4w:=MB.lz1 BKg3.out
    go_wp2
    apply wp_goto
    refine MW.goto_back (hKq0 _ _ ?_)
    go_roundg k15
    case measure=>have:=HK0.out;omega
    case rel=>exact⟨((bt a0_0 x12)==32),y264,wrap64 (x12+1),(.slice A272 y264.length cp273),(by first|rfl|(simp;done)|(simp[*];done)),HH,⟨by have:=HK0.out;omega⟩,⟨(Kd.F_mono (ok:=(fun k_=>((True∧k_≠g0)∧k_≠g3)∧some k_≠((.slice A272 y264.length cp273):Value).ownBlock)) HFfr.out (fun k_ hk_=>⟨⟨⟨hk_.1.1.1,hk_.2⟩,hk_.1.1.2⟩,hk_.1.2⟩))⟩,⟨(Kd.N_mono (ok:=(fun k_=>((True∧(w.heap.size≤k_))∧k_≠g0)∧k_≠g3)) HN267.out (fun k_ hk_=>hk_))⟩,⟨BKg0.out⟩,⟨BKg3.out⟩,⟨HB.out⟩⟩
   replace HH:=MW.hneg HH c250
   have hk281:((x10.length:Int)==0)=false:=beq_eq_false_iff_ne.mpr c250
   have hk282:((x10.length:Int) != 0)=true:=bne_iff_ne.mpr c250
   have hk283: ¬ (x10=[]):=fun h_=>c250 (by rw[h_];rfl)
   clear c250
   obtain⟨HH,LMc284⟩:=zlm HH
   obtain⟨y285,hy285⟩:∃ y_:List Int,y_=(x10++[bt a0_0 x12]):=⟨_,rfl⟩
   have H:((dn_reader_value.l0 k15 ((bt a0_0 x12)==32) y285 (wrap64 (x12+1)) a0_0))=some (r1,r2,r3,r4):=by rw[hy285];exact HH.out
   replace HH:=za H
   clear H
   have NYy285:=za hy285
   clear hy285
   go_wp2_with (((with_reducible refine gate_dst (N:=88) rfl ?_);(try(refine gate_guard (by rfl) ?_;dsimp only));refine Kd.N_append (Kd.int .u8) B_ rfl _ _ 72 5 (.int .u8 0) 1 rfl Try.underlying72 info5 rfl (by decide) (by decide) ((.slice A248 x10.length cp249)) x10 (bt a0_0 x12) [.int .u8 (bt a0_0 x12)] (fun k_=>((True∧(w.heap.size≤k_))∧k_≠g0)∧k_≠g3) (fun k_=>(fun k_=>((True∧(w.heap.size≤k_))∧k_≠g0)∧k_≠g3) k_∧some k_≠((.slice A248 x10.length cp249):Value).ownBlock) rfl rfl (fun _ _=>rfl) (fun _ hk_=>hk_) (fun k_ h_=>⟨⟨⟨trivial,((Nat.le_trans (MB.bsize (a:=B_) (by repeat(first|(with_reducible first|exact HB.out|apply MB.below_allocB hB_.out|apply pw_below_drewN|apply below_drew1)|exact HB.out))) h_))⟩,Kd.freshB (g:=g0) (o:=.cells #[.string a0_0,.int .i64 x12] 61 (0,0)) (by(with_reducible repeat(first|refine blk_drewN ?_ _|refine blk_drew ?_|refine blk_alloc ?_ _));exact BKg0.out) k_ h_⟩,Kd.freshB (g:=g3) (o:=.cells #[(.slice A248 x10.length cp249)] 72 (0,0)) (by(with_reducible repeat(first|refine blk_drewN ?_ _|refine blk_drew ?_|refine blk_alloc ?_ _));exact BKg3.out) k_ h_⟩) (by(with_reducible repeat(first|apply Kd.N_alloc|apply Kd.N_drewN|apply Kd.N_drew));exact HN11.out) (by repeat(first|(with_reducible first|exact HB.out|apply MB.below_allocB hB_.out|apply pw_below_drewN|apply below_drew1)|exact HB.out)) (Nat.le_trans hB_.out (MB.bsize (a:=B_) (by repeat(first|(with_reducible first|exact HB.out|apply MB.below_allocB hB_.out|apply pw_below_drewN|apply below_drew1)|exact HB.out)))) (by first|(have:=LMc284.out;omega)|(have:=LMc284.out;simp at *;omega)) ?_;intro v286 w287 hn1 hb1 hg1 hat1);replace hat1:=za hat1;refine stop_ ?_)
   refine zg ?_
   replace hat1:=hat1.out
   replace HFfr:=za (Kd.F_mono (Kd.F_after (v:=(.slice A248 x10.length cp249)) (ok:=(fun k_=>(True∧k_≠g0)∧k_≠g3)) (Kd.F_mono (ok:=(fun k_=>((True∧some k_≠((.slice A248 x10.length cp249):Value).ownBlock)∧k_≠g0)∧k_≠g3)) (by(with_reducible repeat(first|apply Kd.F_alloc|apply Kd.F_drewN|apply Kd.F_drew));exact HFfr.out) (fun k_ hk_=>⟨⟨⟨hk_.1.1.1,hk_.1.2⟩,hk_.2⟩,hk_.1.1.2⟩)) hg1 hat1) (fun k_ hk_=>hk_):Kd.F (MB.frK w P0_) _ (fun k_=>((True∧k_≠g0)∧k_≠g3)∧some k_≠(v286:Value).ownBlock) _ _ _)
   replace BKg0:=za (blk_grown (g:=g0) (o:=.cells #[.string a0_0,.int .i64 x12] 61 (0,0)) (by(with_reducible repeat(first|refine blk_drewN ?_ _|refine blk_drew ?_|refine blk_alloc ?_ _));exact BKg0.out) hg1 (Kd.N_away (ok:=(fun k_=>((True∧(w.heap.size≤k_))∧k_≠g0)∧k_≠g3)) HN11.out (fun k_ hk_=>hk_.1.2)))
   replace BKg3:=za (blk_grown (g:=g3) (o:=.cells #[(.slice A248 x10.length cp249)] 72 (0,0)) (by(with_reducible repeat(first|refine blk_drewN ?_ _|refine blk_drew ?_|refine blk_alloc ?_ _));exact BKg3.out) hg1 (Kd.N_away (ok:=(fun k_=>((True∧(w.heap.size≤k_))∧k_≠g0)∧k_≠g3)) HN11.out (fun k_ hk_=>hk_.2)))
   replace HB:=za hb1
   clear HN11
   have HN288:=za hn1
   clear hn1 hb1 hg1 hat1
   replace HN288:=za (by rw[NYy285.out];exact HN288.out:Kd.N (Kd.int .u8) 5 w287 B_ (fun k_=>((True∧(w.heap.size≤k_))∧k_≠g0)∧k_≠g3) v286 y285)
   clear ji
   replace cBKg0:=MB.lz2 BKg0.out
   have j4H:=MB.lz1 BKg3.out
   obtain⟨A293,cp294,he_⟩:=Kd.N_slice HN288.out
   subst he_
   go_wp2_with ((with_reducible refine gs 72 4 rfl ?_);refine zs 72 4 #[(.slice A293 y285.length cp294)] BKg3.out [(.slice A293 y285.length cp294)] (h:=?_);intro w292 hbk hg)
   refine zg ?_
   replace HFfr:=zfg HFfr.out hg fun k_ hk_=>hk_.1.2
   replace HN288:=zng HN288.out hg fun k_ hk_=>hk_.2
   replace BKg0:=zbg BKg0.out hg NEg0_g3
   replace HB:=zhg HB.out hg (Nat.le_trans hB_.out (MB.bsize (a:=B_) HB.out)) GEg3
   replace BKg3:=hbk
   clear hg hbk
   clear j4H
   replace cBKg0:=MB.lz2 BKg0.out
   have j4N:=MB.lz1 BKg3.out
   go_wp2_with ((with_reducible refine gs 3 95 rfl ?_);refine zs 3 95 #[.string a0_0,.int .i64 (wrap64 (x12+1))] BKg0.out [.int .i64 (wrap64 (x12+1))] (h:=?_);intro w298 hbk hg)
   refine zg ?_
   replace HFfr:=zfg HFfr.out hg fun k_ hk_=>hk_.1.1.2
   replace HN288:=zng HN288.out hg fun k_ hk_=>hk_.1.2
   replace BKg3:=zbg BKg3.out hg NEg3_g0
   replace HB:=zhg HB.out hg (Nat.le_trans hB_.out (MB.bsize (a:=B_) HB.out)) GEg0
   replace BKg0:=hbk
   clear hg hbk
   clear j4N
   replace cBKg0:=MB.lz2 BKg0.out
   have j4R:=MB.lz1 BKg3.out
   go_wp2
   apply wp_goto
   refine MW.goto_back (hKq0 _ _ ?_)
   go_roundg k15
   case measure=>have:=HK0.out;omega
   case rel=>exact⟨((bt a0_0 x12)==32),y285,wrap64 (x12+1),(.slice A293 y285.length cp294),(by first|rfl|(simp;done)|(simp[*];done)),HH,⟨by have:=HK0.out;omega⟩,⟨(Kd.F_mono (ok:=(fun k_=>((True∧k_≠g0)∧k_≠g3)∧some k_≠((.slice A293 y285.length cp294):Value).ownBlock)) HFfr.out (fun k_ hk_=>⟨⟨⟨hk_.1.1.1,hk_.2⟩,hk_.1.1.2⟩,hk_.1.2⟩))⟩,⟨(Kd.N_mono (ok:=(fun k_=>((True∧(w.heap.size≤k_))∧k_≠g0)∧k_≠g3)) HN288.out (fun k_ hk_=>hk_))⟩,⟨BKg0.out⟩,⟨BKg3.out⟩,⟨HB.out⟩⟩
end Go.Proofs.Ytapinanmmhdpcaa.GA
