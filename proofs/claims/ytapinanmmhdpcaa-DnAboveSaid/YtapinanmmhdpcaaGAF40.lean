import Derived.Test.YtapinanmmhdpcaaGA0
import Derived.Test.YtapinanmmhdpcaaGAB
import Derived.Test.YtapinanmmhdpcaaGM1
import Derived.Test.YtapinanmmhdpcaaMS
namespace Go.Proofs.Ytapinanmmhdpcaa.GA
open Go.RowKit Go.Proofs.Ytapinanmmhdpcaa Go.Proofs.Ytapinanmmhdpcaa.MW Go.Proofs.YtapinanmmhdpcaaW.PrintWords Go.Proofs.YtapinanmmhdpcaaW.PrintLast Go.Proofs.YtapinanmmhdpcaaW.PrintMore
attribute [local go_sem] max2_int min2_int max_two min_two
set_option maxHeartbeats 8000000
set_option maxRecDepth 100000
set_option linter.unusedVariables false
set_option linter.unusedSimpArgs false
def dn_value.l0:Nat→Int→(List Int)→ByteArray→Option (ByteArray)
 |0,_,_,_=>none
 |k+1,x7,x8,a0=>if x7<(a0.size:Int) then(if 0≤x7 then((if (bt a0 x7)=32 then(if x7=0 then(some (true)) else(if x7=(wrap64 ((a0.size:Int) - 1)) then(some (true)) else(if (bt a0 x7)=35 then(some (false)) else(some (false))))) else(if (bt a0 x7)=35 then(some ((x7==0))) else(some (false)))).bind fun b20=>((dn_special.f (bt a0 x7)).bind fun t50=>(if t50=true then(if x7≤(wrap64 (x7+1)) then(if (wrap64 (x7+1))≤(a0.size:Int) then((some (a0.extract x7.toNat (wrap64 (x7+1)).toNat)).bind fun y59=>(if 1+y59.size≤9223372036854775807 then(if x8.length+((⟨#[92]⟩:ByteArray)++y59).size<140737488355328 then((some (x8++MB.numsOf ((⟨#[92]⟩:ByteArray)++y59):List Int)).bind fun y70=>((dn_value.l0 k (wrap64 (x7+1)) y70 a0))) else(none)) else(none))) else(none)) else(none)) else(if b20=true then(if x7≤(wrap64 (x7+1)) then(if (wrap64 (x7+1))≤(a0.size:Int) then((some (a0.extract x7.toNat (wrap64 (x7+1)).toNat)).bind fun y90=>(if 1+y90.size≤9223372036854775807 then(if x8.length+((⟨#[92]⟩:ByteArray)++y90).size<140737488355328 then((some (x8++MB.numsOf ((⟨#[92]⟩:ByteArray)++y90):List Int)).bind fun y101=>((dn_value.l0 k (wrap64 (x7+1)) y101 a0))) else(none)) else(none))) else(none)) else(none)) else(if (bt a0 x7)<32 then(if 0≤((bt a0 x7) / 16) then(if ((bt a0 x7) / 16)≤((((bt a0 x7) / 16)+1) % 256) then(if ((((bt a0 x7) / 16)+1) % 256)≤16 then((some ((⟨#[48,49,50,51,52,53,54,55,56,57,97,98,99,100,101,102]⟩:ByteArray).extract ((bt a0 x7) / 16).toNat ((((bt a0 x7) / 16)+1) % 256).toNat)).bind fun y128=>(if 1+y128.size≤9223372036854775807 then(if 0≤(Go.bits .and .u8 (bt a0 x7) 15) then(if (Go.bits .and .u8 (bt a0 x7) 15)≤(((Go.bits .and .u8 (bt a0 x7) 15)+1) % 256) then(if (((Go.bits .and .u8 (bt a0 x7) 15)+1) % 256)≤16 then((some ((⟨#[48,49,50,51,52,53,54,55,56,57,97,98,99,100,101,102]⟩:ByteArray).extract (Go.bits .and .u8 (bt a0 x7) 15).toNat (((Go.bits .and .u8 (bt a0 x7) 15)+1) % 256).toNat)).bind fun y140=>(if ((⟨#[92]⟩:ByteArray)++y128).size+y140.size≤9223372036854775807 then(if x8.length+(((⟨#[92]⟩:ByteArray)++y128)++y140).size<140737488355328 then((some (x8++MB.numsOf (((⟨#[92]⟩:ByteArray)++y128)++y140):List Int)).bind fun y157=>((dn_value.l0 k (wrap64 (x7+1)) y157 a0))) else(none)) else(none))) else(none)) else(none)) else(none)) else(none))) else(none)) else(none)) else(none)) else(if (bt a0 x7)=127 then(if 0≤((bt a0 x7) / 16) then(if ((bt a0 x7) / 16)≤((((bt a0 x7) / 16)+1) % 256) then(if ((((bt a0 x7) / 16)+1) % 256)≤16 then((some ((⟨#[48,49,50,51,52,53,54,55,56,57,97,98,99,100,101,102]⟩:ByteArray).extract ((bt a0 x7) / 16).toNat ((((bt a0 x7) / 16)+1) % 256).toNat)).bind fun y191=>(if 1+y191.size≤9223372036854775807 then(if 0≤(Go.bits .and .u8 (bt a0 x7) 15) then(if (Go.bits .and .u8 (bt a0 x7) 15)≤(((Go.bits .and .u8 (bt a0 x7) 15)+1) % 256) then(if (((Go.bits .and .u8 (bt a0 x7) 15)+1) % 256)≤16 then((some ((⟨#[48,49,50,51,52,53,54,55,56,57,97,98,99,100,101,102]⟩:ByteArray).extract (Go.bits .and .u8 (bt a0 x7) 15).toNat (((Go.bits .and .u8 (bt a0 x7) 15)+1) % 256).toNat)).bind fun y203=>(if ((⟨#[92]⟩:ByteArray)++y191).size+y203.size≤9223372036854775807 then(if x8.length+(((⟨#[92]⟩:ByteArray)++y191)++y203).size<140737488355328 then((some (x8++MB.numsOf (((⟨#[92]⟩:ByteArray)++y191)++y203):List Int)).bind fun y220=>((dn_value.l0 k (wrap64 (x7+1)) y220 a0))) else(none)) else(none))) else(none)) else(none)) else(none)) else(none))) else(none)) else(none)) else(none)) else(if x8.length<140737488355328 then((some (x8++[bt a0 x7]:List Int)).bind fun y247=>((dn_value.l0 k (wrap64 (x7+1)) y247 a0))) else(none)))))))) else(none)) else(some (strOfNums x8))
def dn_value.f (k:Nat) (a0:ByteArray):Option (ByteArray):=(dn_value.l0 k 0 ([]:List Int) a0)
theorem dn_value.mono_l:∀ k,(∀ y0 y1 y2,LeO (dn_value.l0 k y0 y1 y2) (dn_value.l0 (k+1) y0 y1 y2))
 |0=>fun _ _ _ r h=>by simp[dn_value.l0] at h
 |k+1=>by
  have ih0:=dn_value.mono_l k
  ·intro y0 y1 y2
   unfold dn_value.l0
   with_reducible repeat' first|exact ih0 _ _ _|exact LeO.refl _|exact LeO.none _|refine LeO.ite ?_ ?_|refine LeO.bind ?_ (fun _=>?_)
theorem dn_value.mono:∀ a0_ k,LeO (dn_value.f k a0_) (dn_value.f (k+1) a0_):=by
 intro a0_ k
 have ih0:=dn_value.mono_l k
 unfold dn_value.f
 with_reducible repeat' first|exact ih0 _ _ _|exact LeO.refl _|exact LeO.none _|refine LeO.ite ?_ ?_|refine LeO.bind ?_ (fun _=>?_)
theorem dn_value.calls (k:Nat) (a0:ByteArray) (r:ByteArray) (w:World) (h:dn_value.f k a0=some r):
  Calls Try.prog 40 #[.string a0] w (fun e w'=>e=.returned (.string r)∧Below w.heap.size w w'):=by
 unfold dn_value.f at h
 have HH:=za h
 clear h
 have HB:=za (Below.refl w.heap.size w)
 have hu74:=Try.underlying74
 go_enter Try.func40,Try.ntmps40
 go_wp2_with ((with_reducible refine gd 3 rfl ?_);refine zb 3 74 #[.pointer none,.slice none 0 0] (h:=?_);intro g1 hg w2 BKg1 hb)
 refine zg ?_
 have GEg1:=zge hg (below_size HB.out)
 replace HB:=zhb HB.out hb
 clear hg hb
 replace cBKg1:=MB.lz2 BKg1.out
 go_wp2
 go_loopg [4] k (fun kq u4 w'=>∃ (x7:Int) (x8:List Int) (v5:Value) (p6:Value),u4=.int .i64 x7∧Aside0 ((dn_value.l0 kq x7 x8 a0)=some r)∧Aside0 (kq≤k)∧Aside0 (Kd.N (Kd.int .u8) 5 w' w.heap.size (fun k_=>(w.heap.size≤k_)∧k_≠g1) v5 x8)∧Aside0 (p6=.pointer none∨p6=.pointer (some ⟨g1,0,none⟩))∧Aside0 (w'.heap[g1]? =some (.cells #[p6,v5] 74 (0,0)))∧Aside0 (Below w.heap.size w w'))
 case atStart=>exact⟨0,([]:List Int),.slice none 0 0,.pointer none,(by first|rfl|(simp;done)|(simp[*];done)),HH,⟨Nat.le_refl _⟩,⟨Kd.N_nil _ _ _ _ _⟩,⟨(.inl rfl)⟩,⟨BKg1.out⟩,⟨HB.out⟩⟩
 case round=>
  clear HH
  clear BKg1 HB
  obtain⟨x7,x8,v5,p6,rfl,HA,HK0,HN9,HPp6,BKg1,HB⟩:=hrel
  obtain⟨w11,rfl⟩:∃ wo_:World,wo_=wr:=⟨_,rfl⟩
  cases gk with
  |zero=>exact absurd HA.out (by simp[dn_value.l0])
  |succ k10=>
   have H:=HA.out
   clear HA
   simp only[dn_value.l0] at H
   have HH:=za H
   clear H
   replace cBKg1:=MB.lz2 BKg1.out
   replace HH:=zqt HH
   rcases HH with⟨HH,hk15,hk16⟩|⟨HH,hk259,hk260⟩
   ·replace HH:=zqdo HH
    obtain⟨HH,hk18⟩:=HH
    have p19:0≤(x7:Int):=of_decide_eq_true (by first|(with_reducible assumption)|assumption)
    have q19:x7<(a0.size:Int):=of_decide_eq_true (by first|(with_reducible assumption)|assumption)
    have hx19:=MW.bt_at' a0 x7
    replace p19:=eq_true p19
    replace q19:=eq_true q19
    replace HH:=zd HH
    obtain⟨b20,At21,HH⟩:=HH
    repeat(first|(refine MS.hold (id:=6) ?_)|go_values|go_skip|go_guarded|go_step|go_upon)
    refine zg ?_
    obtain⟨R_,hR_⟩:∃ R_:Act→World→Prop,R_=(fun a_ w_=>∃ u16 u17 u18 u19 u20 u21 u22 u23 u24 u25 u26 u27 u28 u29 u30 u31 u32 u33 u34 u35 u36:Value,a_=(⟨[(.string a0),undef,(.string (⟨#[]⟩:ByteArray)),(.pointer (some ⟨g1,0,none⟩)),(.int .i64 x7),(.int .u8 (bt a0 x7)),.bool b20,(.int .i64 x7),(.string a0),(.int .i64 (a0.size:Int)),(.bool true),u11,u12,(.string a0),(.int .i64 x7),(.int .u8 (bt a0 x7)),u16,u17,u18,u19,u20,u21,u22,u23,u24,u25,u26,u27,u28,u29,u30,u31,u32,u33,u34,u35,u36,u37,u38,u39,u40,u41,u42,u43,u44,u45,u46,u47,u48,u49,u50,u51,u52,u53,u54,u55,u56,u57,u58,u59,u60,u61,u62,u63,u64,u65,u66,u67,u68,u69,u70,u71,u72,u73,undef].toArray,[]⟩:Act)∧Drawn0 w11 w_):=⟨_,rfl⟩
    replace hR_:=za hR_
    refine MS.join R_ ?_ ?_
    ·clear HH
     have HH:=At21
     clear At21
     replace HH:=zqe HH
     rcases HH with⟨HH,hk24,hk25⟩|⟨HH,hk41,hk42⟩
     ·replace HH:=zqe HH
      rcases HH with⟨HH,hk27,hk28⟩|⟨HH,hk29,hk30⟩
      ·obtain rfl:=Option.some.inj HH.out
       go_wp2
       refine MS.Joined.mk ?_
       rw[hR_.out]
       exact⟨_,_,_,_,_,_,_,_,_,_,_,_,_,_,_,_,_,_,_,_,_,rfl,by repeat(first|exact Drawn0.refl _|apply Drawn0.step)⟩
      replace HH:=zqe HH
      rcases HH with⟨HH,hk32,hk33⟩|⟨HH,hk34,hk35⟩
      ·obtain rfl:=Option.some.inj HH.out
       go_wp2
       refine MS.Joined.mk ?_
       rw[hR_.out]
       exact⟨_,_,_,_,_,_,_,_,_,_,_,_,_,_,_,_,_,_,_,_,_,rfl,by repeat(first|exact Drawn0.refl _|apply Drawn0.step)⟩
      replace HH:=zqe HH
      rcases HH with⟨HH,hk37,hk38⟩|⟨HH,hk39,hk40⟩
      ·obtain rfl:=Option.some.inj HH.out
       go_wp2
       refine MS.Joined.mk ?_
       rw[hR_.out]
       exact⟨_,_,_,_,_,_,_,_,_,_,_,_,_,_,_,_,_,_,_,_,_,rfl,by repeat(first|exact Drawn0.refl _|apply Drawn0.step)⟩
      obtain rfl:=Option.some.inj HH.out
      go_wp2
      refine MS.Joined.mk ?_
      rw[hR_.out]
      exact⟨_,_,_,_,_,_,_,_,_,_,_,_,_,_,_,_,_,_,_,_,_,rfl,by repeat(first|exact Drawn0.refl _|apply Drawn0.step)⟩
     replace HH:=zqe HH
     rcases HH with⟨HH,hk44,hk45⟩|⟨HH,hk46,hk47⟩
     ·obtain rfl:=Option.some.inj HH.out
      go_wp2
      refine MS.Joined.mk ?_
      rw[hR_.out]
      exact⟨_,_,_,_,_,_,_,_,_,_,_,_,_,_,_,_,_,_,_,_,_,rfl,by repeat(first|exact Drawn0.refl _|apply Drawn0.step)⟩
     obtain rfl:=Option.some.inj HH.out
     go_wp2
     refine MS.Joined.mk ?_
     rw[hR_.out]
     exact⟨_,_,_,_,_,_,_,_,_,_,_,_,_,_,_,_,_,_,_,_,_,rfl,by repeat(first|exact Drawn0.refl _|apply Drawn0.step)⟩
    intro a_ w22 hd_
    rw[hR_.out] at hd_
    obtain⟨u16,u17,u18,u19,u20,u21,u22,u23,u24,u25,u26,u27,u28,u29,u30,u31,u32,u33,u34,u35,u36,rfl,hd_⟩:=hd_
    have hb:=MS.drawn_below hd_
    clear At21 hd_ hR_ R_
    replace HN9:=znb HN9.out hb
    replace BKg1:=zbb BKg1.out hb
    replace HB:=zhb HB.out hb
    clear hb
    replace cBKg1:=MB.lz2 BKg1.out
    replace HH:=zd HH
    obtain⟨t50,At51,HH⟩:=HH
    go_wp2_with ((with_reducible refine gc 48 rfl ?_);refine zc 48 (some 41) Try.func48 #[.int .u8 (bt a0 x7)] (h:=?_);(with_reducible refine(dn_special.calls  (bt a0 x7) t50 _  At51.out).mono ?_);rintro e w' ⟨rfl,⟨nd,rfl⟩⟩;refine⟨_,rfl,?_⟩)
    refine zg ?_
    by_cases c53:t50=true
    ·replace HH:=MW.hpos HH c53
     subst c53
     replace HH:=zqdo HH
     obtain⟨HH,hk55⟩:=HH
     replace HH:=zqdo HH
     obtain⟨HH,hk57⟩:=HH
     obtain⟨y59,hy59⟩:∃ y_:ByteArray,y_=(a0.extract x7.toNat (wrap64 (x7+1)).toNat):=⟨_,rfl⟩
     have H:(if 1+y59.size≤9223372036854775807 then(if x8.length+((⟨#[92]⟩:ByteArray)++y59).size<140737488355328 then((some (x8++MB.numsOf ((⟨#[92]⟩:ByteArray)++y59):List Int)).bind fun y70=>((dn_value.l0 k10 (wrap64 (x7+1)) y70 a0))) else(none)) else(none))=some r:=by rw[hy59];exact HH.out
     replace HH:=za H
     clear H
     have hcty59:a0.extract x7.toNat (wrap64 (x7+1)).toNat=y59:=hy59.symm
     have NYy59:=za hy59
     clear hy59
     have hmx58:max ((wrap64 (x7+1)):Int) 0=((wrap64 (x7+1)):Int):=Int.max_eq_left (Int.le_trans (by first|exact Int.natCast_nonneg _|exact(of_decide_eq_true (by first|(with_reducible assumption)|assumption|(simp;done)):0≤(x7:Int))) (by first|exact Int.le_refl _|exact(of_decide_eq_true (by first|(with_reducible assumption)|assumption|(simp;done)):(x7:Int)≤((wrap64 (x7+1)):Int))))
     have hh058:(0≤((wrap64 (x7+1)):Int))=True:=eq_true (Int.le_trans (by first|exact Int.natCast_nonneg _|exact(of_decide_eq_true (by first|(with_reducible assumption)|assumption|(simp;done)):0≤(x7:Int))) (by first|exact Int.le_refl _|exact(of_decide_eq_true (by first|(with_reducible assumption)|assumption|(simp;done)):(x7:Int)≤((wrap64 (x7+1)):Int))))
     have hh158:((x7:Int)≤((wrap64 (x7+1)):Int))=True:=eq_true (by first|exact Int.le_refl _|exact(of_decide_eq_true (by first|(with_reducible assumption)|assumption|(simp;done)):(x7:Int)≤((wrap64 (x7+1)):Int)))
     have hh258:(0≤(x7:Int))=True:=eq_true (by first|exact Int.natCast_nonneg _|exact(of_decide_eq_true (by first|(with_reducible assumption)|assumption|(simp;done)):0≤(x7:Int)))
     have hh358:(((wrap64 (x7+1)):Int)≤(a0.size:Int))=True:=eq_true (of_decide_eq_true (by first|(with_reducible assumption)|assumption|(simp;done)):((wrap64 (x7+1)):Int)≤(a0.size:Int))
     by_cases c60:1+y59.size≤9223372036854775807
     ·replace HH:=MW.hpos HH c60
      have hk61:(9223372036854775807<1+y59.size)=False:=eq_false (Nat.not_lt.2 c60)
      have hk62:(1+y59.size≤9223372036854775807)=True:=eq_true c60
      have hk63:decide (1+y59.size≤9223372036854775807)=true:=decide_eq_true c60
      clear c60
      go_wp2_with (((with_reducible refine gate_callee (f:=42) rfl ?_);(try(refine gate_guard (by rfl) ?_;dsimp only));refine goesL_ (some 51) rfl rfl Try.func42 (by kernel_rfl) rfl #[.pointer (some ⟨g1,0,none⟩),.string ((⟨#[92]⟩:ByteArray)++y59)] rfl (by(try simp only[List.map_toArray,List.map_cons,List.map_nil]);first|done|rfl) ?_);refine stop_ ?_)
      refine zg ?_
      go_enter Try.func42,Try.ntmps42
      obtain⟨A65,cp66,he_⟩:=Kd.N_slice HN9.out
      subst he_
      go_wp2_with (((with_reducible refine gc 51 rfl ?_);refine zc 51 (some 7) Try.func51 #[.pointer (some ⟨g1,0,none⟩)] (h:=?_);refine(copyCheck51 g1 74 (p6) [(.slice A65 x8.length cp66)] _ (by(with_reducible repeat(first|refine blk_drewN ?_ _|refine blk_drew ?_|refine blk_alloc ?_ _));exact BKg1.out) HPp6.out (by kernel_rfl)).mono ?_;rintro e w64 ⟨rfl,hbk,hg⟩;refine⟨_,rfl,?_⟩);replace hbk:=za hbk)
      refine zg ?_
      replace hbk:=hbk.out
      replace HN9:=za (Kd.N_grown (ok:=(fun k_=>(w.heap.size≤k_)∧k_≠g1)) (by(with_reducible repeat(first|apply Kd.N_alloc|apply Kd.N_drewN|apply Kd.N_drew));exact HN9.out) hg (fun k_ hk_ he_=>hk_.2 (Option.some.inj he_)))
      replace HB:=za (Below.grown (by repeat(first|(with_reducible first|exact HB.out|apply below_alloc|apply pw_below_drewN|apply below_drew1)|exact HB.out)) hg (below_size (by repeat(first|(with_reducible first|exact HB.out|apply below_alloc|apply pw_below_drewN|apply below_drew1)|exact HB.out))) (fun k_ hk_=>by injection hk_ with hk_;rw[← hk_];exact GEg1.out))
      replace BKg1:=za hbk
      clear hg hbk
      clear hmx58 hh058 hh158 hh258 hh358 hcty59
      replace cBKg1:=MB.lz2 BKg1.out
      obtain⟨HH,LMc69⟩:=zlm HH
      obtain⟨y70,hy70⟩:∃ y_:List Int,y_=(x8++MB.numsOf ((⟨#[92]⟩:ByteArray)++y59)):=⟨_,rfl⟩
      have H:((dn_value.l0 k10 (wrap64 (x7+1)) y70 a0))=some r:=by rw[hy70];exact HH.out
      replace HH:=za H
      clear H
      have NYy70:=za hy70
      clear hy70
      go_wp2_with (((with_reducible refine gate_dst (N:=14) rfl ?_);(try(refine gate_guard (by rfl) ?_;dsimp only));refine MB.N_append_str w.heap.size rfl _ _ 72 9 5 rfl Try.underlying72 Try.underlying9 info5 ((.slice A65 x8.length cp66)) x8 ((⟨#[92]⟩:ByteArray)++y59) (fun k_=>(w.heap.size≤k_)∧k_≠g1) rfl rfl HN9.out (fun k_ h_=>⟨(Nat.le_trans (below_size HB.out) h_),Kd.freshB (g:=g1) BKg1.out k_ h_⟩) HB.out (below_size HB.out) (by first|(have:=LMc69.out;simp only[List.length_nil] at *;omega)|(have:=LMc69.out;simp at *;omega)|(have:=LMc69.out;simp only[List.length_nil] at *;simp;omega)) ?_;intro v71 w72 hn1 hb1 hg1 hat1);replace hat1:=za hat1;refine stop_ ?_)
      refine zg ?_
      replace hat1:=hat1.out
      replace BKg1:=za (blk_grown (g:=g1) BKg1.out hg1 (Kd.N_away (ok:=(fun k_=>(w.heap.size≤k_)∧k_≠g1)) HN9.out (fun k_ hk_=>hk_.2)))
      replace HB:=za hb1
      clear HN9
      have HN73:=za hn1
      clear hn1 hb1 hg1 hat1
      replace HN73:=za (by rw[NYy70.out];exact HN73.out:Kd.N (Kd.int .u8) 5 w72 w.heap.size (fun k_=>(w.heap.size≤k_)∧k_≠g1) v71 y70)
      replace cBKg1:=MB.lz2 BKg1.out
      obtain⟨A77,cp78,he_⟩:=Kd.N_slice HN73.out
      subst he_
      go_wp2_with ((with_reducible refine gs 72 16 rfl ?_);refine zs 72 16 #[.pointer (some ⟨g1,0,none⟩),(.slice A77 y70.length cp78)] BKg1.out [(.slice A77 y70.length cp78)] (h:=?_);intro w76 hbk hg)
      refine zg ?_
      replace HN73:=zng HN73.out hg fun k_ hk_=>hk_.2
      replace HB:=zhg HB.out hg (below_size HB.out) GEg1
      replace BKg1:=hbk
      clear hg hbk
      replace cBKg1:=MB.lz2 BKg1.out
      go_wp2
      go_ret2
      refine⟨_,rfl,?_⟩
      go_wp2
      go_roundg k10
      case measure=>have:=HK0.out;omega
      case rel=>exact⟨wrap64 (x7+1),y70,(.slice A77 y70.length cp78),.pointer (some ⟨g1,0,none⟩),(by first|rfl|(simp;done)|(simp[*];done)),HH,⟨by have:=HK0.out;omega⟩,⟨(Kd.N_mono (ok:=(fun k_=>(w.heap.size≤k_)∧k_≠g1)) HN73.out (fun k_ hk_=>hk_))⟩,⟨(.inr rfl)⟩,⟨BKg1.out⟩,⟨HB.out⟩⟩
     exact absurd HH.out (by rw[if_neg c60];simp)
    replace HH:=MW.hneg HH c53
    replace c53:=Bool.eq_false_iff.mpr c53
    subst c53
    by_cases c84:b20=true
    ·replace HH:=MW.hpos HH c84
     subst c84
     replace HH:=zqdo HH
     obtain⟨HH,hk86⟩:=HH
     replace HH:=zqdo HH
     obtain⟨HH,hk88⟩:=HH
     obtain⟨y90,hy90⟩:∃ y_:ByteArray,y_=(a0.extract x7.toNat (wrap64 (x7+1)).toNat):=⟨_,rfl⟩
     have H:(if 1+y90.size≤9223372036854775807 then(if x8.length+((⟨#[92]⟩:ByteArray)++y90).size<140737488355328 then((some (x8++MB.numsOf ((⟨#[92]⟩:ByteArray)++y90):List Int)).bind fun y101=>((dn_value.l0 k10 (wrap64 (x7+1)) y101 a0))) else(none)) else(none))=some r:=by rw[hy90];exact HH.out
     replace HH:=za H
     clear H
     have hcty90:a0.extract x7.toNat (wrap64 (x7+1)).toNat=y90:=hy90.symm
     have NYy90:=za hy90
     clear hy90
     have hmx89:max ((wrap64 (x7+1)):Int) 0=((wrap64 (x7+1)):Int):=Int.max_eq_left (Int.le_trans (by first|exact Int.natCast_nonneg _|exact(of_decide_eq_true (by first|(with_reducible assumption)|assumption|(simp;done)):0≤(x7:Int))) (by first|exact Int.le_refl _|exact(of_decide_eq_true (by first|(with_reducible assumption)|assumption|(simp;done)):(x7:Int)≤((wrap64 (x7+1)):Int))))
     have hh089:(0≤((wrap64 (x7+1)):Int))=True:=eq_true (Int.le_trans (by first|exact Int.natCast_nonneg _|exact(of_decide_eq_true (by first|(with_reducible assumption)|assumption|(simp;done)):0≤(x7:Int))) (by first|exact Int.le_refl _|exact(of_decide_eq_true (by first|(with_reducible assumption)|assumption|(simp;done)):(x7:Int)≤((wrap64 (x7+1)):Int))))
     have hh189:((x7:Int)≤((wrap64 (x7+1)):Int))=True:=eq_true (by first|exact Int.le_refl _|exact(of_decide_eq_true (by first|(with_reducible assumption)|assumption|(simp;done)):(x7:Int)≤((wrap64 (x7+1)):Int)))
     have hh289:(0≤(x7:Int))=True:=eq_true (by first|exact Int.natCast_nonneg _|exact(of_decide_eq_true (by first|(with_reducible assumption)|assumption|(simp;done)):0≤(x7:Int)))
     have hh389:(((wrap64 (x7+1)):Int)≤(a0.size:Int))=True:=eq_true (of_decide_eq_true (by first|(with_reducible assumption)|assumption|(simp;done)):((wrap64 (x7+1)):Int)≤(a0.size:Int))
     by_cases c91:1+y90.size≤9223372036854775807
     ·replace HH:=MW.hpos HH c91
      have hk92:(9223372036854775807<1+y90.size)=False:=eq_false (Nat.not_lt.2 c91)
      have hk93:(1+y90.size≤9223372036854775807)=True:=eq_true c91
      have hk94:decide (1+y90.size≤9223372036854775807)=true:=decide_eq_true c91
      clear c91
      go_wp2_with (((with_reducible refine gate_callee (f:=42) rfl ?_);(try(refine gate_guard (by rfl) ?_;dsimp only));refine goesL_ (some 51) rfl rfl Try.func42 (by kernel_rfl) rfl #[.pointer (some ⟨g1,0,none⟩),.string ((⟨#[92]⟩:ByteArray)++y90)] rfl (by(try simp only[List.map_toArray,List.map_cons,List.map_nil]);first|done|rfl) ?_);refine stop_ ?_)
      refine zg ?_
      go_enter Try.func42,Try.ntmps42
      obtain⟨A96,cp97,he_⟩:=Kd.N_slice HN9.out
      subst he_
      go_wp2_with (((with_reducible refine gc 51 rfl ?_);refine zc 51 (some 7) Try.func51 #[.pointer (some ⟨g1,0,none⟩)] (h:=?_);refine(copyCheck51 g1 74 (p6) [(.slice A96 x8.length cp97)] _ (by(with_reducible repeat(first|refine blk_drewN ?_ _|refine blk_drew ?_|refine blk_alloc ?_ _));exact BKg1.out) HPp6.out (by kernel_rfl)).mono ?_;rintro e w95 ⟨rfl,hbk,hg⟩;refine⟨_,rfl,?_⟩);replace hbk:=za hbk)
      refine zg ?_
      replace hbk:=hbk.out
      replace HN9:=za (Kd.N_grown (ok:=(fun k_=>(w.heap.size≤k_)∧k_≠g1)) (by(with_reducible repeat(first|apply Kd.N_alloc|apply Kd.N_drewN|apply Kd.N_drew));exact HN9.out) hg (fun k_ hk_ he_=>hk_.2 (Option.some.inj he_)))
      replace HB:=za (Below.grown (by repeat(first|(with_reducible first|exact HB.out|apply below_alloc|apply pw_below_drewN|apply below_drew1)|exact HB.out)) hg (below_size (by repeat(first|(with_reducible first|exact HB.out|apply below_alloc|apply pw_below_drewN|apply below_drew1)|exact HB.out))) (fun k_ hk_=>by injection hk_ with hk_;rw[← hk_];exact GEg1.out))
      replace BKg1:=za hbk
      clear hg hbk
      clear hmx89 hh089 hh189 hh289 hh389 hcty90
      replace cBKg1:=MB.lz2 BKg1.out
      obtain⟨HH,LMc100⟩:=zlm HH
      obtain⟨y101,hy101⟩:∃ y_:List Int,y_=(x8++MB.numsOf ((⟨#[92]⟩:ByteArray)++y90)):=⟨_,rfl⟩
      have H:((dn_value.l0 k10 (wrap64 (x7+1)) y101 a0))=some r:=by rw[hy101];exact HH.out
      replace HH:=za H
      clear H
      have NYy101:=za hy101
      clear hy101
      go_wp2_with (((with_reducible refine gate_dst (N:=14) rfl ?_);(try(refine gate_guard (by rfl) ?_;dsimp only));refine MB.N_append_str w.heap.size rfl _ _ 72 9 5 rfl Try.underlying72 Try.underlying9 info5 ((.slice A96 x8.length cp97)) x8 ((⟨#[92]⟩:ByteArray)++y90) (fun k_=>(w.heap.size≤k_)∧k_≠g1) rfl rfl HN9.out (fun k_ h_=>⟨(Nat.le_trans (below_size HB.out) h_),Kd.freshB (g:=g1) BKg1.out k_ h_⟩) HB.out (below_size HB.out) (by first|(have:=LMc100.out;simp only[List.length_nil] at *;omega)|(have:=LMc100.out;simp at *;omega)|(have:=LMc100.out;simp only[List.length_nil] at *;simp;omega)) ?_;intro v102 w103 hn1 hb1 hg1 hat1);replace hat1:=za hat1;refine stop_ ?_)
      refine zg ?_
      replace hat1:=hat1.out
      replace BKg1:=za (blk_grown (g:=g1) BKg1.out hg1 (Kd.N_away (ok:=(fun k_=>(w.heap.size≤k_)∧k_≠g1)) HN9.out (fun k_ hk_=>hk_.2)))
      replace HB:=za hb1
      clear HN9
      have HN104:=za hn1
      clear hn1 hb1 hg1 hat1
      replace HN104:=za (by rw[NYy101.out];exact HN104.out:Kd.N (Kd.int .u8) 5 w103 w.heap.size (fun k_=>(w.heap.size≤k_)∧k_≠g1) v102 y101)
      replace cBKg1:=MB.lz2 BKg1.out
      obtain⟨A108,cp109,he_⟩:=Kd.N_slice HN104.out
      subst he_
      go_wp2_with ((with_reducible refine gs 72 16 rfl ?_);refine zs 72 16 #[.pointer (some ⟨g1,0,none⟩),(.slice A108 y101.length cp109)] BKg1.out [(.slice A108 y101.length cp109)] (h:=?_);intro w107 hbk hg)
      refine zg ?_
      replace HN104:=zng HN104.out hg fun k_ hk_=>hk_.2
      replace HB:=zhg HB.out hg (below_size HB.out) GEg1
      replace BKg1:=hbk
      clear hg hbk
      replace cBKg1:=MB.lz2 BKg1.out
      go_wp2
      go_ret2
      refine⟨_,rfl,?_⟩
      go_wp2
      go_roundg k10
      case measure=>have:=HK0.out;omega
      case rel=>exact⟨wrap64 (x7+1),y101,(.slice A108 y101.length cp109),.pointer (some ⟨g1,0,none⟩),(by first|rfl|(simp;done)|(simp[*];done)),HH,⟨by have:=HK0.out;omega⟩,⟨(Kd.N_mono (ok:=(fun k_=>(w.heap.size≤k_)∧k_≠g1)) HN104.out (fun k_ hk_=>hk_))⟩,⟨(.inr rfl)⟩,⟨BKg1.out⟩,⟨HB.out⟩⟩
     exact absurd HH.out (by rw[if_neg c91];simp)
    replace HH:=MW.hneg HH c84
    replace c84:=Bool.eq_false_iff.mpr c84
    subst c84
    replace HH:=zqt HH
    rcases HH with⟨HH,hk116,hk117⟩|⟨HH,hk176,hk177⟩
    ·go_wp2
     refine MW.name_world (W0:=w22) (by repeat(first|exact Drawn0.refl _|apply Drawn0.step)) ?_
     intro w118 hb
     replace HN9:=znb HN9.out hb
     replace BKg1:=zbb BKg1.out hb
     replace HB:=zhb HB.out hb
     clear hb
     replace cBKg1:=MB.lz2 BKg1.out
     replace HH:=zqdo HH
     obtain⟨HH,hk122⟩:=HH
     replace HH:=zqdo HH
     obtain⟨HH,hk124⟩:=HH
     replace HH:=zqdo HH
     obtain⟨HH,hk126⟩:=HH
     obtain⟨y128,hy128⟩:∃ y_:ByteArray,y_=((⟨#[48,49,50,51,52,53,54,55,56,57,97,98,99,100,101,102]⟩:ByteArray).extract ((bt a0 x7) / 16).toNat ((((bt a0 x7) / 16)+1) % 256).toNat):=⟨_,rfl⟩
     have H:(if 1+y128.size≤9223372036854775807 then(if 0≤(Go.bits .and .u8 (bt a0 x7) 15) then(if (Go.bits .and .u8 (bt a0 x7) 15)≤(((Go.bits .and .u8 (bt a0 x7) 15)+1) % 256) then(if (((Go.bits .and .u8 (bt a0 x7) 15)+1) % 256)≤16 then((some ((⟨#[48,49,50,51,52,53,54,55,56,57,97,98,99,100,101,102]⟩:ByteArray).extract (Go.bits .and .u8 (bt a0 x7) 15).toNat (((Go.bits .and .u8 (bt a0 x7) 15)+1) % 256).toNat)).bind fun y140=>(if ((⟨#[92]⟩:ByteArray)++y128).size+y140.size≤9223372036854775807 then(if x8.length+(((⟨#[92]⟩:ByteArray)++y128)++y140).size<140737488355328 then((some (x8++MB.numsOf (((⟨#[92]⟩:ByteArray)++y128)++y140):List Int)).bind fun y157=>((dn_value.l0 k10 (wrap64 (x7+1)) y157 a0))) else(none)) else(none))) else(none)) else(none)) else(none)) else(none))=some r:=by rw[hy128];exact HH.out
     replace HH:=za H
     clear H
     have hcty128:(⟨#[48,49,50,51,52,53,54,55,56,57,97,98,99,100,101,102]⟩:ByteArray).extract ((bt a0 x7) / 16).toNat ((((bt a0 x7) / 16)+1) % 256).toNat=y128:=hy128.symm
     have NYy128:=za hy128
     clear hy128
     have hmx127:max (((((bt a0 x7) / 16)+1) % 256):Int) 0=(((((bt a0 x7) / 16)+1) % 256):Int):=Int.max_eq_left (Int.le_trans (by first|exact Int.natCast_nonneg _|exact(of_decide_eq_true (by first|(with_reducible assumption)|assumption|(simp;done)):0≤(((bt a0 x7) / 16):Int))) (by first|exact Int.le_refl _|exact(of_decide_eq_true (by first|(with_reducible assumption)|assumption|(simp;done)):(((bt a0 x7) / 16):Int)≤(((((bt a0 x7) / 16)+1) % 256):Int))))
     have hh0127:(0≤(((((bt a0 x7) / 16)+1) % 256):Int))=True:=eq_true (Int.le_trans (by first|exact Int.natCast_nonneg _|exact(of_decide_eq_true (by first|(with_reducible assumption)|assumption|(simp;done)):0≤(((bt a0 x7) / 16):Int))) (by first|exact Int.le_refl _|exact(of_decide_eq_true (by first|(with_reducible assumption)|assumption|(simp;done)):(((bt a0 x7) / 16):Int)≤(((((bt a0 x7) / 16)+1) % 256):Int))))
     have hh1127:((((bt a0 x7) / 16):Int)≤(((((bt a0 x7) / 16)+1) % 256):Int))=True:=eq_true (by first|exact Int.le_refl _|exact(of_decide_eq_true (by first|(with_reducible assumption)|assumption|(simp;done)):(((bt a0 x7) / 16):Int)≤(((((bt a0 x7) / 16)+1) % 256):Int)))
     have hh2127:(0≤(((bt a0 x7) / 16):Int))=True:=eq_true (by first|exact Int.natCast_nonneg _|exact(of_decide_eq_true (by first|(with_reducible assumption)|assumption|(simp;done)):0≤(((bt a0 x7) / 16):Int)))
     have hh3127:((((((bt a0 x7) / 16)+1) % 256):Int)≤16)=True:=eq_true (of_decide_eq_true (by first|(with_reducible assumption)|assumption|(simp;done)):(((((bt a0 x7) / 16)+1) % 256):Int)≤16)
     by_cases c129:1+y128.size≤9223372036854775807
     ·replace HH:=MW.hpos HH c129
      have hk130:(9223372036854775807<1+y128.size)=False:=eq_false (Nat.not_lt.2 c129)
      have hk131:(1+y128.size≤9223372036854775807)=True:=eq_true c129
      have hk132:decide (1+y128.size≤9223372036854775807)=true:=decide_eq_true c129
      clear c129
      replace HH:=zqdo HH
      obtain⟨HH,hk134⟩:=HH
      replace HH:=zqdo HH
      obtain⟨HH,hk136⟩:=HH
      replace HH:=zqdo HH
      obtain⟨HH,hk138⟩:=HH
      obtain⟨y140,hy140⟩:∃ y_:ByteArray,y_=((⟨#[48,49,50,51,52,53,54,55,56,57,97,98,99,100,101,102]⟩:ByteArray).extract (Go.bits .and .u8 (bt a0 x7) 15).toNat (((Go.bits .and .u8 (bt a0 x7) 15)+1) % 256).toNat):=⟨_,rfl⟩
      have H:(if ((⟨#[92]⟩:ByteArray)++y128).size+y140.size≤9223372036854775807 then(if x8.length+(((⟨#[92]⟩:ByteArray)++y128)++y140).size<140737488355328 then((some (x8++MB.numsOf (((⟨#[92]⟩:ByteArray)++y128)++y140):List Int)).bind fun y157=>((dn_value.l0 k10 (wrap64 (x7+1)) y157 a0))) else(none)) else(none))=some r:=by rw[hy140];exact HH.out
      replace HH:=za H
      clear H
      have hcty140:(⟨#[48,49,50,51,52,53,54,55,56,57,97,98,99,100,101,102]⟩:ByteArray).extract (Go.bits .and .u8 (bt a0 x7) 15).toNat (((Go.bits .and .u8 (bt a0 x7) 15)+1) % 256).toNat=y140:=hy140.symm
      have NYy140:=za hy140
      clear hy140
      have hmx139:max ((((Go.bits .and .u8 (bt a0 x7) 15)+1) % 256):Int) 0=((((Go.bits .and .u8 (bt a0 x7) 15)+1) % 256):Int):=Int.max_eq_left (Int.le_trans (by first|exact Int.natCast_nonneg _|exact(of_decide_eq_true (by first|(with_reducible assumption)|assumption|(simp;done)):0≤((Go.bits .and .u8 (bt a0 x7) 15):Int))) (by first|exact Int.le_refl _|exact(of_decide_eq_true (by first|(with_reducible assumption)|assumption|(simp;done)):((Go.bits .and .u8 (bt a0 x7) 15):Int)≤((((Go.bits .and .u8 (bt a0 x7) 15)+1) % 256):Int))))
      have hh0139:(0≤((((Go.bits .and .u8 (bt a0 x7) 15)+1) % 256):Int))=True:=eq_true (Int.le_trans (by first|exact Int.natCast_nonneg _|exact(of_decide_eq_true (by first|(with_reducible assumption)|assumption|(simp;done)):0≤((Go.bits .and .u8 (bt a0 x7) 15):Int))) (by first|exact Int.le_refl _|exact(of_decide_eq_true (by first|(with_reducible assumption)|assumption|(simp;done)):((Go.bits .and .u8 (bt a0 x7) 15):Int)≤((((Go.bits .and .u8 (bt a0 x7) 15)+1) % 256):Int))))
      have hh1139:(((Go.bits .and .u8 (bt a0 x7) 15):Int)≤((((Go.bits .and .u8 (bt a0 x7) 15)+1) % 256):Int))=True:=eq_true (by first|exact Int.le_refl _|exact(of_decide_eq_true (by first|(with_reducible assumption)|assumption|(simp;done)):((Go.bits .and .u8 (bt a0 x7) 15):Int)≤((((Go.bits .and .u8 (bt a0 x7) 15)+1) % 256):Int)))
      have hh2139:(0≤((Go.bits .and .u8 (bt a0 x7) 15):Int))=True:=eq_true (by first|exact Int.natCast_nonneg _|exact(of_decide_eq_true (by first|(with_reducible assumption)|assumption|(simp;done)):0≤((Go.bits .and .u8 (bt a0 x7) 15):Int)))
      have hh3139:(((((Go.bits .and .u8 (bt a0 x7) 15)+1) % 256):Int)≤16)=True:=eq_true (of_decide_eq_true (by first|(with_reducible assumption)|assumption|(simp;done)):((((Go.bits .and .u8 (bt a0 x7) 15)+1) % 256):Int)≤16)
      by_cases c141:((⟨#[92]⟩:ByteArray)++y128).size+y140.size≤9223372036854775807
      ·replace HH:=MW.hpos HH c141
       have hk142:(9223372036854775807<((⟨#[92]⟩:ByteArray)++y128).size+y140.size)=False:=eq_false (Nat.not_lt.2 c141)
       have hk143:(((⟨#[92]⟩:ByteArray)++y128).size+y140.size≤9223372036854775807)=True:=eq_true c141
       have hk144:decide (((⟨#[92]⟩:ByteArray)++y128).size+y140.size≤9223372036854775807)=true:=decide_eq_true c141
       try have hk145:(9223372036854775807<(1+y128.size)+y140.size)=False:=eq_false (Nat.not_lt.2 (show(1+y128.size)+y140.size≤9223372036854775807 from by have h_:=c141;simp only[ByteArray.size_append] at h_;exact h_))
       try have hk146:((1+y128.size)+y140.size≤9223372036854775807)=True:=eq_true (show(1+y128.size)+y140.size≤9223372036854775807 from by have h_:=c141;simp only[ByteArray.size_append] at h_;exact h_)
       try have hk147:decide ((1+y128.size)+y140.size≤9223372036854775807)=true:=decide_eq_true (show(1+y128.size)+y140.size≤9223372036854775807 from by have h_:=c141;simp only[ByteArray.size_append] at h_;exact h_)
       clear c141
       go_wp2
       have hwr_:∀ n_:Int,IntKind.i64.wrap n_=wrap64 n_:=fun n_=>IntWalk.i64_left n_
       have hw8_:∀ n_:Int,IntKind.u8.wrap n_=n_ % 256:=fun n_=>rfl
       go_still_tail 14,(by kernel_rfl)
       clear hwr_ hw8_
       change wpList _ _ _ _ _ w118.drew
       obtain⟨w148,hw_⟩:∃ w_:World,w_=w118.drew:=⟨_,rfl⟩
       rw[← hw_]
       have hb:Below w118.heap.size w118 w148:=by rw[hw_];exact below_drew1 (Below.refl _ _)
       clear hw_
       replace HN9:=znb HN9.out hb
       replace BKg1:=zbb BKg1.out hb
       replace HB:=zhb HB.out hb
       clear hb
       clear hmx127 hh0127 hh1127 hh2127 hh3127 hcty128 hmx139 hh0139 hh1139 hh2139 hh3139 hcty140
       replace cBKg1:=MB.lz2 BKg1.out
       go_wp2_with (((with_reducible refine gate_callee (f:=42) rfl ?_);(try(refine gate_guard (by rfl) ?_;dsimp only));refine goesL_ (some 73) rfl rfl Try.func42 (by kernel_rfl) rfl #[.pointer (some ⟨g1,0,none⟩),.string (((⟨#[92]⟩:ByteArray)++y128)++y140)] rfl (by(try simp only[List.map_toArray,List.map_cons,List.map_nil]);first|done|rfl) ?_);refine stop_ ?_)
       refine zg ?_
       go_enter Try.func42,Try.ntmps42
       obtain⟨A152,cp153,he_⟩:=Kd.N_slice HN9.out
       subst he_
       go_wp2_with (((with_reducible refine gc 51 rfl ?_);refine zc 51 (some 7) Try.func51 #[.pointer (some ⟨g1,0,none⟩)] (h:=?_);refine(copyCheck51 g1 74 (p6) [(.slice A152 x8.length cp153)] _ BKg1.out HPp6.out (by kernel_rfl)).mono ?_;rintro e w151 ⟨rfl,hbk,hg⟩;refine⟨_,rfl,?_⟩);replace hbk:=za hbk)
       refine zg ?_
       replace hbk:=hbk.out
       replace HN9:=za (Kd.N_grown (ok:=(fun k_=>(w.heap.size≤k_)∧k_≠g1)) HN9.out hg (fun k_ hk_ he_=>hk_.2 (Option.some.inj he_)))
       replace HB:=za (Below.grown HB.out hg (below_size HB.out) (fun k_ hk_=>by injection hk_ with hk_;rw[← hk_];exact GEg1.out))
       replace BKg1:=za hbk
       clear hg hbk
       replace cBKg1:=MB.lz2 BKg1.out
       obtain⟨HH,LMc156⟩:=zlm HH
       obtain⟨y157,hy157⟩:∃ y_:List Int,y_=(x8++MB.numsOf (((⟨#[92]⟩:ByteArray)++y128)++y140)):=⟨_,rfl⟩
       have H:((dn_value.l0 k10 (wrap64 (x7+1)) y157 a0))=some r:=by rw[hy157];exact HH.out
       replace HH:=za H
       clear H
       have NYy157:=za hy157
       clear hy157
       go_wp2_with (((with_reducible refine gate_dst (N:=14) rfl ?_);(try(refine gate_guard (by rfl) ?_;dsimp only));refine MB.N_append_str w.heap.size rfl _ _ 72 9 5 rfl Try.underlying72 Try.underlying9 info5 ((.slice A152 x8.length cp153)) x8 (((⟨#[92]⟩:ByteArray)++y128)++y140) (fun k_=>(w.heap.size≤k_)∧k_≠g1) rfl rfl HN9.out (fun k_ h_=>⟨(Nat.le_trans (below_size HB.out) h_),Kd.freshB (g:=g1) BKg1.out k_ h_⟩) HB.out (below_size HB.out) (by first|(have:=LMc156.out;simp only[List.length_nil] at *;omega)|(have:=LMc156.out;simp at *;omega)|(have:=LMc156.out;simp only[List.length_nil] at *;simp;omega)) ?_;intro v158 w159 hn1 hb1 hg1 hat1);replace hat1:=za hat1;refine stop_ ?_)
       refine zg ?_
       replace hat1:=hat1.out
       replace BKg1:=za (blk_grown (g:=g1) BKg1.out hg1 (Kd.N_away (ok:=(fun k_=>(w.heap.size≤k_)∧k_≠g1)) HN9.out (fun k_ hk_=>hk_.2)))
       replace HB:=za hb1
       clear HN9
       have HN160:=za hn1
       clear hn1 hb1 hg1 hat1
       replace HN160:=za (by rw[NYy157.out];exact HN160.out:Kd.N (Kd.int .u8) 5 w159 w.heap.size (fun k_=>(w.heap.size≤k_)∧k_≠g1) v158 y157)
       replace cBKg1:=MB.lz2 BKg1.out
       obtain⟨A164,cp165,he_⟩:=Kd.N_slice HN160.out
       subst he_
       go_wp2_with ((with_reducible refine gs 72 16 rfl ?_);refine zs 72 16 #[.pointer (some ⟨g1,0,none⟩),(.slice A164 y157.length cp165)] BKg1.out [(.slice A164 y157.length cp165)] (h:=?_);intro w163 hbk hg)
       refine zg ?_
       replace HN160:=zng HN160.out hg fun k_ hk_=>hk_.2
       replace HB:=zhg HB.out hg (below_size HB.out) GEg1
       replace BKg1:=hbk
       clear hg hbk
       replace cBKg1:=MB.lz2 BKg1.out
       go_wp2
       go_ret2
       refine⟨_,rfl,?_⟩
       go_wp2
       go_roundg k10
       case measure=>have:=HK0.out;omega
       case rel=>exact⟨wrap64 (x7+1),y157,(.slice A164 y157.length cp165),.pointer (some ⟨g1,0,none⟩),(by first|rfl|(simp;done)|(simp[*];done)),HH,⟨by have:=HK0.out;omega⟩,⟨(Kd.N_mono (ok:=(fun k_=>(w.heap.size≤k_)∧k_≠g1)) HN160.out (fun k_ hk_=>hk_))⟩,⟨(.inr rfl)⟩,⟨BKg1.out⟩,⟨HB.out⟩⟩
      exact absurd HH.out (by rw[if_neg c141];simp)
     exact absurd HH.out (by rw[if_neg c129];simp)
    replace HH:=zqe HH
    rcases HH with⟨HH,hk179,hk180⟩|⟨HH,hk239,hk240⟩
    ·go_wp2
     refine MW.name_world (W0:=w22) (by repeat(first|exact Drawn0.refl _|apply Drawn0.step)) ?_
     intro w181 hb
     replace HN9:=znb HN9.out hb
     replace BKg1:=zbb BKg1.out hb
     replace HB:=zhb HB.out hb
     clear hb
     replace cBKg1:=MB.lz2 BKg1.out
     replace HH:=zqdo HH
     obtain⟨HH,hk185⟩:=HH
     replace HH:=zqdo HH
     obtain⟨HH,hk187⟩:=HH
     replace HH:=zqdo HH
     obtain⟨HH,hk189⟩:=HH
     obtain⟨y191,hy191⟩:∃ y_:ByteArray,y_=((⟨#[48,49,50,51,52,53,54,55,56,57,97,98,99,100,101,102]⟩:ByteArray).extract ((bt a0 x7) / 16).toNat ((((bt a0 x7) / 16)+1) % 256).toNat):=⟨_,rfl⟩
     have H:(if 1+y191.size≤9223372036854775807 then(if 0≤(Go.bits .and .u8 (bt a0 x7) 15) then(if (Go.bits .and .u8 (bt a0 x7) 15)≤(((Go.bits .and .u8 (bt a0 x7) 15)+1) % 256) then(if (((Go.bits .and .u8 (bt a0 x7) 15)+1) % 256)≤16 then((some ((⟨#[48,49,50,51,52,53,54,55,56,57,97,98,99,100,101,102]⟩:ByteArray).extract (Go.bits .and .u8 (bt a0 x7) 15).toNat (((Go.bits .and .u8 (bt a0 x7) 15)+1) % 256).toNat)).bind fun y203=>(if ((⟨#[92]⟩:ByteArray)++y191).size+y203.size≤9223372036854775807 then(if x8.length+(((⟨#[92]⟩:ByteArray)++y191)++y203).size<140737488355328 then((some (x8++MB.numsOf (((⟨#[92]⟩:ByteArray)++y191)++y203):List Int)).bind fun y220=>((dn_value.l0 k10 (wrap64 (x7+1)) y220 a0))) else(none)) else(none))) else(none)) else(none)) else(none)) else(none))=some r:=by rw[hy191];exact HH.out
     replace HH:=za H
     clear H
     have hcty191:(⟨#[48,49,50,51,52,53,54,55,56,57,97,98,99,100,101,102]⟩:ByteArray).extract ((bt a0 x7) / 16).toNat ((((bt a0 x7) / 16)+1) % 256).toNat=y191:=hy191.symm
     have NYy191:=za hy191
     clear hy191
     have hmx190:max (((((bt a0 x7) / 16)+1) % 256):Int) 0=(((((bt a0 x7) / 16)+1) % 256):Int):=Int.max_eq_left (Int.le_trans (by first|exact Int.natCast_nonneg _|exact(of_decide_eq_true (by first|(with_reducible assumption)|assumption|(simp;done)):0≤(((bt a0 x7) / 16):Int))) (by first|exact Int.le_refl _|exact(of_decide_eq_true (by first|(with_reducible assumption)|assumption|(simp;done)):(((bt a0 x7) / 16):Int)≤(((((bt a0 x7) / 16)+1) % 256):Int))))
     have hh0190:(0≤(((((bt a0 x7) / 16)+1) % 256):Int))=True:=eq_true (Int.le_trans (by first|exact Int.natCast_nonneg _|exact(of_decide_eq_true (by first|(with_reducible assumption)|assumption|(simp;done)):0≤(((bt a0 x7) / 16):Int))) (by first|exact Int.le_refl _|exact(of_decide_eq_true (by first|(with_reducible assumption)|assumption|(simp;done)):(((bt a0 x7) / 16):Int)≤(((((bt a0 x7) / 16)+1) % 256):Int))))
     have hh1190:((((bt a0 x7) / 16):Int)≤(((((bt a0 x7) / 16)+1) % 256):Int))=True:=eq_true (by first|exact Int.le_refl _|exact(of_decide_eq_true (by first|(with_reducible assumption)|assumption|(simp;done)):(((bt a0 x7) / 16):Int)≤(((((bt a0 x7) / 16)+1) % 256):Int)))
     have hh2190:(0≤(((bt a0 x7) / 16):Int))=True:=eq_true (by first|exact Int.natCast_nonneg _|exact(of_decide_eq_true (by first|(with_reducible assumption)|assumption|(simp;done)):0≤(((bt a0 x7) / 16):Int)))
     have hh3190:((((((bt a0 x7) / 16)+1) % 256):Int)≤16)=True:=eq_true (of_decide_eq_true (by first|(with_reducible assumption)|assumption|(simp;done)):(((((bt a0 x7) / 16)+1) % 256):Int)≤16)
     by_cases c192:1+y191.size≤9223372036854775807
     ·replace HH:=MW.hpos HH c192
      have hk193:(9223372036854775807<1+y191.size)=False:=eq_false (Nat.not_lt.2 c192)
      have hk194:(1+y191.size≤9223372036854775807)=True:=eq_true c192
      have hk195:decide (1+y191.size≤9223372036854775807)=true:=decide_eq_true c192
      clear c192
      replace HH:=zqdo HH
      obtain⟨HH,hk197⟩:=HH
      replace HH:=zqdo HH
      obtain⟨HH,hk199⟩:=HH
      replace HH:=zqdo HH
      obtain⟨HH,hk201⟩:=HH
      obtain⟨y203,hy203⟩:∃ y_:ByteArray,y_=((⟨#[48,49,50,51,52,53,54,55,56,57,97,98,99,100,101,102]⟩:ByteArray).extract (Go.bits .and .u8 (bt a0 x7) 15).toNat (((Go.bits .and .u8 (bt a0 x7) 15)+1) % 256).toNat):=⟨_,rfl⟩
      have H:(if ((⟨#[92]⟩:ByteArray)++y191).size+y203.size≤9223372036854775807 then(if x8.length+(((⟨#[92]⟩:ByteArray)++y191)++y203).size<140737488355328 then((some (x8++MB.numsOf (((⟨#[92]⟩:ByteArray)++y191)++y203):List Int)).bind fun y220=>((dn_value.l0 k10 (wrap64 (x7+1)) y220 a0))) else(none)) else(none))=some r:=by rw[hy203];exact HH.out
      replace HH:=za H
      clear H
      have hcty203:(⟨#[48,49,50,51,52,53,54,55,56,57,97,98,99,100,101,102]⟩:ByteArray).extract (Go.bits .and .u8 (bt a0 x7) 15).toNat (((Go.bits .and .u8 (bt a0 x7) 15)+1) % 256).toNat=y203:=hy203.symm
      have NYy203:=za hy203
      clear hy203
      have hmx202:max ((((Go.bits .and .u8 (bt a0 x7) 15)+1) % 256):Int) 0=((((Go.bits .and .u8 (bt a0 x7) 15)+1) % 256):Int):=Int.max_eq_left (Int.le_trans (by first|exact Int.natCast_nonneg _|exact(of_decide_eq_true (by first|(with_reducible assumption)|assumption|(simp;done)):0≤((Go.bits .and .u8 (bt a0 x7) 15):Int))) (by first|exact Int.le_refl _|exact(of_decide_eq_true (by first|(with_reducible assumption)|assumption|(simp;done)):((Go.bits .and .u8 (bt a0 x7) 15):Int)≤((((Go.bits .and .u8 (bt a0 x7) 15)+1) % 256):Int))))
      have hh0202:(0≤((((Go.bits .and .u8 (bt a0 x7) 15)+1) % 256):Int))=True:=eq_true (Int.le_trans (by first|exact Int.natCast_nonneg _|exact(of_decide_eq_true (by first|(with_reducible assumption)|assumption|(simp;done)):0≤((Go.bits .and .u8 (bt a0 x7) 15):Int))) (by first|exact Int.le_refl _|exact(of_decide_eq_true (by first|(with_reducible assumption)|assumption|(simp;done)):((Go.bits .and .u8 (bt a0 x7) 15):Int)≤((((Go.bits .and .u8 (bt a0 x7) 15)+1) % 256):Int))))
      have hh1202:(((Go.bits .and .u8 (bt a0 x7) 15):Int)≤((((Go.bits .and .u8 (bt a0 x7) 15)+1) % 256):Int))=True:=eq_true (by first|exact Int.le_refl _|exact(of_decide_eq_true (by first|(with_reducible assumption)|assumption|(simp;done)):((Go.bits .and .u8 (bt a0 x7) 15):Int)≤((((Go.bits .and .u8 (bt a0 x7) 15)+1) % 256):Int)))
      have hh2202:(0≤((Go.bits .and .u8 (bt a0 x7) 15):Int))=True:=eq_true (by first|exact Int.natCast_nonneg _|exact(of_decide_eq_true (by first|(with_reducible assumption)|assumption|(simp;done)):0≤((Go.bits .and .u8 (bt a0 x7) 15):Int)))
      have hh3202:(((((Go.bits .and .u8 (bt a0 x7) 15)+1) % 256):Int)≤16)=True:=eq_true (of_decide_eq_true (by first|(with_reducible assumption)|assumption|(simp;done)):((((Go.bits .and .u8 (bt a0 x7) 15)+1) % 256):Int)≤16)
      by_cases c204:((⟨#[92]⟩:ByteArray)++y191).size+y203.size≤9223372036854775807
      ·replace HH:=MW.hpos HH c204
       have hk205:(9223372036854775807<((⟨#[92]⟩:ByteArray)++y191).size+y203.size)=False:=eq_false (Nat.not_lt.2 c204)
       have hk206:(((⟨#[92]⟩:ByteArray)++y191).size+y203.size≤9223372036854775807)=True:=eq_true c204
       have hk207:decide (((⟨#[92]⟩:ByteArray)++y191).size+y203.size≤9223372036854775807)=true:=decide_eq_true c204
       try have hk208:(9223372036854775807<(1+y191.size)+y203.size)=False:=eq_false (Nat.not_lt.2 (show(1+y191.size)+y203.size≤9223372036854775807 from by have h_:=c204;simp only[ByteArray.size_append] at h_;exact h_))
       try have hk209:((1+y191.size)+y203.size≤9223372036854775807)=True:=eq_true (show(1+y191.size)+y203.size≤9223372036854775807 from by have h_:=c204;simp only[ByteArray.size_append] at h_;exact h_)
       try have hk210:decide ((1+y191.size)+y203.size≤9223372036854775807)=true:=decide_eq_true (show(1+y191.size)+y203.size≤9223372036854775807 from by have h_:=c204;simp only[ByteArray.size_append] at h_;exact h_)
       clear c204
       go_wp2
       have hwr_:∀ n_:Int,IntKind.i64.wrap n_=wrap64 n_:=fun n_=>IntWalk.i64_left n_
       have hw8_:∀ n_:Int,IntKind.u8.wrap n_=n_ % 256:=fun n_=>rfl
       go_still_tail 14,(by kernel_rfl)
       clear hwr_ hw8_
       change wpList _ _ _ _ _ w181.drew
       obtain⟨w211,hw_⟩:∃ w_:World,w_=w181.drew:=⟨_,rfl⟩
       rw[← hw_]
       have hb:Below w181.heap.size w181 w211:=by rw[hw_];exact below_drew1 (Below.refl _ _)
       clear hw_
       replace HN9:=znb HN9.out hb
       replace BKg1:=zbb BKg1.out hb
       replace HB:=zhb HB.out hb
       clear hb
       clear hmx190 hh0190 hh1190 hh2190 hh3190 hcty191 hmx202 hh0202 hh1202 hh2202 hh3202 hcty203
       replace cBKg1:=MB.lz2 BKg1.out
       go_wp2_with (((with_reducible refine gate_callee (f:=42) rfl ?_);(try(refine gate_guard (by rfl) ?_;dsimp only));refine goesL_ (some 73) rfl rfl Try.func42 (by kernel_rfl) rfl #[.pointer (some ⟨g1,0,none⟩),.string (((⟨#[92]⟩:ByteArray)++y191)++y203)] rfl (by(try simp only[List.map_toArray,List.map_cons,List.map_nil]);first|done|rfl) ?_);refine stop_ ?_)
       refine zg ?_
       go_enter Try.func42,Try.ntmps42
       obtain⟨A215,cp216,he_⟩:=Kd.N_slice HN9.out
       subst he_
       go_wp2_with (((with_reducible refine gc 51 rfl ?_);refine zc 51 (some 7) Try.func51 #[.pointer (some ⟨g1,0,none⟩)] (h:=?_);refine(copyCheck51 g1 74 (p6) [(.slice A215 x8.length cp216)] _ BKg1.out HPp6.out (by kernel_rfl)).mono ?_;rintro e w214 ⟨rfl,hbk,hg⟩;refine⟨_,rfl,?_⟩);replace hbk:=za hbk)
       refine zg ?_
       replace hbk:=hbk.out
       replace HN9:=za (Kd.N_grown (ok:=(fun k_=>(w.heap.size≤k_)∧k_≠g1)) HN9.out hg (fun k_ hk_ he_=>hk_.2 (Option.some.inj he_)))
       replace HB:=za (Below.grown HB.out hg (below_size HB.out) (fun k_ hk_=>by injection hk_ with hk_;rw[← hk_];exact GEg1.out))
       replace BKg1:=za hbk
       clear hg hbk
       replace cBKg1:=MB.lz2 BKg1.out
       obtain⟨HH,LMc219⟩:=zlm HH
       obtain⟨y220,hy220⟩:∃ y_:List Int,y_=(x8++MB.numsOf (((⟨#[92]⟩:ByteArray)++y191)++y203)):=⟨_,rfl⟩
       have H:((dn_value.l0 k10 (wrap64 (x7+1)) y220 a0))=some r:=by rw[hy220];exact HH.out
       replace HH:=za H
       clear H
       have NYy220:=za hy220
       clear hy220
       go_wp2_with (((with_reducible refine gate_dst (N:=14) rfl ?_);(try(refine gate_guard (by rfl) ?_;dsimp only));refine MB.N_append_str w.heap.size rfl _ _ 72 9 5 rfl Try.underlying72 Try.underlying9 info5 ((.slice A215 x8.length cp216)) x8 (((⟨#[92]⟩:ByteArray)++y191)++y203) (fun k_=>(w.heap.size≤k_)∧k_≠g1) rfl rfl HN9.out (fun k_ h_=>⟨(Nat.le_trans (below_size HB.out) h_),Kd.freshB (g:=g1) BKg1.out k_ h_⟩) HB.out (below_size HB.out) (by first|(have:=LMc219.out;simp only[List.length_nil] at *;omega)|(have:=LMc219.out;simp at *;omega)|(have:=LMc219.out;simp only[List.length_nil] at *;simp;omega)) ?_;intro v221 w222 hn1 hb1 hg1 hat1);replace hat1:=za hat1;refine stop_ ?_)
       refine zg ?_
       replace hat1:=hat1.out
       replace BKg1:=za (blk_grown (g:=g1) BKg1.out hg1 (Kd.N_away (ok:=(fun k_=>(w.heap.size≤k_)∧k_≠g1)) HN9.out (fun k_ hk_=>hk_.2)))
       replace HB:=za hb1
       clear HN9
       have HN223:=za hn1
       clear hn1 hb1 hg1 hat1
       replace HN223:=za (by rw[NYy220.out];exact HN223.out:Kd.N (Kd.int .u8) 5 w222 w.heap.size (fun k_=>(w.heap.size≤k_)∧k_≠g1) v221 y220)
       replace cBKg1:=MB.lz2 BKg1.out
       obtain⟨A227,cp228,he_⟩:=Kd.N_slice HN223.out
       subst he_
       go_wp2_with ((with_reducible refine gs 72 16 rfl ?_);refine zs 72 16 #[.pointer (some ⟨g1,0,none⟩),(.slice A227 y220.length cp228)] BKg1.out [(.slice A227 y220.length cp228)] (h:=?_);intro w226 hbk hg)
       refine zg ?_
       replace HN223:=zng HN223.out hg fun k_ hk_=>hk_.2
       replace HB:=zhg HB.out hg (below_size HB.out) GEg1
       replace BKg1:=hbk
       clear hg hbk
       replace cBKg1:=MB.lz2 BKg1.out
       go_wp2
       go_ret2
       refine⟨_,rfl,?_⟩
       go_wp2
       go_roundg k10
       case measure=>have:=HK0.out;omega
       case rel=>exact⟨wrap64 (x7+1),y220,(.slice A227 y220.length cp228),.pointer (some ⟨g1,0,none⟩),(by first|rfl|(simp;done)|(simp[*];done)),HH,⟨by have:=HK0.out;omega⟩,⟨(Kd.N_mono (ok:=(fun k_=>(w.heap.size≤k_)∧k_≠g1)) HN223.out (fun k_ hk_=>hk_))⟩,⟨(.inr rfl)⟩,⟨BKg1.out⟩,⟨HB.out⟩⟩
      exact absurd HH.out (by rw[if_neg c204];simp)
     exact absurd HH.out (by rw[if_neg c192];simp)
    go_wp2_with (((with_reducible refine gate_callee (f:=50) rfl ?_);(try(refine gate_guard (by rfl) ?_;dsimp only));refine goesL_ (some 38) rfl rfl Try.func50 (by kernel_rfl) rfl #[.pointer (some ⟨g1,0,none⟩),.int .u8 (bt a0 x7)] rfl (by(try simp only[List.map_toArray,List.map_cons,List.map_nil]);first|done|rfl) ?_);refine stop_ ?_)
    refine zg ?_
    go_enter Try.func50,Try.ntmps50
    obtain⟨A242,cp243,he_⟩:=Kd.N_slice HN9.out
    subst he_
    go_wp2_with (((with_reducible refine gc 51 rfl ?_);refine zc 51 (some 6) Try.func51 #[.pointer (some ⟨g1,0,none⟩)] (h:=?_);refine(copyCheck51 g1 74 (p6) [(.slice A242 x8.length cp243)] _ (by(with_reducible repeat(first|refine blk_drewN ?_ _|refine blk_drew ?_|refine blk_alloc ?_ _));exact BKg1.out) HPp6.out (by kernel_rfl)).mono ?_;rintro e w241 ⟨rfl,hbk,hg⟩;refine⟨_,rfl,?_⟩);replace hbk:=za hbk)
    refine zg ?_
    replace hbk:=hbk.out
    replace HN9:=za (Kd.N_grown (ok:=(fun k_=>(w.heap.size≤k_)∧k_≠g1)) (by(with_reducible repeat(first|apply Kd.N_alloc|apply Kd.N_drewN|apply Kd.N_drew));exact HN9.out) hg (fun k_ hk_ he_=>hk_.2 (Option.some.inj he_)))
    replace HB:=za (Below.grown (by repeat(first|(with_reducible first|exact HB.out|apply below_alloc|apply pw_below_drewN|apply below_drew1)|exact HB.out)) hg (below_size (by repeat(first|(with_reducible first|exact HB.out|apply below_alloc|apply pw_below_drewN|apply below_drew1)|exact HB.out))) (fun k_ hk_=>by injection hk_ with hk_;rw[← hk_];exact GEg1.out))
    replace BKg1:=za hbk
    clear hg hbk
    replace cBKg1:=MB.lz2 BKg1.out
    obtain⟨HH,LMc246⟩:=zlm HH
    obtain⟨y247,hy247⟩:∃ y_:List Int,y_=(x8++[bt a0 x7]):=⟨_,rfl⟩
    have H:((dn_value.l0 k10 (wrap64 (x7+1)) y247 a0))=some r:=by rw[hy247];exact HH.out
    replace HH:=za H
    clear H
    have NYy247:=za hy247
    clear hy247
    go_wp2_with (((with_reducible refine gate_dst (N:=14) rfl ?_);(try(refine gate_guard (by rfl) ?_;dsimp only));refine Kd.N_append (Kd.int .u8) w.heap.size rfl _ _ 72 5 (.int .u8 0) 1 rfl Try.underlying72 info5 rfl (by decide) (by decide) ((.slice A242 x8.length cp243)) x8 (bt a0 x7) [.int .u8 (bt a0 x7)] (fun k_=>(w.heap.size≤k_)∧k_≠g1) (fun k_=>(fun k_=>(w.heap.size≤k_)∧k_≠g1) k_∧some k_≠((.slice A242 x8.length cp243):Value).ownBlock) rfl rfl (fun _ _=>rfl) (fun _ hk_=>hk_) (fun k_ h_=>⟨(Nat.le_trans (below_size (by repeat(first|(with_reducible first|exact HB.out|apply below_alloc|apply pw_below_drewN|apply below_drew1)|exact HB.out))) h_),Kd.freshB (g:=g1) (o:=.cells #[.pointer (some ⟨g1,0,none⟩),(.slice A242 x8.length cp243)] 74 (0,0)) (by(with_reducible repeat(first|refine blk_drewN ?_ _|refine blk_drew ?_|refine blk_alloc ?_ _));exact BKg1.out) k_ h_⟩) (by(with_reducible repeat(first|apply Kd.N_alloc|apply Kd.N_drewN|apply Kd.N_drew));exact HN9.out) (by repeat(first|(with_reducible first|exact HB.out|apply below_alloc|apply pw_below_drewN|apply below_drew1)|exact HB.out)) (below_size (by repeat(first|(with_reducible first|exact HB.out|apply below_alloc|apply pw_below_drewN|apply below_drew1)|exact HB.out))) (by first|(have:=LMc246.out;omega)|(have:=LMc246.out;simp at *;omega)) ?_;intro v248 w249 hn1 hb1 hg1 hat1);replace hat1:=za hat1;refine stop_ ?_)
    refine zg ?_
    replace hat1:=hat1.out
    replace BKg1:=za (blk_grown (g:=g1) (o:=.cells #[.pointer (some ⟨g1,0,none⟩),(.slice A242 x8.length cp243)] 74 (0,0)) (by(with_reducible repeat(first|refine blk_drewN ?_ _|refine blk_drew ?_|refine blk_alloc ?_ _));exact BKg1.out) hg1 (Kd.N_away (ok:=(fun k_=>(w.heap.size≤k_)∧k_≠g1)) HN9.out (fun k_ hk_=>hk_.2)))
    replace HB:=za hb1
    clear HN9
    have HN250:=za hn1
    clear hn1 hb1 hg1 hat1
    replace HN250:=za (by rw[NYy247.out];exact HN250.out:Kd.N (Kd.int .u8) 5 w249 w.heap.size (fun k_=>(w.heap.size≤k_)∧k_≠g1) v248 y247)
    replace cBKg1:=MB.lz2 BKg1.out
    obtain⟨A254,cp255,he_⟩:=Kd.N_slice HN250.out
    subst he_
    go_wp2_with ((with_reducible refine gs 72 16 rfl ?_);refine zs 72 16 #[.pointer (some ⟨g1,0,none⟩),(.slice A254 y247.length cp255)] BKg1.out [(.slice A254 y247.length cp255)] (h:=?_);intro w253 hbk hg)
    refine zg ?_
    replace HN250:=zng HN250.out hg fun k_ hk_=>hk_.2
    replace HB:=zhg HB.out hg (below_size HB.out) GEg1
    replace BKg1:=hbk
    clear hg hbk
    replace cBKg1:=MB.lz2 BKg1.out
    go_wp2
    go_ret
    refine⟨_,rfl,?_⟩
    go_wp2
    go_roundg k10
    case measure=>have:=HK0.out;omega
    case rel=>exact⟨wrap64 (x7+1),y247,(.slice A254 y247.length cp255),.pointer (some ⟨g1,0,none⟩),(by first|rfl|(simp;done)|(simp[*];done)),HH,⟨by have:=HK0.out;omega⟩,⟨(Kd.N_mono (ok:=(fun k_=>(w.heap.size≤k_)∧k_≠g1)) HN250.out (fun k_ hk_=>hk_))⟩,⟨(.inr rfl)⟩,⟨BKg1.out⟩,⟨HB.out⟩⟩
   obtain⟨A261,cp262,he_⟩:=Kd.N_slice HN9.out
   subst he_
   go_wp2_with (((with_reducible refine gc 43 rfl ?_);refine zc 43 (some 74) Try.func43 #[.pointer (some ⟨g1,0,none⟩)] (h:=?_);refine(bString43 g1 74 (p6) ((.slice A261 x8.length cp262)) [] w.heap.size (fun k_=>(w.heap.size≤k_)∧k_≠g1) x8 _ BKg1.out HN9.out).mono ?_;rintro e w263 ⟨rfl,hg⟩;refine⟨_,rfl,?_⟩))
   refine zg ?_
   replace BKg1:=za (blk_grown (g:=g1) BKg1.out hg (Kd.N_away (ok:=(fun k_=>(w.heap.size≤k_)∧k_≠g1)) HN9.out (fun k_ hk_=>hk_.2)))
   replace HB:=za (Below.grown HB.out hg (below_size HB.out) (Kd.N_base HN9.out))
   clear hg HN9
   replace cBKg1:=MB.lz2 BKg1.out
   obtain rfl:=Option.some.inj HH.out
   clear HH
   go_wp2
   go_ret
   exact zfi HB.out
end Go.Proofs.Ytapinanmmhdpcaa.GA
