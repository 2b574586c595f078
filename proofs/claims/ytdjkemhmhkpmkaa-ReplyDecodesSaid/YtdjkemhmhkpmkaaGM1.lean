import Derived.Test.YtdjkemhmhkpmkaaGA0
import Derived.Test.YtdjkemhmhkpmkaaGAB
namespace Go.Proofs.Ytdjkemhmhkpmkaa.GA
open Go.RowKit Go.Proofs.Ytdjkemhmhkpmkaa Go.Proofs.Ytdjkemhmhkpmkaa.MW Go.Proofs.YtdjkemhmhkpmkaaW.PrintWords Go.Proofs.YtdjkemhmhkpmkaaW.PrintLast Go.Proofs.YtdjkemhmhkpmkaaW.PrintMore
attribute [local go_sem] max2_int min2_int max_two min_two
set_option maxHeartbeats 8000000
set_option maxRecDepth 100000
set_option linter.unusedVariables false
set_option linter.unusedSimpArgs false
def reply_wrong_1.f (a0:ByteArray):Option (Bool):=some (decide ((a0.size:Int)>400))
theorem reply_wrong_1.calls (a0:ByteArray) (r:Bool) (w:World) (h:reply_wrong_1.f a0=some r):
  Calls Try.prog 38 #[.string a0] w (fun e w'=>e=.returned (.bool r)∧Drawn0 w w'):=by
 unfold reply_wrong_1.f at h
 have HH:=za h
 clear h
 go_enter Try.func38,Try.ntmps38
 obtain rfl:=Option.some.inj HH.out
 clear HH
 go_wp2
 go_ret
 exact⟨by first|rfl|(simp;done)|(simp[*];done),by repeat(first|exact Drawn0.refl _|apply Drawn0.step)⟩

def dn_small.f (a0:Int):Option (Bool):=if a0≥97 then(some (decide (a0≤122))) else(some false)
theorem dn_small.calls (a0:Int) (r:Bool) (w:World) (h:dn_small.f a0=some r):
  Calls Try.prog 58 #[.int .u8 a0] w (fun e w'=>e=.returned (.bool r)∧Drawn0 w w'):=by
 unfold dn_small.f at h
 have HH:=za h
 clear h
 go_enter Try.func58,Try.ntmps58
 replace HH:=zqG HH
 rcases HH with⟨HH,hk2⟩|⟨HH,hk3⟩
 ·obtain rfl:=Option.some.inj HH.out
  clear HH
  go_wp2
  go_ret
  exact⟨by first|rfl|(simp;done)|(simp[*];done),by repeat(first|exact Drawn0.refl _|apply Drawn0.step)⟩
 obtain rfl:=Option.some.inj HH.out
 clear HH
 go_wp2
 go_ret
 exact⟨by first|rfl|(simp;done)|(simp[*];done),by repeat(first|exact Drawn0.refl _|apply Drawn0.step)⟩

def dn_Word.l0:Nat→Int→ByteArray→Option (Bool)
 |0,_,_=>none
 |k+1,x21,a0=>if x21<(a0.size:Int) then(if 0≤x21 then((dn_small.f (bt a0 x21)).bind fun t30=>(if t30=true then((dn_Word.l0 k (wrap64 (x21+1)) a0)) else(if (bt a0 x21)<48 then(if (bt a0 x21)=45 then((dn_Word.l0 k (wrap64 (x21+1)) a0)) else(some false)) else(if (bt a0 x21)>57 then(if (bt a0 x21)=45 then((dn_Word.l0 k (wrap64 (x21+1)) a0)) else(some false)) else((dn_Word.l0 k (wrap64 (x21+1)) a0)))))) else(none)) else(some true)
def dn_Word.f (k:Nat) (a0:ByteArray):Option (Bool):=if a0.toList=([]:List UInt8) then(some false) else(if (a0.size:Int)>16 then(some false) else(if 0<(a0.size:Int) then((dn_small.f (bt a0 0)).bind fun t17=>(if t17=true then((dn_Word.l0 k 1 a0)) else(some false))) else(none)))
theorem dn_Word.mono_l:∀ k,(∀ y0 y1,LeO (dn_Word.l0 k y0 y1) (dn_Word.l0 (k+1) y0 y1))
 |0=>fun _ _ r h=>by simp[dn_Word.l0] at h
 |k+1=>by
  have ih0:=dn_Word.mono_l k
  ·intro y0 y1
   unfold dn_Word.l0
   with_reducible repeat' first|exact ih0 _ _|exact LeO.refl _|exact LeO.none _|refine LeO.ite ?_ ?_|refine LeO.bind ?_ (fun _=>?_)
theorem dn_Word.mono:∀ a0_ k,LeO (dn_Word.f k a0_) (dn_Word.f (k+1) a0_):=by
 intro a0_ k
 have ih0:=dn_Word.mono_l k
 unfold dn_Word.f
 with_reducible repeat' first|exact ih0 _ _|exact LeO.refl _|exact LeO.none _|refine LeO.ite ?_ ?_|refine LeO.bind ?_ (fun _=>?_)
theorem dn_Word.calls (k:Nat) (a0:ByteArray) (r:Bool) (w:World) (h:dn_Word.f k a0=some r):
  Calls Try.prog 39 #[.string a0] w (fun e w'=>e=.returned (.bool r)∧Drawn0 w w'):=by
 unfold dn_Word.f at h
 have HH:=za h
 clear h
 go_enter Try.func39,Try.ntmps39
 replace HH:=zqe HH
 rcases HH with⟨HH,hk2,hk3⟩|⟨HH,hk4,hk5⟩
 ·obtain rfl:=Option.some.inj HH.out
  clear HH
  go_wp2
  go_ret
  exact⟨by first|rfl|(simp;done)|(simp[*];done),by repeat(first|exact Drawn0.refl _|apply Drawn0.step)⟩
 replace HH:=zqK 16 HH
 rcases HH with⟨HH,hk7,hk8⟩|⟨HH,hk9,hk10⟩
 ·obtain rfl:=Option.some.inj HH.out
  clear HH
  go_wp2
  go_ret
  exact⟨by first|rfl|(simp;done)|(simp[*];done),by repeat(first|exact Drawn0.refl _|apply Drawn0.step)⟩
 replace HH:=zqno 0 HH
 obtain⟨HH,hk12,hk13,hk14,hk15⟩:=HH
 have p16:0≤(0:Int):=(by omega)
 have q16:0<a0.size:=(by have:(0:Int)<(a0.size:Int):=of_decide_eq_true (by first|(with_reducible assumption)|assumption);omega)
 have hx16:∀ h:0<a0.size,((a0[0]'h).toNat:Int)=bt a0 0:=MW.bt_at' a0 0
 clear p16
 have qi16:(0<(a0.size:Int))=True:=eq_true (of_decide_eq_true (by first|(with_reducible assumption)|assumption))
 replace q16:=eq_true q16
 replace HH:=zd HH
 obtain⟨t17,At18,HH⟩:=HH
 go_wp2_with ((with_reducible refine gc 58 rfl ?_);refine zc 58 (some 15) Try.func58 #[.int .u8 (bt a0 0)] (h:=?_);(with_reducible refine(dn_small.calls  (bt a0 0) t17 _  At18.out).mono ?_);rintro e w' ⟨rfl,⟨nd,rfl⟩⟩;refine⟨_,rfl,?_⟩)
 refine zg ?_
 by_cases c20:t17=true
 ·replace HH:=MW.hpos HH c20
  subst c20
  go_wp2
  go_loopg [3] k (fun kq u3 w'=>∃ (x21:Int),u3=.int .i64 x21∧Aside0 ((dn_Word.l0 kq x21 a0)=some r)∧Aside0 (kq≤k)∧Drawn0 w w')
  case atStart=>exact⟨1,(by first|rfl|(simp;done)|(simp[*];done)),HH,⟨Nat.le_refl _⟩,by repeat(first|exact Drawn0.refl _|apply Drawn0.step)⟩
  case round=>
   clear hk4
   clear hk5
   clear hk9
   clear hk10
   clear hk12
   clear hk13
   clear hk14
   clear hk15
   clear qi16
   clear q16
   clear hx16
   clear HH
   obtain⟨x21,rfl,HA,HK0,⟨m0_,rfl⟩⟩:=hrel
   cases gk with
   |zero=>exact absurd HA.out (by simp[dn_Word.l0])
   |succ k22=>
    have H:=HA.out
    clear HA
    simp only[dn_Word.l0] at H
    have HH:=za H
    clear H
    replace HH:=zqt HH
    rcases HH with⟨HH,hk25,hk26⟩|⟨HH,hk53,hk54⟩
    ·replace HH:=zqdo HH
     obtain⟨HH,hk28⟩:=HH
     have p29:0≤(x21:Int):=of_decide_eq_true (by first|(with_reducible assumption)|assumption)
     have q29:x21<(a0.size:Int):=of_decide_eq_true (by first|(with_reducible assumption)|assumption)
     have hx29:=MW.bt_at' a0 x21
     replace p29:=eq_true p29
     replace q29:=eq_true q29
     replace HH:=zd HH
     obtain⟨t30,At31,HH⟩:=HH
     go_wp2_with ((with_reducible refine gc 58 rfl ?_);refine zc 58 (some 28) Try.func58 #[.int .u8 (bt a0 x21)] (h:=?_);(with_reducible refine(dn_small.calls  (bt a0 x21) t30 _  At31.out).mono ?_);rintro e w' ⟨rfl,⟨nd,rfl⟩⟩;refine⟨_,rfl,?_⟩)
     refine zg ?_
     by_cases c33:t30=true
     ·replace HH:=MW.hpos HH c33
      subst c33
      go_wp2
      go_roundg k22
      case measure=>have:=HK0.out;omega
      case rel=>exact⟨wrap64 (x21+1),(by first|rfl|(simp;done)|(simp[*];done)),HH,⟨by have:=HK0.out;omega⟩,by repeat(first|exact Drawn0.refl _|apply Drawn0.step)⟩
     replace HH:=MW.hneg HH c33
     replace c33:=Bool.eq_false_iff.mpr c33
     subst c33
     replace HH:=zqt HH
     rcases HH with⟨HH,hk35,hk36⟩|⟨HH,hk42,hk43⟩
     ·replace HH:=zqe HH
      rcases HH with⟨HH,hk38,hk39⟩|⟨HH,hk40,hk41⟩
      ·go_wp2
       go_roundg k22
       case measure=>have:=HK0.out;omega
       case rel=>exact⟨wrap64 (x21+1),(by first|rfl|(simp;done)|(simp[*];done)),HH,⟨by have:=HK0.out;omega⟩,by repeat(first|exact Drawn0.refl _|apply Drawn0.step)⟩
      obtain rfl:=Option.some.inj HH.out
      clear HH
      go_wp2
      go_ret
      exact⟨by first|rfl|(simp;done)|(simp[*];done),by repeat(first|exact Drawn0.refl _|apply Drawn0.step)⟩
     replace HH:=zqg HH
     rcases HH with⟨HH,hk45⟩|⟨HH,hk51⟩
     ·replace HH:=zqe HH
      rcases HH with⟨HH,hk47,hk48⟩|⟨HH,hk49,hk50⟩
      ·go_wp2
       go_roundg k22
       case measure=>have:=HK0.out;omega
       case rel=>exact⟨wrap64 (x21+1),(by first|rfl|(simp;done)|(simp[*];done)),HH,⟨by have:=HK0.out;omega⟩,by repeat(first|exact Drawn0.refl _|apply Drawn0.step)⟩
      obtain rfl:=Option.some.inj HH.out
      clear HH
      go_wp2
      go_ret
      exact⟨by first|rfl|(simp;done)|(simp[*];done),by repeat(first|exact Drawn0.refl _|apply Drawn0.step)⟩
     go_wp2
     go_roundg k22
     case measure=>have:=HK0.out;omega
     case rel=>exact⟨wrap64 (x21+1),(by first|rfl|(simp;done)|(simp[*];done)),HH,⟨by have:=HK0.out;omega⟩,by repeat(first|exact Drawn0.refl _|apply Drawn0.step)⟩
    obtain rfl:=Option.some.inj HH.out
    clear HH
    go_wp2
    go_ret
    exact⟨by first|rfl|(simp;done)|(simp[*];done),by repeat(first|exact Drawn0.refl _|apply Drawn0.step)⟩
 replace HH:=MW.hneg HH c20
 replace c20:=Bool.eq_false_iff.mpr c20
 subst c20
 obtain rfl:=Option.some.inj HH.out
 clear HH
 go_wp2
 go_ret
 exact⟨by first|rfl|(simp;done)|(simp[*];done),by repeat(first|exact Drawn0.refl _|apply Drawn0.step)⟩

def reply_wrong.l0:Nat→Int→(List ByteArray)→Option (Bool)
 |0,_,_=>none
 |k+1,x14,l0_1=>if x14<(l0_1.length:Int) then(if 0≤x14 then((reply_wrong_1.f (rdOf ByteArray.empty l0_1 x14)).bind fun t25=>(if t25=true then(some (decide (x14≥0))) else((reply_wrong.l0 k (wrap64 (x14+1)) l0_1)))) else(none)) else(some false)
def reply_wrong.f (k:Nat) (a0_0:ByteArray) (l0_1:List ByteArray):Option (Bool):=(dn_Word.f k a0_0).bind fun t5=>(if t5=true then(if (l0_1.length:Int)>8 then(some true) else((reply_wrong.l0 k 0 l0_1))) else(some true))
theorem reply_wrong.mono_l:∀ k,(∀ y0 y1,LeO (reply_wrong.l0 k y0 y1) (reply_wrong.l0 (k+1) y0 y1))
 |0=>fun _ _ r h=>by simp[reply_wrong.l0] at h
 |k+1=>by
  have ih0:=reply_wrong.mono_l k
  ·intro y0 y1
   unfold reply_wrong.l0
   with_reducible repeat' first|exact ih0 _ _|exact dn_Word.mono _ _|exact LeO.refl _|exact LeO.none _|refine LeO.ite ?_ ?_|refine LeO.bind ?_ (fun _=>?_)
theorem reply_wrong.mono:∀ a0_ a1_ k,LeO (reply_wrong.f k a0_ a1_) (reply_wrong.f (k+1) a0_ a1_):=by
 intro a0_ a1_ k
 have ih0:=reply_wrong.mono_l k
 unfold reply_wrong.f
 with_reducible repeat' first|exact ih0 _ _|exact dn_Word.mono _ _|exact LeO.refl _|exact LeO.none _|refine LeO.ite ?_ ?_|refine LeO.bind ?_ (fun _=>?_)
theorem reply_wrong.calls (k:Nat) (P_:Nat→Prop) (a0_0:ByteArray) (A0_1:Option Addr) (c0_1:Nat) (l0_1:List ByteArray) (r:Bool) (w:World) (hs0_1:Kd.F Kd.string w P_ A0_1 l0_1.length l0_1) (hc0_1:l0_1.length≤c0_1) (h:reply_wrong.f k a0_0 l0_1=some r):
  Calls Try.prog 21 #[.agg #[.string a0_0,.slice A0_1 l0_1.length c0_1]] w (fun e w'=>e=.returned (.bool r)∧Below w.heap.size w w'):=by
 unfold reply_wrong.f at h
 have HH:=za h
 clear h
 have HF0_1:=zfp hs0_1
 clear hs0_1 hc0_1
 have HB:=za (Below.refl w.heap.size w)
 have hu46:=Try.underlying46
 go_enter Try.func21,Try.ntmps21
 go_wp2_with ((with_reducible refine gd 1 rfl ?_);refine zb 1 46 #[.string a0_0,.slice A0_1 l0_1.length c0_1] (h:=?_);intro g1 hg w2 BKg1 hb)
 refine zg ?_
 replace HF0_1:=zfe HF0_1.out hg hb
 replace HB:=zhb HB.out hb
 clear hg hb
 replace cBKg1:=MB.lz2 BKg1.out
 replace HH:=zd HH
 obtain⟨t5,At6,HH⟩:=HH
 go_wp2_with ((with_reducible refine gc 39 rfl ?_);refine zc 39 (some 6) Try.func39 #[.string a0_0] (h:=?_);(with_reducible refine(dn_Word.calls k  a0_0 t5 _  At6.out).mono ?_);rintro e w' ⟨rfl,⟨nd,rfl⟩⟩;refine⟨_,rfl,?_⟩)
 refine zg ?_
 by_cases c8:t5=true
 ·replace HH:=MW.hpos HH c8
  subst c8
  replace HH:=zqK 8 HH
  rcases HH with⟨HH,hk10,hk11⟩|⟨HH,hk12,hk13⟩
  ·obtain rfl:=Option.some.inj HH.out
   clear HH
   go_wp2
   go_ret
   exact zfi (by repeat(first|(with_reducible first|exact HB.out|apply below_alloc|apply pw_below_drewN|apply below_drew1)|exact HB.out))
  go_wp2_with (((with_reducible refine gate_callee (f:=40) rfl ?_);(try(refine gate_guard (by rfl) ?_;dsimp only));refine goesL_ (some 18) rfl rfl Try.func40 (by kernel_rfl) rfl #[.slice A0_1 l0_1.length c0_1,.func (.func 38) #[] #[]] rfl (by(try simp only[List.map_toArray,List.map_cons,List.map_nil]);first|done|rfl) ?_);refine stop_ ?_)
  refine zg ?_
  go_enter Try.func40,Try.ntmps40
  go_wp2_with (((with_reducible refine gate_callee (f:=59) rfl ?_);(try(refine gate_guard (by rfl) ?_;dsimp only));refine goesL_ (some 7) rfl rfl Try.func59 (by kernel_rfl) rfl #[.slice A0_1 l0_1.length c0_1,.func (.func 38) #[] #[]] rfl (by(try simp only[List.map_toArray,List.map_cons,List.map_nil]);first|done|rfl) ?_);refine stop_ ?_)
  refine zg ?_
  go_enter Try.func59,Try.ntmps59
  go_wp2
  go_loopg [8] k (fun kq u8 w'=>∃ (x14:Int),u8=.int .i64 x14∧Aside0 ((reply_wrong.l0 kq x14 l0_1)=some r)∧Aside0 (kq≤k)∧Aside0 (Kd.F Kd.string w' (fun k_=>(P_ k_∨w.heap.size≤k_)∧k_≠g1) A0_1 l0_1.length l0_1)∧Aside0 (w'.heap[g1]? =some (.cells #[.string a0_0,.slice A0_1 l0_1.length c0_1] 46 (0,0)))∧Aside0 (Below w.heap.size w w'))
  case atStart=>exact⟨0,(by first|rfl|(simp;done)|(simp[*];done)),HH,⟨Nat.le_refl _⟩,⟨(by(with_reducible repeat(first|apply Kd.F_alloc|apply Kd.F_drewN|apply Kd.F_drew));exact HF0_1.out)⟩,⟨(by(with_reducible repeat(first|refine blk_drewN ?_ _|refine blk_drew ?_|refine blk_alloc ?_ _));exact BKg1.out)⟩,⟨(by repeat(first|(with_reducible first|exact HB.out|apply below_alloc|apply pw_below_drewN|apply below_drew1)|exact HB.out))⟩⟩
  case round=>
   clear hk12
   clear hk13
   clear HH
   clear HF0_1 BKg1 HB
   obtain⟨x14,rfl,HA,HK0,HF0_1,BKg1,HB⟩:=hrel
   obtain⟨w16,rfl⟩:∃ wo_:World,wo_=wr:=⟨_,rfl⟩
   cases gk with
   |zero=>exact absurd HA.out (by simp[reply_wrong.l0])
   |succ k15=>
    have H:=HA.out
    clear HA
    simp only[reply_wrong.l0] at H
    have HH:=za H
    clear H
    replace cBKg1:=MB.lz2 BKg1.out
    replace HH:=zqt HH
    rcases HH with⟨HH,hk20,hk21⟩|⟨HH,hk30,hk31⟩
    ·replace HH:=zqdo HH
     obtain⟨HH,hk23⟩:=HH
     have p24:0≤(x14:Int):=of_decide_eq_true (by first|(with_reducible assumption)|assumption)
     have q24:x14<(l0_1.length:Int):=of_decide_eq_true (by first|(with_reducible assumption)|assumption)
     obtain⟨ad24,e24,hx24_0⟩:=Kd.at_string (Kd.F_now HF0_1.out) x14 p24 q24
     cases e24
     replace p24:=eq_true p24
     replace q24:=eq_true q24
     replace HH:=zd HH
     obtain⟨t25,At26,HH⟩:=HH
     go_wp2_with ((with_reducible refine gd 16 rfl ?_);refine zv 16 Try.func38 #[.string (rdOf ByteArray.empty l0_1 x14)] #[] (h:=?_);(with_reducible refine(reply_wrong_1.calls  (rdOf ByteArray.empty l0_1 x14) t25 _  At26.out).mono ?_);rintro e w' ⟨rfl,⟨nd,rfl⟩⟩;refine⟨_,rfl,?_⟩)
     refine zg ?_
     by_cases c28:t25=true
     ·replace HH:=MW.hpos HH c28
      subst c28
      go_wp2
      go_ret
      refine⟨_,rfl,?_⟩
      go_wp2
      go_ret
      refine⟨_,rfl,?_⟩
      obtain rfl:=Option.some.inj HH.out
      clear HH
      go_wp2
      go_ret
      exact zfi (by repeat(first|(with_reducible first|exact HB.out|apply below_alloc|apply pw_below_drewN|apply below_drew1)|exact HB.out))
     replace HH:=MW.hneg HH c28
     replace c28:=Bool.eq_false_iff.mpr c28
     subst c28
     go_wp2
     go_roundg k15
     case measure=>have:=HK0.out;omega
     case rel=>exact⟨wrap64 (x14+1),(by first|rfl|(simp;done)|(simp[*];done)),HH,⟨by have:=HK0.out;omega⟩,⟨(by(with_reducible repeat(first|apply Kd.F_alloc|apply Kd.F_drewN|apply Kd.F_drew));exact HF0_1.out)⟩,⟨(by(with_reducible repeat(first|refine blk_drewN ?_ _|refine blk_drew ?_|refine blk_alloc ?_ _));exact BKg1.out)⟩,⟨(by repeat(first|(with_reducible first|exact HB.out|apply below_alloc|apply pw_below_drewN|apply below_drew1)|exact HB.out))⟩⟩
    go_wp2
    go_ret
    refine⟨_,rfl,?_⟩
    go_wp2
    go_ret
    refine⟨_,rfl,?_⟩
    obtain rfl:=Option.some.inj HH.out
    clear HH
    go_wp2
    go_ret
    exact zfi HB.out
 replace HH:=MW.hneg HH c8
 replace c8:=Bool.eq_false_iff.mpr c8
 subst c8
 obtain rfl:=Option.some.inj HH.out
 clear HH
 go_wp2
 go_ret
 exact zfi (by repeat(first|(with_reducible first|exact HB.out|apply below_alloc|apply pw_below_drewN|apply below_drew1)|exact HB.out))

def reply_tag.f (a0:Int):Option (Int):=if a0=1 then(some 1) else(if a0=3 then(some 5) else(if a0=4 then(some 7) else(if a0=5 then(some 9) else(if a0=6 then(some 11) else(if a0=7 then(some 13) else(if a0=8 then(some 15) else(if a0=10 then(some 24) else(some (-1)))))))))
theorem reply_tag.calls (a0:Int) (r:Int) (w:World) (h:reply_tag.f a0=some r):
  Calls Try.prog 22 #[.int .i64 a0] w (fun e w'=>e=.returned (.int .i64 r)∧Drawn0 w w'):=by
 unfold reply_tag.f at h
 have HH:=za h
 clear h
 go_enter Try.func22,Try.ntmps22
 replace HH:=zqe HH
 rcases HH with⟨HH,hk2,hk3⟩|⟨HH,hk4,hk5⟩
 ·obtain rfl:=Option.some.inj HH.out
  clear HH
  go_wp2
  go_ret
  exact⟨by first|rfl|(simp;done)|(simp[*];done),by repeat(first|exact Drawn0.refl _|apply Drawn0.step)⟩
 replace HH:=zqe HH
 rcases HH with⟨HH,hk7,hk8⟩|⟨HH,hk9,hk10⟩
 ·obtain rfl:=Option.some.inj HH.out
  clear HH
  go_wp2
  go_ret
  exact⟨by first|rfl|(simp;done)|(simp[*];done),by repeat(first|exact Drawn0.refl _|apply Drawn0.step)⟩
 replace HH:=zqe HH
 rcases HH with⟨HH,hk12,hk13⟩|⟨HH,hk14,hk15⟩
 ·obtain rfl:=Option.some.inj HH.out
  clear HH
  go_wp2
  go_ret
  exact⟨by first|rfl|(simp;done)|(simp[*];done),by repeat(first|exact Drawn0.refl _|apply Drawn0.step)⟩
 replace HH:=zqe HH
 rcases HH with⟨HH,hk17,hk18⟩|⟨HH,hk19,hk20⟩
 ·obtain rfl:=Option.some.inj HH.out
  clear HH
  go_wp2
  go_ret
  exact⟨by first|rfl|(simp;done)|(simp[*];done),by repeat(first|exact Drawn0.refl _|apply Drawn0.step)⟩
 replace HH:=zqe HH
 rcases HH with⟨HH,hk22,hk23⟩|⟨HH,hk24,hk25⟩
 ·obtain rfl:=Option.some.inj HH.out
  clear HH
  go_wp2
  go_ret
  exact⟨by first|rfl|(simp;done)|(simp[*];done),by repeat(first|exact Drawn0.refl _|apply Drawn0.step)⟩
 replace HH:=zqe HH
 rcases HH with⟨HH,hk27,hk28⟩|⟨HH,hk29,hk30⟩
 ·obtain rfl:=Option.some.inj HH.out
  clear HH
  go_wp2
  go_ret
  exact⟨by first|rfl|(simp;done)|(simp[*];done),by repeat(first|exact Drawn0.refl _|apply Drawn0.step)⟩
 replace HH:=zqe HH
 rcases HH with⟨HH,hk32,hk33⟩|⟨HH,hk34,hk35⟩
 ·obtain rfl:=Option.some.inj HH.out
  clear HH
  go_wp2
  go_ret
  exact⟨by first|rfl|(simp;done)|(simp[*];done),by repeat(first|exact Drawn0.refl _|apply Drawn0.step)⟩
 replace HH:=zqe HH
 rcases HH with⟨HH,hk37,hk38⟩|⟨HH,hk39,hk40⟩
 ·obtain rfl:=Option.some.inj HH.out
  clear HH
  go_wp2
  go_ret
  exact⟨by first|rfl|(simp;done)|(simp[*];done),by repeat(first|exact Drawn0.refl _|apply Drawn0.step)⟩
 obtain rfl:=Option.some.inj HH.out
 clear HH
 go_wp2
 go_ret
 exact⟨by first|rfl|(simp;done)|(simp[*];done),by repeat(first|exact Drawn0.refl _|apply Drawn0.step)⟩

def reply_Check.l0:Nat→Int→(List (S46))→Option (Int)
 |0,_,_=>none
 |k+1,x35,l0_7=>if x35<(l0_7.length:Int) then(if 0≤x35 then((reply_wrong.f k ((rd_T46 l0_7 x35).f0) ((rd_T46 l0_7 x35).f1)).bind fun t52=>(if t52=true then(some 270) else((reply_Check.l0 k (wrap64 (x35+1)) l0_7)))) else(none)) else(some 0)
def reply_Check.f (k:Nat) (a0_0:Int) (a0_1:Int) (a0_2:Bool) (a0_3:Int) (a0_4:ByteArray) (a0_5:ByteArray) (a0_6:ByteArray) (l0_7:List (S46)):Option (Int):=if a0_0≥0 then(if a0_2=true then(if a0_0≤2147483647 then(if a0_1=3 then(if a0_3=0 then(if a0_4.size+a0_5.size≤9223372036854775807 then(if (a0_4++a0_5).toList=([]:List UInt8) then(if (a0_6.size:Int)≤3000 then(if (l0_7.length:Int)≤24 then((reply_Check.l0 k 0 l0_7)) else(some 270)) else(some 270)) else(some 270)) else(none)) else(some 270)) else(some 270)) else(some 270)) else(if a0_0≤2147483647 then((reply_tag.f a0_1).bind fun t81=>(if t81>0 then(if a0_3≥0 then(if a0_3≤127 then(if (a0_4.size:Int)≤3000 then(if (a0_5.size:Int)≤200 then(if (l0_7.length:Int)=0 then(if a0_6.toList=([]:List UInt8) then(some 0) else(if a0_1=10 then(if (a0_6.size:Int)≤100 then(some 0) else(some 270)) else(some 270))) else(some 270)) else(some 270)) else(some 270)) else(some 270)) else(some 270)) else(some 270))) else(some 270))) else(if a0_2=true then(some 270) else(some 270))
theorem reply_Check.mono_l:∀ k,(∀ y0 y1,LeO (reply_Check.l0 k y0 y1) (reply_Check.l0 (k+1) y0 y1))
 |0=>fun _ _ r h=>by simp[reply_Check.l0] at h
 |k+1=>by
  have ih0:=reply_Check.mono_l k
  ·intro y0 y1
   unfold reply_Check.l0
   with_reducible repeat' first|exact ih0 _ _|exact reply_wrong.mono _ _ _|exact LeO.refl _|exact LeO.none _|refine LeO.ite ?_ ?_|refine LeO.bind ?_ (fun _=>?_)
theorem reply_Check.mono:∀ a0_ a1_ a2_ a3_ a4_ a5_ a6_ a7_ k,LeO (reply_Check.f k a0_ a1_ a2_ a3_ a4_ a5_ a6_ a7_) (reply_Check.f (k+1) a0_ a1_ a2_ a3_ a4_ a5_ a6_ a7_):=by
 intro a0_ a1_ a2_ a3_ a4_ a5_ a6_ a7_ k
 have ih0:=reply_Check.mono_l k
 unfold reply_Check.f
 with_reducible repeat' first|exact ih0 _ _|exact reply_wrong.mono _ _ _|exact LeO.refl _|exact LeO.none _|refine LeO.ite ?_ ?_|refine LeO.bind ?_ (fun _=>?_)
theorem reply_Check.calls (k:Nat) (P_:Nat→Prop) (a0_0:Int) (a0_1:Int) (a0_2:Bool) (a0_3:Int) (a0_4:ByteArray) (a0_5:ByteArray) (a0_6:ByteArray) (A0_7:Option Addr) (c0_7:Nat) (l0_7:List (S46)) (r:Int) (w:World) (hs0_7:Kd.F k46 w P_ A0_7 l0_7.length l0_7) (hc0_7:l0_7.length≤c0_7) (h:reply_Check.f k a0_0 a0_1 a0_2 a0_3 a0_4 a0_5 a0_6 l0_7=some r):
  Calls Try.prog 10 #[.agg #[.int .i64 a0_0,.int .i64 a0_1,.bool a0_2,.int .i64 a0_3,.string a0_4,.string a0_5,.string a0_6,.slice A0_7 l0_7.length c0_7]] w (fun e w'=>e=.returned (.int .i64 r)∧Below w.heap.size w w'):=by
 unfold reply_Check.f at h
 have HH:=za h
 clear h
 have HF0_7:=zfp hs0_7
 clear hs0_7 hc0_7
 have HB:=za (Below.refl w.heap.size w)
 have hu27:=Try.underlying27
 go_enter Try.func10,Try.ntmps10
 go_wp2_with ((with_reducible refine gd 1 rfl ?_);refine zb 1 27 #[.int .i64 a0_0,.int .i64 a0_1,.bool a0_2,.int .i64 a0_3,.string a0_4,.string a0_5,.string a0_6,.slice A0_7 l0_7.length c0_7] (h:=?_);intro g1 hg w2 BKg1 hb)
 refine zg ?_
 replace HF0_7:=zfe HF0_7.out hg hb
 replace HB:=zhb HB.out hb
 clear hg hb
 replace cBKg1:=MB.lz8 BKg1.out
 replace HH:=zqG HH
 rcases HH with⟨HH,hk12⟩|⟨HH,hk125⟩
 ·by_cases c13:a0_2=true
  ·replace HH:=MW.hpos HH c13
   subst c13
   replace HH:=zqd HH
   rcases HH with⟨HH,hk15⟩|⟨HH,hk78⟩
   ·replace HH:=zqe HH
    rcases HH with⟨HH,hk17,hk18⟩|⟨HH,hk76,hk77⟩
    ·replace HH:=zqe HH
     rcases HH with⟨HH,hk20,hk21⟩|⟨HH,hk74,hk75⟩
     ·by_cases c22:a0_4.size+a0_5.size≤9223372036854775807
      ·replace HH:=MW.hpos HH c22
       have hk23:(9223372036854775807<a0_4.size+a0_5.size)=False:=eq_false (Nat.not_lt.2 c22)
       have hk24:(a0_4.size+a0_5.size≤9223372036854775807)=True:=eq_true c22
       have hk25:decide (a0_4.size+a0_5.size≤9223372036854775807)=true:=decide_eq_true c22
       clear c22
       replace HH:=zqe HH
       rcases HH with⟨HH,hk27,hk28⟩|⟨HH,hk71,hk72⟩
       ·replace HH:=zqL 3000 HH
        rcases HH with⟨HH,hk30,hk31⟩|⟨HH,hk69,hk70⟩
        ·replace HH:=zqL 24 HH
         rcases HH with⟨HH,hk33,hk34⟩|⟨HH,hk67,hk68⟩
         ·go_wp2_with (((with_reducible refine gate_callee (f:=20) rfl ?_);(try(refine gate_guard (by rfl) ?_;dsimp only));refine goesL_ (some 48) rfl rfl Try.func20 (by kernel_rfl) rfl #[.slice A0_7 l0_7.length c0_7,.func (.func 21) #[] #[]] rfl (by(try simp only[List.map_toArray,List.map_cons,List.map_nil]);first|done|rfl) ?_);refine stop_ ?_)
          refine zg ?_
          go_enter Try.func20,Try.ntmps20
          go_wp2_with (((with_reducible refine gate_callee (f:=37) rfl ?_);(try(refine gate_guard (by rfl) ?_;dsimp only));refine goesL_ (some 7) rfl rfl Try.func37 (by kernel_rfl) rfl #[.slice A0_7 l0_7.length c0_7,.func (.func 21) #[] #[]] rfl (by(try simp only[List.map_toArray,List.map_cons,List.map_nil]);first|done|rfl) ?_);refine stop_ ?_)
          refine zg ?_
          go_enter Try.func37,Try.ntmps37
          go_wp2
          go_loopg [8] k (fun kq u8 w'=>∃ (x35:Int),u8=.int .i64 x35∧Aside0 ((reply_Check.l0 kq x35 l0_7)=some r)∧Aside0 (kq≤k)∧Aside0 (Kd.F k46 w' (fun k_=>(P_ k_∨w.heap.size≤k_)∧k_≠g1) A0_7 l0_7.length l0_7)∧Aside0 (w'.heap[g1]? =some (.cells #[.int .i64 a0_0,.int .i64 a0_1,.bool true,.int .i64 a0_3,.string a0_4,.string a0_5,.string a0_6,.slice A0_7 l0_7.length c0_7] 27 (0,0)))∧Aside0 (Below w.heap.size w w'))
          case atStart=>exact⟨0,(by first|rfl|(simp;done)|(simp[*];done)),HH,⟨Nat.le_refl _⟩,⟨HF0_7.out⟩,⟨BKg1.out⟩,⟨HB.out⟩⟩
          case round=>
           clear hk12
           clear hk15
           clear hk17
           clear hk18
           clear hk20
           clear hk21
           clear hk23
           clear hk24
           clear hk25
           clear hk27
           clear hk28
           clear hk30
           clear hk31
           clear hk33
           clear hk34
           clear HH
           clear HF0_7 BKg1 HB
           obtain⟨x35,rfl,HA,HK0,HF0_7,BKg1,HB⟩:=hrel
           obtain⟨w37,rfl⟩:∃ wo_:World,wo_=wr:=⟨_,rfl⟩
           cases gk with
           |zero=>exact absurd HA.out (by simp[reply_Check.l0])
           |succ k36=>
            have H:=HA.out
            clear HA
            simp only[reply_Check.l0] at H
            have HH:=za H
            clear H
            replace cBKg1:=MB.lz8 BKg1.out
            replace HH:=zqt HH
            rcases HH with⟨HH,hk47,hk48⟩|⟨HH,hk65,hk66⟩
            ·replace HH:=zqdo HH
             obtain⟨HH,hk50⟩:=HH
             have p51:0≤(x35:Int):=of_decide_eq_true (by first|(with_reducible assumption)|assumption)
             have q51:x35<(l0_7.length:Int):=of_decide_eq_true (by first|(with_reducible assumption)|assumption)
             obtain⟨ad51,A51_1,c51_1,e51,hx51_0,hx51_1,hl51_1,hi51_1⟩:=atF_T46 HF0_7.out x35 p51 q51
             cases e51
             have HF51_1:=za hi51_1
             have HL51_1:=za hl51_1
             clear hi51_1 hl51_1
             replace p51:=eq_true p51
             replace q51:=eq_true q51
             replace HH:=zd HH
             obtain⟨t52,At53,HH⟩:=HH
             go_wp2_with ((with_reducible refine gd 16 rfl ?_);refine zv 16 Try.func21 #[.agg #[.string ((rd_T46 l0_7 x35).f0),.slice A51_1 ((rd_T46 l0_7 x35).f1).length c51_1]] #[] (h:=?_);(with_reducible refine(reply_wrong.calls k36 (fun k_=>(P_ k_∨w.heap.size≤k_)∧k_≠g1) ((rd_T46 l0_7 x35).f0) _ _ ((rd_T46 l0_7 x35).f1) t52 _ HF51_1.out HL51_1.out At53.out).mono ?_);rintro e w54 ⟨rfl,hb⟩;refine⟨_,rfl,?_⟩)
             refine zg ?_
             replace HF0_7:=zfb HF0_7.out hb
             replace BKg1:=zbb BKg1.out hb
             replace HB:=zhb HB.out hb
             clear hb
             clear hx51_0 hx51_1 p51 q51
             replace cBKg1:=MB.lz8 BKg1.out
             by_cases c63:t52=true
             ·replace HH:=MW.hpos HH c63
              subst c63
              go_wp2
              go_ret
              refine⟨_,rfl,?_⟩
              go_wp2
              go_ret
              refine⟨_,rfl,?_⟩
              obtain rfl:=Option.some.inj HH.out
              clear HH
              go_wp2
              go_ret
              exact zfi HB.out
             replace HH:=MW.hneg HH c63
             replace c63:=Bool.eq_false_iff.mpr c63
             subst c63
             go_wp2
             go_roundg k36
             case measure=>have:=HK0.out;omega
             case rel=>exact⟨wrap64 (x35+1),(by first|rfl|(simp;done)|(simp[*];done)),HH,⟨by have:=HK0.out;omega⟩,⟨HF0_7.out⟩,⟨BKg1.out⟩,⟨HB.out⟩⟩
            go_wp2
            go_ret
            refine⟨_,rfl,?_⟩
            go_wp2
            go_ret
            refine⟨_,rfl,?_⟩
            obtain rfl:=Option.some.inj HH.out
            clear HH
            go_wp2
            go_ret
            exact zfi HB.out
         obtain rfl:=Option.some.inj HH.out
         clear HH
         go_wp2
         go_ret
         exact zfi HB.out
        obtain rfl:=Option.some.inj HH.out
        clear HH
        go_wp2
        go_ret
        exact zfi HB.out
       obtain rfl:=Option.some.inj HH.out
       clear HH
       go_wp2
       go_ret
       exact zfi HB.out
      exact absurd HH.out (by rw[if_neg c22];simp)
     obtain rfl:=Option.some.inj HH.out
     clear HH
     go_wp2
     go_ret
     exact zfi HB.out
    obtain rfl:=Option.some.inj HH.out
    clear HH
    go_wp2
    go_ret
    exact zfi HB.out
   obtain rfl:=Option.some.inj HH.out
   clear HH
   go_wp2
   go_ret
   exact zfi HB.out
  replace HH:=MW.hneg HH c13
  replace c13:=Bool.eq_false_iff.mpr c13
  subst c13
  replace HH:=zqd HH
  rcases HH with⟨HH,hk80⟩|⟨HH,hk124⟩
  ·replace HH:=zd HH
   obtain⟨t81,At82,HH⟩:=HH
   go_wp2_with ((with_reducible refine gc 22 rfl ?_);refine zc 22 (some 55) Try.func22 #[.int .i64 a0_1] (h:=?_);(with_reducible refine(reply_tag.calls  a0_1 t81 _  At82.out).mono ?_);rintro e w' ⟨rfl,⟨nd,rfl⟩⟩;refine⟨_,rfl,?_⟩)
   refine zg ?_
   replace HH:=zqg HH
   rcases HH with⟨HH,hk85⟩|⟨HH,hk123⟩
   ·replace HH:=zqG HH
    rcases HH with⟨HH,hk87⟩|⟨HH,hk122⟩
    ·replace HH:=zqd HH
     rcases HH with⟨HH,hk89⟩|⟨HH,hk121⟩
     ·replace HH:=zqL 3000 HH
      rcases HH with⟨HH,hk91,hk92⟩|⟨HH,hk119,hk120⟩
      ·replace HH:=zqL 200 HH
       rcases HH with⟨HH,hk94,hk95⟩|⟨HH,hk117,hk118⟩
       ·by_cases c96:(l0_7.length:Int)=0
        ·replace HH:=MW.hpos HH c96
         have hk97:((l0_7.length:Int)==0)=true:=beq_iff_eq.mpr c96
         have hk98:((l0_7.length:Int) != 0)=false:=bne_eq_false_iff_eq.mpr c96
         clear c96
         replace HH:=zqe HH
         rcases HH with⟨HH,hk100,hk101⟩|⟨HH,hk102,hk103⟩
         ·obtain rfl:=Option.some.inj HH.out
          clear HH
          go_wp2
          go_ret
          exact zfi (by repeat(first|(with_reducible first|exact HB.out|apply below_alloc|apply pw_below_drewN|apply below_drew1)|exact HB.out))
         replace HH:=zqe HH
         rcases HH with⟨HH,hk105,hk106⟩|⟨HH,hk112,hk113⟩
         ·replace HH:=zqL 100 HH
          rcases HH with⟨HH,hk108,hk109⟩|⟨HH,hk110,hk111⟩
          ·obtain rfl:=Option.some.inj HH.out
           clear HH
           go_wp2
           go_ret
           exact zfi (by repeat(first|(with_reducible first|exact HB.out|apply below_alloc|apply pw_below_drewN|apply below_drew1)|exact HB.out))
          obtain rfl:=Option.some.inj HH.out
          clear HH
          go_wp2
          go_ret
          exact zfi (by repeat(first|(with_reducible first|exact HB.out|apply below_alloc|apply pw_below_drewN|apply below_drew1)|exact HB.out))
         obtain rfl:=Option.some.inj HH.out
         clear HH
         go_wp2
         go_ret
         exact zfi (by repeat(first|(with_reducible first|exact HB.out|apply below_alloc|apply pw_below_drewN|apply below_drew1)|exact HB.out))
        replace HH:=MW.hneg HH c96
        have hk114:((l0_7.length:Int)==0)=false:=beq_eq_false_iff_ne.mpr c96
        have hk115:((l0_7.length:Int) != 0)=true:=bne_iff_ne.mpr c96
        have hk116: ¬ (l0_7=[]):=fun h_=>c96 (by rw[h_];rfl)
        clear c96
        obtain rfl:=Option.some.inj HH.out
        clear HH
        go_wp2
        go_ret
        exact zfi (by repeat(first|(with_reducible first|exact HB.out|apply below_alloc|apply pw_below_drewN|apply below_drew1)|exact HB.out))
       obtain rfl:=Option.some.inj HH.out
       clear HH
       go_wp2
       go_ret
       exact zfi (by repeat(first|(with_reducible first|exact HB.out|apply below_alloc|apply pw_below_drewN|apply below_drew1)|exact HB.out))
      obtain rfl:=Option.some.inj HH.out
      clear HH
      go_wp2
      go_ret
      exact zfi (by repeat(first|(with_reducible first|exact HB.out|apply below_alloc|apply pw_below_drewN|apply below_drew1)|exact HB.out))
     obtain rfl:=Option.some.inj HH.out
     clear HH
     go_wp2
     go_ret
     exact zfi (by repeat(first|(with_reducible first|exact HB.out|apply below_alloc|apply pw_below_drewN|apply below_drew1)|exact HB.out))
    obtain rfl:=Option.some.inj HH.out
    clear HH
    go_wp2
    go_ret
    exact zfi (by repeat(first|(with_reducible first|exact HB.out|apply below_alloc|apply pw_below_drewN|apply below_drew1)|exact HB.out))
   obtain rfl:=Option.some.inj HH.out
   clear HH
   go_wp2
   go_ret
   exact zfi (by repeat(first|(with_reducible first|exact HB.out|apply below_alloc|apply pw_below_drewN|apply below_drew1)|exact HB.out))
  obtain rfl:=Option.some.inj HH.out
  clear HH
  go_wp2
  go_ret
  exact zfi HB.out
 by_cases c126:a0_2=true
 ·replace HH:=MW.hpos HH c126
  subst c126
  obtain rfl:=Option.some.inj HH.out
  clear HH
  go_wp2
  go_ret
  exact zfi HB.out
 replace HH:=MW.hneg HH c126
 replace c126:=Bool.eq_false_iff.mpr c126
 subst c126
 obtain rfl:=Option.some.inj HH.out
 clear HH
 go_wp2
 go_ret
 exact zfi HB.out

def toponymref18_Word.l0:Nat→Int→ByteArray→Option (Bool)
 |0,_,_=>none
 |k+1,x13,a0=>if x13<(a0.size:Int) then(if 0≤x13 then(if (bt a0 x13)≥97 then(if (bt a0 x13)≥48 then(if (bt a0 x13)≤57 then(if (bt a0 x13)≤122 then((toponymref18_Word.l0 k (wrap64 (x13+1)) a0)) else(if x13=0 then(some false) else((toponymref18_Word.l0 k (wrap64 (x13+1)) a0)))) else(if (bt a0 x13)≤122 then((toponymref18_Word.l0 k (wrap64 (x13+1)) a0)) else(if x13=0 then(some false) else(if (bt a0 x13)=45 then((toponymref18_Word.l0 k (wrap64 (x13+1)) a0)) else(some false))))) else(if (bt a0 x13)≤122 then((toponymref18_Word.l0 k (wrap64 (x13+1)) a0)) else(if x13=0 then(some false) else(if (bt a0 x13)=45 then((toponymref18_Word.l0 k (wrap64 (x13+1)) a0)) else(some false))))) else(if (bt a0 x13)≥48 then(if (bt a0 x13)≤57 then(if x13=0 then(some false) else((toponymref18_Word.l0 k (wrap64 (x13+1)) a0))) else(if x13=0 then(some false) else(if (bt a0 x13)=45 then((toponymref18_Word.l0 k (wrap64 (x13+1)) a0)) else(some false)))) else(if x13=0 then(some false) else(if (bt a0 x13)=45 then((toponymref18_Word.l0 k (wrap64 (x13+1)) a0)) else(some false))))) else(none)) else(some true)
def toponymref18_Word.f (k:Nat) (a0:ByteArray):Option (Bool):=if (a0.size:Int)<1 then(some false) else(if (a0.size:Int)>16 then(some false) else((toponymref18_Word.l0 k 0 a0)))
theorem toponymref18_Word.mono_l:∀ k,(∀ y0 y1,LeO (toponymref18_Word.l0 k y0 y1) (toponymref18_Word.l0 (k+1) y0 y1))
 |0=>fun _ _ r h=>by simp[toponymref18_Word.l0] at h
 |k+1=>by
  have ih0:=toponymref18_Word.mono_l k
  ·intro y0 y1
   unfold toponymref18_Word.l0
   with_reducible repeat' first|exact ih0 _ _|exact LeO.refl _|exact LeO.none _|refine LeO.ite ?_ ?_|refine LeO.bind ?_ (fun _=>?_)
theorem toponymref18_Word.mono:∀ a0_ k,LeO (toponymref18_Word.f k a0_) (toponymref18_Word.f (k+1) a0_):=by
 intro a0_ k
 have ih0:=toponymref18_Word.mono_l k
 unfold toponymref18_Word.f
 with_reducible repeat' first|exact ih0 _ _|exact LeO.refl _|exact LeO.none _|refine LeO.ite ?_ ?_|refine LeO.bind ?_ (fun _=>?_)
theorem toponymref18_Word.calls (k:Nat) (a0:ByteArray) (r:Bool) (w:World) (h:toponymref18_Word.f k a0=some r):
  Calls Try.prog 41 #[.string a0] w (fun e w'=>e=.returned (.bool r)∧Drawn0 w w'):=by
 unfold toponymref18_Word.f at h
 have HH:=za h
 clear h
 go_enter Try.func41,Try.ntmps41
 replace HH:=zqN 1 HH
 rcases HH with⟨HH,hk2,hk3,hk4⟩|⟨HH,hk5,hk6,hk7⟩
 ·obtain rfl:=Option.some.inj HH.out
  clear HH
  go_wp2
  go_ret
  exact⟨by first|rfl|(simp;done)|(simp[*];done),by repeat(first|exact Drawn0.refl _|apply Drawn0.step)⟩
 replace HH:=zqK 16 HH
 rcases HH with⟨HH,hk9,hk10⟩|⟨HH,hk11,hk12⟩
 ·obtain rfl:=Option.some.inj HH.out
  clear HH
  go_wp2
  go_ret
  exact⟨by first|rfl|(simp;done)|(simp[*];done),by repeat(first|exact Drawn0.refl _|apply Drawn0.step)⟩
 go_wp2
 go_loopg [3] k (fun kq u3 w'=>∃ (x13:Int),u3=.int .i64 x13∧Aside0 ((toponymref18_Word.l0 kq x13 a0)=some r)∧Aside0 (kq≤k)∧Drawn0 w w')
 case atStart=>exact⟨0,(by first|rfl|(simp;done)|(simp[*];done)),HH,⟨Nat.le_refl _⟩,by repeat(first|exact Drawn0.refl _|apply Drawn0.step)⟩
 case round=>
  clear hk5
  clear hk6
  clear hk7
  clear hk11
  clear hk12
  clear HH
  obtain⟨x13,rfl,HA,HK0,⟨m0_,rfl⟩⟩:=hrel
  cases gk with
  |zero=>exact absurd HA.out (by simp[toponymref18_Word.l0])
  |succ k16=>
   have H:=HA.out
   clear HA
   simp only[toponymref18_Word.l0] at H
   have HH:=za H
   clear H
   replace HH:=zqt HH
   rcases HH with⟨HH,hk18,hk19⟩|⟨HH,hk98,hk99⟩
   ·replace HH:=zqdo HH
    obtain⟨HH,hk21⟩:=HH
    have p22:0≤(x13:Int):=of_decide_eq_true (by first|(with_reducible assumption)|assumption)
    have q22:x13<(a0.size:Int):=of_decide_eq_true (by first|(with_reducible assumption)|assumption)
    have hx22:=MW.bt_at' a0 x13
    replace p22:=eq_true p22
    replace q22:=eq_true q22
    replace HH:=zqG HH
    rcases HH with⟨HH,hk24⟩|⟨HH,hk65⟩
    ·replace HH:=zqG HH
     rcases HH with⟨HH,hk26⟩|⟨HH,hk51⟩
     ·replace HH:=zqd HH
      rcases HH with⟨HH,hk28⟩|⟨HH,hk37⟩
      ·replace HH:=zqd HH
       rcases HH with⟨HH,hk30⟩|⟨HH,hk31⟩
       ·go_wp2
        go_roundg k16
        case measure=>have:=HK0.out;omega
        case rel=>exact⟨wrap64 (x13+1),(by first|rfl|(simp;done)|(simp[*];done)),HH,⟨by have:=HK0.out;omega⟩,by repeat(first|exact Drawn0.refl _|apply Drawn0.step)⟩
       replace HH:=zqe HH
       rcases HH with⟨HH,hk33,hk34⟩|⟨HH,hk35,hk36⟩
       ·obtain rfl:=Option.some.inj HH.out
        clear HH
        go_wp2
        go_ret
        exact⟨by first|rfl|(simp;done)|(simp[*];done),by repeat(first|exact Drawn0.refl _|apply Drawn0.step)⟩
       go_wp2
       go_roundg k16
       case measure=>have:=HK0.out;omega
       case rel=>exact⟨wrap64 (x13+1),(by first|rfl|(simp;done)|(simp[*];done)),HH,⟨by have:=HK0.out;omega⟩,by repeat(first|exact Drawn0.refl _|apply Drawn0.step)⟩
      replace HH:=zqd HH
      rcases HH with⟨HH,hk39⟩|⟨HH,hk40⟩
      ·go_wp2
       go_roundg k16
       case measure=>have:=HK0.out;omega
       case rel=>exact⟨wrap64 (x13+1),(by first|rfl|(simp;done)|(simp[*];done)),HH,⟨by have:=HK0.out;omega⟩,by repeat(first|exact Drawn0.refl _|apply Drawn0.step)⟩
      replace HH:=zqe HH
      rcases HH with⟨HH,hk42,hk43⟩|⟨HH,hk44,hk45⟩
      ·obtain rfl:=Option.some.inj HH.out
       clear HH
       go_wp2
       go_ret
       exact⟨by first|rfl|(simp;done)|(simp[*];done),by repeat(first|exact Drawn0.refl _|apply Drawn0.step)⟩
      replace HH:=zqe HH
      rcases HH with⟨HH,hk47,hk48⟩|⟨HH,hk49,hk50⟩
      ·go_wp2
       go_roundg k16
       case measure=>have:=HK0.out;omega
       case rel=>exact⟨wrap64 (x13+1),(by first|rfl|(simp;done)|(simp[*];done)),HH,⟨by have:=HK0.out;omega⟩,by repeat(first|exact Drawn0.refl _|apply Drawn0.step)⟩
      obtain rfl:=Option.some.inj HH.out
      clear HH
      go_wp2
      go_ret
      exact⟨by first|rfl|(simp;done)|(simp[*];done),by repeat(first|exact Drawn0.refl _|apply Drawn0.step)⟩
     replace HH:=zqd HH
     rcases HH with⟨HH,hk53⟩|⟨HH,hk54⟩
     ·go_wp2
      go_roundg k16
      case measure=>have:=HK0.out;omega
      case rel=>exact⟨wrap64 (x13+1),(by first|rfl|(simp;done)|(simp[*];done)),HH,⟨by have:=HK0.out;omega⟩,by repeat(first|exact Drawn0.refl _|apply Drawn0.step)⟩
     replace HH:=zqe HH
     rcases HH with⟨HH,hk56,hk57⟩|⟨HH,hk58,hk59⟩
     ·obtain rfl:=Option.some.inj HH.out
      clear HH
      go_wp2
      go_ret
      exact⟨by first|rfl|(simp;done)|(simp[*];done),by repeat(first|exact Drawn0.refl _|apply Drawn0.step)⟩
     replace HH:=zqe HH
     rcases HH with⟨HH,hk61,hk62⟩|⟨HH,hk63,hk64⟩
     ·go_wp2
      go_roundg k16
      case measure=>have:=HK0.out;omega
      case rel=>exact⟨wrap64 (x13+1),(by first|rfl|(simp;done)|(simp[*];done)),HH,⟨by have:=HK0.out;omega⟩,by repeat(first|exact Drawn0.refl _|apply Drawn0.step)⟩
     obtain rfl:=Option.some.inj HH.out
     clear HH
     go_wp2
     go_ret
     exact⟨by first|rfl|(simp;done)|(simp[*];done),by repeat(first|exact Drawn0.refl _|apply Drawn0.step)⟩
    replace HH:=zqG HH
    rcases HH with⟨HH,hk67⟩|⟨HH,hk86⟩
    ·replace HH:=zqd HH
     rcases HH with⟨HH,hk69⟩|⟨HH,hk75⟩
     ·replace HH:=zqe HH
      rcases HH with⟨HH,hk71,hk72⟩|⟨HH,hk73,hk74⟩
      ·obtain rfl:=Option.some.inj HH.out
       clear HH
       go_wp2
       go_ret
       exact⟨by first|rfl|(simp;done)|(simp[*];done),by repeat(first|exact Drawn0.refl _|apply Drawn0.step)⟩
      go_wp2
      go_roundg k16
      case measure=>have:=HK0.out;omega
      case rel=>exact⟨wrap64 (x13+1),(by first|rfl|(simp;done)|(simp[*];done)),HH,⟨by have:=HK0.out;omega⟩,by repeat(first|exact Drawn0.refl _|apply Drawn0.step)⟩
     replace HH:=zqe HH
     rcases HH with⟨HH,hk77,hk78⟩|⟨HH,hk79,hk80⟩
     ·obtain rfl:=Option.some.inj HH.out
      clear HH
      go_wp2
      go_ret
      exact⟨by first|rfl|(simp;done)|(simp[*];done),by repeat(first|exact Drawn0.refl _|apply Drawn0.step)⟩
     replace HH:=zqe HH
     rcases HH with⟨HH,hk82,hk83⟩|⟨HH,hk84,hk85⟩
     ·go_wp2
      go_roundg k16
      case measure=>have:=HK0.out;omega
      case rel=>exact⟨wrap64 (x13+1),(by first|rfl|(simp;done)|(simp[*];done)),HH,⟨by have:=HK0.out;omega⟩,by repeat(first|exact Drawn0.refl _|apply Drawn0.step)⟩
     obtain rfl:=Option.some.inj HH.out
     clear HH
     go_wp2
     go_ret
     exact⟨by first|rfl|(simp;done)|(simp[*];done),by repeat(first|exact Drawn0.refl _|apply Drawn0.step)⟩
    replace HH:=zqe HH
    rcases HH with⟨HH,hk88,hk89⟩|⟨HH,hk90,hk91⟩
    ·obtain rfl:=Option.some.inj HH.out
     clear HH
     go_wp2
     go_ret
     exact⟨by first|rfl|(simp;done)|(simp[*];done),by repeat(first|exact Drawn0.refl _|apply Drawn0.step)⟩
    replace HH:=zqe HH
    rcases HH with⟨HH,hk93,hk94⟩|⟨HH,hk95,hk96⟩
    ·go_wp2
     go_roundg k16
     case measure=>have:=HK0.out;omega
     case rel=>exact⟨wrap64 (x13+1),(by first|rfl|(simp;done)|(simp[*];done)),HH,⟨by have:=HK0.out;omega⟩,by repeat(first|exact Drawn0.refl _|apply Drawn0.step)⟩
    obtain rfl:=Option.some.inj HH.out
    clear HH
    go_wp2
    go_ret
    exact⟨by first|rfl|(simp;done)|(simp[*];done),by repeat(first|exact Drawn0.refl _|apply Drawn0.step)⟩
   obtain rfl:=Option.some.inj HH.out
   clear HH
   go_wp2
   go_ret
   exact⟨by first|rfl|(simp;done)|(simp[*];done),by repeat(first|exact Drawn0.refl _|apply Drawn0.step)⟩

mutual
def toponymref27_attrs.l0:Nat→Int→(List (S46))→Option (Bool)
 |0,_,_=>none
 |k+1,x6,l0=>if x6<(l0.length:Int) then(if 0≤x6 then((toponymref18_Word.f k ((rd_T46 l0 x6).f0)).bind fun t16=>(if t16=true then(if (((rd_T46 l0 x6).f1).length:Int)>8 then(some false) else((toponymref27_attrs.l1 k 0 l0 x6))) else(some false))) else(none)) else(some true)
def toponymref27_attrs.l1:Nat→Int→(List (S46))→Int→Option (Bool)
 |0,_,_,_=>none
 |k+1,x25,l0,x6=>if 0≤x6 then(if x6<(l0.length:Int) then(if x25<(((rd_T46 l0 x6).f1).length:Int) then(if 0≤x25 then(if ((rdOf ByteArray.empty ((rd_T46 l0 x6).f1) x25).size:Int)>400 then(some false) else((toponymref27_attrs.l1 k (wrap64 (x25+1)) l0 x6))) else(none)) else((toponymref27_attrs.l0 k (wrap64 (x6+1)) l0))) else(none)) else(none)
end
def toponymref27_attrs.f (k:Nat) (l0:List (S46)):Option (Bool):=if (l0.length:Int)>24 then(some false) else((toponymref27_attrs.l0 k 0 l0))
theorem toponymref27_attrs.mono_l:∀ k,(∀ y0 y1,LeO (toponymref27_attrs.l0 k y0 y1) (toponymref27_attrs.l0 (k+1) y0 y1))∧(∀ y0 y1 y2,LeO (toponymref27_attrs.l1 k y0 y1 y2) (toponymref27_attrs.l1 (k+1) y0 y1 y2))
 |0=>⟨fun _ _ r h=>by simp[toponymref27_attrs.l0] at h,fun _ _ _ r h=>by simp[toponymref27_attrs.l1] at h⟩
 |k+1=>by
  obtain⟨ih0,ih1⟩:=toponymref27_attrs.mono_l k
  refine⟨?_,?_⟩
  ·intro y0 y1
   unfold toponymref27_attrs.l0
   with_reducible repeat' first|exact ih0 _ _|exact ih1 _ _ _|exact toponymref18_Word.mono _ _|exact LeO.refl _|exact LeO.none _|refine LeO.ite ?_ ?_|refine LeO.bind ?_ (fun _=>?_)
  intro y0 y1 y2
  unfold toponymref27_attrs.l1
  with_reducible repeat' first|exact ih0 _ _|exact ih1 _ _ _|exact toponymref18_Word.mono _ _|exact LeO.refl _|exact LeO.none _|refine LeO.ite ?_ ?_|refine LeO.bind ?_ (fun _=>?_)
theorem toponymref27_attrs.mono:∀ a0_ k,LeO (toponymref27_attrs.f k a0_) (toponymref27_attrs.f (k+1) a0_):=by
 intro a0_ k
 obtain⟨ih0,ih1⟩:=toponymref27_attrs.mono_l k
 unfold toponymref27_attrs.f
 with_reducible repeat' first|exact ih0 _ _|exact ih1 _ _ _|exact toponymref18_Word.mono _ _|exact LeO.refl _|exact LeO.none _|refine LeO.ite ?_ ?_|refine LeO.bind ?_ (fun _=>?_)
theorem toponymref27_attrs.calls (k:Nat) (P_:Nat→Prop) (A0:Option Addr) (c0:Nat) (l0:List (S46)) (r:Bool) (w:World) (hs0:Kd.F k46 w P_ A0 l0.length l0) (hc0:l0.length≤c0) (h:toponymref27_attrs.f k l0=some r):
  Calls Try.prog 23 #[.slice A0 l0.length c0] w (fun e w'=>e=.returned (.bool r)∧Drawn0 w w'):=by
 unfold toponymref27_attrs.f at h
 have HH:=za h
 clear h
 have HF0:=zfp hs0
 clear hs0 hc0
 go_enter Try.func23,Try.ntmps23
 replace HH:=zqK 24 HH
 rcases HH with⟨HH,hk2,hk3⟩|⟨HH,hk4,hk5⟩
 ·obtain rfl:=Option.some.inj HH.out
  clear HH
  go_wp2
  go_ret
  exact⟨by first|rfl|(simp;done)|(simp[*];done),by repeat(first|exact Drawn0.refl _|apply Drawn0.step)⟩
 go_wp2
 go_loopg [3] k (fun kq u3 w'=>∃ (x6:Int),u3=.int .i64 x6∧Aside0 ((toponymref27_attrs.l0 kq x6 l0)=some r)∧Aside0 (kq≤k)∧Drawn0 w w')
 case atStart=>exact⟨0,(by first|rfl|(simp;done)|(simp[*];done)),HH,⟨Nat.le_refl _⟩,by repeat(first|exact Drawn0.refl _|apply Drawn0.step)⟩
 case round=>
  clear hk4
  clear hk5
  clear HH
  obtain⟨x6,rfl,HA,HK0,⟨m0_,rfl⟩⟩:=hrel
  cases gk with
  |zero=>exact absurd HA.out (by simp[toponymref27_attrs.l0])
  |succ k9=>
   have H:=HA.out
   clear HA
   simp only[toponymref27_attrs.l0] at H
   have HH:=za H
   clear H
   replace HH:=zqt HH
   rcases HH with⟨HH,hk11,hk12⟩|⟨HH,hk53,hk54⟩
   ·replace HH:=zqdo HH
    obtain⟨HH,hk14⟩:=HH
    have p15:0≤(x6:Int):=of_decide_eq_true (by first|(with_reducible assumption)|assumption)
    have q15:x6<(l0.length:Int):=of_decide_eq_true (by first|(with_reducible assumption)|assumption)
    obtain⟨ad15,A15_1,c15_1,e15,hx15_0,hx15_1,hl15_1,hi15_1⟩:=atF_T46 HF0.out x6 p15 q15
    cases e15
    clear hi15_1 hl15_1
    replace p15:=eq_true p15
    replace q15:=eq_true q15
    replace HH:=zd HH
    obtain⟨t16,At17,HH⟩:=HH
    go_wp2_with ((with_reducible refine gc 41 rfl ?_);refine zc 41 (some 19) Try.func41 #[.string ((rd_T46 l0 x6).f0)] (h:=?_);(with_reducible refine(toponymref18_Word.calls k9  ((rd_T46 l0 x6).f0) t16 _  At17.out).mono ?_);rintro e w' ⟨rfl,⟨nd,rfl⟩⟩;refine⟨_,rfl,?_⟩)
    refine zg ?_
    by_cases c19:t16=true
    ·replace HH:=MW.hpos HH c19
     subst c19
     replace HH:=zqK 8 HH
     rcases HH with⟨HH,hk21,hk22⟩|⟨HH,hk23,hk24⟩
     ·obtain rfl:=Option.some.inj HH.out
      clear HH
      go_wp2
      go_ret
      exact⟨by first|rfl|(simp;done)|(simp[*];done),by repeat(first|exact Drawn0.refl _|apply Drawn0.step)⟩
     go_wp2
     go_loopg [4] k9 (fun kq u4 w'=>∃ (x25:Int),u4=.int .i64 x25∧Aside0 ((toponymref27_attrs.l1 kq x25 l0 x6)=some r)∧Aside0 (kq≤k9)∧Drawn0 w w')
     case atStart=>exact⟨0,(by first|rfl|(simp;done)|(simp[*];done)),HH,⟨Nat.le_refl _⟩,by repeat(first|exact Drawn0.refl _|apply Drawn0.step)⟩
     case round=>
      clear hx15_0 hx15_1 p15 q15
      clear hk11
      clear hk12
      clear hk14
      clear hk23
      clear hk24
      clear HH
      obtain⟨x25,rfl,HA,HK1,⟨m1_,rfl⟩⟩:=hrel
      cases gk with
      |zero=>exact absurd HA.out (by simp[toponymref27_attrs.l1])
      |succ k28=>
       have H:=HA.out
       clear HA
       simp only[toponymref27_attrs.l1] at H
       have HH:=za H
       clear H
       replace HH:=zqdo HH
       obtain⟨HH,hk30⟩:=HH
       replace HH:=zqto HH
       obtain⟨HH,hk32,hk33⟩:=HH
       have p34:0≤(x6:Int):=of_decide_eq_true (by first|(with_reducible assumption)|assumption)
       have q34:x6<(l0.length:Int):=of_decide_eq_true (by first|(with_reducible assumption)|assumption)
       obtain⟨ad34,A34_1,c34_1,e34,hx34_0,hx34_1,hl34_1,hi34_1⟩:=atF_T46 HF0.out x6 p34 q34
       cases e34
       have HF34_1:=za hi34_1
       clear hi34_1 hl34_1
       replace p34:=eq_true p34
       replace q34:=eq_true q34
       replace HH:=zqt HH
       rcases HH with⟨HH,hk36,hk37⟩|⟨HH,hk47,hk48⟩
       ·replace HH:=zqdo HH
        obtain⟨HH,hk39⟩:=HH
        have p40:0≤(x25:Int):=of_decide_eq_true (by first|(with_reducible assumption)|assumption)
        have q40:x25<(((rd_T46 l0 x6).f1).length:Int):=of_decide_eq_true (by first|(with_reducible assumption)|assumption)
        obtain⟨ad40,e40,hx40_0⟩:=Kd.at_string (Kd.F_now HF34_1.out) x25 p40 q40
        cases e40
        replace p40:=eq_true p40
        replace q40:=eq_true q40
        replace HH:=zqK 400 HH
        rcases HH with⟨HH,hk42,hk43⟩|⟨HH,hk44,hk45⟩
        ·obtain rfl:=Option.some.inj HH.out
         clear HH
         go_wp2
         go_ret
         exact⟨by first|rfl|(simp;done)|(simp[*];done),by repeat(first|exact Drawn0.refl _|apply Drawn0.step)⟩
        go_wp2
        go_roundg k28
        case measure=>have:=HK0.out;have:=HK1.out;omega
        case rel=>exact⟨wrap64 (x25+1),(by first|rfl|(simp;done)|(simp[*];done)),HH,⟨by have:=HK0.out;have:=HK1.out;omega⟩,by repeat(first|exact Drawn0.refl _|apply Drawn0.step)⟩
       go_wp2
       go_roundg k28
       case measure=>have:=HK0.out;have:=HK1.out;omega
       case rel=>exact⟨wrap64 (x6+1),(by first|rfl|(simp;done)|(simp[*];done)),HH,⟨by have:=HK0.out;have:=HK1.out;omega⟩,by repeat(first|exact Drawn0.refl _|apply Drawn0.step)⟩
    replace HH:=MW.hneg HH c19
    replace c19:=Bool.eq_false_iff.mpr c19
    subst c19
    obtain rfl:=Option.some.inj HH.out
    clear HH
    go_wp2
    go_ret
    exact⟨by first|rfl|(simp;done)|(simp[*];done),by repeat(first|exact Drawn0.refl _|apply Drawn0.step)⟩
   obtain rfl:=Option.some.inj HH.out
   clear HH
   go_wp2
   go_ret
   exact⟨by first|rfl|(simp;done)|(simp[*];done),by repeat(first|exact Drawn0.refl _|apply Drawn0.step)⟩

def toponymref27_tag.f (a0:Int):Option (Int):=if a0<0 then(some 0) else(if a0>10 then(some 0) else(if 0≤a0 then(if a0<11 then(some (rd ([0,1,0,5,7,9,11,13,15,0,24]:List Int) a0)) else(none)) else(none)))
theorem toponymref27_tag.calls (a0:Int) (r:Int) (w:World) (h:toponymref27_tag.f a0=some r):
  Calls Try.prog 24 #[.int .i64 a0] w (fun e w'=>e=.returned (.int .i64 r)∧Below w.heap.size w w'):=by
 unfold toponymref27_tag.f at h
 have HH:=za h
 clear h
 have HB:=za (Below.refl w.heap.size w)
 go_enter Try.func24,Try.ntmps24
 go_wp2_with (((with_reducible refine gate_dst (N:=4) rfl ?_);(try(refine gate_guard (by rfl) ?_;dsimp only));refine Kd.N_lit (Kd.int .i64) w.heap.size 3 rfl (N':=4) rfl (xs:=([0,1,0,5,7,9,11,13,15,0,24]:List Int)) (inner:=[.int .i64 0,.int .i64 1,.int .i64 0,.int .i64 5,.int .i64 7,.int .i64 9,.int .i64 11,.int .i64 13,.int .i64 15,.int .i64 0,.int .i64 24]) (ok:=(fun k_=>(w.heap.size≤k_))) (okp:=(fun k_=>(w.heap.size≤k_))) ?hr ?hp (fun _ hk_=>hk_) ?hf HB.out (below_size HB.out) (by first|simp|decide) ?_;(case hr=>first|(go_simp;done)|(go_simp;rfl));(case hp=>exact(Reps.one (fun _ _=>rfl) (Reps.one (fun _ _=>rfl) (Reps.one (fun _ _=>rfl) (Reps.one (fun _ _=>rfl) (Reps.one (fun _ _=>rfl) (Reps.one (fun _ _=>rfl) (Reps.one (fun _ _=>rfl) (Reps.one (fun _ _=>rfl) (Reps.one (fun _ _=>rfl) (Reps.one (fun _ _=>rfl) (Reps.one (fun _ _=>rfl) (Reps.none _ _)))))))))))));(case hf=>exact(show ∀ k_,w.heap.size≤k_→(fun k_=>(w.heap.size≤k_)) k_ from fun k_ h_=>(Nat.le_trans (below_size HB.out) h_)) _ (Nat.le_refl _));intro v1 w2 hn1 hb1 hg1 hat1);replace hat1:=za hat1;refine stop_ ?_)
 refine zg ?_
 replace hat1:=hat1.out
 have hbe:=MW.grown_below hg1
 have hba:=MW.base_of hat1
 replace HB:=za hb1
 have HN3:=za hn1
 clear hn1 hb1 hg1 hat1 hbe hba
 replace HH:=zqt HH
 rcases HH with⟨HH,hk5,hk6⟩|⟨HH,hk7,hk8⟩
 ·obtain rfl:=Option.some.inj HH.out
  clear HH
  go_wp2
  go_ret
  exact zfi HB.out
 replace HH:=zqg HH
 rcases HH with⟨HH,hk10⟩|⟨HH,hk11⟩
 ·obtain rfl:=Option.some.inj HH.out
  clear HH
  go_wp2
  go_ret
  exact zfi HB.out
 replace HH:=zqdo HH
 obtain⟨HH,hk13⟩:=HH
 replace HH:=zqto HH
 obtain⟨HH,hk15,hk16⟩:=HH
 obtain⟨A18,cp19,he_⟩:=Kd.N_slice HN3.out
 subst he_
 have p17:0≤(a0:Int):=of_decide_eq_true (by first|(with_reducible assumption)|assumption)
 have q17:a0<11:=of_decide_eq_true (by first|(with_reducible assumption)|assumption)
 obtain⟨ad17,e17,hx17_0⟩:=Kd.at_int (Kd.F_now (Kd.N_F HN3.out)) a0 p17 q17
 cases e17
 replace p17:=eq_true p17
 replace q17:=eq_true q17
 obtain rfl:=Option.some.inj HH.out
 clear HH
 go_wp2
 go_ret
 exact zfi HB.out

def toponymref27_Check.f (k:Nat) (a0_0:Int) (a0_1:Int) (a0_2:Bool) (a0_3:Int) (a0_4:ByteArray) (a0_5:ByteArray) (a0_6:ByteArray) (l0_7:List (S46)):Option (Int):=if a0_0<0 then(some 270) else(if a0_0>2147483647 then(some 270) else(if a0_2=true then(if a0_1=3 then(if a0_3=0 then(if a0_4.toList=([]:List UInt8) then(if a0_5.toList=([]:List UInt8) then(if (a0_6.size:Int)≤3000 then((toponymref27_attrs.f k l0_7).bind fun t35=>(if t35=true then(some 0) else(some 270))) else(some 270)) else(some 270)) else(some 270)) else(some 270)) else(some 270)) else(if a0_6.toList=([]:List UInt8) then((toponymref27_tag.f a0_1).bind fun t52=>(if t52=0 then(some 270) else(if a0_3≥0 then(if a0_3<128 then(if (a0_4.size:Int)≤3000 then(if (a0_5.size:Int)≤200 then(if (l0_7.length:Int)=0 then(some 0) else(some 270)) else(some 270)) else(some 270)) else(some 270)) else(some 270)))) else(if a0_1=10 then((toponymref27_tag.f a0_1).bind fun t97=>(if t97=0 then(some 270) else(if a0_3≥0 then(if a0_3<128 then(if (a0_4.size:Int)≤3000 then(if (a0_5.size:Int)≤200 then(if (a0_6.size:Int)≤100 then(if (l0_7.length:Int)=0 then(some 0) else(some 270)) else(some 270)) else(some 270)) else(some 270)) else(some 270)) else(some 270)))) else((toponymref27_tag.f a0_1).bind fun t144=>(if t144=0 then(some 270) else(if a0_3≥0 then(if a0_3<128 then(if (a0_4.size:Int)≤3000 then(if (a0_5.size:Int)≤200 then(some 270) else(some 270)) else(some 270)) else(some 270)) else(some 270))))))))
theorem toponymref27_Check.mono:∀ a0_ a1_ a2_ a3_ a4_ a5_ a6_ a7_ k,LeO (toponymref27_Check.f k a0_ a1_ a2_ a3_ a4_ a5_ a6_ a7_) (toponymref27_Check.f (k+1) a0_ a1_ a2_ a3_ a4_ a5_ a6_ a7_):=by
 intro a0_ a1_ a2_ a3_ a4_ a5_ a6_ a7_ k
 unfold toponymref27_Check.f
 with_reducible repeat' first|exact toponymref27_attrs.mono _ _|exact LeO.refl _|exact LeO.none _|refine LeO.ite ?_ ?_|refine LeO.bind ?_ (fun _=>?_)
theorem toponymref27_Check.calls (k:Nat) (P_:Nat→Prop) (a0_0:Int) (a0_1:Int) (a0_2:Bool) (a0_3:Int) (a0_4:ByteArray) (a0_5:ByteArray) (a0_6:ByteArray) (A0_7:Option Addr) (c0_7:Nat) (l0_7:List (S46)) (r:Int) (w:World) (hs0_7:Kd.F k46 w P_ A0_7 l0_7.length l0_7) (hc0_7:l0_7.length≤c0_7) (h:toponymref27_Check.f k a0_0 a0_1 a0_2 a0_3 a0_4 a0_5 a0_6 l0_7=some r):
  Calls Try.prog 11 #[.agg #[.int .i64 a0_0,.int .i64 a0_1,.bool a0_2,.int .i64 a0_3,.string a0_4,.string a0_5,.string a0_6,.slice A0_7 l0_7.length c0_7]] w (fun e w'=>e=.returned (.int .i64 r)∧Below w.heap.size w w'):=by
 unfold toponymref27_Check.f at h
 have HH:=za h
 clear h
 have HF0_7:=zfp hs0_7
 have HL0_7:=za hc0_7
 clear hs0_7 hc0_7
 have HB:=za (Below.refl w.heap.size w)
 have hu27:=Try.underlying27
 go_enter Try.func11,Try.ntmps11
 go_wp2_with ((with_reducible refine gd 1 rfl ?_);refine zb 1 27 #[.int .i64 a0_0,.int .i64 a0_1,.bool a0_2,.int .i64 a0_3,.string a0_4,.string a0_5,.string a0_6,.slice A0_7 l0_7.length c0_7] (h:=?_);intro g1 hg w2 BKg1 hb)
 refine zg ?_
 replace HF0_7:=zfe HF0_7.out hg hb
 replace HB:=zhb HB.out hb
 clear hg hb
 replace cBKg1:=MB.lz8 BKg1.out
 replace HH:=zqt HH
 rcases HH with⟨HH,hk12,hk13⟩|⟨HH,hk14,hk15⟩
 ·obtain rfl:=Option.some.inj HH.out
  clear HH
  go_wp2
  go_ret
  exact zfi HB.out
 replace HH:=zqg HH
 rcases HH with⟨HH,hk17⟩|⟨HH,hk18⟩
 ·obtain rfl:=Option.some.inj HH.out
  clear HH
  go_wp2
  go_ret
  exact zfi HB.out
 by_cases c19:a0_2=true
 ·replace HH:=MW.hpos HH c19
  subst c19
  replace HH:=zqe HH
  rcases HH with⟨HH,hk21,hk22⟩|⟨HH,hk47,hk48⟩
  ·replace HH:=zqe HH
   rcases HH with⟨HH,hk24,hk25⟩|⟨HH,hk45,hk46⟩
   ·replace HH:=zqe HH
    rcases HH with⟨HH,hk27,hk28⟩|⟨HH,hk43,hk44⟩
    ·replace HH:=zqe HH
     rcases HH with⟨HH,hk30,hk31⟩|⟨HH,hk41,hk42⟩
     ·replace HH:=zqL 3000 HH
      rcases HH with⟨HH,hk33,hk34⟩|⟨HH,hk39,hk40⟩
      ·replace HH:=zd HH
       obtain⟨t35,At36,HH⟩:=HH
       go_wp2_with ((with_reducible refine gc 23 rfl ?_);refine zc 23 (some 42) Try.func23 #[.slice A0_7 l0_7.length c0_7] (h:=?_);(with_reducible refine(toponymref27_attrs.calls k (fun k_=>(P_ k_∨w.heap.size≤k_)∧k_≠g1) _ _ l0_7 t35 _ HF0_7.out HL0_7.out At36.out).mono ?_);rintro e w' ⟨rfl,⟨nd,rfl⟩⟩;refine⟨_,rfl,?_⟩)
       refine zg ?_
       by_cases c38:t35=true
       ·replace HH:=MW.hpos HH c38
        subst c38
        obtain rfl:=Option.some.inj HH.out
        clear HH
        go_wp2
        go_ret
        exact zfi (by repeat(first|(with_reducible first|exact HB.out|apply below_alloc|apply pw_below_drewN|apply below_drew1)|exact HB.out))
       replace HH:=MW.hneg HH c38
       replace c38:=Bool.eq_false_iff.mpr c38
       subst c38
       obtain rfl:=Option.some.inj HH.out
       clear HH
       go_wp2
       go_ret
       exact zfi (by repeat(first|(with_reducible first|exact HB.out|apply below_alloc|apply pw_below_drewN|apply below_drew1)|exact HB.out))
      obtain rfl:=Option.some.inj HH.out
      clear HH
      go_wp2
      go_ret
      exact zfi HB.out
     obtain rfl:=Option.some.inj HH.out
     clear HH
     go_wp2
     go_ret
     exact zfi HB.out
    obtain rfl:=Option.some.inj HH.out
    clear HH
    go_wp2
    go_ret
    exact zfi HB.out
   obtain rfl:=Option.some.inj HH.out
   clear HH
   go_wp2
   go_ret
   exact zfi HB.out
  obtain rfl:=Option.some.inj HH.out
  clear HH
  go_wp2
  go_ret
  exact zfi HB.out
 replace HH:=MW.hneg HH c19
 replace c19:=Bool.eq_false_iff.mpr c19
 subst c19
 replace HH:=zqe HH
 rcases HH with⟨HH,hk50,hk51⟩|⟨HH,hk92,hk93⟩
 ·replace HH:=zd HH
  obtain⟨t52,At53,HH⟩:=HH
  go_wp2_with ((with_reducible refine gc 24 rfl ?_);refine zc 24 (some 60) Try.func24 #[.int .i64 a0_1] (h:=?_);(with_reducible refine(toponymref27_tag.calls  a0_1 t52 _  At53.out).mono ?_);rintro e w54 ⟨rfl,hb⟩;refine⟨_,rfl,?_⟩)
  refine zg ?_
  replace BKg1:=zbb BKg1.out hb
  replace HB:=zhb HB.out hb
  clear hb
  replace cBKg1:=MB.lz8 BKg1.out
  replace HH:=zqe HH
  rcases HH with⟨HH,hk64,hk65⟩|⟨HH,hk66,hk67⟩
  ·obtain rfl:=Option.some.inj HH.out
   clear HH
   go_wp2
   go_ret
   exact zfi HB.out
  replace HH:=zqG HH
  rcases HH with⟨HH,hk69⟩|⟨HH,hk91⟩
  ·replace HH:=zqt HH
   rcases HH with⟨HH,hk71,hk72⟩|⟨HH,hk89,hk90⟩
   ·replace HH:=zqL 3000 HH
    rcases HH with⟨HH,hk74,hk75⟩|⟨HH,hk87,hk88⟩
    ·replace HH:=zqL 200 HH
     rcases HH with⟨HH,hk77,hk78⟩|⟨HH,hk85,hk86⟩
     ·by_cases c79:(l0_7.length:Int)=0
      ·replace HH:=MW.hpos HH c79
       have hk80:((l0_7.length:Int)==0)=true:=beq_iff_eq.mpr c79
       have hk81:((l0_7.length:Int) != 0)=false:=bne_eq_false_iff_eq.mpr c79
       clear c79
       obtain rfl:=Option.some.inj HH.out
       clear HH
       go_wp2
       go_ret
       exact zfi HB.out
      replace HH:=MW.hneg HH c79
      have hk82:((l0_7.length:Int)==0)=false:=beq_eq_false_iff_ne.mpr c79
      have hk83:((l0_7.length:Int) != 0)=true:=bne_iff_ne.mpr c79
      have hk84: ¬ (l0_7=[]):=fun h_=>c79 (by rw[h_];rfl)
      clear c79
      obtain rfl:=Option.some.inj HH.out
      clear HH
      go_wp2
      go_ret
      exact zfi HB.out
     obtain rfl:=Option.some.inj HH.out
     clear HH
     go_wp2
     go_ret
     exact zfi HB.out
    obtain rfl:=Option.some.inj HH.out
    clear HH
    go_wp2
    go_ret
    exact zfi HB.out
   obtain rfl:=Option.some.inj HH.out
   clear HH
   go_wp2
   go_ret
   exact zfi HB.out
  obtain rfl:=Option.some.inj HH.out
  clear HH
  go_wp2
  go_ret
  exact zfi HB.out
 replace HH:=zqe HH
 rcases HH with⟨HH,hk95,hk96⟩|⟨HH,hk142,hk143⟩
 ·replace HH:=zd HH
  obtain⟨t97,At98,HH⟩:=HH
  go_wp2_with ((with_reducible refine gc 24 rfl ?_);refine zc 24 (some 60) Try.func24 #[.int .i64 a0_1] (h:=?_);(with_reducible refine(toponymref27_tag.calls  a0_1 t97 _  At98.out).mono ?_);rintro e w99 ⟨rfl,hb⟩;refine⟨_,rfl,?_⟩)
  refine zg ?_
  replace BKg1:=zbb BKg1.out hb
  replace HB:=zhb HB.out hb
  clear hb
  replace cBKg1:=MB.lz8 BKg1.out
  replace HH:=zqe HH
  rcases HH with⟨HH,hk109,hk110⟩|⟨HH,hk111,hk112⟩
  ·obtain rfl:=Option.some.inj HH.out
   clear HH
   go_wp2
   go_ret
   exact zfi HB.out
  replace HH:=zqG HH
  rcases HH with⟨HH,hk114⟩|⟨HH,hk141⟩
  ·replace HH:=zqt HH
   rcases HH with⟨HH,hk116,hk117⟩|⟨HH,hk139,hk140⟩
   ·replace HH:=zqL 3000 HH
    rcases HH with⟨HH,hk119,hk120⟩|⟨HH,hk137,hk138⟩
    ·replace HH:=zqL 200 HH
     rcases HH with⟨HH,hk122,hk123⟩|⟨HH,hk135,hk136⟩
     ·replace HH:=zqL 100 HH
      rcases HH with⟨HH,hk125,hk126⟩|⟨HH,hk133,hk134⟩
      ·by_cases c127:(l0_7.length:Int)=0
       ·replace HH:=MW.hpos HH c127
        have hk128:((l0_7.length:Int)==0)=true:=beq_iff_eq.mpr c127
        have hk129:((l0_7.length:Int) != 0)=false:=bne_eq_false_iff_eq.mpr c127
        clear c127
        obtain rfl:=Option.some.inj HH.out
        clear HH
        go_wp2
        go_ret
        exact zfi HB.out
       replace HH:=MW.hneg HH c127
       have hk130:((l0_7.length:Int)==0)=false:=beq_eq_false_iff_ne.mpr c127
       have hk131:((l0_7.length:Int) != 0)=true:=bne_iff_ne.mpr c127
       have hk132: ¬ (l0_7=[]):=fun h_=>c127 (by rw[h_];rfl)
       clear c127
       obtain rfl:=Option.some.inj HH.out
       clear HH
       go_wp2
       go_ret
       exact zfi HB.out
      obtain rfl:=Option.some.inj HH.out
      clear HH
      go_wp2
      go_ret
      exact zfi HB.out
     obtain rfl:=Option.some.inj HH.out
     clear HH
     go_wp2
     go_ret
     exact zfi HB.out
    obtain rfl:=Option.some.inj HH.out
    clear HH
    go_wp2
    go_ret
    exact zfi HB.out
   obtain rfl:=Option.some.inj HH.out
   clear HH
   go_wp2
   go_ret
   exact zfi HB.out
  obtain rfl:=Option.some.inj HH.out
  clear HH
  go_wp2
  go_ret
  exact zfi HB.out
 replace HH:=zd HH
 obtain⟨t144,At145,HH⟩:=HH
 go_wp2_with ((with_reducible refine gc 24 rfl ?_);refine zc 24 (some 60) Try.func24 #[.int .i64 a0_1] (h:=?_);(with_reducible refine(toponymref27_tag.calls  a0_1 t144 _  At145.out).mono ?_);rintro e w146 ⟨rfl,hb⟩;refine⟨_,rfl,?_⟩)
 refine zg ?_
 replace BKg1:=zbb BKg1.out hb
 replace HB:=zhb HB.out hb
 clear hb
 replace cBKg1:=MB.lz8 BKg1.out
 replace HH:=zqe HH
 rcases HH with⟨HH,hk156,hk157⟩|⟨HH,hk158,hk159⟩
 ·obtain rfl:=Option.some.inj HH.out
  clear HH
  go_wp2
  go_ret
  exact zfi HB.out
 replace HH:=zqG HH
 rcases HH with⟨HH,hk161⟩|⟨HH,hk177⟩
 ·replace HH:=zqt HH
  rcases HH with⟨HH,hk163,hk164⟩|⟨HH,hk175,hk176⟩
  ·replace HH:=zqL 3000 HH
   rcases HH with⟨HH,hk166,hk167⟩|⟨HH,hk173,hk174⟩
   ·replace HH:=zqL 200 HH
    rcases HH with⟨HH,hk169,hk170⟩|⟨HH,hk171,hk172⟩
    ·obtain rfl:=Option.some.inj HH.out
     clear HH
     go_wp2
     go_ret
     exact zfi HB.out
    obtain rfl:=Option.some.inj HH.out
    clear HH
    go_wp2
    go_ret
    exact zfi HB.out
   obtain rfl:=Option.some.inj HH.out
   clear HH
   go_wp2
   go_ret
   exact zfi HB.out
  obtain rfl:=Option.some.inj HH.out
  clear HH
  go_wp2
  go_ret
  exact zfi HB.out
 obtain rfl:=Option.some.inj HH.out
 clear HH
 go_wp2
 go_ret
 exact zfi HB.out

def Clone_92.f (l0:List (S57)):Option (List (S57)):=if l0.length<2199023255552 then some l0 else none
theorem Clone_92.calls (P_:Nat→Prop) (A0:Option Addr) (c0:Nat) (l0:List (S57)) (r:List (S57)) (w:World) (hs0:Kd.F k57 w P_ A0 l0.length l0) (hc0:l0.length≤c0) (h:Clone_92.f l0=some r):
  Calls Try.prog 92 #[.slice A0 l0.length c0] w fun e w'=>∃ v0_:Value,e=.returned (v0_)∧Kd.N k57 57 w' w.heap.size (fun k_=>P_ k_∨w.heap.size≤k_) v0_ r∧Below w.heap.size w w':=by
 have hu:=Try.underlying55
 unfold Clone_92.f at h
 by_cases hl:l0.length<2199023255552
 ·rw[if_pos hl] at h
  obtain rfl:=Option.some.inj h
  clear h
  have heq:=fun W=>Lib.run_eql_slice_nil (P:=Try.prog) W 55 57 A0 l0.length c0 0 0 hu
  have HF:=za (Kd.F_mono hs0 (fun k_ hk_=>(.inl hk_:P_ k_∨w.heap.size≤k_)))
  cases A0 with
  |none=>
   have hz:l0=[]:=by
    have h2:=(Kd.F_now hs0).2.2
    cases l0 with
    |nil=>rfl
    |cons a l=>obtain⟨ad,e,_⟩:=h2 (by simp);cases e
   subst hz
   clear hs0
   simp only[List.length_nil] at heq
   go_enter Try.func92,Try.ntmps92
   go_wp2
   go_ret
   exact⟨_,rfl,Kd.N_nil _ _ _ _ _,Below.refl _ _⟩
  |some ad=>
   clear hs0
   go_enter Try.func92,Try.ntmps92
   go_wp2_with ((with_reducible refine gate_dst (N:=5) rfl ?_);refine Kd.N_lit k57 w.heap.size 57 rfl rfl (xs:=[]) (inner:=[]) (ok:=fun k_=>P_ k_∨w.heap.size≤k_) (okp:=fun _=>False) ?hr ?hp (fun _ h=>h.elim) (.inr (Nat.le_refl _)) (Below.refl _ _) (Nat.le_refl _) (by simp) ?_;(case hr=>first|(go_simp;done)|(go_simp;rfl));(case hp=>exact Reps.none _ _);intro v1 w1 hN hB hg hat;replace hat:=za hat;refine stop_ ?_)
   refine zg ?_
   replace hat:=hat.out
   have HN:=za hN
   have HB:=za hB
   have HF1:=za (Kd.F_elder' HF.out (MW.base_of hat) (MW.grown_below hg))
   clear hN hB hg hat
   go_wp2_with ((with_reducible refine gate_dst (N:=7) rfl ?_);refine Kd.N_append_rows k57 w.heap.size rfl _ _ 55 57 (.agg #[(.int .i64 0),(.bool false),(.int .i64 0),(.string ⟨#[]⟩),(.slice none 0 0)]) 64 rfl hu info57 rfl (by decide) (by decide) _ _ l0 _ _ _ (fun k_=>P_ k_∨w.heap.size≤k_) _ rfl rfl HN.out HF1.out (fun _ hk=>hk) (fun k_ h_=>.inr (Nat.le_trans HB.out.size h_)) HB.out HB.out.size (by simp;omega) ?_;intro v2 w2 hN2 hB2 hg2 hat2;replace hat2:=za hat2;refine stop_ ?_)
   refine zg ?_
   have HN2:=za hN2
   have HB2:=za hB2
   clear hN2 hB2 hg2 hat2 HN HB HF1 HF
   go_wp2
   go_ret
   exact⟨_,rfl,HN2.out,HB2.out⟩
 rw[if_neg hl] at h
 exact absurd h (by simp)

def prims_Group.f (a0:Int) (a1:Int) (l2:List (S57)):Option (Int × Bool × Int × ByteArray × (List (S57)) × Int):=if a0<0 then(some (0,false,0,(⟨#[]⟩:ByteArray),([]:List (S57)),2)) else(if a0>3 then(some (0,false,0,(⟨#[]⟩:ByteArray),([]:List (S57)),2)) else(if a1<0 then(some (0,false,0,(⟨#[]⟩:ByteArray),([]:List (S57)),2)) else(if a1>30 then(some (0,false,0,(⟨#[]⟩:ByteArray),([]:List (S57)),2)) else((Clone_92.f l2).bind fun t172=>(some (a0,true,a1,(⟨#[]⟩:ByteArray),t172,0))))))
theorem prims_Group.calls (P_:Nat→Prop) (a0:Int) (a1:Int) (A2:Option Addr) (c2:Nat) (l2:List (S57)) (r1:Int) (r2:Bool) (r3:Int) (r4:ByteArray) (r5:List (S57)) (r6:Int) (w:World) (hs2:Kd.F k57 w P_ A2 l2.length l2) (hc2:l2.length≤c2) (h:prims_Group.f a0 a1 l2=some (r1,r2,r3,r4,r5,r6)):
  Calls Try.prog 65 #[.int .i64 a0,.int .i64 a1,.slice A2 l2.length c2] w (fun e w'=>∃ v4_:Value,e=.returned (.tuple #[.agg #[.int .i64 r1,.bool r2,.int .i64 r3,.string r4,v4_],.int .i64 r6])∧Kd.N k57 57 w' w.heap.size (fun k_=>P_ k_∨w.heap.size≤k_) v4_ r5∧Below w.heap.size w w'):=by
 unfold prims_Group.f at h
 have HH:=za h
 clear h
 have HF2:=zfp hs2
 have HL2:=za hc2
 clear hs2 hc2
 have HB:=za (Below.refl w.heap.size w)
 have hu57:=Try.underlying57
 go_enter Try.func65,Try.ntmps65
 go_wp2_with ((with_reducible refine gd 5 rfl ?_);refine zb 5 55 #[.slice A2 l2.length c2] (h:=?_);intro g1 hg w2 BKg1 hb)
 refine zg ?_
 replace HF2:=zfe HF2.out hg hb
 replace HB:=zhb HB.out hb
 clear hg hb
 have j3:=MB.lz1 BKg1.out
 go_wp2_with ((with_reducible refine gd 6 rfl ?_);refine zb 6 57 #[.int .i64 0,.bool false,.int .i64 0,.string (⟨#[]⟩:ByteArray),.slice none 0 0] (h:=?_);intro g4 hg w5 BKg4 hb)
 refine zg ?_
 have GEg4:=zge hg (below_size HB.out)
 have NEg1_g4:=znq hg BKg1.out
 replace HF2:=zfe HF2.out hg hb
 replace BKg1:=zbb BKg1.out hb
 replace HB:=zhb HB.out hb
 clear hg hb
 clear j3
 have j6:=MB.lz1 BKg1.out
 replace cBKg4:=MB.lz5 BKg4.out
 go_wp2_with (((with_reducible refine gate_callee (f:=84) rfl ?_);(try(refine gate_guard (by rfl) ?_;dsimp only));refine goesL_ (some 11) rfl rfl Try.func84 (by kernel_rfl) rfl #[.int .i64 a0,.int .i64 a1,.func (.func 91) #[] #[.pointer (some ⟨g1,0,none⟩)]] rfl (by(try simp only[List.map_toArray,List.map_cons,List.map_nil]);first|done|rfl) ?_);refine stop_ ?_)
 refine zg ?_
 go_enter Try.func84,Try.ntmps84
 go_wp2_with ((with_reducible refine gd 6 rfl ?_);refine zb 6 57 #[.int .i64 0,.bool false,.int .i64 0,.string (⟨#[]⟩:ByteArray),.slice none 0 0] (h:=?_);intro g12 hg w13 BKg12 hb)
 refine zg ?_
 have GEg12:=zge hg (below_size HB.out)
 have NEg1_g12:=znq hg BKg1.out
 have NEg4_g12:=znq hg BKg4.out
 have NEg12_g4:=zsy NEg4_g12
 replace HF2:=zfe HF2.out hg hb
 replace BKg1:=zbb BKg1.out hb
 replace BKg4:=zbb BKg4.out hb
 replace HB:=zhb HB.out hb
 clear hg hb
 clear j6
 have je:=MB.lz1 BKg1.out
 replace cBKg4:=MB.lz5 BKg4.out
 replace cBKg12:=MB.lz5 BKg12.out
 replace HH:=zqt HH
 rcases HH with⟨HH,hk26,hk27⟩|⟨HH,hk52,hk53⟩
 ·go_wp2_with ((with_reducible refine gs 57 6 rfl ?_);refine zs 57 6 #[.int .i64 0,.bool false,.int .i64 0,.string (⟨#[]⟩:ByteArray),.slice none 0 0] BKg12.out [.int .i64 0,.bool false,.int .i64 0,.string (⟨#[]⟩:ByteArray),.slice none 0 0] (h:=?_);intro w28 hbk hg)
  refine zg ?_
  replace BKg1:=zbg BKg1.out hg NEg1_g12
  replace BKg4:=zbg BKg4.out hg NEg4_g12
  replace HB:=zhg HB.out hg (below_size HB.out) GEg12
  replace BKg12:=hbk
  clear hg hbk
  clear je
  have jt:=MB.lz1 BKg1.out
  replace cBKg4:=MB.lz5 BKg4.out
  replace cBKg12:=MB.lz5 BKg12.out
  go_wp2
  refine bodyPost_ret (results_ct rfl _ _ g12 57 #[.int .i64 0,.bool false,.int .i64 0,.string (⟨#[]⟩:ByteArray),.slice none 0 0] (0,0) _ rfl BKg12.out Try.underlying57 rfl (by kernel_rfl)) rfl ?_
  refine⟨_,rfl,?_⟩
  go_wp2_with ((with_reducible refine gs 57 6 rfl ?_);refine zs 57 6 #[.int .i64 0,.bool false,.int .i64 0,.string (⟨#[]⟩:ByteArray),.slice none 0 0] BKg4.out [.int .i64 0,.bool false,.int .i64 0,.string (⟨#[]⟩:ByteArray),.slice none 0 0] (h:=?_);intro w40 hbk hg)
  refine zg ?_
  replace BKg1:=zbg BKg1.out hg NEg1_g4
  replace BKg12:=zbg BKg12.out hg NEg12_g4
  replace HB:=zhg HB.out hg (below_size HB.out) GEg4
  replace BKg4:=hbk
  clear hg hbk
  clear jt
  have jF:=MB.lz1 BKg1.out
  replace cBKg4:=MB.lz5 BKg4.out
  replace cBKg12:=MB.lz5 BKg12.out
  have H:=HH.out
  simp only[Option.some.injEq,Prod.mk.injEq] at H
  obtain⟨rfl,rfl,rfl,rfl,rfl,rfl⟩:=H
  clear HH
  go_wp2
  refine bodyPost_ret (results_ct rfl _ _ g4 57 #[.int .i64 0,.bool false,.int .i64 0,.string (⟨#[]⟩:ByteArray),.slice none 0 0] (0,0) _ rfl BKg4.out Try.underlying57 rfl (by kernel_rfl)) rfl ?_
  exact⟨_,by first|rfl|(simp;done)|(simp[*];done),(Kd.N_nil _ _ _ _ _),HB.out⟩
 replace HH:=zqg HH
 rcases HH with⟨HH,hk55⟩|⟨HH,hk80⟩
 ·go_wp2_with ((with_reducible refine gs 57 6 rfl ?_);refine zs 57 6 #[.int .i64 0,.bool false,.int .i64 0,.string (⟨#[]⟩:ByteArray),.slice none 0 0] BKg12.out [.int .i64 0,.bool false,.int .i64 0,.string (⟨#[]⟩:ByteArray),.slice none 0 0] (h:=?_);intro w56 hbk hg)
  refine zg ?_
  replace BKg1:=zbg BKg1.out hg NEg1_g12
  replace BKg4:=zbg BKg4.out hg NEg4_g12
  replace HB:=zhg HB.out hg (below_size HB.out) GEg12
  replace BKg12:=hbk
  clear hg hbk
  clear je
  have jV:=MB.lz1 BKg1.out
  replace cBKg4:=MB.lz5 BKg4.out
  replace cBKg12:=MB.lz5 BKg12.out
  go_wp2
  refine bodyPost_ret (results_ct rfl _ _ g12 57 #[.int .i64 0,.bool false,.int .i64 0,.string (⟨#[]⟩:ByteArray),.slice none 0 0] (0,0) _ rfl BKg12.out Try.underlying57 rfl (by kernel_rfl)) rfl ?_
  refine⟨_,rfl,?_⟩
  go_wp2_with ((with_reducible refine gs 57 6 rfl ?_);refine zs 57 6 #[.int .i64 0,.bool false,.int .i64 0,.string (⟨#[]⟩:ByteArray),.slice none 0 0] BKg4.out [.int .i64 0,.bool false,.int .i64 0,.string (⟨#[]⟩:ByteArray),.slice none 0 0] (h:=?_);intro w68 hbk hg)
  refine zg ?_
  replace BKg1:=zbg BKg1.out hg NEg1_g4
  replace BKg12:=zbg BKg12.out hg NEg12_g4
  replace HB:=zhg HB.out hg (below_size HB.out) GEg4
  replace BKg4:=hbk
  clear hg hbk
  clear jV
  have j17:=MB.lz1 BKg1.out
  replace cBKg4:=MB.lz5 BKg4.out
  replace cBKg12:=MB.lz5 BKg12.out
  have H:=HH.out
  simp only[Option.some.injEq,Prod.mk.injEq] at H
  obtain⟨rfl,rfl,rfl,rfl,rfl,rfl⟩:=H
  clear HH
  go_wp2
  refine bodyPost_ret (results_ct rfl _ _ g4 57 #[.int .i64 0,.bool false,.int .i64 0,.string (⟨#[]⟩:ByteArray),.slice none 0 0] (0,0) _ rfl BKg4.out Try.underlying57 rfl (by kernel_rfl)) rfl ?_
  exact⟨_,by first|rfl|(simp;done)|(simp[*];done),(Kd.N_nil _ _ _ _ _),HB.out⟩
 replace HH:=zqt HH
 rcases HH with⟨HH,hk82,hk83⟩|⟨HH,hk108,hk109⟩
 ·go_wp2_with ((with_reducible refine gs 57 6 rfl ?_);refine zs 57 6 #[.int .i64 0,.bool false,.int .i64 0,.string (⟨#[]⟩:ByteArray),.slice none 0 0] BKg12.out [.int .i64 0,.bool false,.int .i64 0,.string (⟨#[]⟩:ByteArray),.slice none 0 0] (h:=?_);intro w84 hbk hg)
  refine zg ?_
  replace BKg1:=zbg BKg1.out hg NEg1_g12
  replace BKg4:=zbg BKg4.out hg NEg4_g12
  replace HB:=zhg HB.out hg (below_size HB.out) GEg12
  replace BKg12:=hbk
  clear hg hbk
  clear je
  have j1n:=MB.lz1 BKg1.out
  replace cBKg4:=MB.lz5 BKg4.out
  replace cBKg12:=MB.lz5 BKg12.out
  go_wp2
  refine bodyPost_ret (results_ct rfl _ _ g12 57 #[.int .i64 0,.bool false,.int .i64 0,.string (⟨#[]⟩:ByteArray),.slice none 0 0] (0,0) _ rfl BKg12.out Try.underlying57 rfl (by kernel_rfl)) rfl ?_
  refine⟨_,rfl,?_⟩
  go_wp2_with ((with_reducible refine gs 57 6 rfl ?_);refine zs 57 6 #[.int .i64 0,.bool false,.int .i64 0,.string (⟨#[]⟩:ByteArray),.slice none 0 0] BKg4.out [.int .i64 0,.bool false,.int .i64 0,.string (⟨#[]⟩:ByteArray),.slice none 0 0] (h:=?_);intro w96 hbk hg)
  refine zg ?_
  replace BKg1:=zbg BKg1.out hg NEg1_g4
  replace BKg12:=zbg BKg12.out hg NEg12_g4
  replace HB:=zhg HB.out hg (below_size HB.out) GEg4
  replace BKg4:=hbk
  clear hg hbk
  clear j1n
  have j1z:=MB.lz1 BKg1.out
  replace cBKg4:=MB.lz5 BKg4.out
  replace cBKg12:=MB.lz5 BKg12.out
  have H:=HH.out
  simp only[Option.some.injEq,Prod.mk.injEq] at H
  obtain⟨rfl,rfl,rfl,rfl,rfl,rfl⟩:=H
  clear HH
  go_wp2
  refine bodyPost_ret (results_ct rfl _ _ g4 57 #[.int .i64 0,.bool false,.int .i64 0,.string (⟨#[]⟩:ByteArray),.slice none 0 0] (0,0) _ rfl BKg4.out Try.underlying57 rfl (by kernel_rfl)) rfl ?_
  exact⟨_,by first|rfl|(simp;done)|(simp[*];done),(Kd.N_nil _ _ _ _ _),HB.out⟩
 replace HH:=zqg HH
 rcases HH with⟨HH,hk111⟩|⟨HH,hk136⟩
 ·go_wp2_with ((with_reducible refine gs 57 6 rfl ?_);refine zs 57 6 #[.int .i64 0,.bool false,.int .i64 0,.string (⟨#[]⟩:ByteArray),.slice none 0 0] BKg12.out [.int .i64 0,.bool false,.int .i64 0,.string (⟨#[]⟩:ByteArray),.slice none 0 0] (h:=?_);intro w112 hbk hg)
  refine zg ?_
  replace BKg1:=zbg BKg1.out hg NEg1_g12
  replace BKg4:=zbg BKg4.out hg NEg4_g12
  replace HB:=zhg HB.out hg (below_size HB.out) GEg12
  replace BKg12:=hbk
  clear hg hbk
  clear je
  have j1P:=MB.lz1 BKg1.out
  replace cBKg4:=MB.lz5 BKg4.out
  replace cBKg12:=MB.lz5 BKg12.out
  go_wp2
  refine bodyPost_ret (results_ct rfl _ _ g12 57 #[.int .i64 0,.bool false,.int .i64 0,.string (⟨#[]⟩:ByteArray),.slice none 0 0] (0,0) _ rfl BKg12.out Try.underlying57 rfl (by kernel_rfl)) rfl ?_
  refine⟨_,rfl,?_⟩
  go_wp2_with ((with_reducible refine gs 57 6 rfl ?_);refine zs 57 6 #[.int .i64 0,.bool false,.int .i64 0,.string (⟨#[]⟩:ByteArray),.slice none 0 0] BKg4.out [.int .i64 0,.bool false,.int .i64 0,.string (⟨#[]⟩:ByteArray),.slice none 0 0] (h:=?_);intro w124 hbk hg)
  refine zg ?_
  replace BKg1:=zbg BKg1.out hg NEg1_g4
  replace BKg12:=zbg BKg12.out hg NEg12_g4
  replace HB:=zhg HB.out hg (below_size HB.out) GEg4
  replace BKg4:=hbk
  clear hg hbk
  clear j1P
  have j21:=MB.lz1 BKg1.out
  replace cBKg4:=MB.lz5 BKg4.out
  replace cBKg12:=MB.lz5 BKg12.out
  have H:=HH.out
  simp only[Option.some.injEq,Prod.mk.injEq] at H
  obtain⟨rfl,rfl,rfl,rfl,rfl,rfl⟩:=H
  clear HH
  go_wp2
  refine bodyPost_ret (results_ct rfl _ _ g4 57 #[.int .i64 0,.bool false,.int .i64 0,.string (⟨#[]⟩:ByteArray),.slice none 0 0] (0,0) _ rfl BKg4.out Try.underlying57 rfl (by kernel_rfl)) rfl ?_
  exact⟨_,by first|rfl|(simp;done)|(simp[*];done),(Kd.N_nil _ _ _ _ _),HB.out⟩
 go_wp2_with ((with_reducible refine gd 8 rfl ?_);refine zb 8 57 #[.int .i64 0,.bool false,.int .i64 0,.string (⟨#[]⟩:ByteArray),.slice none 0 0] (h:=?_);intro g137 hg w138 BKg137 hb)
 refine zg ?_
 have GEg137:=zge hg (below_size HB.out)
 have NEg1_g137:=znq hg BKg1.out
 have NEg4_g137:=znq hg BKg4.out
 have NEg137_g4:=zsy NEg4_g137
 have NEg12_g137:=znq hg BKg12.out
 have NEg137_g12:=zsy NEg12_g137
 replace HF2:=zfe HF2.out hg hb
 replace BKg1:=zbb BKg1.out hb
 replace BKg4:=zbb BKg4.out hb
 replace BKg12:=zbb BKg12.out hb
 replace HB:=zhb HB.out hb
 clear hg hb
 clear je
 have j2f:=MB.lz1 BKg1.out
 replace cBKg4:=MB.lz5 BKg4.out
 replace cBKg12:=MB.lz5 BKg12.out
 replace cBKg137:=MB.lz5 BKg137.out
 go_wp2_with ((with_reducible refine gs 57 8 rfl ?_);refine zs 57 8 #[.int .i64 a0,.bool false,.int .i64 a1,.string (⟨#[]⟩:ByteArray),.slice none 0 0] BKg137.out [.int .i64 a0,.bool false,.int .i64 a1,.string (⟨#[]⟩:ByteArray),.slice none 0 0] (h:=?_);intro w155 hbk hg)
 refine zg ?_
 replace HF2:=zfg HF2.out hg fun k_ hk_=>hk_.2
 replace BKg1:=zbg BKg1.out hg NEg1_g137
 replace BKg4:=zbg BKg4.out hg NEg4_g137
 replace BKg12:=zbg BKg12.out hg NEg12_g137
 replace HB:=zhg HB.out hg (below_size HB.out) GEg137
 replace BKg137:=hbk
 clear hg hbk
 clear j2f
 have j2w:=MB.lz1 BKg1.out
 replace cBKg4:=MB.lz5 BKg4.out
 replace cBKg12:=MB.lz5 BKg12.out
 replace cBKg137:=MB.lz5 BKg137.out
 go_wp2_with (((with_reducible refine gate_dst (N:=28) rfl ?_);(try(refine gate_guard (by rfl) ?_;dsimp only));refine MW.goesV_ (some 28) rfl rfl Try.func91 (by kernel_rfl) rfl #[.pointer (some ⟨g137,0,none⟩),.pointer (some ⟨g1,0,none⟩)] rfl #[.pointer (some ⟨g1,0,none⟩)] rfl (by simp only[List.map_toArray,List.map_cons,List.map_nil,List.append_toArray,List.cons_append,List.nil_append];first|done|rfl) ?_);refine stop_ ?_)
 refine zg ?_
 go_enter Try.func91,Try.ntmps91
 replace HH:=zd HH
 obtain⟨t172,At173,HH⟩:=HH
 go_wp2_with ((with_reducible refine gc 92 rfl ?_);refine zc 92 (some 6) Try.func92 #[.slice A2 l2.length c2] (h:=?_);(with_reducible refine(Clone_92.calls (fun k_=>((((P_ k_∨w.heap.size≤k_)∧k_≠g1)∧k_≠g4)∧k_≠g12)∧k_≠g137) _ _ l2 t172 _ HF2.out HL2.out At173.out).mono ?_);rintro e w174 ⟨v175,rfl,hn175,hb⟩;refine⟨_,rfl,?_⟩)
 refine zg ?_
 have hba:=Kd.N_base hn175
 have HN175:=znl (ok2:=(fun k_=>((((P_ k_∨w.heap.size≤k_)∧k_≠g1)∧k_≠g4)∧k_≠g12)∧k_≠g137)) hn175 (below_size HB.out) (fun k_ hk_=>hk_.elim (fun h_=>h_) (fun h_=>⟨⟨⟨⟨.inr (Nat.le_trans (below_size HB.out) h_),Kd.freshB (g:=g1) BKg1.out k_ h_⟩,Kd.freshB (g:=g4) BKg4.out k_ h_⟩,Kd.freshB (g:=g12) BKg12.out k_ h_⟩,Kd.freshB (g:=g137) BKg137.out k_ h_⟩))
 replace BKg1:=zbb BKg1.out hb
 replace BKg4:=zbb BKg4.out hb
 replace BKg12:=zbb BKg12.out hb
 replace BKg137:=zbb BKg137.out hb
 replace HB:=zhb HB.out hb
 clear hn175 hba hb
 clear j2w
 have j2Q:=MB.lz1 BKg1.out
 replace cBKg4:=MB.lz5 BKg4.out
 replace cBKg12:=MB.lz5 BKg12.out
 replace cBKg137:=MB.lz5 BKg137.out
 go_wp2_with ((with_reducible refine gs 4 8 rfl ?_);refine zs 4 8 #[.int .i64 a0,.bool true,.int .i64 a1,.string (⟨#[]⟩:ByteArray),.slice none 0 0] BKg137.out [.bool true] (h:=?_);intro w192 hbk hg)
 refine zg ?_
 replace HN175:=zng HN175.out hg fun k_ hk_=>hk_.2
 replace BKg1:=zbg BKg1.out hg NEg1_g137
 replace BKg4:=zbg BKg4.out hg NEg4_g137
 replace BKg12:=zbg BKg12.out hg NEg12_g137
 replace HB:=zhg HB.out hg (below_size HB.out) GEg137
 replace BKg137:=hbk
 clear hg hbk
 clear j2Q
 have j37:=MB.lz1 BKg1.out
 replace cBKg4:=MB.lz5 BKg4.out
 replace cBKg12:=MB.lz5 BKg12.out
 replace cBKg137:=MB.lz5 BKg137.out
 obtain⟨A210,cp211,he_⟩:=Kd.N_slice HN175.out
 subst he_
 go_wp2_with ((with_reducible refine gs 55 10 rfl ?_);refine zs 55 10 #[.int .i64 a0,.bool true,.int .i64 a1,.string (⟨#[]⟩:ByteArray),(.slice A210 t172.length cp211)] BKg137.out [(.slice A210 t172.length cp211)] (h:=?_);intro w209 hbk hg)
 refine zg ?_
 replace HN175:=zng HN175.out hg fun k_ hk_=>hk_.2
 replace BKg1:=zbg BKg1.out hg NEg1_g137
 replace BKg4:=zbg BKg4.out hg NEg4_g137
 replace BKg12:=zbg BKg12.out hg NEg12_g137
 replace HB:=zhg HB.out hg (below_size HB.out) GEg137
 replace BKg137:=hbk
 clear hg hbk
 clear j37
 have j3q:=MB.lz1 BKg1.out
 replace cBKg4:=MB.lz5 BKg4.out
 replace cBKg12:=MB.lz5 BKg12.out
 replace cBKg137:=MB.lz5 BKg137.out
 go_wp2
 go_end0
 refine⟨_,rfl,?_⟩
 go_wp2_with ((with_reducible refine gs 57 6 rfl ?_);refine zs 57 6 #[.int .i64 a0,.bool true,.int .i64 a1,.string (⟨#[]⟩:ByteArray),(.slice A210 t172.length cp211)] BKg12.out [.int .i64 a0,.bool true,.int .i64 a1,.string (⟨#[]⟩:ByteArray),(.slice A210 t172.length cp211)] (h:=?_);intro w228 hbk hg)
 refine zg ?_
 replace HN175:=zng HN175.out hg fun k_ hk_=>hk_.1.2
 replace BKg1:=zbg BKg1.out hg NEg1_g12
 replace BKg4:=zbg BKg4.out hg NEg4_g12
 replace BKg137:=zbg BKg137.out hg NEg137_g12
 replace HB:=zhg HB.out hg (below_size HB.out) GEg12
 replace BKg12:=hbk
 clear hg hbk
 clear j3q
 have j3H:=MB.lz1 BKg1.out
 replace cBKg4:=MB.lz5 BKg4.out
 replace cBKg12:=MB.lz5 BKg12.out
 replace cBKg137:=MB.lz5 BKg137.out
 go_wp2
 refine bodyPost_ret (results_ct rfl _ _ g12 57 #[.int .i64 a0,.bool true,.int .i64 a1,.string (⟨#[]⟩:ByteArray),(.slice A210 t172.length cp211)] (0,0) _ rfl BKg12.out Try.underlying57 rfl (by kernel_rfl)) rfl ?_
 refine⟨_,rfl,?_⟩
 go_wp2_with ((with_reducible refine gs 57 6 rfl ?_);refine zs 57 6 #[.int .i64 a0,.bool true,.int .i64 a1,.string (⟨#[]⟩:ByteArray),(.slice A210 t172.length cp211)] BKg4.out [.int .i64 a0,.bool true,.int .i64 a1,.string (⟨#[]⟩:ByteArray),(.slice A210 t172.length cp211)] (h:=?_);intro w245 hbk hg)
 refine zg ?_
 replace HN175:=zng HN175.out hg fun k_ hk_=>hk_.1.1.2
 replace BKg1:=zbg BKg1.out hg NEg1_g4
 replace BKg12:=zbg BKg12.out hg NEg12_g4
 replace BKg137:=zbg BKg137.out hg NEg137_g4
 replace HB:=zhg HB.out hg (below_size HB.out) GEg4
 replace BKg4:=hbk
 clear hg hbk
 clear j3H
 have j3Y:=MB.lz1 BKg1.out
 replace cBKg4:=MB.lz5 BKg4.out
 replace cBKg12:=MB.lz5 BKg12.out
 replace cBKg137:=MB.lz5 BKg137.out
 have H:=HH.out
 simp only[Option.some.injEq,Prod.mk.injEq] at H
 obtain⟨rfl,rfl,rfl,rfl,rfl,rfl⟩:=H
 clear HH
 go_wp2
 refine bodyPost_ret (results_ct rfl _ _ g4 57 #[.int .i64 a0,.bool true,.int .i64 a1,.string (⟨#[]⟩:ByteArray),(.slice A210 t172.length cp211)] (0,0) _ rfl BKg4.out Try.underlying57 rfl (by kernel_rfl)) rfl ?_
 exact⟨_,by first|rfl|(simp;done)|(simp[*];done),(Kd.N_mono (ok:=(fun k_=>((((P_ k_∨w.heap.size≤k_)∧k_≠g1)∧k_≠g4)∧k_≠g12)∧k_≠g137)) HN175.out (fun k_ hk_=>hk_.1.1.1.1)),HB.out⟩

def reply_group.f (a0:Int) (a1:Int) (l2:List (S57)):Option (Int × Bool × Int × ByteArray × (List (S57))):=(prims_Group.f a0 a1 l2).bind fun bt8=>(some (bt8.1,bt8.2.1,bt8.2.2.1,bt8.2.2.2.1,bt8.2.2.2.2.1))
theorem reply_group.calls (P_:Nat→Prop) (a0:Int) (a1:Int) (A2:Option Addr) (c2:Nat) (l2:List (S57)) (r1:Int) (r2:Bool) (r3:Int) (r4:ByteArray) (r5:List (S57)) (w:World) (hs2:Kd.F k57 w P_ A2 l2.length l2) (hc2:l2.length≤c2) (h:reply_group.f a0 a1 l2=some (r1,r2,r3,r4,r5)):
  Calls Try.prog 45 #[.int .i64 a0,.int .i64 a1,.slice A2 l2.length c2] w (fun e w'=>∃ v4_:Value,e=.returned (.agg #[.int .i64 r1,.bool r2,.int .i64 r3,.string r4,v4_])∧Kd.N k57 57 w' w.heap.size (fun k_=>P_ k_∨w.heap.size≤k_) v4_ r5∧Below w.heap.size w w'):=by
 unfold reply_group.f at h
 have HH:=za h
 clear h
 have HF2:=zfp hs2
 have HL2:=za hc2
 clear hs2 hc2
 have HB:=za (Below.refl w.heap.size w)
 have hu57:=Try.underlying57
 go_enter Try.func45,Try.ntmps45
 go_wp2_with ((with_reducible refine gd 6 rfl ?_);refine zb 6 57 #[.int .i64 0,.bool false,.int .i64 0,.string (⟨#[]⟩:ByteArray),.slice none 0 0] (h:=?_);intro g1 hg w2 BKg1 hb)
 refine zg ?_
 have GEg1:=zge hg (below_size HB.out)
 replace HF2:=zfe HF2.out hg hb
 replace HB:=zhb HB.out hb
 clear hg hb
 replace cBKg1:=MB.lz5 BKg1.out
 replace HH:=zd HH
 obtain⟨⟨t8,t9,t10,t11,t12,t13⟩,At14,HH⟩:=HH
 dsimp only at HH
 go_wp2_with ((with_reducible refine gc 65 rfl ?_);refine zc 65 (some 13) Try.func65 #[.int .i64 a0,.int .i64 a1,.slice A2 l2.length c2] (h:=?_);(with_reducible refine(prims_Group.calls (fun k_=>(P_ k_∨w.heap.size≤k_)∧k_≠g1) a0 a1 _ _ l2 t8 t9 t10 t11 t12 t13 _ HF2.out HL2.out At14.out).mono ?_);rintro e w15 ⟨v16,rfl,hn16,hb⟩;refine⟨_,rfl,?_⟩)
 refine zg ?_
 have hba:=Kd.N_base hn16
 have HN16:=znl (ok2:=(fun k_=>(P_ k_∨w.heap.size≤k_)∧k_≠g1)) hn16 (below_size HB.out) (fun k_ hk_=>hk_.elim (fun h_=>h_) (fun h_=>⟨.inr (Nat.le_trans (below_size HB.out) h_),Kd.freshB (g:=g1) BKg1.out k_ h_⟩))
 replace BKg1:=zbb BKg1.out hb
 replace HB:=zhb HB.out hb
 clear hn16 hba hb
 replace cBKg1:=MB.lz5 BKg1.out
 go_wp2_with ((with_reducible refine gd 7 rfl ?_);refine zb 7 57 #[.int .i64 0,.bool false,.int .i64 0,.string (⟨#[]⟩:ByteArray),.slice none 0 0] (h:=?_);intro g22 hg w23 BKg22 hb)
 refine zg ?_
 have GEg22:=zge hg (below_size HB.out)
 have NEg1_g22:=znq hg BKg1.out
 have NEg22_g1:=zsy NEg1_g22
 replace HN16:=zne HN16.out hg hb
 replace BKg1:=zbb BKg1.out hb
 replace HB:=zhb HB.out hb
 clear hg hb
 replace cBKg1:=MB.lz5 BKg1.out
 replace cBKg22:=MB.lz5 BKg22.out
 obtain⟨A35,cp36,he_⟩:=Kd.N_slice HN16.out
 subst he_
 go_wp2_with ((with_reducible refine gs 57 7 rfl ?_);refine zs 57 7 #[.int .i64 t8,.bool t9,.int .i64 t10,.string t11,(.slice A35 t12.length cp36)] BKg22.out [.int .i64 t8,.bool t9,.int .i64 t10,.string t11,(.slice A35 t12.length cp36)] (h:=?_);intro w34 hbk hg)
 refine zg ?_
 replace HN16:=zng HN16.out hg fun k_ hk_=>hk_.2
 replace BKg1:=zbg BKg1.out hg NEg1_g22
 replace HB:=zhg HB.out hg (below_size HB.out) GEg22
 replace BKg22:=hbk
 clear hg hbk
 replace cBKg1:=MB.lz5 BKg1.out
 replace cBKg22:=MB.lz5 BKg22.out
 go_wp2_with ((with_reducible refine gs 57 6 rfl ?_);refine zs 57 6 #[.int .i64 t8,.bool t9,.int .i64 t10,.string t11,(.slice A35 t12.length cp36)] BKg1.out [.int .i64 t8,.bool t9,.int .i64 t10,.string t11,(.slice A35 t12.length cp36)] (h:=?_);intro w47 hbk hg)
 refine zg ?_
 replace HN16:=zng HN16.out hg fun k_ hk_=>hk_.1.2
 replace BKg22:=zbg BKg22.out hg NEg22_g1
 replace HB:=zhg HB.out hg (below_size HB.out) GEg1
 replace BKg1:=hbk
 clear hg hbk
 replace cBKg1:=MB.lz5 BKg1.out
 replace cBKg22:=MB.lz5 BKg22.out
 have H:=HH.out
 simp only[Option.some.injEq,Prod.mk.injEq] at H
 obtain⟨rfl,rfl,rfl,rfl,rfl⟩:=H
 clear HH
 go_wp2
 refine bodyPost_ret (MW.results_c rfl _ _ g1 57 #[.int .i64 t8,.bool t9,.int .i64 t10,.string t11,(.slice A35 t12.length cp36)] (0,0) _ rfl BKg1.out Try.underlying57 rfl (by kernel_rfl)) rfl ?_
 exact⟨_,by first|rfl|(simp;done)|(simp[*];done),(Kd.N_mono (ok:=(fun k_=>((P_ k_∨w.heap.size≤k_)∧k_≠g1)∧k_≠g22)) HN16.out (fun k_ hk_=>hk_.1.1)),HB.out⟩

def prims_signed.l0:Nat→(List Int)→Option (ByteArray)
 |0,_=>none
 |k+1,x8=>if (x8.length:Int)>1 then(if 0<(x8.length:Int) then(if (rd x8 (0:Int))=0 then(if 1<(x8.length:Int) then(if (rd x8 (1:Int))<128 then(if 1≤(x8.length:Int) then((some (List.drop 1 x8:List Int)).bind fun y37=>((prims_signed.l0 k y37))) else(none)) else(if (rd x8 (0:Int))=255 then(if (rd x8 (1:Int))≥128 then(if 1≤(x8.length:Int) then((some (List.drop 1 x8:List Int)).bind fun y51=>((prims_signed.l0 k y51))) else(none)) else(some (strOfNums x8))) else(some (strOfNums x8)))) else(none)) else(if (rd x8 (0:Int))=255 then(if 1<(x8.length:Int) then(if (rd x8 (1:Int))≥128 then(if 1≤(x8.length:Int) then((some (List.drop 1 x8:List Int)).bind fun y80=>((prims_signed.l0 k y80))) else(none)) else(some (strOfNums x8))) else(none)) else(some (strOfNums x8)))) else(none)) else(some (strOfNums x8))
def prims_signed.f (k:Nat) (a0:Int):Option (ByteArray):=(prims_signed.l0 k ([(a0 / 16777216) % 256,(a0 / 65536) % 256,(a0 / 256) % 256,(a0) % 256]:List Int))
theorem prims_signed.mono_l:∀ k,(∀ y0,LeO (prims_signed.l0 k y0) (prims_signed.l0 (k+1) y0))
 |0=>fun _ r h=>by simp[prims_signed.l0] at h
 |k+1=>by
  have ih0:=prims_signed.mono_l k
  ·intro y0
   unfold prims_signed.l0
   with_reducible repeat' first|exact ih0 _|exact LeO.refl _|exact LeO.none _|refine LeO.ite ?_ ?_|refine LeO.bind ?_ (fun _=>?_)
theorem prims_signed.mono:∀ a0_ k,LeO (prims_signed.f k a0_) (prims_signed.f (k+1) a0_):=by
 intro a0_ k
 have ih0:=prims_signed.mono_l k
 unfold prims_signed.f
 with_reducible repeat' first|exact ih0 _|exact LeO.refl _|exact LeO.none _|refine LeO.ite ?_ ?_|refine LeO.bind ?_ (fun _=>?_)
theorem prims_signed.calls (k:Nat) (a0:Int) (r:ByteArray) (w:World) (h:prims_signed.f k a0=some r):
  Calls Try.prog 76 #[.int .i32 a0] w (fun e w'=>e=.returned (.string r)∧Below w.heap.size w w'):=by
 unfold prims_signed.f at h
 have HH:=za h
 clear h
 have HB:=za (Below.refl w.heap.size w)
 go_enter Try.func76,Try.ntmps76
 go_wp2_with (((with_reducible refine gate_dst (N:=15) rfl ?_);(try(refine gate_guard (by rfl) ?_;dsimp only));refine Kd.N_lit (Kd.int .u8) w.heap.size 5 rfl (N':=15) rfl (xs:=([(a0 / 16777216) % 256,(a0 / 65536) % 256,(a0 / 256) % 256,(a0) % 256]:List Int)) (inner:=[.int .u8 ((a0 / 16777216) % 256),.int .u8 ((a0 / 65536) % 256),.int .u8 ((a0 / 256) % 256),.int .u8 ((a0) % 256)]) (ok:=(fun k_=>(w.heap.size≤k_))) (okp:=(fun k_=>(w.heap.size≤k_))) ?hr ?hp (fun _ hk_=>hk_) ?hf HB.out (below_size HB.out) (by first|simp|decide) ?_;(case hr=>first|(go_simp;done)|(go_simp;rfl));(case hp=>exact(Reps.one (fun _ _=>rfl) (Reps.one (fun _ _=>rfl) (Reps.one (fun _ _=>rfl) (Reps.one (fun _ _=>rfl) (Reps.none _ _))))));(case hf=>exact(show ∀ k_,w.heap.size≤k_→(fun k_=>(w.heap.size≤k_)) k_ from fun k_ h_=>(Nat.le_trans (below_size HB.out) h_)) _ (Nat.le_refl _));intro v1 w2 hn1 hb1 hg1 hat1);replace hat1:=za hat1;refine stop_ ?_)
 refine zg ?_
 replace hat1:=hat1.out
 have hbe:=MW.grown_below hg1
 have hba:=MW.base_of hat1
 replace HB:=za hb1
 have HN3:=za hn1
 clear hn1 hb1 hg1 hat1 hbe hba
 obtain⟨A4,cp5,he_⟩:=Kd.N_slice HN3.out
 subst he_
 have HL7:=za (Kd.N_reads' HN3.out).2.1
 have HF6:=za (Kd.N_F HN3.out)
 clear HN3
 go_wp2
 go_loopg [3] k (fun kq u3 w'=>∃ (x8:List Int) (A9:Option Addr) (cp9:Nat),u3=.slice A9 x8.length cp9∧Aside0 ((prims_signed.l0 kq x8)=some r)∧Aside0 (kq≤k)∧Aside0 (Kd.F (Kd.int .u8) w' (fun k_=>(w.heap.size≤k_)) A4 ([(a0 / 16777216) % 256,(a0 / 65536) % 256,(a0 / 256) % 256,(a0) % 256]:List Int).length ([(a0 / 16777216) % 256,(a0 / 65536) % 256,(a0 / 256) % 256,(a0) % 256]:List Int))∧Aside0 (x8.length≤cp9)∧Aside0 (Kd.F (Kd.int .u8) w' (fun k_=>(w.heap.size≤k_)) A9 x8.length x8)∧Aside0 (Below w.heap.size w w'))
 case atStart=>exact⟨([(a0 / 16777216) % 256,(a0 / 65536) % 256,(a0 / 256) % 256,(a0) % 256]:List Int),A4,cp5,(by first|rfl|(simp;done)|(simp[*];done)),HH,⟨Nat.le_refl _⟩,⟨HF6.out⟩,⟨HL7.out⟩,⟨HF6.out⟩,⟨HB.out⟩⟩
 case round=>
  clear HH
  clear HF6 HB
  obtain⟨x8,A9,cp9,rfl,HA,HK0,HF6,HL9,HF9,HB⟩:=hrel
  obtain⟨w11,rfl⟩:∃ wo_:World,wo_=wr:=⟨_,rfl⟩
  cases gk with
  |zero=>exact absurd HA.out (by simp[prims_signed.l0])
  |succ k10=>
   have H:=HA.out
   clear HA
   simp only[prims_signed.l0] at H
   have HH:=za H
   clear H
   replace HH:=zqK 1 HH
   rcases HH with⟨HH,hk13,hk14⟩|⟨HH,hk96,hk97⟩
   ·replace HH:=zqno 0 HH
    obtain⟨HH,hk16,hk17,hk18,hk19⟩:=HH
    have p20:0≤(0:Int):=by decide
    have q20:(0:Int)<(x8.length:Int):=of_decide_eq_true (by first|(with_reducible assumption)|assumption)
    obtain⟨ad20,e20,hx20_0⟩:=Kd.at_int (Kd.F_now HF9.out) (0:Int) p20 q20
    cases e20
    (try simp only[show((0:Int)).toNat=0 from rfl] at hx20_0)
    (try rw[Addr.add_zero'] at hx20_0)
    replace p20:=eq_true p20
    replace q20:=eq_true q20
    replace HH:=zqe HH
    rcases HH with⟨HH,hk22,hk23⟩|⟨HH,hk63,hk64⟩
    ·replace HH:=zqno 1 HH
     obtain⟨HH,hk25,hk26,hk27,hk28⟩:=HH
     have p29:0≤(1:Int):=by decide
     have q29:(1:Int)<(x8.length:Int):=of_decide_eq_true (by first|(with_reducible assumption)|assumption)
     obtain⟨ad29,e29,hx29_0⟩:=Kd.at_int (Kd.F_now HF9.out) (1:Int) p29 q29
     cases e29
     (try simp only[show((1:Int)).toNat=1 from rfl] at hx29_0)
     (try simp only[Nat.reduceMul,Nat.reduceEqDiff,Go.Addr.add,↓reduceIte] at hx29_0)
     replace p29:=eq_true p29
     replace q29:=eq_true q29
     replace HH:=zqt HH
     rcases HH with⟨HH,hk31,hk32⟩|⟨HH,hk40,hk41⟩
     ·replace HH:=zqlo 1 HH
      obtain⟨HH,hk35,hk36⟩:=HH
      obtain⟨i033,hi033,_,hsz33,_⟩:=info_parts info5
      have q033:0≤(1:Int):=(by decide)
      have ql33:(1:Int)≤((x8.length:Int):Int):=(by first|exact Int.le_refl _|exact of_decide_eq_true (by first|(with_reducible assumption)|assumption)|(simp;done))
      have hcut33:=cut_from (P:=Try.prog) 95 5 .i64 Try.underlying95 hi033 1 hsz33 (some ad20) x8.length cp9 1 q033 ql33
      have hr33:Kd.F (Kd.int .u8) w11 (fun k_=>(w.heap.size≤k_)) (if cp9=1 then(some ad20) else((some ad20):Option Addr).map (·.add (1*1))) (List.drop 1 x8).length (List.drop 1 x8):=Kd.F_cut (m:=1) (c:=cp9) HF9.out (by omega) HL9.out
      have hy33:(List.drop 1 x8).length=x8.length - 1:=List.length_drop
      have hl33:(List.drop 1 x8).length≤cp9 - 1:=(by have:=HL9.out;rw[List.length_drop];omega)
      try simp only[show((1:Int)).toNat=1 from rfl] at hcut33
      rw[← hy33] at hcut33
      generalize (if cp9=1 then(some ad20) else((some ad20):Option Addr).map (·.add (1*1)))=A33 at hcut33 hr33
      generalize cp9 - 1=cp33 at hcut33 hl33
      clear hy33 q033 ql33
      have HF33:=za hr33
      have HL33:=za hl33
      clear hr33 hl33 hi033 hsz33
      obtain⟨y37,hy37⟩:∃ y_:List Int,y_=List.drop 1 x8:=⟨_,rfl⟩
      rw[← hy37] at hcut33 HL33 HF33
      have H:((prims_signed.l0 k10 y37))=some r:=by rw[hy37];exact HH.out
      replace HH:=za H
      clear H
      clear hy37
      go_wp2
      go_roundg k10
      case measure=>have:=HK0.out;omega
      case rel=>exact⟨y37,A33,cp33,(by first|rfl|(simp;done)|(simp[*];done)),HH,⟨by have:=HK0.out;omega⟩,⟨HF6.out⟩,⟨HL33.out⟩,⟨HF33.out⟩,⟨HB.out⟩⟩
     replace HH:=zqe HH
     rcases HH with⟨HH,hk43,hk44⟩|⟨HH,hk56,hk57⟩
     ·replace HH:=zqG HH
      rcases HH with⟨HH,hk46⟩|⟨HH,hk54⟩
      ·replace HH:=zqlo 1 HH
       obtain⟨HH,hk49,hk50⟩:=HH
       obtain⟨i047,hi047,_,hsz47,_⟩:=info_parts info5
       have q047:0≤(1:Int):=(by decide)
       have ql47:(1:Int)≤((x8.length:Int):Int):=(by first|exact Int.le_refl _|exact of_decide_eq_true (by first|(with_reducible assumption)|assumption)|(simp;done))
       have hcut47:=cut_from (P:=Try.prog) 95 5 .i64 Try.underlying95 hi047 1 hsz47 (some ad20) x8.length cp9 1 q047 ql47
       have hr47:Kd.F (Kd.int .u8) w11 (fun k_=>(w.heap.size≤k_)) (if cp9=1 then(some ad20) else((some ad20):Option Addr).map (·.add (1*1))) (List.drop 1 x8).length (List.drop 1 x8):=Kd.F_cut (m:=1) (c:=cp9) HF9.out (by omega) HL9.out
       have hy47:(List.drop 1 x8).length=x8.length - 1:=List.length_drop
       have hl47:(List.drop 1 x8).length≤cp9 - 1:=(by have:=HL9.out;rw[List.length_drop];omega)
       try simp only[show((1:Int)).toNat=1 from rfl] at hcut47
       rw[← hy47] at hcut47
       generalize (if cp9=1 then(some ad20) else((some ad20):Option Addr).map (·.add (1*1)))=A47 at hcut47 hr47
       generalize cp9 - 1=cp47 at hcut47 hl47
       clear hy47 q047 ql47
       have HF47:=za hr47
       have HL47:=za hl47
       clear hr47 hl47 hi047 hsz47
       obtain⟨y51,hy51⟩:∃ y_:List Int,y_=List.drop 1 x8:=⟨_,rfl⟩
       rw[← hy51] at hcut47 HL47 HF47
       have H:((prims_signed.l0 k10 y51))=some r:=by rw[hy51];exact HH.out
       replace HH:=za H
       clear H
       clear hy51
       go_wp2
       go_roundg k10
       case measure=>have:=HK0.out;omega
       case rel=>exact⟨y51,A47,cp47,(by first|rfl|(simp;done)|(simp[*];done)),HH,⟨by have:=HK0.out;omega⟩,⟨HF6.out⟩,⟨HL47.out⟩,⟨HF47.out⟩,⟨HB.out⟩⟩
      have hcv55:=Kd.C_string (P:=Try.prog) (A:=(some ad20)) (c:=cp9) Try.underlying95 Try.underlying5 Try.underlying9 (Kd.F_now HF9.out)
      obtain rfl:=Option.some.inj HH.out
      clear HH
      go_wp2
      go_ret
      exact zfi HB.out
     have hcv58:=Kd.C_string (P:=Try.prog) (A:=(some ad20)) (c:=cp9) Try.underlying95 Try.underlying5 Try.underlying9 (Kd.F_now HF9.out)
     obtain rfl:=Option.some.inj HH.out
     clear HH
     go_wp2
     go_ret
     exact zfi HB.out
    replace HH:=zqe HH
    rcases HH with⟨HH,hk66,hk67⟩|⟨HH,hk89,hk90⟩
    ·replace HH:=zqno 1 HH
     obtain⟨HH,hk69,hk70,hk71,hk72⟩:=HH
     have p73:0≤(1:Int):=by decide
     have q73:(1:Int)<(x8.length:Int):=of_decide_eq_true (by first|(with_reducible assumption)|assumption)
     obtain⟨ad73,e73,hx73_0⟩:=Kd.at_int (Kd.F_now HF9.out) (1:Int) p73 q73
     cases e73
     (try simp only[show((1:Int)).toNat=1 from rfl] at hx73_0)
     (try simp only[Nat.reduceMul,Nat.reduceEqDiff,Go.Addr.add,↓reduceIte] at hx73_0)
     replace p73:=eq_true p73
     replace q73:=eq_true q73
     replace HH:=zqG HH
     rcases HH with⟨HH,hk75⟩|⟨HH,hk83⟩
     ·replace HH:=zqlo 1 HH
      obtain⟨HH,hk78,hk79⟩:=HH
      obtain⟨i076,hi076,_,hsz76,_⟩:=info_parts info5
      have q076:0≤(1:Int):=(by decide)
      have ql76:(1:Int)≤((x8.length:Int):Int):=(by first|exact Int.le_refl _|exact of_decide_eq_true (by first|(with_reducible assumption)|assumption)|(simp;done))
      have hcut76:=cut_from (P:=Try.prog) 95 5 .i64 Try.underlying95 hi076 1 hsz76 (some ad20) x8.length cp9 1 q076 ql76
      have hr76:Kd.F (Kd.int .u8) w11 (fun k_=>(w.heap.size≤k_)) (if cp9=1 then(some ad20) else((some ad20):Option Addr).map (·.add (1*1))) (List.drop 1 x8).length (List.drop 1 x8):=Kd.F_cut (m:=1) (c:=cp9) HF9.out (by omega) HL9.out
      have hy76:(List.drop 1 x8).length=x8.length - 1:=List.length_drop
      have hl76:(List.drop 1 x8).length≤cp9 - 1:=(by have:=HL9.out;rw[List.length_drop];omega)
      try simp only[show((1:Int)).toNat=1 from rfl] at hcut76
      rw[← hy76] at hcut76
      generalize (if cp9=1 then(some ad20) else((some ad20):Option Addr).map (·.add (1*1)))=A76 at hcut76 hr76
      generalize cp9 - 1=cp76 at hcut76 hl76
      clear hy76 q076 ql76
      have HF76:=za hr76
      have HL76:=za hl76
      clear hr76 hl76 hi076 hsz76
      obtain⟨y80,hy80⟩:∃ y_:List Int,y_=List.drop 1 x8:=⟨_,rfl⟩
      rw[← hy80] at hcut76 HL76 HF76
      have H:((prims_signed.l0 k10 y80))=some r:=by rw[hy80];exact HH.out
      replace HH:=za H
      clear H
      clear hy80
      go_wp2
      go_roundg k10
      case measure=>have:=HK0.out;omega
      case rel=>exact⟨y80,A76,cp76,(by first|rfl|(simp;done)|(simp[*];done)),HH,⟨by have:=HK0.out;omega⟩,⟨HF6.out⟩,⟨HL76.out⟩,⟨HF76.out⟩,⟨HB.out⟩⟩
     have hcv84:=Kd.C_string (P:=Try.prog) (A:=(some ad20)) (c:=cp9) Try.underlying95 Try.underlying5 Try.underlying9 (Kd.F_now HF9.out)
     obtain rfl:=Option.some.inj HH.out
     clear HH
     go_wp2
     go_ret
     exact zfi HB.out
    have hcv91:=Kd.C_string (P:=Try.prog) (A:=(some ad20)) (c:=cp9) Try.underlying95 Try.underlying5 Try.underlying9 (Kd.F_now HF9.out)
    obtain rfl:=Option.some.inj HH.out
    clear HH
    go_wp2
    go_ret
    exact zfi HB.out
   have hcv98:=Kd.C_string (P:=Try.prog) (A:=A9) (c:=cp9) Try.underlying95 Try.underlying5 Try.underlying9 (Kd.F_now HF9.out)
   obtain rfl:=Option.some.inj HH.out
   clear HH
   go_wp2
   go_ret
   exact zfi HB.out

def prims_Int.f (k:Nat) (a0:Int) (a1:Int) (a2:Int):Option (Int × Bool × Int × ByteArray × (List (S57)) × Int):=if a2<(-2147483648) then(some (0,false,0,(⟨#[]⟩:ByteArray),([]:List (S57)),2)) else(if a2>2147483647 then(some (0,false,0,(⟨#[]⟩:ByteArray),([]:List (S57)),2)) else(if a0<0 then(some (0,false,0,(⟨#[]⟩:ByteArray),([]:List (S57)),2)) else(if a0>3 then(some (0,false,0,(⟨#[]⟩:ByteArray),([]:List (S57)),2)) else(if a1<0 then(some (0,false,0,(⟨#[]⟩:ByteArray),([]:List (S57)),2)) else(if a1>30 then(some (0,false,0,(⟨#[]⟩:ByteArray),([]:List (S57)),2)) else((prims_signed.f k (wrap32 (a2))).bind fun t194=>(some (a0,false,a1,t194,([]:List (S57)),0))))))))
theorem prims_Int.mono:∀ a0_ a1_ a2_ k,LeO (prims_Int.f k a0_ a1_ a2_) (prims_Int.f (k+1) a0_ a1_ a2_):=by
 intro a0_ a1_ a2_ k
 unfold prims_Int.f
 with_reducible repeat' first|exact prims_signed.mono _ _|exact LeO.refl _|exact LeO.none _|refine LeO.ite ?_ ?_|refine LeO.bind ?_ (fun _=>?_)
theorem prims_Int.calls (k:Nat) (a0:Int) (a1:Int) (a2:Int) (r1:Int) (r2:Bool) (r3:Int) (r4:ByteArray) (r5:List (S57)) (r6:Int) (w:World) (h:prims_Int.f k a0 a1 a2=some (r1,r2,r3,r4,r5,r6)):
  Calls Try.prog 66 #[.int .i64 a0,.int .i64 a1,.int .i64 a2] w (fun e w'=>∃ v4_:Value,e=.returned (.tuple #[.agg #[.int .i64 r1,.bool r2,.int .i64 r3,.string r4,v4_],.int .i64 r6])∧Kd.N k57 57 w' w.heap.size (fun k_=>w.heap.size≤k_) v4_ r5∧Below w.heap.size w w'):=by
 unfold prims_Int.f at h
 have HH:=za h
 clear h
 have HB:=za (Below.refl w.heap.size w)
 have hu57:=Try.underlying57
 go_enter Try.func66,Try.ntmps66
 go_wp2_with ((with_reducible refine gd 5 rfl ?_);refine zb 5 3 #[.int .i64 a2] (h:=?_);intro g1 hg w2 BKg1 hb)
 refine zg ?_
 replace HB:=zhb HB.out hb
 clear hg hb
 have j3:=MB.lz1 BKg1.out
 go_wp2_with ((with_reducible refine gd 6 rfl ?_);refine zb 6 57 #[.int .i64 0,.bool false,.int .i64 0,.string (⟨#[]⟩:ByteArray),.slice none 0 0] (h:=?_);intro g4 hg w5 BKg4 hb)
 refine zg ?_
 have GEg4:=zge hg (below_size HB.out)
 have NEg1_g4:=znq hg BKg1.out
 replace BKg1:=zbb BKg1.out hb
 replace HB:=zhb HB.out hb
 clear hg hb
 clear j3
 have j6:=MB.lz1 BKg1.out
 replace cBKg4:=MB.lz5 BKg4.out
 replace HH:=zqt HH
 rcases HH with⟨HH,hk13,hk14⟩|⟨HH,hk22,hk23⟩
 ·go_wp2_with ((with_reducible refine gs 57 6 rfl ?_);refine zs 57 6 #[.int .i64 0,.bool false,.int .i64 0,.string (⟨#[]⟩:ByteArray),.slice none 0 0] BKg4.out [.int .i64 0,.bool false,.int .i64 0,.string (⟨#[]⟩:ByteArray),.slice none 0 0] (h:=?_);intro w15 hbk hg)
  refine zg ?_
  replace BKg1:=zbg BKg1.out hg NEg1_g4
  replace HB:=zhg HB.out hg (below_size HB.out) GEg4
  replace BKg4:=hbk
  clear hg hbk
  clear j6
  have jg:=MB.lz1 BKg1.out
  replace cBKg4:=MB.lz5 BKg4.out
  have H:=HH.out
  simp only[Option.some.injEq,Prod.mk.injEq] at H
  obtain⟨rfl,rfl,rfl,rfl,rfl,rfl⟩:=H
  clear HH
  go_wp2
  refine bodyPost_ret (results_ct rfl _ _ g4 57 #[.int .i64 0,.bool false,.int .i64 0,.string (⟨#[]⟩:ByteArray),.slice none 0 0] (0,0) _ rfl BKg4.out Try.underlying57 rfl (by kernel_rfl)) rfl ?_
  exact⟨_,by first|rfl|(simp;done)|(simp[*];done),(Kd.N_nil _ _ _ _ _),HB.out⟩
 replace HH:=zqg HH
 rcases HH with⟨HH,hk25⟩|⟨HH,hk33⟩
 ·go_wp2_with ((with_reducible refine gs 57 6 rfl ?_);refine zs 57 6 #[.int .i64 0,.bool false,.int .i64 0,.string (⟨#[]⟩:ByteArray),.slice none 0 0] BKg4.out [.int .i64 0,.bool false,.int .i64 0,.string (⟨#[]⟩:ByteArray),.slice none 0 0] (h:=?_);intro w26 hbk hg)
  refine zg ?_
  replace BKg1:=zbg BKg1.out hg NEg1_g4
  replace HB:=zhg HB.out hg (below_size HB.out) GEg4
  replace BKg4:=hbk
  clear hg hbk
  clear j6
  have jr:=MB.lz1 BKg1.out
  replace cBKg4:=MB.lz5 BKg4.out
  have H:=HH.out
  simp only[Option.some.injEq,Prod.mk.injEq] at H
  obtain⟨rfl,rfl,rfl,rfl,rfl,rfl⟩:=H
  clear HH
  go_wp2
  refine bodyPost_ret (results_ct rfl _ _ g4 57 #[.int .i64 0,.bool false,.int .i64 0,.string (⟨#[]⟩:ByteArray),.slice none 0 0] (0,0) _ rfl BKg4.out Try.underlying57 rfl (by kernel_rfl)) rfl ?_
  exact⟨_,by first|rfl|(simp;done)|(simp[*];done),(Kd.N_nil _ _ _ _ _),HB.out⟩
 go_wp2_with (((with_reducible refine gate_callee (f:=84) rfl ?_);(try(refine gate_guard (by rfl) ?_;dsimp only));refine goesL_ (some 18) rfl rfl Try.func84 (by kernel_rfl) rfl #[.int .i64 a0,.int .i64 a1,.func (.func 93) #[] #[.pointer (some ⟨g1,0,none⟩)]] rfl (by(try simp only[List.map_toArray,List.map_cons,List.map_nil]);first|done|rfl) ?_);refine stop_ ?_)
 refine zg ?_
 go_enter Try.func84,Try.ntmps84
 go_wp2_with ((with_reducible refine gd 6 rfl ?_);refine zb 6 57 #[.int .i64 0,.bool false,.int .i64 0,.string (⟨#[]⟩:ByteArray),.slice none 0 0] (h:=?_);intro g34 hg w35 BKg34 hb)
 refine zg ?_
 have GEg34:=zge hg (below_size HB.out)
 have NEg1_g34:=znq hg BKg1.out
 have NEg4_g34:=znq hg BKg4.out
 have NEg34_g4:=zsy NEg4_g34
 replace BKg1:=zbb BKg1.out hb
 replace BKg4:=zbb BKg4.out hb
 replace HB:=zhb HB.out hb
 clear hg hb
 clear j6
 have jA:=MB.lz1 BKg1.out
 replace cBKg4:=MB.lz5 BKg4.out
 replace cBKg34:=MB.lz5 BKg34.out
 replace HH:=zqt HH
 rcases HH with⟨HH,hk48,hk49⟩|⟨HH,hk74,hk75⟩
 ·go_wp2_with ((with_reducible refine gs 57 6 rfl ?_);refine zs 57 6 #[.int .i64 0,.bool false,.int .i64 0,.string (⟨#[]⟩:ByteArray),.slice none 0 0] BKg34.out [.int .i64 0,.bool false,.int .i64 0,.string (⟨#[]⟩:ByteArray),.slice none 0 0] (h:=?_);intro w50 hbk hg)
  refine zg ?_
  replace BKg1:=zbg BKg1.out hg NEg1_g34
  replace BKg4:=zbg BKg4.out hg NEg4_g34
  replace HB:=zhg HB.out hg (below_size HB.out) GEg34
  replace BKg34:=hbk
  clear hg hbk
  clear jA
  have jP:=MB.lz1 BKg1.out
  replace cBKg4:=MB.lz5 BKg4.out
  replace cBKg34:=MB.lz5 BKg34.out
  go_wp2
  refine bodyPost_ret (results_ct rfl _ _ g34 57 #[.int .i64 0,.bool false,.int .i64 0,.string (⟨#[]⟩:ByteArray),.slice none 0 0] (0,0) _ rfl BKg34.out Try.underlying57 rfl (by kernel_rfl)) rfl ?_
  refine⟨_,rfl,?_⟩
  go_wp2_with ((with_reducible refine gs 57 6 rfl ?_);refine zs 57 6 #[.int .i64 0,.bool false,.int .i64 0,.string (⟨#[]⟩:ByteArray),.slice none 0 0] BKg4.out [.int .i64 0,.bool false,.int .i64 0,.string (⟨#[]⟩:ByteArray),.slice none 0 0] (h:=?_);intro w62 hbk hg)
  refine zg ?_
  replace BKg1:=zbg BKg1.out hg NEg1_g4
  replace BKg34:=zbg BKg34.out hg NEg34_g4
  replace HB:=zhg HB.out hg (below_size HB.out) GEg4
  replace BKg4:=hbk
  clear hg hbk
  clear jP
  have j11:=MB.lz1 BKg1.out
  replace cBKg4:=MB.lz5 BKg4.out
  replace cBKg34:=MB.lz5 BKg34.out
  have H:=HH.out
  simp only[Option.some.injEq,Prod.mk.injEq] at H
  obtain⟨rfl,rfl,rfl,rfl,rfl,rfl⟩:=H
  clear HH
  go_wp2
  refine bodyPost_ret (results_ct rfl _ _ g4 57 #[.int .i64 0,.bool false,.int .i64 0,.string (⟨#[]⟩:ByteArray),.slice none 0 0] (0,0) _ rfl BKg4.out Try.underlying57 rfl (by kernel_rfl)) rfl ?_
  exact⟨_,by first|rfl|(simp;done)|(simp[*];done),(Kd.N_nil _ _ _ _ _),HB.out⟩
 replace HH:=zqg HH
 rcases HH with⟨HH,hk77⟩|⟨HH,hk102⟩
 ·go_wp2_with ((with_reducible refine gs 57 6 rfl ?_);refine zs 57 6 #[.int .i64 0,.bool false,.int .i64 0,.string (⟨#[]⟩:ByteArray),.slice none 0 0] BKg34.out [.int .i64 0,.bool false,.int .i64 0,.string (⟨#[]⟩:ByteArray),.slice none 0 0] (h:=?_);intro w78 hbk hg)
  refine zg ?_
  replace BKg1:=zbg BKg1.out hg NEg1_g34
  replace BKg4:=zbg BKg4.out hg NEg4_g34
  replace HB:=zhg HB.out hg (below_size HB.out) GEg34
  replace BKg34:=hbk
  clear hg hbk
  clear jA
  have j1h:=MB.lz1 BKg1.out
  replace cBKg4:=MB.lz5 BKg4.out
  replace cBKg34:=MB.lz5 BKg34.out
  go_wp2
  refine bodyPost_ret (results_ct rfl _ _ g34 57 #[.int .i64 0,.bool false,.int .i64 0,.string (⟨#[]⟩:ByteArray),.slice none 0 0] (0,0) _ rfl BKg34.out Try.underlying57 rfl (by kernel_rfl)) rfl ?_
  refine⟨_,rfl,?_⟩
  go_wp2_with ((with_reducible refine gs 57 6 rfl ?_);refine zs 57 6 #[.int .i64 0,.bool false,.int .i64 0,.string (⟨#[]⟩:ByteArray),.slice none 0 0] BKg4.out [.int .i64 0,.bool false,.int .i64 0,.string (⟨#[]⟩:ByteArray),.slice none 0 0] (h:=?_);intro w90 hbk hg)
  refine zg ?_
  replace BKg1:=zbg BKg1.out hg NEg1_g4
  replace BKg34:=zbg BKg34.out hg NEg34_g4
  replace HB:=zhg HB.out hg (below_size HB.out) GEg4
  replace BKg4:=hbk
  clear hg hbk
  clear j1h
  have j1t:=MB.lz1 BKg1.out
  replace cBKg4:=MB.lz5 BKg4.out
  replace cBKg34:=MB.lz5 BKg34.out
  have H:=HH.out
  simp only[Option.some.injEq,Prod.mk.injEq] at H
  obtain⟨rfl,rfl,rfl,rfl,rfl,rfl⟩:=H
  clear HH
  go_wp2
  refine bodyPost_ret (results_ct rfl _ _ g4 57 #[.int .i64 0,.bool false,.int .i64 0,.string (⟨#[]⟩:ByteArray),.slice none 0 0] (0,0) _ rfl BKg4.out Try.underlying57 rfl (by kernel_rfl)) rfl ?_
  exact⟨_,by first|rfl|(simp;done)|(simp[*];done),(Kd.N_nil _ _ _ _ _),HB.out⟩
 replace HH:=zqt HH
 rcases HH with⟨HH,hk104,hk105⟩|⟨HH,hk130,hk131⟩
 ·go_wp2_with ((with_reducible refine gs 57 6 rfl ?_);refine zs 57 6 #[.int .i64 0,.bool false,.int .i64 0,.string (⟨#[]⟩:ByteArray),.slice none 0 0] BKg34.out [.int .i64 0,.bool false,.int .i64 0,.string (⟨#[]⟩:ByteArray),.slice none 0 0] (h:=?_);intro w106 hbk hg)
  refine zg ?_
  replace BKg1:=zbg BKg1.out hg NEg1_g34
  replace BKg4:=zbg BKg4.out hg NEg4_g34
  replace HB:=zhg HB.out hg (below_size HB.out) GEg34
  replace BKg34:=hbk
  clear hg hbk
  clear jA
  have j1J:=MB.lz1 BKg1.out
  replace cBKg4:=MB.lz5 BKg4.out
  replace cBKg34:=MB.lz5 BKg34.out
  go_wp2
  refine bodyPost_ret (results_ct rfl _ _ g34 57 #[.int .i64 0,.bool false,.int .i64 0,.string (⟨#[]⟩:ByteArray),.slice none 0 0] (0,0) _ rfl BKg34.out Try.underlying57 rfl (by kernel_rfl)) rfl ?_
  refine⟨_,rfl,?_⟩
  go_wp2_with ((with_reducible refine gs 57 6 rfl ?_);refine zs 57 6 #[.int .i64 0,.bool false,.int .i64 0,.string (⟨#[]⟩:ByteArray),.slice none 0 0] BKg4.out [.int .i64 0,.bool false,.int .i64 0,.string (⟨#[]⟩:ByteArray),.slice none 0 0] (h:=?_);intro w118 hbk hg)
  refine zg ?_
  replace BKg1:=zbg BKg1.out hg NEg1_g4
  replace BKg34:=zbg BKg34.out hg NEg34_g4
  replace HB:=zhg HB.out hg (below_size HB.out) GEg4
  replace BKg4:=hbk
  clear hg hbk
  clear j1J
  have j1V:=MB.lz1 BKg1.out
  replace cBKg4:=MB.lz5 BKg4.out
  replace cBKg34:=MB.lz5 BKg34.out
  have H:=HH.out
  simp only[Option.some.injEq,Prod.mk.injEq] at H
  obtain⟨rfl,rfl,rfl,rfl,rfl,rfl⟩:=H
  clear HH
  go_wp2
  refine bodyPost_ret (results_ct rfl _ _ g4 57 #[.int .i64 0,.bool false,.int .i64 0,.string (⟨#[]⟩:ByteArray),.slice none 0 0] (0,0) _ rfl BKg4.out Try.underlying57 rfl (by kernel_rfl)) rfl ?_
  exact⟨_,by first|rfl|(simp;done)|(simp[*];done),(Kd.N_nil _ _ _ _ _),HB.out⟩
 replace HH:=zqg HH
 rcases HH with⟨HH,hk133⟩|⟨HH,hk158⟩
 ·go_wp2_with ((with_reducible refine gs 57 6 rfl ?_);refine zs 57 6 #[.int .i64 0,.bool false,.int .i64 0,.string (⟨#[]⟩:ByteArray),.slice none 0 0] BKg34.out [.int .i64 0,.bool false,.int .i64 0,.string (⟨#[]⟩:ByteArray),.slice none 0 0] (h:=?_);intro w134 hbk hg)
  refine zg ?_
  replace BKg1:=zbg BKg1.out hg NEg1_g34
  replace BKg4:=zbg BKg4.out hg NEg4_g34
  replace HB:=zhg HB.out hg (below_size HB.out) GEg34
  replace BKg34:=hbk
  clear hg hbk
  clear jA
  have j2b:=MB.lz1 BKg1.out
  replace cBKg4:=MB.lz5 BKg4.out
  replace cBKg34:=MB.lz5 BKg34.out
  go_wp2
  refine bodyPost_ret (results_ct rfl _ _ g34 57 #[.int .i64 0,.bool false,.int .i64 0,.string (⟨#[]⟩:ByteArray),.slice none 0 0] (0,0) _ rfl BKg34.out Try.underlying57 rfl (by kernel_rfl)) rfl ?_
  refine⟨_,rfl,?_⟩
  go_wp2_with ((with_reducible refine gs 57 6 rfl ?_);refine zs 57 6 #[.int .i64 0,.bool false,.int .i64 0,.string (⟨#[]⟩:ByteArray),.slice none 0 0] BKg4.out [.int .i64 0,.bool false,.int .i64 0,.string (⟨#[]⟩:ByteArray),.slice none 0 0] (h:=?_);intro w146 hbk hg)
  refine zg ?_
  replace BKg1:=zbg BKg1.out hg NEg1_g4
  replace BKg34:=zbg BKg34.out hg NEg34_g4
  replace HB:=zhg HB.out hg (below_size HB.out) GEg4
  replace BKg4:=hbk
  clear hg hbk
  clear j2b
  have j2n:=MB.lz1 BKg1.out
  replace cBKg4:=MB.lz5 BKg4.out
  replace cBKg34:=MB.lz5 BKg34.out
  have H:=HH.out
  simp only[Option.some.injEq,Prod.mk.injEq] at H
  obtain⟨rfl,rfl,rfl,rfl,rfl,rfl⟩:=H
  clear HH
  go_wp2
  refine bodyPost_ret (results_ct rfl _ _ g4 57 #[.int .i64 0,.bool false,.int .i64 0,.string (⟨#[]⟩:ByteArray),.slice none 0 0] (0,0) _ rfl BKg4.out Try.underlying57 rfl (by kernel_rfl)) rfl ?_
  exact⟨_,by first|rfl|(simp;done)|(simp[*];done),(Kd.N_nil _ _ _ _ _),HB.out⟩
 go_wp2_with ((with_reducible refine gd 8 rfl ?_);refine zb 8 57 #[.int .i64 0,.bool false,.int .i64 0,.string (⟨#[]⟩:ByteArray),.slice none 0 0] (h:=?_);intro g159 hg w160 BKg159 hb)
 refine zg ?_
 have GEg159:=zge hg (below_size HB.out)
 have NEg1_g159:=znq hg BKg1.out
 have NEg4_g159:=znq hg BKg4.out
 have NEg159_g4:=zsy NEg4_g159
 have NEg34_g159:=znq hg BKg34.out
 have NEg159_g34:=zsy NEg34_g159
 replace BKg1:=zbb BKg1.out hb
 replace BKg4:=zbb BKg4.out hb
 replace BKg34:=zbb BKg34.out hb
 replace HB:=zhb HB.out hb
 clear hg hb
 clear jA
 have j2B:=MB.lz1 BKg1.out
 replace cBKg4:=MB.lz5 BKg4.out
 replace cBKg34:=MB.lz5 BKg34.out
 replace cBKg159:=MB.lz5 BKg159.out
 go_wp2_with ((with_reducible refine gs 57 8 rfl ?_);refine zs 57 8 #[.int .i64 a0,.bool false,.int .i64 a1,.string (⟨#[]⟩:ByteArray),.slice none 0 0] BKg159.out [.int .i64 a0,.bool false,.int .i64 a1,.string (⟨#[]⟩:ByteArray),.slice none 0 0] (h:=?_);intro w177 hbk hg)
 refine zg ?_
 replace BKg1:=zbg BKg1.out hg NEg1_g159
 replace BKg4:=zbg BKg4.out hg NEg4_g159
 replace BKg34:=zbg BKg34.out hg NEg34_g159
 replace HB:=zhg HB.out hg (below_size HB.out) GEg159
 replace BKg159:=hbk
 clear hg hbk
 clear j2B
 have j2S:=MB.lz1 BKg1.out
 replace cBKg4:=MB.lz5 BKg4.out
 replace cBKg34:=MB.lz5 BKg34.out
 replace cBKg159:=MB.lz5 BKg159.out
 go_wp2_with (((with_reducible refine gate_dst (N:=28) rfl ?_);(try(refine gate_guard (by rfl) ?_;dsimp only));refine MW.goesV_ (some 28) rfl rfl Try.func93 (by kernel_rfl) rfl #[.pointer (some ⟨g159,0,none⟩),.pointer (some ⟨g1,0,none⟩)] rfl #[.pointer (some ⟨g1,0,none⟩)] rfl (by simp only[List.map_toArray,List.map_cons,List.map_nil,List.append_toArray,List.cons_append,List.nil_append];first|done|rfl) ?_);refine stop_ ?_)
 refine zg ?_
 go_enter Try.func93,Try.ntmps93
 replace HH:=zd HH
 obtain⟨t194,At195,HH⟩:=HH
 go_wp2_with ((with_reducible refine gc 76 rfl ?_);refine zc 76 (some 6) Try.func76 #[.int .i32 (wrap32 (a2))] (h:=?_);(with_reducible refine(prims_signed.calls k  (wrap32 (a2)) t194 _  At195.out).mono ?_);rintro e w196 ⟨rfl,hb⟩;refine⟨_,rfl,?_⟩)
 refine zg ?_
 replace BKg1:=zbb BKg1.out hb
 replace BKg4:=zbb BKg4.out hb
 replace BKg34:=zbb BKg34.out hb
 replace BKg159:=zbb BKg159.out hb
 replace HB:=zhb HB.out hb
 clear hb
 clear j2S
 have j3b:=MB.lz1 BKg1.out
 replace cBKg4:=MB.lz5 BKg4.out
 replace cBKg34:=MB.lz5 BKg34.out
 replace cBKg159:=MB.lz5 BKg159.out
 go_wp2_with ((with_reducible refine gs 9 8 rfl ?_);refine zs 9 8 #[.int .i64 a0,.bool false,.int .i64 a1,.string t194,.slice none 0 0] BKg159.out [.string t194] (h:=?_);intro w213 hbk hg)
 refine zg ?_
 replace BKg1:=zbg BKg1.out hg NEg1_g159
 replace BKg4:=zbg BKg4.out hg NEg4_g159
 replace BKg34:=zbg BKg34.out hg NEg34_g159
 replace HB:=zhg HB.out hg (below_size HB.out) GEg159
 replace BKg159:=hbk
 clear hg hbk
 clear j3b
 have j3s:=MB.lz1 BKg1.out
 replace cBKg4:=MB.lz5 BKg4.out
 replace cBKg34:=MB.lz5 BKg34.out
 replace cBKg159:=MB.lz5 BKg159.out
 go_wp2
 go_end0
 refine⟨_,rfl,?_⟩
 go_wp2_with ((with_reducible refine gs 57 6 rfl ?_);refine zs 57 6 #[.int .i64 a0,.bool false,.int .i64 a1,.string t194,.slice none 0 0] BKg34.out [.int .i64 a0,.bool false,.int .i64 a1,.string t194,.slice none 0 0] (h:=?_);intro w230 hbk hg)
 refine zg ?_
 replace BKg1:=zbg BKg1.out hg NEg1_g34
 replace BKg4:=zbg BKg4.out hg NEg4_g34
 replace BKg159:=zbg BKg159.out hg NEg159_g34
 replace HB:=zhg HB.out hg (below_size HB.out) GEg34
 replace BKg34:=hbk
 clear hg hbk
 clear j3s
 have j3J:=MB.lz1 BKg1.out
 replace cBKg4:=MB.lz5 BKg4.out
 replace cBKg34:=MB.lz5 BKg34.out
 replace cBKg159:=MB.lz5 BKg159.out
 go_wp2
 refine bodyPost_ret (results_ct rfl _ _ g34 57 #[.int .i64 a0,.bool false,.int .i64 a1,.string t194,.slice none 0 0] (0,0) _ rfl BKg34.out Try.underlying57 rfl (by kernel_rfl)) rfl ?_
 refine⟨_,rfl,?_⟩
 go_wp2_with ((with_reducible refine gs 57 6 rfl ?_);refine zs 57 6 #[.int .i64 a0,.bool false,.int .i64 a1,.string t194,.slice none 0 0] BKg4.out [.int .i64 a0,.bool false,.int .i64 a1,.string t194,.slice none 0 0] (h:=?_);intro w247 hbk hg)
 refine zg ?_
 replace BKg1:=zbg BKg1.out hg NEg1_g4
 replace BKg34:=zbg BKg34.out hg NEg34_g4
 replace BKg159:=zbg BKg159.out hg NEg159_g4
 replace HB:=zhg HB.out hg (below_size HB.out) GEg4
 replace BKg4:=hbk
 clear hg hbk
 clear j3J
 have j40:=MB.lz1 BKg1.out
 replace cBKg4:=MB.lz5 BKg4.out
 replace cBKg34:=MB.lz5 BKg34.out
 replace cBKg159:=MB.lz5 BKg159.out
 have H:=HH.out
 simp only[Option.some.injEq,Prod.mk.injEq] at H
 obtain⟨rfl,rfl,rfl,rfl,rfl,rfl⟩:=H
 clear HH
 go_wp2
 refine bodyPost_ret (results_ct rfl _ _ g4 57 #[.int .i64 a0,.bool false,.int .i64 a1,.string t194,.slice none 0 0] (0,0) _ rfl BKg4.out Try.underlying57 rfl (by kernel_rfl)) rfl ?_
 exact⟨_,by first|rfl|(simp;done)|(simp[*];done),(Kd.N_nil _ _ _ _ _),HB.out⟩

def reply_number.f (k:Nat) (a0:Int) (a1:Int):Option (Int × Bool × Int × ByteArray × (List (S57))):=(prims_Int.f k 0 a0 a1).bind fun bt8=>(some (bt8.1,bt8.2.1,bt8.2.2.1,bt8.2.2.2.1,bt8.2.2.2.2.1))
theorem reply_number.mono:∀ a0_ a1_ k,LeO (reply_number.f k a0_ a1_) (reply_number.f (k+1) a0_ a1_):=by
 intro a0_ a1_ k
 unfold reply_number.f
 with_reducible repeat' first|exact prims_Int.mono _ _ _ _|exact LeO.refl _|exact LeO.none _|refine LeO.ite ?_ ?_|refine LeO.bind ?_ (fun _=>?_)
theorem reply_number.calls (k:Nat) (a0:Int) (a1:Int) (r1:Int) (r2:Bool) (r3:Int) (r4:ByteArray) (r5:List (S57)) (w:World) (h:reply_number.f k a0 a1=some (r1,r2,r3,r4,r5)):
  Calls Try.prog 46 #[.int .i64 a0,.int .i64 a1] w (fun e w'=>∃ v4_:Value,e=.returned (.agg #[.int .i64 r1,.bool r2,.int .i64 r3,.string r4,v4_])∧Kd.N k57 57 w' w.heap.size (fun k_=>w.heap.size≤k_) v4_ r5∧Below w.heap.size w w'):=by
 unfold reply_number.f at h
 have HH:=za h
 clear h
 have HB:=za (Below.refl w.heap.size w)
 have hu57:=Try.underlying57
 go_enter Try.func46,Try.ntmps46
 go_wp2_with ((with_reducible refine gd 4 rfl ?_);refine zb 4 57 #[.int .i64 0,.bool false,.int .i64 0,.string (⟨#[]⟩:ByteArray),.slice none 0 0] (h:=?_);intro g1 hg w2 BKg1 hb)
 refine zg ?_
 have GEg1:=zge hg (below_size HB.out)
 replace HB:=zhb HB.out hb
 clear hg hb
 replace cBKg1:=MB.lz5 BKg1.out
 replace HH:=zd HH
 obtain⟨⟨t8,t9,t10,t11,t12,t13⟩,At14,HH⟩:=HH
 dsimp only at HH
 go_wp2_with ((with_reducible refine gc 66 rfl ?_);refine zc 66 (some 10) Try.func66 #[.int .i64 0,.int .i64 a0,.int .i64 a1] (h:=?_);(with_reducible refine(prims_Int.calls k  0 a0 a1 t8 t9 t10 t11 t12 t13 _  At14.out).mono ?_);rintro e w15 ⟨v16,rfl,hn16,hb⟩;refine⟨_,rfl,?_⟩)
 refine zg ?_
 have hba:=Kd.N_base hn16
 have HN16:=znl (ok2:=(fun k_=>(w.heap.size≤k_)∧k_≠g1)) hn16 (below_size HB.out) (fun k_ h_=>⟨(Nat.le_trans (below_size HB.out) h_),Kd.freshB (g:=g1) BKg1.out k_ h_⟩)
 replace BKg1:=zbb BKg1.out hb
 replace HB:=zhb HB.out hb
 clear hn16 hba hb
 replace cBKg1:=MB.lz5 BKg1.out
 go_wp2_with ((with_reducible refine gd 5 rfl ?_);refine zb 5 57 #[.int .i64 0,.bool false,.int .i64 0,.string (⟨#[]⟩:ByteArray),.slice none 0 0] (h:=?_);intro g22 hg w23 BKg22 hb)
 refine zg ?_
 have GEg22:=zge hg (below_size HB.out)
 have NEg1_g22:=znq hg BKg1.out
 have NEg22_g1:=zsy NEg1_g22
 replace HN16:=zne HN16.out hg hb
 replace BKg1:=zbb BKg1.out hb
 replace HB:=zhb HB.out hb
 clear hg hb
 replace cBKg1:=MB.lz5 BKg1.out
 replace cBKg22:=MB.lz5 BKg22.out
 obtain⟨A35,cp36,he_⟩:=Kd.N_slice HN16.out
 subst he_
 go_wp2_with ((with_reducible refine gs 57 5 rfl ?_);refine zs 57 5 #[.int .i64 t8,.bool t9,.int .i64 t10,.string t11,(.slice A35 t12.length cp36)] BKg22.out [.int .i64 t8,.bool t9,.int .i64 t10,.string t11,(.slice A35 t12.length cp36)] (h:=?_);intro w34 hbk hg)
 refine zg ?_
 replace HN16:=zng HN16.out hg fun k_ hk_=>hk_.2
 replace BKg1:=zbg BKg1.out hg NEg1_g22
 replace HB:=zhg HB.out hg (below_size HB.out) GEg22
 replace BKg22:=hbk
 clear hg hbk
 replace cBKg1:=MB.lz5 BKg1.out
 replace cBKg22:=MB.lz5 BKg22.out
 go_wp2_with ((with_reducible refine gs 57 4 rfl ?_);refine zs 57 4 #[.int .i64 t8,.bool t9,.int .i64 t10,.string t11,(.slice A35 t12.length cp36)] BKg1.out [.int .i64 t8,.bool t9,.int .i64 t10,.string t11,(.slice A35 t12.length cp36)] (h:=?_);intro w47 hbk hg)
 refine zg ?_
 replace HN16:=zng HN16.out hg fun k_ hk_=>hk_.1.2
 replace BKg22:=zbg BKg22.out hg NEg22_g1
 replace HB:=zhg HB.out hg (below_size HB.out) GEg1
 replace BKg1:=hbk
 clear hg hbk
 replace cBKg1:=MB.lz5 BKg1.out
 replace cBKg22:=MB.lz5 BKg22.out
 have H:=HH.out
 simp only[Option.some.injEq,Prod.mk.injEq] at H
 obtain⟨rfl,rfl,rfl,rfl,rfl⟩:=H
 clear HH
 go_wp2
 refine bodyPost_ret (MW.results_c rfl _ _ g1 57 #[.int .i64 t8,.bool t9,.int .i64 t10,.string t11,(.slice A35 t12.length cp36)] (0,0) _ rfl BKg1.out Try.underlying57 rfl (by kernel_rfl)) rfl ?_
 exact⟨_,by first|rfl|(simp;done)|(simp[*];done),(Kd.N_mono (ok:=(fun k_=>((w.heap.size≤k_)∧k_≠g1)∧k_≠g22)) HN16.out (fun k_ hk_=>hk_.1.1)),HB.out⟩

def prims_Text.f (a0:Int) (a1:Int) (a2:ByteArray):Option (Int × Bool × Int × ByteArray × (List (S57)) × Int):=if a0<0 then(some (0,false,0,(⟨#[]⟩:ByteArray),([]:List (S57)),2)) else(if a0>3 then(some (0,false,0,(⟨#[]⟩:ByteArray),([]:List (S57)),2)) else(if a1<0 then(some (0,false,0,(⟨#[]⟩:ByteArray),([]:List (S57)),2)) else(if a1>30 then(some (0,false,0,(⟨#[]⟩:ByteArray),([]:List (S57)),2)) else(some (a0,false,a1,a2,([]:List (S57)),0)))))
theorem prims_Text.calls (a0:Int) (a1:Int) (a2:ByteArray) (r1:Int) (r2:Bool) (r3:Int) (r4:ByteArray) (r5:List (S57)) (r6:Int) (w:World) (h:prims_Text.f a0 a1 a2=some (r1,r2,r3,r4,r5,r6)):
  Calls Try.prog 61 #[.int .i64 a0,.int .i64 a1,.string a2] w (fun e w'=>∃ v4_:Value,e=.returned (.tuple #[.agg #[.int .i64 r1,.bool r2,.int .i64 r3,.string r4,v4_],.int .i64 r6])∧Kd.N k57 57 w' w.heap.size (fun k_=>w.heap.size≤k_) v4_ r5∧Below w.heap.size w w'):=by
 unfold prims_Text.f at h
 have HH:=za h
 clear h
 have HB:=za (Below.refl w.heap.size w)
 have hu57:=Try.underlying57
 go_enter Try.func61,Try.ntmps61
 go_wp2_with ((with_reducible refine gd 5 rfl ?_);refine zb 5 9 #[.string a2] (h:=?_);intro g1 hg w2 BKg1 hb)
 refine zg ?_
 replace HB:=zhb HB.out hb
 clear hg hb
 have j3:=MB.lz1 BKg1.out
 go_wp2_with ((with_reducible refine gd 6 rfl ?_);refine zb 6 57 #[.int .i64 0,.bool false,.int .i64 0,.string (⟨#[]⟩:ByteArray),.slice none 0 0] (h:=?_);intro g4 hg w5 BKg4 hb)
 refine zg ?_
 have GEg4:=zge hg (below_size HB.out)
 have NEg1_g4:=znq hg BKg1.out
 replace BKg1:=zbb BKg1.out hb
 replace HB:=zhb HB.out hb
 clear hg hb
 clear j3
 have j6:=MB.lz1 BKg1.out
 replace cBKg4:=MB.lz5 BKg4.out
 go_wp2_with (((with_reducible refine gate_callee (f:=84) rfl ?_);(try(refine gate_guard (by rfl) ?_;dsimp only));refine goesL_ (some 11) rfl rfl Try.func84 (by kernel_rfl) rfl #[.int .i64 a0,.int .i64 a1,.func (.func 85) #[] #[.pointer (some ⟨g1,0,none⟩)]] rfl (by(try simp only[List.map_toArray,List.map_cons,List.map_nil]);first|done|rfl) ?_);refine stop_ ?_)
 refine zg ?_
 go_enter Try.func84,Try.ntmps84
 go_wp2_with ((with_reducible refine gd 6 rfl ?_);refine zb 6 57 #[.int .i64 0,.bool false,.int .i64 0,.string (⟨#[]⟩:ByteArray),.slice none 0 0] (h:=?_);intro g12 hg w13 BKg12 hb)
 refine zg ?_
 have GEg12:=zge hg (below_size HB.out)
 have NEg1_g12:=znq hg BKg1.out
 have NEg4_g12:=znq hg BKg4.out
 have NEg12_g4:=zsy NEg4_g12
 replace BKg1:=zbb BKg1.out hb
 replace BKg4:=zbb BKg4.out hb
 replace HB:=zhb HB.out hb
 clear hg hb
 clear j6
 have je:=MB.lz1 BKg1.out
 replace cBKg4:=MB.lz5 BKg4.out
 replace cBKg12:=MB.lz5 BKg12.out
 replace HH:=zqt HH
 rcases HH with⟨HH,hk26,hk27⟩|⟨HH,hk52,hk53⟩
 ·go_wp2_with ((with_reducible refine gs 57 6 rfl ?_);refine zs 57 6 #[.int .i64 0,.bool false,.int .i64 0,.string (⟨#[]⟩:ByteArray),.slice none 0 0] BKg12.out [.int .i64 0,.bool false,.int .i64 0,.string (⟨#[]⟩:ByteArray),.slice none 0 0] (h:=?_);intro w28 hbk hg)
  refine zg ?_
  replace BKg1:=zbg BKg1.out hg NEg1_g12
  replace BKg4:=zbg BKg4.out hg NEg4_g12
  replace HB:=zhg HB.out hg (below_size HB.out) GEg12
  replace BKg12:=hbk
  clear hg hbk
  clear je
  have jt:=MB.lz1 BKg1.out
  replace cBKg4:=MB.lz5 BKg4.out
  replace cBKg12:=MB.lz5 BKg12.out
  go_wp2
  refine bodyPost_ret (results_ct rfl _ _ g12 57 #[.int .i64 0,.bool false,.int .i64 0,.string (⟨#[]⟩:ByteArray),.slice none 0 0] (0,0) _ rfl BKg12.out Try.underlying57 rfl (by kernel_rfl)) rfl ?_
  refine⟨_,rfl,?_⟩
  go_wp2_with ((with_reducible refine gs 57 6 rfl ?_);refine zs 57 6 #[.int .i64 0,.bool false,.int .i64 0,.string (⟨#[]⟩:ByteArray),.slice none 0 0] BKg4.out [.int .i64 0,.bool false,.int .i64 0,.string (⟨#[]⟩:ByteArray),.slice none 0 0] (h:=?_);intro w40 hbk hg)
  refine zg ?_
  replace BKg1:=zbg BKg1.out hg NEg1_g4
  replace BKg12:=zbg BKg12.out hg NEg12_g4
  replace HB:=zhg HB.out hg (below_size HB.out) GEg4
  replace BKg4:=hbk
  clear hg hbk
  clear jt
  have jF:=MB.lz1 BKg1.out
  replace cBKg4:=MB.lz5 BKg4.out
  replace cBKg12:=MB.lz5 BKg12.out
  have H:=HH.out
  simp only[Option.some.injEq,Prod.mk.injEq] at H
  obtain⟨rfl,rfl,rfl,rfl,rfl,rfl⟩:=H
  clear HH
  go_wp2
  refine bodyPost_ret (results_ct rfl _ _ g4 57 #[.int .i64 0,.bool false,.int .i64 0,.string (⟨#[]⟩:ByteArray),.slice none 0 0] (0,0) _ rfl BKg4.out Try.underlying57 rfl (by kernel_rfl)) rfl ?_
  exact⟨_,by first|rfl|(simp;done)|(simp[*];done),(Kd.N_nil _ _ _ _ _),HB.out⟩
 replace HH:=zqg HH
 rcases HH with⟨HH,hk55⟩|⟨HH,hk80⟩
 ·go_wp2_with ((with_reducible refine gs 57 6 rfl ?_);refine zs 57 6 #[.int .i64 0,.bool false,.int .i64 0,.string (⟨#[]⟩:ByteArray),.slice none 0 0] BKg12.out [.int .i64 0,.bool false,.int .i64 0,.string (⟨#[]⟩:ByteArray),.slice none 0 0] (h:=?_);intro w56 hbk hg)
  refine zg ?_
  replace BKg1:=zbg BKg1.out hg NEg1_g12
  replace BKg4:=zbg BKg4.out hg NEg4_g12
  replace HB:=zhg HB.out hg (below_size HB.out) GEg12
  replace BKg12:=hbk
  clear hg hbk
  clear je
  have jV:=MB.lz1 BKg1.out
  replace cBKg4:=MB.lz5 BKg4.out
  replace cBKg12:=MB.lz5 BKg12.out
  go_wp2
  refine bodyPost_ret (results_ct rfl _ _ g12 57 #[.int .i64 0,.bool false,.int .i64 0,.string (⟨#[]⟩:ByteArray),.slice none 0 0] (0,0) _ rfl BKg12.out Try.underlying57 rfl (by kernel_rfl)) rfl ?_
  refine⟨_,rfl,?_⟩
  go_wp2_with ((with_reducible refine gs 57 6 rfl ?_);refine zs 57 6 #[.int .i64 0,.bool false,.int .i64 0,.string (⟨#[]⟩:ByteArray),.slice none 0 0] BKg4.out [.int .i64 0,.bool false,.int .i64 0,.string (⟨#[]⟩:ByteArray),.slice none 0 0] (h:=?_);intro w68 hbk hg)
  refine zg ?_
  replace BKg1:=zbg BKg1.out hg NEg1_g4
  replace BKg12:=zbg BKg12.out hg NEg12_g4
  replace HB:=zhg HB.out hg (below_size HB.out) GEg4
  replace BKg4:=hbk
  clear hg hbk
  clear jV
  have j17:=MB.lz1 BKg1.out
  replace cBKg4:=MB.lz5 BKg4.out
  replace cBKg12:=MB.lz5 BKg12.out
  have H:=HH.out
  simp only[Option.some.injEq,Prod.mk.injEq] at H
  obtain⟨rfl,rfl,rfl,rfl,rfl,rfl⟩:=H
  clear HH
  go_wp2
  refine bodyPost_ret (results_ct rfl _ _ g4 57 #[.int .i64 0,.bool false,.int .i64 0,.string (⟨#[]⟩:ByteArray),.slice none 0 0] (0,0) _ rfl BKg4.out Try.underlying57 rfl (by kernel_rfl)) rfl ?_
  exact⟨_,by first|rfl|(simp;done)|(simp[*];done),(Kd.N_nil _ _ _ _ _),HB.out⟩
 replace HH:=zqt HH
 rcases HH with⟨HH,hk82,hk83⟩|⟨HH,hk108,hk109⟩
 ·go_wp2_with ((with_reducible refine gs 57 6 rfl ?_);refine zs 57 6 #[.int .i64 0,.bool false,.int .i64 0,.string (⟨#[]⟩:ByteArray),.slice none 0 0] BKg12.out [.int .i64 0,.bool false,.int .i64 0,.string (⟨#[]⟩:ByteArray),.slice none 0 0] (h:=?_);intro w84 hbk hg)
  refine zg ?_
  replace BKg1:=zbg BKg1.out hg NEg1_g12
  replace BKg4:=zbg BKg4.out hg NEg4_g12
  replace HB:=zhg HB.out hg (below_size HB.out) GEg12
  replace BKg12:=hbk
  clear hg hbk
  clear je
  have j1n:=MB.lz1 BKg1.out
  replace cBKg4:=MB.lz5 BKg4.out
  replace cBKg12:=MB.lz5 BKg12.out
  go_wp2
  refine bodyPost_ret (results_ct rfl _ _ g12 57 #[.int .i64 0,.bool false,.int .i64 0,.string (⟨#[]⟩:ByteArray),.slice none 0 0] (0,0) _ rfl BKg12.out Try.underlying57 rfl (by kernel_rfl)) rfl ?_
  refine⟨_,rfl,?_⟩
  go_wp2_with ((with_reducible refine gs 57 6 rfl ?_);refine zs 57 6 #[.int .i64 0,.bool false,.int .i64 0,.string (⟨#[]⟩:ByteArray),.slice none 0 0] BKg4.out [.int .i64 0,.bool false,.int .i64 0,.string (⟨#[]⟩:ByteArray),.slice none 0 0] (h:=?_);intro w96 hbk hg)
  refine zg ?_
  replace BKg1:=zbg BKg1.out hg NEg1_g4
  replace BKg12:=zbg BKg12.out hg NEg12_g4
  replace HB:=zhg HB.out hg (below_size HB.out) GEg4
  replace BKg4:=hbk
  clear hg hbk
  clear j1n
  have j1z:=MB.lz1 BKg1.out
  replace cBKg4:=MB.lz5 BKg4.out
  replace cBKg12:=MB.lz5 BKg12.out
  have H:=HH.out
  simp only[Option.some.injEq,Prod.mk.injEq] at H
  obtain⟨rfl,rfl,rfl,rfl,rfl,rfl⟩:=H
  clear HH
  go_wp2
  refine bodyPost_ret (results_ct rfl _ _ g4 57 #[.int .i64 0,.bool false,.int .i64 0,.string (⟨#[]⟩:ByteArray),.slice none 0 0] (0,0) _ rfl BKg4.out Try.underlying57 rfl (by kernel_rfl)) rfl ?_
  exact⟨_,by first|rfl|(simp;done)|(simp[*];done),(Kd.N_nil _ _ _ _ _),HB.out⟩
 replace HH:=zqg HH
 rcases HH with⟨HH,hk111⟩|⟨HH,hk136⟩
 ·go_wp2_with ((with_reducible refine gs 57 6 rfl ?_);refine zs 57 6 #[.int .i64 0,.bool false,.int .i64 0,.string (⟨#[]⟩:ByteArray),.slice none 0 0] BKg12.out [.int .i64 0,.bool false,.int .i64 0,.string (⟨#[]⟩:ByteArray),.slice none 0 0] (h:=?_);intro w112 hbk hg)
  refine zg ?_
  replace BKg1:=zbg BKg1.out hg NEg1_g12
  replace BKg4:=zbg BKg4.out hg NEg4_g12
  replace HB:=zhg HB.out hg (below_size HB.out) GEg12
  replace BKg12:=hbk
  clear hg hbk
  clear je
  have j1P:=MB.lz1 BKg1.out
  replace cBKg4:=MB.lz5 BKg4.out
  replace cBKg12:=MB.lz5 BKg12.out
  go_wp2
  refine bodyPost_ret (results_ct rfl _ _ g12 57 #[.int .i64 0,.bool false,.int .i64 0,.string (⟨#[]⟩:ByteArray),.slice none 0 0] (0,0) _ rfl BKg12.out Try.underlying57 rfl (by kernel_rfl)) rfl ?_
  refine⟨_,rfl,?_⟩
  go_wp2_with ((with_reducible refine gs 57 6 rfl ?_);refine zs 57 6 #[.int .i64 0,.bool false,.int .i64 0,.string (⟨#[]⟩:ByteArray),.slice none 0 0] BKg4.out [.int .i64 0,.bool false,.int .i64 0,.string (⟨#[]⟩:ByteArray),.slice none 0 0] (h:=?_);intro w124 hbk hg)
  refine zg ?_
  replace BKg1:=zbg BKg1.out hg NEg1_g4
  replace BKg12:=zbg BKg12.out hg NEg12_g4
  replace HB:=zhg HB.out hg (below_size HB.out) GEg4
  replace BKg4:=hbk
  clear hg hbk
  clear j1P
  have j21:=MB.lz1 BKg1.out
  replace cBKg4:=MB.lz5 BKg4.out
  replace cBKg12:=MB.lz5 BKg12.out
  have H:=HH.out
  simp only[Option.some.injEq,Prod.mk.injEq] at H
  obtain⟨rfl,rfl,rfl,rfl,rfl,rfl⟩:=H
  clear HH
  go_wp2
  refine bodyPost_ret (results_ct rfl _ _ g4 57 #[.int .i64 0,.bool false,.int .i64 0,.string (⟨#[]⟩:ByteArray),.slice none 0 0] (0,0) _ rfl BKg4.out Try.underlying57 rfl (by kernel_rfl)) rfl ?_
  exact⟨_,by first|rfl|(simp;done)|(simp[*];done),(Kd.N_nil _ _ _ _ _),HB.out⟩
 go_wp2_with ((with_reducible refine gd 8 rfl ?_);refine zb 8 57 #[.int .i64 0,.bool false,.int .i64 0,.string (⟨#[]⟩:ByteArray),.slice none 0 0] (h:=?_);intro g137 hg w138 BKg137 hb)
 refine zg ?_
 have GEg137:=zge hg (below_size HB.out)
 have NEg1_g137:=znq hg BKg1.out
 have NEg4_g137:=znq hg BKg4.out
 have NEg137_g4:=zsy NEg4_g137
 have NEg12_g137:=znq hg BKg12.out
 have NEg137_g12:=zsy NEg12_g137
 replace BKg1:=zbb BKg1.out hb
 replace BKg4:=zbb BKg4.out hb
 replace BKg12:=zbb BKg12.out hb
 replace HB:=zhb HB.out hb
 clear hg hb
 clear je
 have j2f:=MB.lz1 BKg1.out
 replace cBKg4:=MB.lz5 BKg4.out
 replace cBKg12:=MB.lz5 BKg12.out
 replace cBKg137:=MB.lz5 BKg137.out
 go_wp2_with ((with_reducible refine gs 57 8 rfl ?_);refine zs 57 8 #[.int .i64 a0,.bool false,.int .i64 a1,.string (⟨#[]⟩:ByteArray),.slice none 0 0] BKg137.out [.int .i64 a0,.bool false,.int .i64 a1,.string (⟨#[]⟩:ByteArray),.slice none 0 0] (h:=?_);intro w155 hbk hg)
 refine zg ?_
 replace BKg1:=zbg BKg1.out hg NEg1_g137
 replace BKg4:=zbg BKg4.out hg NEg4_g137
 replace BKg12:=zbg BKg12.out hg NEg12_g137
 replace HB:=zhg HB.out hg (below_size HB.out) GEg137
 replace BKg137:=hbk
 clear hg hbk
 clear j2f
 have j2w:=MB.lz1 BKg1.out
 replace cBKg4:=MB.lz5 BKg4.out
 replace cBKg12:=MB.lz5 BKg12.out
 replace cBKg137:=MB.lz5 BKg137.out
 go_wp2_with (((with_reducible refine gate_dst (N:=28) rfl ?_);(try(refine gate_guard (by rfl) ?_;dsimp only));refine MW.goesV_ (some 28) rfl rfl Try.func85 (by kernel_rfl) rfl #[.pointer (some ⟨g137,0,none⟩),.pointer (some ⟨g1,0,none⟩)] rfl #[.pointer (some ⟨g1,0,none⟩)] rfl (by simp only[List.map_toArray,List.map_cons,List.map_nil,List.append_toArray,List.cons_append,List.nil_append];first|done|rfl) ?_);refine stop_ ?_)
 refine zg ?_
 go_enter Try.func85,Try.ntmps85
 go_wp2_with ((with_reducible refine gs 9 6 rfl ?_);refine zs 9 6 #[.int .i64 a0,.bool false,.int .i64 a1,.string a2,.slice none 0 0] BKg137.out [.string a2] (h:=?_);intro w172 hbk hg)
 refine zg ?_
 replace BKg1:=zbg BKg1.out hg NEg1_g137
 replace BKg4:=zbg BKg4.out hg NEg4_g137
 replace BKg12:=zbg BKg12.out hg NEg12_g137
 replace HB:=zhg HB.out hg (below_size HB.out) GEg137
 replace BKg137:=hbk
 clear hg hbk
 clear j2w
 have j2N:=MB.lz1 BKg1.out
 replace cBKg4:=MB.lz5 BKg4.out
 replace cBKg12:=MB.lz5 BKg12.out
 replace cBKg137:=MB.lz5 BKg137.out
 go_wp2
 go_end0
 refine⟨_,rfl,?_⟩
 go_wp2_with ((with_reducible refine gs 57 6 rfl ?_);refine zs 57 6 #[.int .i64 a0,.bool false,.int .i64 a1,.string a2,.slice none 0 0] BKg12.out [.int .i64 a0,.bool false,.int .i64 a1,.string a2,.slice none 0 0] (h:=?_);intro w189 hbk hg)
 refine zg ?_
 replace BKg1:=zbg BKg1.out hg NEg1_g12
 replace BKg4:=zbg BKg4.out hg NEg4_g12
 replace BKg137:=zbg BKg137.out hg NEg137_g12
 replace HB:=zhg HB.out hg (below_size HB.out) GEg12
 replace BKg12:=hbk
 clear hg hbk
 clear j2N
 have j34:=MB.lz1 BKg1.out
 replace cBKg4:=MB.lz5 BKg4.out
 replace cBKg12:=MB.lz5 BKg12.out
 replace cBKg137:=MB.lz5 BKg137.out
 go_wp2
 refine bodyPost_ret (results_ct rfl _ _ g12 57 #[.int .i64 a0,.bool false,.int .i64 a1,.string a2,.slice none 0 0] (0,0) _ rfl BKg12.out Try.underlying57 rfl (by kernel_rfl)) rfl ?_
 refine⟨_,rfl,?_⟩
 go_wp2_with ((with_reducible refine gs 57 6 rfl ?_);refine zs 57 6 #[.int .i64 a0,.bool false,.int .i64 a1,.string a2,.slice none 0 0] BKg4.out [.int .i64 a0,.bool false,.int .i64 a1,.string a2,.slice none 0 0] (h:=?_);intro w206 hbk hg)
 refine zg ?_
 replace BKg1:=zbg BKg1.out hg NEg1_g4
 replace BKg12:=zbg BKg12.out hg NEg12_g4
 replace BKg137:=zbg BKg137.out hg NEg137_g4
 replace HB:=zhg HB.out hg (below_size HB.out) GEg4
 replace BKg4:=hbk
 clear hg hbk
 clear j34
 have j3l:=MB.lz1 BKg1.out
 replace cBKg4:=MB.lz5 BKg4.out
 replace cBKg12:=MB.lz5 BKg12.out
 replace cBKg137:=MB.lz5 BKg137.out
 have H:=HH.out
 simp only[Option.some.injEq,Prod.mk.injEq] at H
 obtain⟨rfl,rfl,rfl,rfl,rfl,rfl⟩:=H
 clear HH
 go_wp2
 refine bodyPost_ret (results_ct rfl _ _ g4 57 #[.int .i64 a0,.bool false,.int .i64 a1,.string a2,.slice none 0 0] (0,0) _ rfl BKg4.out Try.underlying57 rfl (by kernel_rfl)) rfl ?_
 exact⟨_,by first|rfl|(simp;done)|(simp[*];done),(Kd.N_nil _ _ _ _ _),HB.out⟩

def reply_text.f (a0:ByteArray):Option (Int × Bool × Int × ByteArray × (List (S57))):=(prims_Text.f 0 4 a0).bind fun bt8=>(some (bt8.1,bt8.2.1,bt8.2.2.1,bt8.2.2.2.1,bt8.2.2.2.2.1))
theorem reply_text.calls (a0:ByteArray) (r1:Int) (r2:Bool) (r3:Int) (r4:ByteArray) (r5:List (S57)) (w:World) (h:reply_text.f a0=some (r1,r2,r3,r4,r5)):
  Calls Try.prog 60 #[.string a0] w (fun e w'=>∃ v4_:Value,e=.returned (.agg #[.int .i64 r1,.bool r2,.int .i64 r3,.string r4,v4_])∧Kd.N k57 57 w' w.heap.size (fun k_=>w.heap.size≤k_) v4_ r5∧Below w.heap.size w w'):=by
 unfold reply_text.f at h
 have HH:=za h
 clear h
 have HB:=za (Below.refl w.heap.size w)
 have hu57:=Try.underlying57
 go_enter Try.func60,Try.ntmps60
 go_wp2_with ((with_reducible refine gd 2 rfl ?_);refine zb 2 57 #[.int .i64 0,.bool false,.int .i64 0,.string (⟨#[]⟩:ByteArray),.slice none 0 0] (h:=?_);intro g1 hg w2 BKg1 hb)
 refine zg ?_
 have GEg1:=zge hg (below_size HB.out)
 replace HB:=zhb HB.out hb
 clear hg hb
 replace cBKg1:=MB.lz5 BKg1.out
 replace HH:=zd HH
 obtain⟨⟨t8,t9,t10,t11,t12,t13⟩,At14,HH⟩:=HH
 dsimp only at HH
 go_wp2_with ((with_reducible refine gc 61 rfl ?_);refine zc 61 (some 7) Try.func61 #[.int .i64 0,.int .i64 4,.string a0] (h:=?_);(with_reducible refine(prims_Text.calls  0 4 a0 t8 t9 t10 t11 t12 t13 _  At14.out).mono ?_);rintro e w15 ⟨v16,rfl,hn16,hb⟩;refine⟨_,rfl,?_⟩)
 refine zg ?_
 have hba:=Kd.N_base hn16
 have HN16:=znl (ok2:=(fun k_=>(w.heap.size≤k_)∧k_≠g1)) hn16 (below_size HB.out) (fun k_ h_=>⟨(Nat.le_trans (below_size HB.out) h_),Kd.freshB (g:=g1) BKg1.out k_ h_⟩)
 replace BKg1:=zbb BKg1.out hb
 replace HB:=zhb HB.out hb
 clear hn16 hba hb
 replace cBKg1:=MB.lz5 BKg1.out
 go_wp2_with ((with_reducible refine gd 3 rfl ?_);refine zb 3 57 #[.int .i64 0,.bool false,.int .i64 0,.string (⟨#[]⟩:ByteArray),.slice none 0 0] (h:=?_);intro g22 hg w23 BKg22 hb)
 refine zg ?_
 have GEg22:=zge hg (below_size HB.out)
 have NEg1_g22:=znq hg BKg1.out
 have NEg22_g1:=zsy NEg1_g22
 replace HN16:=zne HN16.out hg hb
 replace BKg1:=zbb BKg1.out hb
 replace HB:=zhb HB.out hb
 clear hg hb
 replace cBKg1:=MB.lz5 BKg1.out
 replace cBKg22:=MB.lz5 BKg22.out
 obtain⟨A35,cp36,he_⟩:=Kd.N_slice HN16.out
 subst he_
 go_wp2_with ((with_reducible refine gs 57 3 rfl ?_);refine zs 57 3 #[.int .i64 t8,.bool t9,.int .i64 t10,.string t11,(.slice A35 t12.length cp36)] BKg22.out [.int .i64 t8,.bool t9,.int .i64 t10,.string t11,(.slice A35 t12.length cp36)] (h:=?_);intro w34 hbk hg)
 refine zg ?_
 replace HN16:=zng HN16.out hg fun k_ hk_=>hk_.2
 replace BKg1:=zbg BKg1.out hg NEg1_g22
 replace HB:=zhg HB.out hg (below_size HB.out) GEg22
 replace BKg22:=hbk
 clear hg hbk
 replace cBKg1:=MB.lz5 BKg1.out
 replace cBKg22:=MB.lz5 BKg22.out
 go_wp2_with ((with_reducible refine gs 57 2 rfl ?_);refine zs 57 2 #[.int .i64 t8,.bool t9,.int .i64 t10,.string t11,(.slice A35 t12.length cp36)] BKg1.out [.int .i64 t8,.bool t9,.int .i64 t10,.string t11,(.slice A35 t12.length cp36)] (h:=?_);intro w47 hbk hg)
 refine zg ?_
 replace HN16:=zng HN16.out hg fun k_ hk_=>hk_.1.2
 replace BKg22:=zbg BKg22.out hg NEg22_g1
 replace HB:=zhg HB.out hg (below_size HB.out) GEg1
 replace BKg1:=hbk
 clear hg hbk
 replace cBKg1:=MB.lz5 BKg1.out
 replace cBKg22:=MB.lz5 BKg22.out
 have H:=HH.out
 simp only[Option.some.injEq,Prod.mk.injEq] at H
 obtain⟨rfl,rfl,rfl,rfl,rfl⟩:=H
 clear HH
 go_wp2
 refine bodyPost_ret (MW.results_c rfl _ _ g1 57 #[.int .i64 t8,.bool t9,.int .i64 t10,.string t11,(.slice A35 t12.length cp36)] (0,0) _ rfl BKg1.out Try.underlying57 rfl (by kernel_rfl)) rfl ?_
 exact⟨_,by first|rfl|(simp;done)|(simp[*];done),(Kd.N_mono (ok:=(fun k_=>((w.heap.size≤k_)∧k_≠g1)∧k_≠g22)) HN16.out (fun k_ hk_=>hk_.1.1)),HB.out⟩

mutual
def ber_depth.l0:Nat→Int→Int→Int→(List (S57))→Option (Int)
 |0,_,_,_,_=>none
 |k+1,x13,x14,a1,l0_4=>if x14<(l0_4.length:Int) then(if 0≤x14 then((ber_depth.f k ((rd_T57 l0_4 x14).f0) ((rd_T57 l0_4 x14).f1) ((rd_T57 l0_4 x14).f2) ((rd_T57 l0_4 x14).f3) ((rd_T57 l0_4 x14).f4) (wrap64 (a1 - 1))).bind fun t51=>(if x13<t51 then((ber_depth.l0 k t51 (wrap64 (x14+1)) a1 l0_4)) else((ber_depth.l0 k x13 (wrap64 (x14+1)) a1 l0_4)))) else(none)) else(some (wrap64 (x13+1)))
def ber_depth.f:Nat→Int→Bool→Int→ByteArray→(List (S57))→Int→Option (Int)
 |0,_,_,_,_,_,_=>none
 |k+1,a0_0,a0_1,a0_2,a0_3,l0_4,a1=>if a1=0 then(some 1) else((ber_depth.l0 k 0 0 a1 l0_4))
end
theorem ber_depth.mono_l:∀ k,(∀ y0 y1 y2 y3 y4 y5,LeO (ber_depth.f k y0 y1 y2 y3 y4 y5) (ber_depth.f (k+1) y0 y1 y2 y3 y4 y5))∧(∀ y0 y1 y2 y3,LeO (ber_depth.l0 k y0 y1 y2 y3) (ber_depth.l0 (k+1) y0 y1 y2 y3))
 |0=>⟨fun _ _ _ _ _ _ r h=>by simp[ber_depth.f] at h,fun _ _ _ _ r h=>by simp[ber_depth.l0] at h⟩
 |k+1=>by
  obtain⟨ih0,ih1⟩:=ber_depth.mono_l k
  refine⟨?_,?_⟩
  ·intro y0 y1 y2 y3 y4 y5
   unfold ber_depth.f
   with_reducible repeat' first|exact ih0 _ _ _ _ _ _|exact ih1 _ _ _ _|exact LeO.refl _|exact LeO.none _|refine LeO.ite ?_ ?_|refine LeO.bind ?_ (fun _=>?_)
  intro y0 y1 y2 y3
  unfold ber_depth.l0
  with_reducible repeat' first|exact ih0 _ _ _ _ _ _|exact ih1 _ _ _ _|exact LeO.refl _|exact LeO.none _|refine LeO.ite ?_ ?_|refine LeO.bind ?_ (fun _=>?_)
theorem ber_depth.mono:∀ a0_ a1_ a2_ a3_ a4_ a5_ k,LeO (ber_depth.f k a0_ a1_ a2_ a3_ a4_ a5_) (ber_depth.f (k+1) a0_ a1_ a2_ a3_ a4_ a5_):=by
 intro a0_ a1_ a2_ a3_ a4_ a5_ k
 obtain⟨ih0,ih1⟩:=ber_depth.mono_l k
 exact ih0 a0_ a1_ a2_ a3_ a4_ a5_
theorem ber_depth.calls (k:Nat):∀ (P_:Nat→Prop) (a0_0:Int) (a0_1:Bool) (a0_2:Int) (a0_3:ByteArray) (A0_4:Option Addr) (c0_4:Nat) (l0_4:List (S57)) (a1:Int) (r:Int) (w:World) (hs0_4:Kd.F k57 w P_ A0_4 l0_4.length l0_4) (hc0_4:l0_4.length≤c0_4) (h:ber_depth.f k a0_0 a0_1 a0_2 a0_3 l0_4 a1=some r),
  Calls Try.prog 99 #[.agg #[.int .i64 a0_0,.bool a0_1,.int .i64 a0_2,.string a0_3,.slice A0_4 l0_4.length c0_4],.int .i64 a1] w (fun e w'=>e=.returned (.int .i64 r)∧Below w.heap.size w w'):=by
 induction k using Nat.strongRecOn with
 |_ k ih=>
 intro P_ a0_0 a0_1 a0_2 a0_3 A0_4 c0_4 l0_4 a1 r w hs0_4 hc0_4 h
 cases k with
 |zero=>exact absurd h (by simp[ber_depth.f])
 |succ k1=>
 simp only[ber_depth.f] at h
 have HH:=za h
 clear h
 have HF0_4:=zfp hs0_4
 clear hs0_4 hc0_4
 have HB:=za (Below.refl w.heap.size w)
 have hu57:=Try.underlying57
 go_enter Try.func99,Try.ntmps99
 go_wp2_with ((with_reducible refine gd 2 rfl ?_);refine zb 2 57 #[.int .i64 a0_0,.bool a0_1,.int .i64 a0_2,.string a0_3,.slice A0_4 l0_4.length c0_4] (h:=?_);intro g1 hg w2 BKg1 hb)
 refine zg ?_
 replace HF0_4:=zfe HF0_4.out hg hb
 replace HB:=zhb HB.out hb
 clear hg hb
 replace cBKg1:=MB.lz5 BKg1.out
 replace HH:=zqe HH
 rcases HH with⟨HH,hk9,hk10⟩|⟨HH,hk11,hk12⟩
 ·obtain rfl:=Option.some.inj HH.out
  clear HH
  go_wp2
  go_ret
  exact zfi HB.out
 go_wp2
 go_loopg [5,13] k1 (fun kq u5 u13 w'=>∃ (x13:Int) (x14:Int),u5=.int .i64 x13∧u13=.int .i64 x14∧Aside0 ((ber_depth.l0 kq x13 x14 a1 l0_4)=some r)∧Aside0 (kq≤k1)∧Aside0 (Kd.F k57 w' (fun k_=>(P_ k_∨w.heap.size≤k_)∧k_≠g1) A0_4 l0_4.length l0_4)∧Aside0 (w'.heap[g1]? =some (.cells #[.int .i64 a0_0,.bool a0_1,.int .i64 a0_2,.string a0_3,.slice A0_4 l0_4.length c0_4] 57 (0,0)))∧Aside0 (Below w.heap.size w w'))
 case atStart=>exact⟨0,0,(by first|rfl|(simp;done)|(simp[*];done)),(by first|rfl|(simp;done)|(simp[*];done)),HH,⟨Nat.le_refl _⟩,⟨HF0_4.out⟩,⟨BKg1.out⟩,⟨HB.out⟩⟩
 case round=>
  clear hk11
  clear hk12
  clear HH
  clear HF0_4 BKg1 HB
  obtain⟨x13,x14,rfl,rfl,HA,HK0,HF0_4,BKg1,HB⟩:=hrel
  obtain⟨w16,rfl⟩:∃ wo_:World,wo_=wr:=⟨_,rfl⟩
  cases gk with
  |zero=>exact absurd HA.out (by simp[ber_depth.l0])
  |succ k15=>
   have H:=HA.out
   clear HA
   simp only[ber_depth.l0] at H
   have HH:=za H
   clear H
   replace cBKg1:=MB.lz5 BKg1.out
   replace HH:=zqt HH
   rcases HH with⟨HH,hk23,hk24⟩|⟨HH,hk70,hk71⟩
   ·replace HH:=zqdo HH
    obtain⟨HH,hk26⟩:=HH
    have p27:0≤(x14:Int):=of_decide_eq_true (by first|(with_reducible assumption)|assumption)
    have q27:x14<(l0_4.length:Int):=of_decide_eq_true (by first|(with_reducible assumption)|assumption)
    obtain⟨ad27,A27_4,c27_4,e27,hx27_0,hx27_1,hx27_2,hx27_3,hx27_4,hl27_4,hi27_4⟩:=atF_T57 HF0_4.out x14 p27 q27
    cases e27
    have HF27_4:=za hi27_4
    have HL27_4:=za hl27_4
    clear hi27_4 hl27_4
    replace p27:=eq_true p27
    replace q27:=eq_true q27
    go_wp2_with ((with_reducible refine gd 7 rfl ?_);refine zb 7 57 #[.int .i64 0,.bool false,.int .i64 0,.string (⟨#[]⟩:ByteArray),.slice none 0 0] (h:=?_);intro g28 hg w29 BKg28 hb)
    refine zg ?_
    have GEg28:=zge hg (below_size HB.out)
    have NEg1_g28:=znq hg BKg1.out
    replace HF0_4:=zfe HF0_4.out hg hb
    replace HF27_4:=zfe HF27_4.out hg hb
    replace BKg1:=zbb BKg1.out hb
    replace HB:=zhb HB.out hb
    clear hg hb
    clear hx27_0 hx27_1 hx27_2 hx27_3 hx27_4 p27 q27
    replace cBKg1:=MB.lz5 BKg1.out
    replace cBKg28:=MB.lz5 BKg28.out
    go_wp2_with ((with_reducible refine gs 57 7 rfl ?_);refine zs 57 7 #[.int .i64 ((rd_T57 l0_4 x14).f0),.bool ((rd_T57 l0_4 x14).f1),.int .i64 ((rd_T57 l0_4 x14).f2),.string ((rd_T57 l0_4 x14).f3),.slice A27_4 ((rd_T57 l0_4 x14).f4).length c27_4] BKg28.out [.int .i64 ((rd_T57 l0_4 x14).f0),.bool ((rd_T57 l0_4 x14).f1),.int .i64 ((rd_T57 l0_4 x14).f2),.string ((rd_T57 l0_4 x14).f3),.slice A27_4 ((rd_T57 l0_4 x14).f4).length c27_4] (h:=?_);intro w40 hbk hg)
    refine zg ?_
    replace HF0_4:=zfg HF0_4.out hg fun k_ hk_=>hk_.2
    replace HF27_4:=zfg HF27_4.out hg fun k_ hk_=>hk_.2
    replace BKg1:=zbg BKg1.out hg NEg1_g28
    replace HB:=zhg HB.out hg (below_size HB.out) GEg28
    replace BKg28:=hbk
    clear hg hbk
    replace cBKg1:=MB.lz5 BKg1.out
    replace cBKg28:=MB.lz5 BKg28.out
    replace HH:=zd HH
    obtain⟨t51,At52,HH⟩:=HH
    go_wp2_with ((with_reducible refine gc 99 rfl ?_);refine zc 99 (some 21) Try.func99 #[.agg #[.int .i64 ((rd_T57 l0_4 x14).f0),.bool ((rd_T57 l0_4 x14).f1),.int .i64 ((rd_T57 l0_4 x14).f2),.string ((rd_T57 l0_4 x14).f3),.slice A27_4 ((rd_T57 l0_4 x14).f4).length c27_4],.int .i64 (wrap64 (a1 - 1))] (h:=?_);(with_reducible refine(ih k15 (by have:=HK0.out;omega) (fun k_=>((P_ k_∨w.heap.size≤k_)∧k_≠g1)∧k_≠g28) ((rd_T57 l0_4 x14).f0) ((rd_T57 l0_4 x14).f1) ((rd_T57 l0_4 x14).f2) ((rd_T57 l0_4 x14).f3) _ _ ((rd_T57 l0_4 x14).f4) (wrap64 (a1 - 1)) t51 _ HF27_4.out HL27_4.out At52.out).mono ?_);rintro e w53 ⟨rfl,hb⟩;refine⟨_,rfl,?_⟩)
    refine zg ?_
    replace HF0_4:=zfb HF0_4.out hb
    replace BKg1:=zbb BKg1.out hb
    replace BKg28:=zbb BKg28.out hb
    replace HB:=zhb HB.out hb
    clear hb
    replace cBKg1:=MB.lz5 BKg1.out
    replace cBKg28:=MB.lz5 BKg28.out
    replace HH:=zqt HH
    rcases HH with⟨HH,hk65,hk66⟩|⟨HH,hk67,hk68⟩
    ·go_wp2
     go_roundg k15
     case measure=>have:=HK0.out;omega
     case rel=>exact⟨t51,wrap64 (x14+1),(by first|rfl|(simp;done)|(simp[*];done)),(by first|rfl|(simp;done)|(simp[*];done)),HH,⟨by have:=HK0.out;omega⟩,⟨(Kd.F_mono (ok:=(fun k_=>((P_ k_∨w.heap.size≤k_)∧k_≠g1)∧k_≠g28)) HF0_4.out (fun k_ hk_=>⟨hk_.1.1,hk_.1.2⟩))⟩,⟨BKg1.out⟩,⟨HB.out⟩⟩
    go_wp2
    go_roundg k15
    case measure=>have:=HK0.out;omega
    case rel=>exact⟨x13,wrap64 (x14+1),(by first|rfl|(simp;done)|(simp[*];done)),(by first|rfl|(simp;done)|(simp[*];done)),HH,⟨by have:=HK0.out;omega⟩,⟨(Kd.F_mono (ok:=(fun k_=>((P_ k_∨w.heap.size≤k_)∧k_≠g1)∧k_≠g28)) HF0_4.out (fun k_ hk_=>⟨hk_.1.1,hk_.1.2⟩))⟩,⟨BKg1.out⟩,⟨HB.out⟩⟩
   obtain rfl:=Option.some.inj HH.out
   clear HH
   go_wp2
   go_ret
   exact zfi HB.out

def ber_Deep.f (k:Nat) (a0_0:Int) (a0_1:Bool) (a0_2:Int) (a0_3:ByteArray) (l0_4:List (S57)):Option (Int):=(ber_depth.f k a0_0 a0_1 a0_2 a0_3 l0_4 12).bind fun t8=>(some t8)
theorem ber_Deep.mono:∀ a0_ a1_ a2_ a3_ a4_ k,LeO (ber_Deep.f k a0_ a1_ a2_ a3_ a4_) (ber_Deep.f (k+1) a0_ a1_ a2_ a3_ a4_):=by
 intro a0_ a1_ a2_ a3_ a4_ k
 unfold ber_Deep.f
 with_reducible repeat' first|exact ber_depth.mono _ _ _ _ _ _ _|exact LeO.refl _|exact LeO.none _|refine LeO.ite ?_ ?_|refine LeO.bind ?_ (fun _=>?_)
theorem ber_Deep.calls (k:Nat) (P_:Nat→Prop) (a0_0:Int) (a0_1:Bool) (a0_2:Int) (a0_3:ByteArray) (A0_4:Option Addr) (c0_4:Nat) (l0_4:List (S57)) (r:Int) (w:World) (hs0_4:Kd.F k57 w P_ A0_4 l0_4.length l0_4) (hc0_4:l0_4.length≤c0_4) (h:ber_Deep.f k a0_0 a0_1 a0_2 a0_3 l0_4=some r):
  Calls Try.prog 86 #[.agg #[.int .i64 a0_0,.bool a0_1,.int .i64 a0_2,.string a0_3,.slice A0_4 l0_4.length c0_4]] w (fun e w'=>e=.returned (.int .i64 r)∧Below w.heap.size w w'):=by
 unfold ber_Deep.f at h
 have HH:=za h
 clear h
 have HF0_4:=zfp hs0_4
 have HL0_4:=za hc0_4
 clear hs0_4 hc0_4
 have HB:=za (Below.refl w.heap.size w)
 have hu57:=Try.underlying57
 go_enter Try.func86,Try.ntmps86
 go_wp2_with ((with_reducible refine gd 1 rfl ?_);refine zb 1 57 #[.int .i64 a0_0,.bool a0_1,.int .i64 a0_2,.string a0_3,.slice A0_4 l0_4.length c0_4] (h:=?_);intro g1 hg w2 BKg1 hb)
 refine zg ?_
 replace HF0_4:=zfe HF0_4.out hg hb
 replace HB:=zhb HB.out hb
 clear hg hb
 replace cBKg1:=MB.lz5 BKg1.out
 replace HH:=zd HH
 obtain⟨t8,At9,HH⟩:=HH
 go_wp2_with ((with_reducible refine gc 99 rfl ?_);refine zc 99 (some 4) Try.func99 #[.agg #[.int .i64 a0_0,.bool a0_1,.int .i64 a0_2,.string a0_3,.slice A0_4 l0_4.length c0_4],.int .i64 12] (h:=?_);(with_reducible refine(ber_depth.calls k (fun k_=>(P_ k_∨w.heap.size≤k_)∧k_≠g1) a0_0 a0_1 a0_2 a0_3 _ _ l0_4 12 t8 _ HF0_4.out HL0_4.out At9.out).mono ?_);rintro e w10 ⟨rfl,hb⟩;refine⟨_,rfl,?_⟩)
 refine zg ?_
 replace BKg1:=zbb BKg1.out hb
 replace HB:=zhb HB.out hb
 clear hb
 replace cBKg1:=MB.lz5 BKg1.out
 obtain rfl:=Option.some.inj HH.out
 clear HH
 go_wp2
 go_ret
 exact zfi HB.out

mutual
def ber_sane.l0:Nat→Int→(List (S57))→Option (Bool)
 |0,_,_=>none
 |k+1,x28,l0_4=>if x28<(l0_4.length:Int) then(if 0≤x28 then((ber_sane.f k ((rd_T57 l0_4 x28).f0) ((rd_T57 l0_4 x28).f1) ((rd_T57 l0_4 x28).f2) ((rd_T57 l0_4 x28).f3) ((rd_T57 l0_4 x28).f4)).bind fun t65=>(if t65=true then((ber_sane.l0 k (wrap64 (x28+1)) l0_4)) else(some false))) else(none)) else(some true)
def ber_sane.l1:Nat→Int→(List (S57))→Option (Bool)
 |0,_,_=>none
 |k+1,x89,l0_4=>if x89<(l0_4.length:Int) then(if 0≤x89 then((ber_sane.f k ((rd_T57 l0_4 x89).f0) ((rd_T57 l0_4 x89).f1) ((rd_T57 l0_4 x89).f2) ((rd_T57 l0_4 x89).f3) ((rd_T57 l0_4 x89).f4)).bind fun t126=>(if t126=true then((ber_sane.l1 k (wrap64 (x89+1)) l0_4)) else(some false))) else(none)) else(some true)
def ber_sane.f:Nat→Int→Bool→Int→ByteArray→(List (S57))→Option (Bool)
 |0,_,_,_,_,_=>none
 |k+1,a0_0,a0_1,a0_2,a0_3,l0_4=>if a0_0<0 then(some false) else(if a0_0>3 then(some false) else(if a0_2<0 then(some false) else(if a0_2>30 then(some false) else(if a0_1=true then(if a0_3.toList=([]:List UInt8) then((ber_sane.l0 k 0 l0_4)) else(some false)) else(if (l0_4.length:Int)>0 then(some false) else((ber_sane.l1 k 0 l0_4)))))))
end
theorem ber_sane.mono_l:∀ k,(∀ y0 y1 y2 y3 y4,LeO (ber_sane.f k y0 y1 y2 y3 y4) (ber_sane.f (k+1) y0 y1 y2 y3 y4))∧(∀ y0 y1,LeO (ber_sane.l0 k y0 y1) (ber_sane.l0 (k+1) y0 y1))∧(∀ y0 y1,LeO (ber_sane.l1 k y0 y1) (ber_sane.l1 (k+1) y0 y1))
 |0=>⟨fun _ _ _ _ _ r h=>by simp[ber_sane.f] at h,fun _ _ r h=>by simp[ber_sane.l0] at h,fun _ _ r h=>by simp[ber_sane.l1] at h⟩
 |k+1=>by
  obtain⟨ih0,ih1,ih2⟩:=ber_sane.mono_l k
  refine⟨?_,?_,?_⟩
  ·intro y0 y1 y2 y3 y4
   unfold ber_sane.f
   with_reducible repeat' first|exact ih0 _ _ _ _ _|exact ih1 _ _|exact ih2 _ _|exact LeO.refl _|exact LeO.none _|refine LeO.ite ?_ ?_|refine LeO.bind ?_ (fun _=>?_)
  ·intro y0 y1
   unfold ber_sane.l0
   with_reducible repeat' first|exact ih0 _ _ _ _ _|exact ih1 _ _|exact ih2 _ _|exact LeO.refl _|exact LeO.none _|refine LeO.ite ?_ ?_|refine LeO.bind ?_ (fun _=>?_)
  intro y0 y1
  unfold ber_sane.l1
  with_reducible repeat' first|exact ih0 _ _ _ _ _|exact ih1 _ _|exact ih2 _ _|exact LeO.refl _|exact LeO.none _|refine LeO.ite ?_ ?_|refine LeO.bind ?_ (fun _=>?_)
theorem ber_sane.mono:∀ a0_ a1_ a2_ a3_ a4_ k,LeO (ber_sane.f k a0_ a1_ a2_ a3_ a4_) (ber_sane.f (k+1) a0_ a1_ a2_ a3_ a4_):=by
 intro a0_ a1_ a2_ a3_ a4_ k
 obtain⟨ih0,ih1,ih2⟩:=ber_sane.mono_l k
 exact ih0 a0_ a1_ a2_ a3_ a4_
theorem ber_sane.calls (k:Nat):∀ (P_:Nat→Prop) (a0_0:Int) (a0_1:Bool) (a0_2:Int) (a0_3:ByteArray) (A0_4:Option Addr) (c0_4:Nat) (l0_4:List (S57)) (r:Bool) (w:World) (hs0_4:Kd.F k57 w P_ A0_4 l0_4.length l0_4) (hc0_4:l0_4.length≤c0_4) (h:ber_sane.f k a0_0 a0_1 a0_2 a0_3 l0_4=some r),
  Calls Try.prog 87 #[.agg #[.int .i64 a0_0,.bool a0_1,.int .i64 a0_2,.string a0_3,.slice A0_4 l0_4.length c0_4]] w (fun e w'=>e=.returned (.bool r)∧Below w.heap.size w w'):=by
 induction k using Nat.strongRecOn with
 |_ k ih=>
 intro P_ a0_0 a0_1 a0_2 a0_3 A0_4 c0_4 l0_4 r w hs0_4 hc0_4 h
 cases k with
 |zero=>exact absurd h (by simp[ber_sane.f])
 |succ k1=>
 simp only[ber_sane.f] at h
 have HH:=za h
 clear h
 have HF0_4:=zfp hs0_4
 clear hs0_4 hc0_4
 have HB:=za (Below.refl w.heap.size w)
 have hu57:=Try.underlying57
 go_enter Try.func87,Try.ntmps87
 go_wp2_with ((with_reducible refine gd 1 rfl ?_);refine zb 1 57 #[.int .i64 a0_0,.bool a0_1,.int .i64 a0_2,.string a0_3,.slice A0_4 l0_4.length c0_4] (h:=?_);intro g1 hg w2 BKg1 hb)
 refine zg ?_
 replace HF0_4:=zfe HF0_4.out hg hb
 replace HB:=zhb HB.out hb
 clear hg hb
 replace cBKg1:=MB.lz5 BKg1.out
 replace HH:=zqt HH
 rcases HH with⟨HH,hk9,hk10⟩|⟨HH,hk11,hk12⟩
 ·obtain rfl:=Option.some.inj HH.out
  clear HH
  go_wp2
  go_ret
  exact zfi HB.out
 replace HH:=zqg HH
 rcases HH with⟨HH,hk14⟩|⟨HH,hk15⟩
 ·obtain rfl:=Option.some.inj HH.out
  clear HH
  go_wp2
  go_ret
  exact zfi HB.out
 replace HH:=zqt HH
 rcases HH with⟨HH,hk17,hk18⟩|⟨HH,hk19,hk20⟩
 ·obtain rfl:=Option.some.inj HH.out
  clear HH
  go_wp2
  go_ret
  exact zfi HB.out
 replace HH:=zqg HH
 rcases HH with⟨HH,hk22⟩|⟨HH,hk23⟩
 ·obtain rfl:=Option.some.inj HH.out
  clear HH
  go_wp2
  go_ret
  exact zfi HB.out
 by_cases c24:a0_1=true
 ·replace HH:=MW.hpos HH c24
  subst c24
  replace HH:=zqe HH
  rcases HH with⟨HH,hk26,hk27⟩|⟨HH,hk82,hk83⟩
  ·go_wp2
   go_loopg [44] k1 (fun kq u44 w'=>∃ (x28:Int),u44=.int .i64 x28∧Aside0 ((ber_sane.l0 kq x28 l0_4)=some r)∧Aside0 (kq≤k1)∧Aside0 (Kd.F k57 w' (fun k_=>(P_ k_∨w.heap.size≤k_)∧k_≠g1) A0_4 l0_4.length l0_4)∧Aside0 (w'.heap[g1]? =some (.cells #[.int .i64 a0_0,.bool true,.int .i64 a0_2,.string a0_3,.slice A0_4 l0_4.length c0_4] 57 (0,0)))∧Aside0 (Below w.heap.size w w'))
   case atStart=>exact⟨0,(by first|rfl|(simp;done)|(simp[*];done)),HH,⟨Nat.le_refl _⟩,⟨HF0_4.out⟩,⟨BKg1.out⟩,⟨HB.out⟩⟩
   case round=>
    clear hk11
    clear hk12
    clear hk15
    clear hk19
    clear hk20
    clear hk23
    clear hk26
    clear hk27
    clear HH
    clear HF0_4 BKg1 HB
    obtain⟨x28,rfl,HA,HK0,HF0_4,BKg1,HB⟩:=hrel
    obtain⟨w30,rfl⟩:∃ wo_:World,wo_=wr:=⟨_,rfl⟩
    cases gk with
    |zero=>exact absurd HA.out (by simp[ber_sane.l0])
    |succ k29=>
     have H:=HA.out
     clear HA
     simp only[ber_sane.l0] at H
     have HH:=za H
     clear H
     replace cBKg1:=MB.lz5 BKg1.out
     replace HH:=zqt HH
     rcases HH with⟨HH,hk37,hk38⟩|⟨HH,hk80,hk81⟩
     ·replace HH:=zqdo HH
      obtain⟨HH,hk40⟩:=HH
      have p41:0≤(x28:Int):=of_decide_eq_true (by first|(with_reducible assumption)|assumption)
      have q41:x28<(l0_4.length:Int):=of_decide_eq_true (by first|(with_reducible assumption)|assumption)
      obtain⟨ad41,A41_4,c41_4,e41,hx41_0,hx41_1,hx41_2,hx41_3,hx41_4,hl41_4,hi41_4⟩:=atF_T57 HF0_4.out x28 p41 q41
      cases e41
      have HF41_4:=za hi41_4
      have HL41_4:=za hl41_4
      clear hi41_4 hl41_4
      replace p41:=eq_true p41
      replace q41:=eq_true q41
      go_wp2_with ((with_reducible refine gd 4 rfl ?_);refine zb 4 57 #[.int .i64 0,.bool false,.int .i64 0,.string (⟨#[]⟩:ByteArray),.slice none 0 0] (h:=?_);intro g42 hg w43 BKg42 hb)
      refine zg ?_
      have GEg42:=zge hg (below_size HB.out)
      have NEg1_g42:=znq hg BKg1.out
      replace HF0_4:=zfe HF0_4.out hg hb
      replace HF41_4:=zfe HF41_4.out hg hb
      replace BKg1:=zbb BKg1.out hb
      replace HB:=zhb HB.out hb
      clear hg hb
      clear hx41_0 hx41_1 hx41_2 hx41_3 hx41_4 p41 q41
      replace cBKg1:=MB.lz5 BKg1.out
      replace cBKg42:=MB.lz5 BKg42.out
      go_wp2_with ((with_reducible refine gs 57 4 rfl ?_);refine zs 57 4 #[.int .i64 ((rd_T57 l0_4 x28).f0),.bool ((rd_T57 l0_4 x28).f1),.int .i64 ((rd_T57 l0_4 x28).f2),.string ((rd_T57 l0_4 x28).f3),.slice A41_4 ((rd_T57 l0_4 x28).f4).length c41_4] BKg42.out [.int .i64 ((rd_T57 l0_4 x28).f0),.bool ((rd_T57 l0_4 x28).f1),.int .i64 ((rd_T57 l0_4 x28).f2),.string ((rd_T57 l0_4 x28).f3),.slice A41_4 ((rd_T57 l0_4 x28).f4).length c41_4] (h:=?_);intro w54 hbk hg)
      refine zg ?_
      replace HF0_4:=zfg HF0_4.out hg fun k_ hk_=>hk_.2
      replace HF41_4:=zfg HF41_4.out hg fun k_ hk_=>hk_.2
      replace BKg1:=zbg BKg1.out hg NEg1_g42
      replace HB:=zhg HB.out hg (below_size HB.out) GEg42
      replace BKg42:=hbk
      clear hg hbk
      replace cBKg1:=MB.lz5 BKg1.out
      replace cBKg42:=MB.lz5 BKg42.out
      replace HH:=zd HH
      obtain⟨t65,At66,HH⟩:=HH
      go_wp2_with ((with_reducible refine gc 87 rfl ?_);refine zc 87 (some 49) Try.func87 #[.agg #[.int .i64 ((rd_T57 l0_4 x28).f0),.bool ((rd_T57 l0_4 x28).f1),.int .i64 ((rd_T57 l0_4 x28).f2),.string ((rd_T57 l0_4 x28).f3),.slice A41_4 ((rd_T57 l0_4 x28).f4).length c41_4]] (h:=?_);(with_reducible refine(ih k29 (by have:=HK0.out;omega) (fun k_=>((P_ k_∨w.heap.size≤k_)∧k_≠g1)∧k_≠g42) ((rd_T57 l0_4 x28).f0) ((rd_T57 l0_4 x28).f1) ((rd_T57 l0_4 x28).f2) ((rd_T57 l0_4 x28).f3) _ _ ((rd_T57 l0_4 x28).f4) t65 _ HF41_4.out HL41_4.out At66.out).mono ?_);rintro e w67 ⟨rfl,hb⟩;refine⟨_,rfl,?_⟩)
      refine zg ?_
      replace HF0_4:=zfb HF0_4.out hb
      replace BKg1:=zbb BKg1.out hb
      replace BKg42:=zbb BKg42.out hb
      replace HB:=zhb HB.out hb
      clear hb
      replace cBKg1:=MB.lz5 BKg1.out
      replace cBKg42:=MB.lz5 BKg42.out
      by_cases c78:t65=true
      ·replace HH:=MW.hpos HH c78
       subst c78
       go_wp2
       go_roundg k29
       case measure=>have:=HK0.out;omega
       case rel=>exact⟨wrap64 (x28+1),(by first|rfl|(simp;done)|(simp[*];done)),HH,⟨by have:=HK0.out;omega⟩,⟨(Kd.F_mono (ok:=(fun k_=>((P_ k_∨w.heap.size≤k_)∧k_≠g1)∧k_≠g42)) HF0_4.out (fun k_ hk_=>⟨hk_.1.1,hk_.1.2⟩))⟩,⟨BKg1.out⟩,⟨HB.out⟩⟩
      replace HH:=MW.hneg HH c78
      replace c78:=Bool.eq_false_iff.mpr c78
      subst c78
      obtain rfl:=Option.some.inj HH.out
      clear HH
      go_wp2
      go_ret
      exact zfi HB.out
     obtain rfl:=Option.some.inj HH.out
     clear HH
     go_wp2
     go_ret
     exact zfi HB.out
  obtain rfl:=Option.some.inj HH.out
  clear HH
  go_wp2
  go_ret
  exact zfi HB.out
 replace HH:=MW.hneg HH c24
 replace c24:=Bool.eq_false_iff.mpr c24
 subst c24
 replace HH:=zqK 0 HH
 rcases HH with⟨HH,hk85,hk86⟩|⟨HH,hk87,hk88⟩
 ·obtain rfl:=Option.some.inj HH.out
  clear HH
  go_wp2
  go_ret
  exact zfi HB.out
 go_wp2
 go_loopg [44] k1 (fun kq u44 w'=>∃ (x89:Int),u44=.int .i64 x89∧Aside0 ((ber_sane.l1 kq x89 l0_4)=some r)∧Aside0 (kq≤k1)∧Aside0 (Kd.F k57 w' (fun k_=>(P_ k_∨w.heap.size≤k_)∧k_≠g1) A0_4 l0_4.length l0_4)∧Aside0 (w'.heap[g1]? =some (.cells #[.int .i64 a0_0,.bool false,.int .i64 a0_2,.string a0_3,.slice A0_4 l0_4.length c0_4] 57 (0,0)))∧Aside0 (Below w.heap.size w w'))
 case atStart=>exact⟨0,(by first|rfl|(simp;done)|(simp[*];done)),HH,⟨Nat.le_refl _⟩,⟨HF0_4.out⟩,⟨BKg1.out⟩,⟨HB.out⟩⟩
 case round=>
  clear hk11
  clear hk12
  clear hk15
  clear hk19
  clear hk20
  clear hk23
  clear hk87
  clear hk88
  clear HH
  clear HF0_4 BKg1 HB
  obtain⟨x89,rfl,HA,HK1,HF0_4,BKg1,HB⟩:=hrel
  obtain⟨w91,rfl⟩:∃ wo_:World,wo_=wr:=⟨_,rfl⟩
  cases gk with
  |zero=>exact absurd HA.out (by simp[ber_sane.l1])
  |succ k90=>
   have H:=HA.out
   clear HA
   simp only[ber_sane.l1] at H
   have HH:=za H
   clear H
   replace cBKg1:=MB.lz5 BKg1.out
   replace HH:=zqt HH
   rcases HH with⟨HH,hk98,hk99⟩|⟨HH,hk141,hk142⟩
   ·replace HH:=zqdo HH
    obtain⟨HH,hk101⟩:=HH
    have p102:0≤(x89:Int):=of_decide_eq_true (by first|(with_reducible assumption)|assumption)
    have q102:x89<(l0_4.length:Int):=of_decide_eq_true (by first|(with_reducible assumption)|assumption)
    obtain⟨ad102,A102_4,c102_4,e102,hx102_0,hx102_1,hx102_2,hx102_3,hx102_4,hl102_4,hi102_4⟩:=atF_T57 HF0_4.out x89 p102 q102
    cases e102
    have HF102_4:=za hi102_4
    have HL102_4:=za hl102_4
    clear hi102_4 hl102_4
    replace p102:=eq_true p102
    replace q102:=eq_true q102
    go_wp2_with ((with_reducible refine gd 4 rfl ?_);refine zb 4 57 #[.int .i64 0,.bool false,.int .i64 0,.string (⟨#[]⟩:ByteArray),.slice none 0 0] (h:=?_);intro g103 hg w104 BKg103 hb)
    refine zg ?_
    have GEg103:=zge hg (below_size HB.out)
    have NEg1_g103:=znq hg BKg1.out
    replace HF0_4:=zfe HF0_4.out hg hb
    replace HF102_4:=zfe HF102_4.out hg hb
    replace BKg1:=zbb BKg1.out hb
    replace HB:=zhb HB.out hb
    clear hg hb
    clear hx102_0 hx102_1 hx102_2 hx102_3 hx102_4 p102 q102
    replace cBKg1:=MB.lz5 BKg1.out
    replace cBKg103:=MB.lz5 BKg103.out
    go_wp2_with ((with_reducible refine gs 57 4 rfl ?_);refine zs 57 4 #[.int .i64 ((rd_T57 l0_4 x89).f0),.bool ((rd_T57 l0_4 x89).f1),.int .i64 ((rd_T57 l0_4 x89).f2),.string ((rd_T57 l0_4 x89).f3),.slice A102_4 ((rd_T57 l0_4 x89).f4).length c102_4] BKg103.out [.int .i64 ((rd_T57 l0_4 x89).f0),.bool ((rd_T57 l0_4 x89).f1),.int .i64 ((rd_T57 l0_4 x89).f2),.string ((rd_T57 l0_4 x89).f3),.slice A102_4 ((rd_T57 l0_4 x89).f4).length c102_4] (h:=?_);intro w115 hbk hg)
    refine zg ?_
    replace HF0_4:=zfg HF0_4.out hg fun k_ hk_=>hk_.2
    replace HF102_4:=zfg HF102_4.out hg fun k_ hk_=>hk_.2
    replace BKg1:=zbg BKg1.out hg NEg1_g103
    replace HB:=zhg HB.out hg (below_size HB.out) GEg103
    replace BKg103:=hbk
    clear hg hbk
    replace cBKg1:=MB.lz5 BKg1.out
    replace cBKg103:=MB.lz5 BKg103.out
    replace HH:=zd HH
    obtain⟨t126,At127,HH⟩:=HH
    go_wp2_with ((with_reducible refine gc 87 rfl ?_);refine zc 87 (some 49) Try.func87 #[.agg #[.int .i64 ((rd_T57 l0_4 x89).f0),.bool ((rd_T57 l0_4 x89).f1),.int .i64 ((rd_T57 l0_4 x89).f2),.string ((rd_T57 l0_4 x89).f3),.slice A102_4 ((rd_T57 l0_4 x89).f4).length c102_4]] (h:=?_);(with_reducible refine(ih k90 (by have:=HK1.out;omega) (fun k_=>((P_ k_∨w.heap.size≤k_)∧k_≠g1)∧k_≠g103) ((rd_T57 l0_4 x89).f0) ((rd_T57 l0_4 x89).f1) ((rd_T57 l0_4 x89).f2) ((rd_T57 l0_4 x89).f3) _ _ ((rd_T57 l0_4 x89).f4) t126 _ HF102_4.out HL102_4.out At127.out).mono ?_);rintro e w128 ⟨rfl,hb⟩;refine⟨_,rfl,?_⟩)
    refine zg ?_
    replace HF0_4:=zfb HF0_4.out hb
    replace BKg1:=zbb BKg1.out hb
    replace BKg103:=zbb BKg103.out hb
    replace HB:=zhb HB.out hb
    clear hb
    replace cBKg1:=MB.lz5 BKg1.out
    replace cBKg103:=MB.lz5 BKg103.out
    by_cases c139:t126=true
    ·replace HH:=MW.hpos HH c139
     subst c139
     go_wp2
     go_roundg k90
     case measure=>have:=HK1.out;omega
     case rel=>exact⟨wrap64 (x89+1),(by first|rfl|(simp;done)|(simp[*];done)),HH,⟨by have:=HK1.out;omega⟩,⟨(Kd.F_mono (ok:=(fun k_=>((P_ k_∨w.heap.size≤k_)∧k_≠g1)∧k_≠g103)) HF0_4.out (fun k_ hk_=>⟨hk_.1.1,hk_.1.2⟩))⟩,⟨BKg1.out⟩,⟨HB.out⟩⟩
    replace HH:=MW.hneg HH c139
    replace c139:=Bool.eq_false_iff.mpr c139
    subst c139
    obtain rfl:=Option.some.inj HH.out
    clear HH
    go_wp2
    go_ret
    exact zfi HB.out
   obtain rfl:=Option.some.inj HH.out
   clear HH
   go_wp2
   go_ret
   exact zfi HB.out

def ber_sheaf_put.f (l0_1:List Int) (a0_2:Bool) (a1:ByteArray):Option (List Int × Bool):=if a0_2=true then(some (l0_1,true)) else(if (wrap64 ((l0_1.length:Int)+(a1.size:Int)))>4000 then(some (l0_1,decide ((wrap64 ((l0_1.length:Int)+(a1.size:Int)))>4000))) else(if l0_1.length+a1.size<140737488355328 then((some (l0_1++MB.numsOf a1:List Int)).bind fun y25=>(some (y25,decide ((wrap64 ((l0_1.length:Int)+(a1.size:Int)))>4000)))) else(none)))
def ber_sheaf_put.Post (B_:Nat) (g0:Nat) (p0_0:Value) (v0_1:Value) (l0_1:List Int) (a0_2:Bool) (a1:ByteArray) (w:World) (r1:List Int) (r2:Bool) (e:Ending) (w':World):Prop:=∃ v1'_:Value,∃ p0'_:Value,e=.returned (.tuple #[])∧Kd.N (Kd.int .u8) 5 w' B_ (fun k_=>(True∧(some k_=(v0_1:Value).ownBlock∨w.heap.size≤k_))∧k_≠g0) v1'_ r1∧(p0'_=.pointer none∨p0'_=.pointer (some ⟨g0,0,none⟩))∧w'.heap[g0]? =some (.cells #[p0'_,v1'_,.bool r2] 99 (0,0))∧(∀ k_:Nat,k_≠g0→some k_≠(v0_1:Value).ownBlock→k_<w.heap.size→w'.heap[k_]? =w.heap[k_]?)∧Below B_ w w'
theorem ber_sheaf_put.calls (B_:Nat) (g0:Nat) (p0_0:Value) (v0_1:Value) (l0_1:List Int) (a0_2:Bool) (a1:ByteArray) (r1:List Int) (r2:Bool) (w:World) (hB0:B_≤w.heap.size) (hb0:w.heap[g0]? =some (.cells #[p0_0,v0_1,.bool a0_2] 99 (0,0))) (hge0:B_≤g0) (hp0_0:p0_0=.pointer none∨p0_0=.pointer (some ⟨g0,0,none⟩)) (hn0_1:Kd.N (Kd.int .u8) 5 w B_ (fun k_=>(True∧(some k_=(v0_1:Value).ownBlock∨w.heap.size≤k_))∧k_≠g0) v0_1 l0_1) (h:ber_sheaf_put.f l0_1 a0_2 a1=some (r1,r2)):
  Calls Try.prog 89 #[.pointer (some ⟨g0,0,none⟩),.string a1] w (fun e w'=>ber_sheaf_put.Post B_ g0 p0_0 v0_1 l0_1 a0_2 a1 w r1 r2 e w'):=by
 unfold ber_sheaf_put.f at h
 have HH:=za h
 clear h
 obtain⟨P0_,HPO⟩:∃ P0_:Nat→Prop,P0_=(fun k_=>k_≠g0∧some k_≠(v0_1:Value).ownBlock):=⟨_,rfl⟩
 have HFfr:=za (MB.frK_new w (fun k_ hk_=>by rw[HPO] at hk_;exact⟨⟨trivial,hk_.2⟩,hk_.1⟩):Kd.F (MB.frK w P0_) w (fun k_=>(True∧some k_≠(v0_1:Value).ownBlock)∧k_≠g0) (some ⟨0,0,none⟩) [()].length [()])
 replace HPO:=za HPO
 have hB_:=za hB0
 have HPp0_0:=za hp0_0
 clear hp0_0
 have HN0_1:=za hn0_1
 clear hn0_1
 have BKg0:=za hb0
 have GEg0:=za hge0
 clear hb0 hge0
 replace cBKg0:=MB.lz3 BKg0.out
 have HB:=za (Below.refl B_ w)
 go_enter Try.func89,Try.ntmps89
 by_cases c4:a0_2=true
 ·replace HH:=MW.hpos HH c4
  subst c4
  obtain⟨A6,cp7,he_⟩:=Kd.N_slice HN0_1.out
  subst he_
  go_wp2_with ((with_reducible refine gs 4 20 rfl ?_);refine zs 4 20 #[p0_0,(.slice A6 l0_1.length cp7),.bool true] BKg0.out [.bool true] (h:=?_);intro w5 hbk hg)
  refine zg ?_
  replace HFfr:=zfg HFfr.out hg fun k_ hk_=>hk_.2
  replace HN0_1:=zng HN0_1.out hg fun k_ hk_=>hk_.2
  replace HB:=zhg HB.out hg (Nat.le_trans hB_.out (MB.bsize (a:=B_) HB.out)) GEg0
  replace BKg0:=hbk
  clear hg hbk
  replace cBKg0:=MB.lz3 BKg0.out
  have H:=HH.out
  simp only[Option.some.injEq,Prod.mk.injEq] at H
  obtain⟨rfl,rfl⟩:=H
  clear HH
  go_wp2
  go_end0
  unfold ber_sheaf_put.Post
  exact⟨((.slice A6 l0_1.length cp7)),(p0_0),by first|rfl|(simp;done)|(simp[*];done),(Kd.N_mono (ok:=(fun k_=>(True∧(some k_=((.slice A6 l0_1.length cp7):Value).ownBlock∨w.heap.size≤k_))∧k_≠g0)) HN0_1.out (fun k_ hk_=>⟨⟨trivial,hk_.1.2⟩,hk_.2⟩)),HPp0_0.out,(by first|exact BKg0.out|(have h_:=BKg0.out;simp only[*] at h_;exact h_)|(have h_:=BKg0.out;simp[*] at h_ ⊢;exact h_)),(fun k_ hg_ hv_ hlt_=>MB.frK_out HFfr.out k_ (by rw[HPO.out];exact⟨hg_,hv_⟩) hlt_),HB.out⟩
 replace HH:=MW.hneg HH c4
 replace c4:=Bool.eq_false_iff.mpr c4
 subst c4
 go_wp2_with (((with_reducible refine gate_callee (f:=100) rfl ?_);(try(refine gate_guard (by rfl) ?_;dsimp only));refine goesL_ (some 13) rfl rfl Try.func100 (by kernel_rfl) rfl #[.pointer (some ⟨g0,0,none⟩)] rfl (by(try simp only[List.map_toArray,List.map_cons,List.map_nil]);first|done|rfl) ?_);refine stop_ ?_)
 refine zg ?_
 go_enter Try.func100,Try.ntmps100
 obtain⟨A11,cp12,he_⟩:=Kd.N_slice HN0_1.out
 subst he_
 go_wp2
 go_ret
 refine⟨_,rfl,?_⟩
 go_wp2_with ((with_reducible refine gs 4 20 rfl ?_);refine zs 4 20 #[p0_0,(.slice A11 l0_1.length cp12),.bool (decide ((wrap64 ((l0_1.length:Int)+(a1.size:Int)))>4000))] BKg0.out [.bool (decide ((wrap64 ((l0_1.length:Int)+(a1.size:Int)))>4000))] (h:=?_);intro w13 hbk hg)
 refine zg ?_
 replace HFfr:=zfg HFfr.out hg fun k_ hk_=>hk_.2
 replace HN0_1:=zng HN0_1.out hg fun k_ hk_=>hk_.2
 replace HB:=zhg HB.out hg (Nat.le_trans hB_.out (MB.bsize (a:=B_) HB.out)) GEg0
 replace BKg0:=hbk
 clear hg hbk
 replace cBKg0:=MB.lz3 BKg0.out
 replace HH:=zqg HH
 rcases HH with⟨HH,hk18⟩|⟨HH,hk19⟩
 ·have H:=HH.out
  simp only[Option.some.injEq,Prod.mk.injEq] at H
  obtain⟨rfl,rfl⟩:=H
  clear HH
  go_wp2
  go_end0
  unfold ber_sheaf_put.Post
  exact⟨((.slice A11 l0_1.length cp12)),(p0_0),by first|rfl|(simp;done)|(simp[*];done),(Kd.N_mono (ok:=(fun k_=>(True∧(some k_=((.slice A11 l0_1.length cp12):Value).ownBlock∨w.heap.size≤k_))∧k_≠g0)) HN0_1.out (fun k_ hk_=>⟨⟨trivial,hk_.1.2⟩,hk_.2⟩)),HPp0_0.out,(by first|exact BKg0.out|(have h_:=BKg0.out;simp only[*] at h_;exact h_)|(have h_:=BKg0.out;simp[*] at h_ ⊢;exact h_)),(fun k_ hg_ hv_ hlt_=>MB.frK_out HFfr.out k_ (by rw[HPO.out];exact⟨hg_,hv_⟩) hlt_),HB.out⟩
 go_wp2_with (((with_reducible refine gate_callee (f:=101) rfl ?_);(try(refine gate_guard (by rfl) ?_;dsimp only));refine goesL_ (some 30) rfl rfl Try.func101 (by kernel_rfl) rfl #[.pointer (some ⟨g0,0,none⟩),.string a1] rfl (by(try simp only[List.map_toArray,List.map_cons,List.map_nil]);first|done|rfl) ?_);refine stop_ ?_)
 refine zg ?_
 go_enter Try.func101,Try.ntmps101
 go_wp2_with (((with_reducible refine gc 103 rfl ?_);refine zc 103 (some 7) Try.func103 #[.pointer (some ⟨g0,0,none⟩)] (h:=?_);refine(copyCheck103 g0 99 (p0_0) [(.slice A11 l0_1.length cp12),.bool (decide ((wrap64 ((l0_1.length:Int)+(a1.size:Int)))>4000))] _ BKg0.out HPp0_0.out (by kernel_rfl)).mono ?_;rintro e w20 ⟨rfl,hbk,hg⟩;refine⟨_,rfl,?_⟩);replace hbk:=za hbk)
 refine zg ?_
 replace hbk:=hbk.out
 replace HFfr:=za (Kd.F_grown (ok:=(fun k_=>(True∧some k_≠((.slice A11 l0_1.length cp12):Value).ownBlock)∧k_≠g0)) HFfr.out hg (fun k_ hk_ he_=>hk_.2 (Option.some.inj he_)))
 replace HN0_1:=za (Kd.N_grown (ok:=(fun k_=>(True∧(some k_=((.slice A11 l0_1.length cp12):Value).ownBlock∨w.heap.size≤k_))∧k_≠g0)) HN0_1.out hg (fun k_ hk_ he_=>hk_.2 (Option.some.inj he_)))
 replace HB:=za (Below.grown HB.out hg (Nat.le_trans hB_.out (MB.bsize (a:=B_) HB.out)) (fun k_ hk_=>by injection hk_ with hk_;rw[← hk_];exact GEg0.out))
 replace BKg0:=za hbk
 clear hg hbk
 replace cBKg0:=MB.lz3 BKg0.out
 obtain⟨HH,LMc24⟩:=zlm HH
 obtain⟨y25,hy25⟩:∃ y_:List Int,y_=(l0_1++MB.numsOf a1):=⟨_,rfl⟩
 have H:(some (y25,decide ((wrap64 ((l0_1.length:Int)+(a1.size:Int)))>4000)))=some (r1,r2):=by rw[hy25];exact HH.out
 replace HH:=za H
 clear H
 have NYy25:=za hy25
 clear hy25
 go_wp2_with (((with_reducible refine gate_dst (N:=14) rfl ?_);(try(refine gate_guard (by rfl) ?_;dsimp only));refine MB.N_append_str B_ rfl _ _ 95 9 5 rfl Try.underlying95 Try.underlying9 info5 ((.slice A11 l0_1.length cp12)) l0_1 a1 (fun k_=>(True∧(some k_=((.slice A11 l0_1.length cp12):Value).ownBlock∨w.heap.size≤k_))∧k_≠g0) rfl rfl HN0_1.out (fun k_ h_=>⟨⟨trivial,(.inr (Nat.le_trans (MB.bsize (a:=B_) HB.out) h_))⟩,Kd.freshB (g:=g0) BKg0.out k_ h_⟩) HB.out (Nat.le_trans hB_.out (MB.bsize (a:=B_) HB.out)) (by first|(have:=LMc24.out;simp only[List.length_nil] at *;omega)|(have:=LMc24.out;simp at *;omega)|(have:=LMc24.out;simp only[List.length_nil] at *;simp;omega)) ?_;intro v26 w27 hn1 hb1 hg1 hat1);replace hat1:=za hat1;refine stop_ ?_)
 refine zg ?_
 replace hat1:=hat1.out
 replace HFfr:=za (Kd.F_mono (Kd.F_after (v:=(.slice A11 l0_1.length cp12)) (ok:=(fun k_=>True∧k_≠g0)) (Kd.F_mono (ok:=(fun k_=>(True∧some k_≠((.slice A11 l0_1.length cp12):Value).ownBlock)∧k_≠g0)) HFfr.out (fun k_ hk_=>⟨⟨hk_.1.1,hk_.2⟩,hk_.1.2⟩)) hg1 hat1) (fun k_ hk_=>hk_):Kd.F (MB.frK w P0_) _ (fun k_=>(True∧k_≠g0)∧some k_≠(v26:Value).ownBlock) _ _ _)
 replace BKg0:=za (blk_grown (g:=g0) BKg0.out hg1 (Kd.N_away (ok:=(fun k_=>(True∧(some k_=((.slice A11 l0_1.length cp12):Value).ownBlock∨w.heap.size≤k_))∧k_≠g0)) HN0_1.out (fun k_ hk_=>hk_.2)))
 replace HB:=za hb1
 clear HN0_1
 have HN28:=za hn1
 clear hn1 hb1 hg1 hat1
 replace HN28:=za (by rw[NYy25.out];exact HN28.out:Kd.N (Kd.int .u8) 5 w27 B_ (fun k_=>(True∧(some k_=((.slice A11 l0_1.length cp12):Value).ownBlock∨w.heap.size≤k_))∧k_≠g0) v26 y25)
 replace cBKg0:=MB.lz3 BKg0.out
 obtain⟨A33,cp34,he_⟩:=Kd.N_slice HN28.out
 subst he_
 go_wp2_with ((with_reducible refine gs 95 16 rfl ?_);refine zs 95 16 #[.pointer (some ⟨g0,0,none⟩),(.slice A33 y25.length cp34),.bool (decide ((wrap64 ((l0_1.length:Int)+(a1.size:Int)))>4000))] BKg0.out [(.slice A33 y25.length cp34)] (h:=?_);intro w32 hbk hg)
 refine zg ?_
 replace HFfr:=zfg HFfr.out hg fun k_ hk_=>hk_.1.2
 replace HN28:=zng HN28.out hg fun k_ hk_=>hk_.2
 replace HB:=zhg HB.out hg (Nat.le_trans hB_.out (MB.bsize (a:=B_) HB.out)) GEg0
 replace BKg0:=hbk
 clear hg hbk
 replace cBKg0:=MB.lz3 BKg0.out
 go_wp2
 go_ret2
 refine⟨_,rfl,?_⟩
 have H:=HH.out
 simp only[Option.some.injEq,Prod.mk.injEq] at H
 obtain⟨rfl,rfl⟩:=H
 clear HH
 go_wp2
 go_end0
 unfold ber_sheaf_put.Post
 exact⟨((.slice A33 y25.length cp34)),(.pointer (some ⟨g0,0,none⟩)),by first|rfl|(simp;done)|(simp[*];done),(Kd.N_mono (ok:=(fun k_=>(True∧(some k_=((.slice A11 l0_1.length cp12):Value).ownBlock∨w.heap.size≤k_))∧k_≠g0)) HN28.out (fun k_ hk_=>⟨⟨trivial,hk_.1.2⟩,hk_.2⟩)),(.inr rfl),(by first|exact BKg0.out|(have h_:=BKg0.out;simp only[*] at h_;exact h_)|(have h_:=BKg0.out;simp[*] at h_ ⊢;exact h_)),(fun k_ hg_ hv_ hlt_=>MB.frK_out HFfr.out k_ (by rw[HPO.out];exact⟨hg_,hv_⟩) hlt_),HB.out⟩

def ber_length.f (a0:Int):Option (ByteArray):=if a0<128 then(some (strOfNums ([(a0) % 256]:List Int))) else(if a0<256 then(some (strOfNums ([129,(a0) % 256]:List Int))) else(some (strOfNums ([130,(a0 / 256) % 256,(a0) % 256]:List Int))))
theorem ber_length.calls (a0:Int) (r:ByteArray) (w:World) (h:ber_length.f a0=some r):
  Calls Try.prog 90 #[.int .i64 a0] w (fun e w'=>e=.returned (.string r)∧Below w.heap.size w w'):=by
 unfold ber_length.f at h
 have HH:=za h
 clear h
 have HB:=za (Below.refl w.heap.size w)
 go_enter Try.func90,Try.ntmps90
 replace HH:=zqt HH
 rcases HH with⟨HH,hk2,hk3⟩|⟨HH,hk12,hk13⟩
 ·go_wp2_with (((with_reducible refine gate_dst (N:=8) rfl ?_);(try(refine gate_guard (by rfl) ?_;dsimp only));refine Kd.N_lit (Kd.int .u8) w.heap.size 5 rfl (N':=8) rfl (xs:=([(a0) % 256]:List Int)) (inner:=[.int .u8 ((a0) % 256)]) (ok:=(fun k_=>(w.heap.size≤k_))) (okp:=(fun k_=>(w.heap.size≤k_))) ?hr ?hp (fun _ hk_=>hk_) ?hf HB.out (below_size HB.out) (by first|simp|decide) ?_;(case hr=>first|(go_simp;done)|(go_simp;rfl));(case hp=>exact(Reps.one (fun _ _=>rfl) (Reps.none _ _)));(case hf=>exact(show ∀ k_,w.heap.size≤k_→(fun k_=>(w.heap.size≤k_)) k_ from fun k_ h_=>(Nat.le_trans (below_size HB.out) h_)) _ (Nat.le_refl _));intro v4 w5 hn1 hb1 hg1 hat1);replace hat1:=za hat1;refine stop_ ?_)
  refine zg ?_
  replace hat1:=hat1.out
  have hbe:=MW.grown_below hg1
  have hba:=MW.base_of hat1
  replace HB:=za hb1
  have HN6:=za hn1
  clear hn1 hb1 hg1 hat1 hbe hba
  obtain⟨A7,cp8,he_⟩:=Kd.N_slice HN6.out
  subst he_
  have HF9:=za (Kd.N_F HN6.out)
  clear HN6
  have hcv11:=Kd.C_string (P:=Try.prog) (A:=A7) (c:=cp8) Try.underlying95 Try.underlying5 Try.underlying9 (Kd.F_now HF9.out)
  (try simp only[List.length_cons,List.length_nil,Nat.reduceAdd] at hcv11)
  obtain rfl:=Option.some.inj HH.out
  clear HH
  go_wp2
  go_ret
  exact zfi HB.out
 replace HH:=zqt HH
 rcases HH with⟨HH,hk15,hk16⟩|⟨HH,hk25,hk26⟩
 ·go_wp2_with (((with_reducible refine gate_dst (N:=15) rfl ?_);(try(refine gate_guard (by rfl) ?_;dsimp only));refine Kd.N_lit (Kd.int .u8) w.heap.size 5 rfl (N':=15) rfl (xs:=([129,(a0) % 256]:List Int)) (inner:=[.int .u8 129,.int .u8 ((a0) % 256)]) (ok:=(fun k_=>(w.heap.size≤k_))) (okp:=(fun k_=>(w.heap.size≤k_))) ?hr ?hp (fun _ hk_=>hk_) ?hf HB.out (below_size HB.out) (by first|simp|decide) ?_;(case hr=>first|(go_simp;done)|(go_simp;rfl));(case hp=>exact(Reps.one (fun _ _=>rfl) (Reps.one (fun _ _=>rfl) (Reps.none _ _))));(case hf=>exact(show ∀ k_,w.heap.size≤k_→(fun k_=>(w.heap.size≤k_)) k_ from fun k_ h_=>(Nat.le_trans (below_size HB.out) h_)) _ (Nat.le_refl _));intro v17 w18 hn1 hb1 hg1 hat1);replace hat1:=za hat1;refine stop_ ?_)
  refine zg ?_
  replace hat1:=hat1.out
  have hbe:=MW.grown_below hg1
  have hba:=MW.base_of hat1
  replace HB:=za hb1
  have HN19:=za hn1
  clear hn1 hb1 hg1 hat1 hbe hba
  obtain⟨A20,cp21,he_⟩:=Kd.N_slice HN19.out
  subst he_
  have HF22:=za (Kd.N_F HN19.out)
  clear HN19
  have hcv24:=Kd.C_string (P:=Try.prog) (A:=A20) (c:=cp21) Try.underlying95 Try.underlying5 Try.underlying9 (Kd.F_now HF22.out)
  (try simp only[List.length_cons,List.length_nil,Nat.reduceAdd] at hcv24)
  obtain rfl:=Option.some.inj HH.out
  clear HH
  go_wp2
  go_ret
  exact zfi HB.out
 go_wp2_with (((with_reducible refine gate_dst (N:=22) rfl ?_);(try(refine gate_guard (by rfl) ?_;dsimp only));refine Kd.N_lit (Kd.int .u8) w.heap.size 5 rfl (N':=22) rfl (xs:=([130,(a0 / 256) % 256,(a0) % 256]:List Int)) (inner:=[.int .u8 130,.int .u8 ((a0 / 256) % 256),.int .u8 ((a0) % 256)]) (ok:=(fun k_=>(w.heap.size≤k_))) (okp:=(fun k_=>(w.heap.size≤k_))) ?hr ?hp (fun _ hk_=>hk_) ?hf HB.out (below_size HB.out) (by first|simp|decide) ?_;(case hr=>first|(go_simp;done)|(go_simp;rfl));(case hp=>exact(Reps.one (fun _ _=>rfl) (Reps.one (fun _ _=>rfl) (Reps.one (fun _ _=>rfl) (Reps.none _ _)))));(case hf=>exact(show ∀ k_,w.heap.size≤k_→(fun k_=>(w.heap.size≤k_)) k_ from fun k_ h_=>(Nat.le_trans (below_size HB.out) h_)) _ (Nat.le_refl _));intro v27 w28 hn1 hb1 hg1 hat1);replace hat1:=za hat1;refine stop_ ?_)
 refine zg ?_
 replace hat1:=hat1.out
 have hbe:=MW.grown_below hg1
 have hba:=MW.base_of hat1
 replace HB:=za hb1
 have HN29:=za hn1
 clear hn1 hb1 hg1 hat1 hbe hba
 obtain⟨A30,cp31,he_⟩:=Kd.N_slice HN29.out
 subst he_
 have HF32:=za (Kd.N_F HN29.out)
 clear HN29
 have hcv34:=Kd.C_string (P:=Try.prog) (A:=A30) (c:=cp31) Try.underlying95 Try.underlying5 Try.underlying9 (Kd.F_now HF32.out)
 (try simp only[List.length_cons,List.length_nil,Nat.reduceAdd] at hcv34)
 obtain rfl:=Option.some.inj HH.out
 clear HH
 go_wp2
 go_ret
 exact zfi HB.out

def toponymref16_SameTexts.l0:Nat→Int→(List ByteArray)→(List ByteArray)→Option (Bool)
 |0,_,_,_=>none
 |k+1,x5,l0,l1=>if x5<(l0.length:Int) then(if 0≤x5 then(if x5<(l1.length:Int) then(if (rdOf ByteArray.empty l0 x5).toList=(rdOf ByteArray.empty l1 x5).toList then((toponymref16_SameTexts.l0 k (wrap64 (x5+1)) l0 l1)) else(some false)) else(none)) else(none)) else(some true)
def toponymref16_SameTexts.f (k:Nat) (l0:List ByteArray) (l1:List ByteArray):Option (Bool):=if (l0.length:Int)=(l1.length:Int) then((toponymref16_SameTexts.l0 k 0 l0 l1)) else(some false)
theorem toponymref16_SameTexts.mono_l:∀ k,(∀ y0 y1 y2,LeO (toponymref16_SameTexts.l0 k y0 y1 y2) (toponymref16_SameTexts.l0 (k+1) y0 y1 y2))
 |0=>fun _ _ _ r h=>by simp[toponymref16_SameTexts.l0] at h
 |k+1=>by
  have ih0:=toponymref16_SameTexts.mono_l k
  ·intro y0 y1 y2
   unfold toponymref16_SameTexts.l0
   with_reducible repeat' first|exact ih0 _ _ _|exact LeO.refl _|exact LeO.none _|refine LeO.ite ?_ ?_|refine LeO.bind ?_ (fun _=>?_)
theorem toponymref16_SameTexts.mono:∀ a0_ a1_ k,LeO (toponymref16_SameTexts.f k a0_ a1_) (toponymref16_SameTexts.f (k+1) a0_ a1_):=by
 intro a0_ a1_ k
 have ih0:=toponymref16_SameTexts.mono_l k
 unfold toponymref16_SameTexts.f
 with_reducible repeat' first|exact ih0 _ _ _|exact LeO.refl _|exact LeO.none _|refine LeO.ite ?_ ?_|refine LeO.bind ?_ (fun _=>?_)
theorem toponymref16_SameTexts.calls (k:Nat) (P_:Nat→Prop) (A0:Option Addr) (c0:Nat) (l0:List ByteArray) (A1:Option Addr) (c1:Nat) (l1:List ByteArray) (r:Bool) (w:World) (hs0:Kd.F Kd.string w P_ A0 l0.length l0) (hc0:l0.length≤c0) (hs1:Kd.F Kd.string w P_ A1 l1.length l1) (hc1:l1.length≤c1) (h:toponymref16_SameTexts.f k l0 l1=some r):
  Calls Try.prog 14 #[.slice A0 l0.length c0,.slice A1 l1.length c1] w (fun e w'=>e=.returned (.bool r)∧Drawn0 w w'):=by
 unfold toponymref16_SameTexts.f at h
 have HH:=za h
 clear h
 have HF0:=zfp hs0
 clear hs0 hc0
 have HF1:=zfp hs1
 clear hs1 hc1
 go_enter Try.func14,Try.ntmps14
 by_cases c1:(l0.length:Int)=(l1.length:Int)
 ·replace HH:=MW.hpos HH c1
  have hk2:((l0.length:Int)==(l1.length:Int))=true:=beq_iff_eq.mpr c1
  have hk3:((l0.length:Int) != (l1.length:Int))=false:=bne_eq_false_iff_eq.mpr c1
  have hk4:(l0.length==l1.length)=true:=by first|simpa using c1|(simp at c1 ⊢;omega)
  clear c1
  go_wp2
  go_loopg [5] k (fun kq u5 w'=>∃ (x5:Int),u5=.int .i64 x5∧Aside0 ((toponymref16_SameTexts.l0 kq x5 l0 l1)=some r)∧Aside0 (kq≤k)∧Drawn0 w w')
  case atStart=>exact⟨0,(by first|rfl|(simp;done)|(simp[*];done)),HH,⟨Nat.le_refl _⟩,by repeat(first|exact Drawn0.refl _|apply Drawn0.step)⟩
  case round=>
   clear hk2
   clear hk3
   clear hk4
   clear HH
   obtain⟨x5,rfl,HA,HK0,⟨m0_,rfl⟩⟩:=hrel
   cases gk with
   |zero=>exact absurd HA.out (by simp[toponymref16_SameTexts.l0])
   |succ k6=>
    have H:=HA.out
    clear HA
    simp only[toponymref16_SameTexts.l0] at H
    have HH:=za H
    clear H
    replace HH:=zqt HH
    rcases HH with⟨HH,hk9,hk10⟩|⟨HH,hk26,hk27⟩
    ·replace HH:=zqdo HH
     obtain⟨HH,hk12⟩:=HH
     have p13:0≤(x5:Int):=of_decide_eq_true (by first|(with_reducible assumption)|assumption)
     have q13:x5<(l0.length:Int):=of_decide_eq_true (by first|(with_reducible assumption)|assumption)
     obtain⟨ad13,e13,hx13_0⟩:=Kd.at_string (Kd.F_now HF0.out) x5 p13 q13
     cases e13
     replace p13:=eq_true p13
     replace q13:=eq_true q13
     replace HH:=zqto HH
     obtain⟨HH,hk15,hk16⟩:=HH
     have p17:0≤(x5:Int):=of_decide_eq_true (by first|(with_reducible assumption)|assumption)
     have q17:x5<(l1.length:Int):=of_decide_eq_true (by first|(with_reducible assumption)|assumption)
     obtain⟨ad17,e17,hx17_0⟩:=Kd.at_string (Kd.F_now HF1.out) x5 p17 q17
     cases e17
     replace p17:=eq_true p17
     replace q17:=eq_true q17
     replace HH:=zqe HH
     rcases HH with⟨HH,hk19,hk20⟩|⟨HH,hk21,hk22⟩
     ·go_wp2
      go_quiet (fail)
      go_wp2
      go_roundg k6
      case measure=>have:=HK0.out;omega
      case rel=>exact⟨wrap64 (x5+1),(by first|rfl|(simp;done)|(simp[*];done)),HH,⟨by have:=HK0.out;omega⟩,by repeat(first|exact Drawn0.refl _|apply Drawn0.step)⟩
     obtain rfl:=Option.some.inj HH.out
     clear HH
     go_wp2
     go_quiet (fail)
     go_wp2
     go_ret
     exact⟨by first|rfl|(simp;done)|(simp[*];done),by repeat(first|exact Drawn0.refl _|apply Drawn0.step)⟩
    obtain rfl:=Option.some.inj HH.out
    clear HH
    go_wp2
    go_ret
    exact⟨by first|rfl|(simp;done)|(simp[*];done),by repeat(first|exact Drawn0.refl _|apply Drawn0.step)⟩
 replace HH:=MW.hneg HH c1
 have hk28:((l0.length:Int)==(l1.length:Int))=false:=beq_eq_false_iff_ne.mpr c1
 have hk29:((l0.length:Int) != (l1.length:Int))=true:=bne_iff_ne.mpr c1
 have hk30:(l0.length==l1.length)=false:=by first|simpa using c1|(simp at c1 ⊢;omega)
 clear c1
 obtain rfl:=Option.some.inj HH.out
 clear HH
 go_wp2
 go_ret
 exact⟨by first|rfl|(simp;done)|(simp[*];done),by repeat(first|exact Drawn0.refl _|apply Drawn0.step)⟩

def ber_sized.f (a0:ByteArray) (a1:Int):Option (Int × Int × Int):=if a1≥(a0.size:Int) then(some (0,0,150)) else(if 0≤a1 then(if a1<(a0.size:Int) then(if (wrap64 (bt a0 a1))<128 then(some (wrap64 (bt a0 a1),wrap64 (a1+1),0)) else(if (wrap64 ((wrap64 (bt a0 a1)) - 128))<1 then(some (0,0,152)) else(if (wrap64 ((wrap64 (bt a0 a1)) - 128))>2 then(some (0,0,152)) else(if (wrap64 ((wrap64 (bt a0 a1)) - 128))>(wrap64 ((a0.size:Int) - (wrap64 (a1+1)))) then(some (0,0,150)) else(if 0≤(wrap64 (a1+1)) then(if (wrap64 (a1+1))<(a0.size:Int) then(if (wrap64 ((wrap64 (bt a0 a1)) - 128))=2 then(if 0≤(wrap64 ((wrap64 (a1+1))+1)) then(if (wrap64 ((wrap64 (a1+1))+1))<(a0.size:Int) then((ber_length.f (Go.bits .or .i64 (wrap64 ((wrap64 (bt a0 (wrap64 (a1+1))))*256)) (wrap64 (bt a0 (wrap64 ((wrap64 (a1+1))+1)))))).bind fun t41=>(if (t41.size:Int)=(wrap64 (1+(wrap64 ((wrap64 (bt a0 a1)) - 128)))) then(some (Go.bits .or .i64 (wrap64 ((wrap64 (bt a0 (wrap64 (a1+1))))*256)) (wrap64 (bt a0 (wrap64 ((wrap64 (a1+1))+1)))),wrap64 ((wrap64 (a1+1))+(wrap64 ((wrap64 (bt a0 a1)) - 128))),0)) else(some (0,0,152)))) else(none)) else(none)) else((ber_length.f (wrap64 (bt a0 (wrap64 (a1+1))))).bind fun t54=>(if (t54.size:Int)=(wrap64 (1+(wrap64 ((wrap64 (bt a0 a1)) - 128)))) then(some (wrap64 (bt a0 (wrap64 (a1+1))),wrap64 ((wrap64 (a1+1))+(wrap64 ((wrap64 (bt a0 a1)) - 128))),0)) else(some (0,0,152))))) else(none)) else(none)))))) else(none)) else(none))
theorem ber_sized.calls (a0:ByteArray) (a1:Int) (r1:Int) (r2:Int) (r3:Int) (w:World) (h:ber_sized.f a0 a1=some (r1,r2,r3)):
  Calls Try.prog 73 #[.string a0,.int .i64 a1] w (fun e w'=>e=.returned (.tuple #[.int .i64 r1,.int .i64 r2,.int .i64 r3])∧Below w.heap.size w w'):=by
 unfold ber_sized.f at h
 have HH:=za h
 clear h
 have HB:=za (Below.refl w.heap.size w)
 go_enter Try.func73,Try.ntmps73
 replace HH:=zqG HH
 rcases HH with⟨HH,hk2⟩|⟨HH,hk3⟩
 ·have H:=HH.out
  simp only[Option.some.injEq,Prod.mk.injEq] at H
  obtain⟨rfl,rfl,rfl⟩:=H
  clear HH
  (try go_wp2)
  refine MW.scope_labs ?_
  go_wp2
  apply wp_goto
  refine MW.goto_labs (Eq.refl _) ?_
  go_wp2
  (try simp only[MW.backTo_ret,MW.labs_ret])
  go_ret3
  exact zfi HB.out
 replace HH:=zqdo HH
 obtain⟨HH,hk5⟩:=HH
 replace HH:=zqto HH
 obtain⟨HH,hk7,hk8⟩:=HH
 have p9:0≤(a1:Int):=of_decide_eq_true (by first|(with_reducible assumption)|assumption)
 have q9:a1<(a0.size:Int):=of_decide_eq_true (by first|(with_reducible assumption)|assumption)
 have hx9:=MW.bt_at' a0 a1
 replace p9:=eq_true p9
 replace q9:=eq_true q9
 replace HH:=zqt HH
 rcases HH with⟨HH,hk11,hk12⟩|⟨HH,hk13,hk14⟩
 ·have H:=HH.out
  simp only[Option.some.injEq,Prod.mk.injEq] at H
  obtain⟨rfl,rfl,rfl⟩:=H
  clear HH
  (try go_wp2)
  refine MW.scope_labs ?_
  go_wp2
  (try simp only[MW.backTo_ret,MW.labs_ret])
  go_ret3
  exact zfi HB.out
 replace HH:=zqt HH
 rcases HH with⟨HH,hk16,hk17⟩|⟨HH,hk18,hk19⟩
 ·have H:=HH.out
  simp only[Option.some.injEq,Prod.mk.injEq] at H
  obtain⟨rfl,rfl,rfl⟩:=H
  clear HH
  (try go_wp2)
  refine MW.scope_labs ?_
  go_wp2
  apply wp_goto
  refine MW.goto_labs (Eq.refl _) ?_
  go_wp2
  (try simp only[MW.backTo_ret,MW.labs_ret])
  go_ret3
  exact zfi HB.out
 replace HH:=zqg HH
 rcases HH with⟨HH,hk21⟩|⟨HH,hk22⟩
 ·have H:=HH.out
  simp only[Option.some.injEq,Prod.mk.injEq] at H
  obtain⟨rfl,rfl,rfl⟩:=H
  clear HH
  (try go_wp2)
  refine MW.scope_labs ?_
  go_wp2
  apply wp_goto
  refine MW.goto_labs (Eq.refl _) ?_
  go_wp2
  (try simp only[MW.backTo_ret,MW.labs_ret])
  go_ret3
  exact zfi HB.out
 replace HH:=zqg HH
 rcases HH with⟨HH,hk24⟩|⟨HH,hk25⟩
 ·have H:=HH.out
  simp only[Option.some.injEq,Prod.mk.injEq] at H
  obtain⟨rfl,rfl,rfl⟩:=H
  clear HH
  (try go_wp2)
  refine MW.scope_labs ?_
  go_wp2
  apply wp_goto
  refine MW.goto_labs (Eq.refl _) ?_
  go_wp2
  (try simp only[MW.backTo_ret,MW.labs_ret])
  go_ret3
  exact zfi HB.out
 replace HH:=zqdo HH
 obtain⟨HH,hk27⟩:=HH
 replace HH:=zqto HH
 obtain⟨HH,hk29,hk30⟩:=HH
 have p31:0≤((wrap64 (a1+1)):Int):=of_decide_eq_true (by first|(with_reducible assumption)|assumption)
 have q31:(wrap64 (a1+1))<(a0.size:Int):=of_decide_eq_true (by first|(with_reducible assumption)|assumption)
 have hx31:=MW.bt_at' a0 (wrap64 (a1+1))
 replace p31:=eq_true p31
 replace q31:=eq_true q31
 replace HH:=zqe HH
 rcases HH with⟨HH,hk33,hk34⟩|⟨HH,hk52,hk53⟩
 ·replace HH:=zqdo HH
  obtain⟨HH,hk36⟩:=HH
  replace HH:=zqto HH
  obtain⟨HH,hk38,hk39⟩:=HH
  have p40:0≤((wrap64 ((wrap64 (a1+1))+1)):Int):=of_decide_eq_true (by first|(with_reducible assumption)|assumption)
  have q40:(wrap64 ((wrap64 (a1+1))+1))<(a0.size:Int):=of_decide_eq_true (by first|(with_reducible assumption)|assumption)
  have hx40:=MW.bt_at' a0 (wrap64 ((wrap64 (a1+1))+1))
  replace p40:=eq_true p40
  replace q40:=eq_true q40
  replace HH:=zd HH
  obtain⟨t41,At42,HH⟩:=HH
  (try go_wp2)
  refine MW.scope_labs ?_
  go_wp2_with ((with_reducible refine gc 90 rfl ?_);refine zc 90 (some 52) Try.func90 #[.int .i64 (Go.bits .or .i64 (wrap64 ((wrap64 (bt a0 (wrap64 (a1+1))))*256)) (wrap64 (bt a0 (wrap64 ((wrap64 (a1+1))+1)))))] (h:=?_);(with_reducible refine(ber_length.calls  (Go.bits .or .i64 (wrap64 ((wrap64 (bt a0 (wrap64 (a1+1))))*256)) (wrap64 (bt a0 (wrap64 ((wrap64 (a1+1))+1))))) t41 _  At42.out).mono ?_);rintro e w43 ⟨rfl,hb⟩;refine⟨_,rfl,?_⟩)
  refine zg ?_
  replace HB:=zhb HB.out hb
  clear hb
  replace HH:=zqe HH
  rcases HH with⟨HH,hk45,hk46⟩|⟨HH,hk47,hk48⟩
  ·have H:=HH.out
   simp only[Option.some.injEq,Prod.mk.injEq] at H
   obtain⟨rfl,rfl,rfl⟩:=H
   clear HH
   go_wp2
   (try simp only[MW.backTo_ret,MW.labs_ret])
   go_ret3
   exact zfi HB.out
  have H:=HH.out
  simp only[Option.some.injEq,Prod.mk.injEq] at H
  obtain⟨rfl,rfl,rfl⟩:=H
  clear HH
  go_wp2
  apply wp_goto
  refine MW.goto_labs (Eq.refl _) ?_
  go_wp2
  (try simp only[MW.backTo_ret,MW.labs_ret])
  go_ret3
  exact zfi HB.out
 replace HH:=zd HH
 obtain⟨t54,At55,HH⟩:=HH
 (try go_wp2)
 refine MW.scope_labs ?_
 go_wp2_with ((with_reducible refine gc 90 rfl ?_);refine zc 90 (some 52) Try.func90 #[.int .i64 (wrap64 (bt a0 (wrap64 (a1+1))))] (h:=?_);(with_reducible refine(ber_length.calls  (wrap64 (bt a0 (wrap64 (a1+1)))) t54 _  At55.out).mono ?_);rintro e w56 ⟨rfl,hb⟩;refine⟨_,rfl,?_⟩)
 refine zg ?_
 replace HB:=zhb HB.out hb
 clear hb
 replace HH:=zqe HH
 rcases HH with⟨HH,hk58,hk59⟩|⟨HH,hk60,hk61⟩
 ·have H:=HH.out
  simp only[Option.some.injEq,Prod.mk.injEq] at H
  obtain⟨rfl,rfl,rfl⟩:=H
  clear HH
  go_wp2
  (try simp only[MW.backTo_ret,MW.labs_ret])
  go_ret3
  exact zfi HB.out
 have H:=HH.out
 simp only[Option.some.injEq,Prod.mk.injEq] at H
 obtain⟨rfl,rfl,rfl⟩:=H
 clear HH
 go_wp2
 apply wp_goto
 refine MW.goto_labs (Eq.refl _) ?_
 go_wp2
 (try simp only[MW.backTo_ret,MW.labs_ret])
 go_ret3
 exact zfi HB.out

def prims_plain.f (a0_0:Int) (a0_1:Bool) (a0_2:Int) (a0_3:ByteArray) (l0_4:List (S57)):Option (Bool):=if a0_1=true then(some false) else(some ((l0_4.length:Int)==0))
theorem prims_plain.calls (P_:Nat→Prop) (a0_0:Int) (a0_1:Bool) (a0_2:Int) (a0_3:ByteArray) (A0_4:Option Addr) (c0_4:Nat) (l0_4:List (S57)) (r:Bool) (w:World) (hs0_4:Kd.F k57 w P_ A0_4 l0_4.length l0_4) (hc0_4:l0_4.length≤c0_4) (h:prims_plain.f a0_0 a0_1 a0_2 a0_3 l0_4=some r):
  Calls Try.prog 75 #[.agg #[.int .i64 a0_0,.bool a0_1,.int .i64 a0_2,.string a0_3,.slice A0_4 l0_4.length c0_4]] w (fun e w'=>e=.returned (.bool r)∧Below w.heap.size w w'):=by
 unfold prims_plain.f at h
 have HH:=za h
 clear h
 clear hs0_4 hc0_4
 have HB:=za (Below.refl w.heap.size w)
 have hu57:=Try.underlying57
 go_enter Try.func75,Try.ntmps75
 go_wp2_with ((with_reducible refine gd 1 rfl ?_);refine zb 1 57 #[.int .i64 a0_0,.bool a0_1,.int .i64 a0_2,.string a0_3,.slice A0_4 l0_4.length c0_4] (h:=?_);intro g1 hg w2 BKg1 hb)
 refine zg ?_
 replace HB:=zhb HB.out hb
 clear hg hb
 replace cBKg1:=MB.lz5 BKg1.out
 by_cases c8:a0_1=true
 ·replace HH:=MW.hpos HH c8
  subst c8
  obtain rfl:=Option.some.inj HH.out
  clear HH
  go_wp2
  go_ret
  exact zfi HB.out
 replace HH:=MW.hneg HH c8
 replace c8:=Bool.eq_false_iff.mpr c8
 subst c8
 obtain rfl:=Option.some.inj HH.out
 clear HH
 go_wp2
 go_ret
 exact zfi HB.out

def prims_AsInt.l0:Nat→Int→Int→ByteArray→Option (Int × Int)
 |0,_,_,_=>none
 |k+1,x35,x36,a0_3=>if x36<(a0_3.size:Int) then(if 0≤x36 then((prims_AsInt.l0 k (Go.bits .or .i32 (wrap32 (x35*256)) (wrap32 (bt a0_3 x36))) (wrap64 (x36+1)) a0_3)) else(none)) else((prims_signed.f k x35).bind fun t53=>(if t53.toList=a0_3.toList then(some (wrap64 (x35),0)) else(some (0,160))))
def prims_AsInt.f (k:Nat) (a0_0:Int) (a0_1:Bool) (a0_2:Int) (a0_3:ByteArray) (l0_4:List (S57)):Option (Int × Int):=(prims_plain.f a0_0 a0_1 a0_2 a0_3 l0_4).bind fun t8=>(if t8=true then(if (a0_3.size:Int)<1 then(some (0,160)) else(if (a0_3.size:Int)>4 then(some (0,160)) else(if 0<(a0_3.size:Int) then((prims_AsInt.l0 k (wrap32 (IntKind.i8.wrap (bt a0_3 0))) 1 a0_3)) else(none)))) else(some (0,160)))
theorem prims_AsInt.mono_l:∀ k,(∀ y0 y1 y2,LeO (prims_AsInt.l0 k y0 y1 y2) (prims_AsInt.l0 (k+1) y0 y1 y2))
 |0=>fun _ _ _ r h=>by simp[prims_AsInt.l0] at h
 |k+1=>by
  have ih0:=prims_AsInt.mono_l k
  ·intro y0 y1 y2
   unfold prims_AsInt.l0
   with_reducible repeat' first|exact ih0 _ _ _|exact prims_signed.mono _ _|exact LeO.refl _|exact LeO.none _|refine LeO.ite ?_ ?_|refine LeO.bind ?_ (fun _=>?_)
theorem prims_AsInt.mono:∀ a0_ a1_ a2_ a3_ a4_ k,LeO (prims_AsInt.f k a0_ a1_ a2_ a3_ a4_) (prims_AsInt.f (k+1) a0_ a1_ a2_ a3_ a4_):=by
 intro a0_ a1_ a2_ a3_ a4_ k
 have ih0:=prims_AsInt.mono_l k
 unfold prims_AsInt.f
 with_reducible repeat' first|exact ih0 _ _ _|exact prims_signed.mono _ _|exact LeO.refl _|exact LeO.none _|refine LeO.ite ?_ ?_|refine LeO.bind ?_ (fun _=>?_)
theorem prims_AsInt.calls (k:Nat) (P_:Nat→Prop) (a0_0:Int) (a0_1:Bool) (a0_2:Int) (a0_3:ByteArray) (A0_4:Option Addr) (c0_4:Nat) (l0_4:List (S57)) (r1:Int) (r2:Int) (w:World) (hs0_4:Kd.F k57 w P_ A0_4 l0_4.length l0_4) (hc0_4:l0_4.length≤c0_4) (h:prims_AsInt.f k a0_0 a0_1 a0_2 a0_3 l0_4=some (r1,r2)):
  Calls Try.prog 50 #[.agg #[.int .i64 a0_0,.bool a0_1,.int .i64 a0_2,.string a0_3,.slice A0_4 l0_4.length c0_4]] w (fun e w'=>e=.returned (.tuple #[.int .i64 r1,.int .i64 r2])∧Below w.heap.size w w'):=by
 unfold prims_AsInt.f at h
 have HH:=za h
 clear h
 have HF0_4:=zfp hs0_4
 have HL0_4:=za hc0_4
 clear hs0_4 hc0_4
 have HB:=za (Below.refl w.heap.size w)
 have hu57:=Try.underlying57
 go_enter Try.func50,Try.ntmps50
 go_wp2_with ((with_reducible refine gd 1 rfl ?_);refine zb 1 57 #[.int .i64 a0_0,.bool a0_1,.int .i64 a0_2,.string a0_3,.slice A0_4 l0_4.length c0_4] (h:=?_);intro g1 hg w2 BKg1 hb)
 refine zg ?_
 replace HF0_4:=zfe HF0_4.out hg hb
 replace HB:=zhb HB.out hb
 clear hg hb
 replace cBKg1:=MB.lz5 BKg1.out
 replace HH:=zd HH
 obtain⟨t8,At9,HH⟩:=HH
 go_wp2_with ((with_reducible refine gc 75 rfl ?_);refine zc 75 (some 10) Try.func75 #[.agg #[.int .i64 a0_0,.bool a0_1,.int .i64 a0_2,.string a0_3,.slice A0_4 l0_4.length c0_4]] (h:=?_);(with_reducible refine(prims_plain.calls (fun k_=>(P_ k_∨w.heap.size≤k_)∧k_≠g1) a0_0 a0_1 a0_2 a0_3 _ _ l0_4 t8 _ HF0_4.out HL0_4.out At9.out).mono ?_);rintro e w10 ⟨rfl,hb⟩;refine⟨_,rfl,?_⟩)
 refine zg ?_
 replace HF0_4:=zfb HF0_4.out hb
 replace BKg1:=zbb BKg1.out hb
 replace HB:=zhb HB.out hb
 clear hb
 replace cBKg1:=MB.lz5 BKg1.out
 by_cases c16:t8=true
 ·replace HH:=MW.hpos HH c16
  subst c16
  replace HH:=zqN 1 HH
  rcases HH with⟨HH,hk18,hk19,hk20⟩|⟨HH,hk21,hk22,hk23⟩
  ·have H:=HH.out
   simp only[Option.some.injEq,Prod.mk.injEq] at H
   obtain⟨rfl,rfl⟩:=H
   clear HH
   go_wp2
   go_ret2
   exact zfi HB.out
  replace HH:=zqK 4 HH
  rcases HH with⟨HH,hk25,hk26⟩|⟨HH,hk27,hk28⟩
  ·have H:=HH.out
   simp only[Option.some.injEq,Prod.mk.injEq] at H
   obtain⟨rfl,rfl⟩:=H
   clear HH
   go_wp2
   go_ret2
   exact zfi HB.out
  replace HH:=zqno 0 HH
  obtain⟨HH,hk30,hk31,hk32,hk33⟩:=HH
  have p34:0≤(0:Int):=(by omega)
  have q34:0<a0_3.size:=(by have:(0:Int)<(a0_3.size:Int):=of_decide_eq_true (by first|(with_reducible assumption)|assumption);omega)
  have hx34:∀ h:0<a0_3.size,((a0_3[0]'h).toNat:Int)=bt a0_3 0:=MW.bt_at' a0_3 0
  clear p34
  have qi34:(0<(a0_3.size:Int))=True:=eq_true (of_decide_eq_true (by first|(with_reducible assumption)|assumption))
  replace q34:=eq_true q34
  go_wp2
  go_loopg [5,6] k (fun kq u5 u6 w'=>∃ (x35:Int) (x36:Int),u5=.int .i32 x35∧u6=.int .i64 x36∧Aside0 ((prims_AsInt.l0 kq x35 x36 a0_3)=some (r1,r2))∧Aside0 (kq≤k)∧Aside0 (Kd.F k57 w' (fun k_=>(P_ k_∨w.heap.size≤k_)∧k_≠g1) A0_4 l0_4.length l0_4)∧Aside0 (w'.heap[g1]? =some (.cells #[.int .i64 a0_0,.bool a0_1,.int .i64 a0_2,.string a0_3,.slice A0_4 l0_4.length c0_4] 57 (0,0)))∧Aside0 (Below w.heap.size w w'))
  case atStart=>exact⟨wrap32 (IntKind.i8.wrap (bt a0_3 0)),1,(by first|rfl|(simp;done)|(simp[*];done)),(by first|rfl|(simp;done)|(simp[*];done)),HH,⟨Nat.le_refl _⟩,⟨HF0_4.out⟩,⟨BKg1.out⟩,⟨HB.out⟩⟩
  case round=>
   clear hk21
   clear hk22
   clear hk23
   clear hk27
   clear hk28
   clear hk30
   clear hk31
   clear hk32
   clear hk33
   clear qi34
   clear q34
   clear hx34
   clear HH
   clear HF0_4 BKg1 HB
   obtain⟨x35,x36,rfl,rfl,HA,HK0,HF0_4,BKg1,HB⟩:=hrel
   obtain⟨w38,rfl⟩:∃ wo_:World,wo_=wr:=⟨_,rfl⟩
   cases gk with
   |zero=>exact absurd HA.out (by simp[prims_AsInt.l0])
   |succ k37=>
    have H:=HA.out
    clear HA
    simp only[prims_AsInt.l0] at H
    have HH:=za H
    clear H
    replace cBKg1:=MB.lz5 BKg1.out
    replace HH:=zqt HH
    rcases HH with⟨HH,hk45,hk46⟩|⟨HH,hk51,hk52⟩
    ·replace HH:=zqdo HH
     obtain⟨HH,hk48⟩:=HH
     have p49:0≤(x36:Int):=of_decide_eq_true (by first|(with_reducible assumption)|assumption)
     have q49:x36<(a0_3.size:Int):=of_decide_eq_true (by first|(with_reducible assumption)|assumption)
     have hx49:=MW.bt_at' a0_3 x36
     replace p49:=eq_true p49
     replace q49:=eq_true q49
     go_wp2
     go_roundg k37
     case measure=>have:=HK0.out;omega
     case rel=>exact⟨Go.bits .or .i32 (wrap32 (x35*256)) (wrap32 (bt a0_3 x36)),wrap64 (x36+1),(by first|rfl|(simp;done)|(simp[*];done)),(by first|rfl|(simp;done)|(simp[*];done)),HH,⟨by have:=HK0.out;omega⟩,⟨HF0_4.out⟩,⟨BKg1.out⟩,⟨HB.out⟩⟩
    replace HH:=zd HH
    obtain⟨t53,At54,HH⟩:=HH
    go_wp2_with ((with_reducible refine gc 76 rfl ?_);refine zc 76 (some 40) Try.func76 #[.int .i32 x35] (h:=?_);(with_reducible refine(prims_signed.calls k37  x35 t53 _  At54.out).mono ?_);rintro e w55 ⟨rfl,hb⟩;refine⟨_,rfl,?_⟩)
    refine zg ?_
    replace BKg1:=zbb BKg1.out hb
    replace HB:=zhb HB.out hb
    clear hb
    replace cBKg1:=MB.lz5 BKg1.out
    replace HH:=zqe HH
    rcases HH with⟨HH,hk62,hk63⟩|⟨HH,hk64,hk65⟩
    ·have H:=HH.out
     simp only[Option.some.injEq,Prod.mk.injEq] at H
     obtain⟨rfl,rfl⟩:=H
     clear HH
     go_wp2
     go_ret2
     exact zfi HB.out
    have H:=HH.out
    simp only[Option.some.injEq,Prod.mk.injEq] at H
    obtain⟨rfl,rfl⟩:=H
    clear HH
    go_wp2
    go_ret2
    exact zfi HB.out
 replace HH:=MW.hneg HH c16
 replace c16:=Bool.eq_false_iff.mpr c16
 subst c16
 have H:=HH.out
 simp only[Option.some.injEq,Prod.mk.injEq] at H
 obtain⟨rfl,rfl⟩:=H
 clear HH
 go_wp2
 go_ret2
 exact zfi HB.out

def prims_Is.f (a0_0:Int) (a0_1:Bool) (a0_2:Int) (a0_3:ByteArray) (l0_4:List (S57)) (a1:Int) (a2:Int) (a3:Bool):Option (Bool):=if a0_0=a1 then(if a0_2=a2 then(some (a0_1==a3)) else(some false)) else(some false)
theorem prims_Is.calls (P_:Nat→Prop) (a0_0:Int) (a0_1:Bool) (a0_2:Int) (a0_3:ByteArray) (A0_4:Option Addr) (c0_4:Nat) (l0_4:List (S57)) (a1:Int) (a2:Int) (a3:Bool) (r:Bool) (w:World) (hs0_4:Kd.F k57 w P_ A0_4 l0_4.length l0_4) (hc0_4:l0_4.length≤c0_4) (h:prims_Is.f a0_0 a0_1 a0_2 a0_3 l0_4 a1 a2 a3=some r):
  Calls Try.prog 79 #[.agg #[.int .i64 a0_0,.bool a0_1,.int .i64 a0_2,.string a0_3,.slice A0_4 l0_4.length c0_4],.int .i64 a1,.int .i64 a2,.bool a3] w (fun e w'=>e=.returned (.bool r)∧Below w.heap.size w w'):=by
 unfold prims_Is.f at h
 have HH:=za h
 clear h
 clear hs0_4 hc0_4
 have HB:=za (Below.refl w.heap.size w)
 have hu57:=Try.underlying57
 go_enter Try.func79,Try.ntmps79
 go_wp2_with ((with_reducible refine gd 4 rfl ?_);refine zb 4 57 #[.int .i64 a0_0,.bool a0_1,.int .i64 a0_2,.string a0_3,.slice A0_4 l0_4.length c0_4] (h:=?_);intro g1 hg w2 BKg1 hb)
 refine zg ?_
 replace HB:=zhb HB.out hb
 clear hg hb
 replace cBKg1:=MB.lz5 BKg1.out
 replace HH:=zqe HH
 rcases HH with⟨HH,hk9,hk10⟩|⟨HH,hk16,hk17⟩
 ·replace HH:=zqe HH
  rcases HH with⟨HH,hk12,hk13⟩|⟨HH,hk14,hk15⟩
  ·obtain rfl:=Option.some.inj HH.out
   clear HH
   go_wp2
   go_ret
   exact zfi HB.out
  obtain rfl:=Option.some.inj HH.out
  clear HH
  go_wp2
  go_ret
  exact zfi HB.out
 obtain rfl:=Option.some.inj HH.out
 clear HH
 go_wp2
 go_ret
 exact zfi HB.out

def reply_texts_1.f (a0_0:Int) (a0_1:Bool) (a0_2:Int) (a0_3:ByteArray) (l0_4:List (S57)):Option (Bool):=(prims_Is.f a0_0 a0_1 a0_2 a0_3 l0_4 0 4 false).bind fun t8=>(some (!t8))
theorem reply_texts_1.calls (P_:Nat→Prop) (a0_0:Int) (a0_1:Bool) (a0_2:Int) (a0_3:ByteArray) (A0_4:Option Addr) (c0_4:Nat) (l0_4:List (S57)) (r:Bool) (w:World) (hs0_4:Kd.F k57 w P_ A0_4 l0_4.length l0_4) (hc0_4:l0_4.length≤c0_4) (h:reply_texts_1.f a0_0 a0_1 a0_2 a0_3 l0_4=some r):
  Calls Try.prog 78 #[.agg #[.int .i64 a0_0,.bool a0_1,.int .i64 a0_2,.string a0_3,.slice A0_4 l0_4.length c0_4]] w (fun e w'=>e=.returned (.bool r)∧Below w.heap.size w w'):=by
 unfold reply_texts_1.f at h
 have HH:=za h
 clear h
 have HF0_4:=zfp hs0_4
 have HL0_4:=za hc0_4
 clear hs0_4 hc0_4
 have HB:=za (Below.refl w.heap.size w)
 have hu57:=Try.underlying57
 go_enter Try.func78,Try.ntmps78
 go_wp2_with ((with_reducible refine gd 1 rfl ?_);refine zb 1 57 #[.int .i64 a0_0,.bool a0_1,.int .i64 a0_2,.string a0_3,.slice A0_4 l0_4.length c0_4] (h:=?_);intro g1 hg w2 BKg1 hb)
 refine zg ?_
 replace HF0_4:=zfe HF0_4.out hg hb
 replace HB:=zhb HB.out hb
 clear hg hb
 replace cBKg1:=MB.lz5 BKg1.out
 replace HH:=zd HH
 obtain⟨t8,At9,HH⟩:=HH
 go_wp2_with ((with_reducible refine gc 79 rfl ?_);refine zc 79 (some 4) Try.func79 #[.agg #[.int .i64 a0_0,.bool a0_1,.int .i64 a0_2,.string a0_3,.slice A0_4 l0_4.length c0_4],.int .i64 0,.int .i64 4,.bool false] (h:=?_);(with_reducible refine(prims_Is.calls (fun k_=>(P_ k_∨w.heap.size≤k_)∧k_≠g1) a0_0 a0_1 a0_2 a0_3 _ _ l0_4 0 4 false t8 _ HF0_4.out HL0_4.out At9.out).mono ?_);rintro e w10 ⟨rfl,hb⟩;refine⟨_,rfl,?_⟩)
 refine zg ?_
 replace BKg1:=zbb BKg1.out hb
 replace HB:=zhb HB.out hb
 clear hb
 replace cBKg1:=MB.lz5 BKg1.out
 obtain rfl:=Option.some.inj HH.out
 clear HH
 go_wp2
 go_ret
 exact zfi HB.out

def reply_texts.l0:Nat→Int→(List (S57))→Option (Bool)
 |0,_,_=>none
 |k+1,x1,l0=>if x1<(l0.length:Int) then(if 0≤x1 then((reply_texts_1.f ((rd_T57 l0 x1).f0) ((rd_T57 l0 x1).f1) ((rd_T57 l0 x1).f2) ((rd_T57 l0 x1).f3) ((rd_T57 l0 x1).f4)).bind fun t10=>(if t10=true then(some (!(decide (x1≥0)))) else((reply_texts.l0 k (wrap64 (x1+1)) l0)))) else(none)) else(some true)
def reply_texts.f (k:Nat) (l0:List (S57)):Option (Bool):=(reply_texts.l0 k 0 l0)
theorem reply_texts.mono_l:∀ k,(∀ y0 y1,LeO (reply_texts.l0 k y0 y1) (reply_texts.l0 (k+1) y0 y1))
 |0=>fun _ _ r h=>by simp[reply_texts.l0] at h
 |k+1=>by
  have ih0:=reply_texts.mono_l k
  ·intro y0 y1
   unfold reply_texts.l0
   with_reducible repeat' first|exact ih0 _ _|exact LeO.refl _|exact LeO.none _|refine LeO.ite ?_ ?_|refine LeO.bind ?_ (fun _=>?_)
theorem reply_texts.mono:∀ a0_ k,LeO (reply_texts.f k a0_) (reply_texts.f (k+1) a0_):=by
 intro a0_ k
 have ih0:=reply_texts.mono_l k
 unfold reply_texts.f
 with_reducible repeat' first|exact ih0 _ _|exact LeO.refl _|exact LeO.none _|refine LeO.ite ?_ ?_|refine LeO.bind ?_ (fun _=>?_)
theorem reply_texts.calls (k:Nat) (P_:Nat→Prop) (A0:Option Addr) (c0:Nat) (l0:List (S57)) (r:Bool) (w:World) (hs0:Kd.F k57 w P_ A0 l0.length l0) (hc0:l0.length≤c0) (h:reply_texts.f k l0=some r):
  Calls Try.prog 52 #[.slice A0 l0.length c0] w (fun e w'=>e=.returned (.bool r)∧Below w.heap.size w w'):=by
 unfold reply_texts.f at h
 have HH:=za h
 clear h
 have HF0:=zfp hs0
 clear hs0 hc0
 have HB:=za (Below.refl w.heap.size w)
 go_enter Try.func52,Try.ntmps52
 go_wp2_with (((with_reducible refine gate_callee (f:=77) rfl ?_);(try(refine gate_guard (by rfl) ?_;dsimp only));refine goesL_ (some 4) rfl rfl Try.func77 (by kernel_rfl) rfl #[.slice A0 l0.length c0,.func (.func 78) #[] #[]] rfl (by(try simp only[List.map_toArray,List.map_cons,List.map_nil]);first|done|rfl) ?_);refine stop_ ?_)
 refine zg ?_
 go_enter Try.func77,Try.ntmps77
 go_wp2_with (((with_reducible refine gate_callee (f:=98) rfl ?_);(try(refine gate_guard (by rfl) ?_;dsimp only));refine goesL_ (some 7) rfl rfl Try.func98 (by kernel_rfl) rfl #[.slice A0 l0.length c0,.func (.func 78) #[] #[]] rfl (by(try simp only[List.map_toArray,List.map_cons,List.map_nil]);first|done|rfl) ?_);refine stop_ ?_)
 refine zg ?_
 go_enter Try.func98,Try.ntmps98
 go_wp2
 go_loopg [8] k (fun kq u8 w'=>∃ (x1:Int),u8=.int .i64 x1∧Aside0 ((reply_texts.l0 kq x1 l0)=some r)∧Aside0 (kq≤k)∧Aside0 (Kd.F k57 w' (fun k_=>(P_ k_∨w.heap.size≤k_)) A0 l0.length l0)∧Aside0 (Below w.heap.size w w'))
 case atStart=>exact⟨0,(by first|rfl|(simp;done)|(simp[*];done)),HH,⟨Nat.le_refl _⟩,⟨HF0.out⟩,⟨HB.out⟩⟩
 case round=>
  clear HH
  clear HF0 HB
  obtain⟨x1,rfl,HA,HK0,HF0,HB⟩:=hrel
  obtain⟨w3,rfl⟩:∃ wo_:World,wo_=wr:=⟨_,rfl⟩
  cases gk with
  |zero=>exact absurd HA.out (by simp[reply_texts.l0])
  |succ k2=>
   have H:=HA.out
   clear HA
   simp only[reply_texts.l0] at H
   have HH:=za H
   clear H
   replace HH:=zqt HH
   rcases HH with⟨HH,hk5,hk6⟩|⟨HH,hk15,hk16⟩
   ·replace HH:=zqdo HH
    obtain⟨HH,hk8⟩:=HH
    have p9:0≤(x1:Int):=of_decide_eq_true (by first|(with_reducible assumption)|assumption)
    have q9:x1<(l0.length:Int):=of_decide_eq_true (by first|(with_reducible assumption)|assumption)
    obtain⟨ad9,A9_4,c9_4,e9,hx9_0,hx9_1,hx9_2,hx9_3,hx9_4,hl9_4,hi9_4⟩:=atF_T57 HF0.out x1 p9 q9
    cases e9
    have HF9_4:=za hi9_4
    have HL9_4:=za hl9_4
    clear hi9_4 hl9_4
    replace p9:=eq_true p9
    replace q9:=eq_true q9
    replace HH:=zd HH
    obtain⟨t10,At11,HH⟩:=HH
    go_wp2_with ((with_reducible refine gd 16 rfl ?_);refine zv 16 Try.func78 #[.agg #[.int .i64 ((rd_T57 l0 x1).f0),.bool ((rd_T57 l0 x1).f1),.int .i64 ((rd_T57 l0 x1).f2),.string ((rd_T57 l0 x1).f3),.slice A9_4 ((rd_T57 l0 x1).f4).length c9_4]] #[] (h:=?_);(with_reducible refine(reply_texts_1.calls (fun k_=>(P_ k_∨w.heap.size≤k_)) ((rd_T57 l0 x1).f0) ((rd_T57 l0 x1).f1) ((rd_T57 l0 x1).f2) ((rd_T57 l0 x1).f3) _ _ ((rd_T57 l0 x1).f4) t10 _ HF9_4.out HL9_4.out At11.out).mono ?_);rintro e w12 ⟨rfl,hb⟩;refine⟨_,rfl,?_⟩)
    refine zg ?_
    replace HF0:=zfb HF0.out hb
    replace HB:=zhb HB.out hb
    clear hb
    clear hx9_0 hx9_1 hx9_2 hx9_3 hx9_4 p9 q9
    by_cases c13:t10=true
    ·replace HH:=MW.hpos HH c13
     subst c13
     go_wp2
     go_ret
     refine⟨_,rfl,?_⟩
     go_wp2
     go_ret
     refine⟨_,rfl,?_⟩
     obtain rfl:=Option.some.inj HH.out
     clear HH
     go_wp2
     go_ret
     exact zfi HB.out
    replace HH:=MW.hneg HH c13
    replace c13:=Bool.eq_false_iff.mpr c13
    subst c13
    go_wp2
    go_roundg k2
    case measure=>have:=HK0.out;omega
    case rel=>exact⟨wrap64 (x1+1),(by first|rfl|(simp;done)|(simp[*];done)),HH,⟨by have:=HK0.out;omega⟩,⟨HF0.out⟩,⟨HB.out⟩⟩
   go_wp2
   go_ret
   refine⟨_,rfl,?_⟩
   go_wp2
   go_ret
   refine⟨_,rfl,?_⟩
   obtain rfl:=Option.some.inj HH.out
   clear HH
   go_wp2
   go_ret
   exact zfi HB.out
end Go.Proofs.Ytdjkemhmhkpmkaa.GA
