import Derived.Shelf.Strings.OnBuilder
import Derived.Test.YtapinanmmhdpcaaGA0
import Derived.Test.YtapinanmmhdpcaaMC
import Derived.Test.YtapinanmmhdpcaaMX
namespace Go.Proofs.Ytapinanmmhdpcaa.GA
open Go.RowKit Go.Proofs.Ytapinanmmhdpcaa Go.Proofs.Ytapinanmmhdpcaa.MW Go.Proofs.YtapinanmmhdpcaaW.PrintWords Go.Proofs.YtapinanmmhdpcaaW.PrintLast Go.Proofs.YtapinanmmhdpcaaW.PrintMore
attribute [local go_sem] max2_int min2_int max_two min_two
set_option linter.unusedVariables false
set_option linter.unusedSimpArgs false
def dn_small.f (a0:Int):Option (Bool):=if a0≥97 then(some (decide (a0≤122))) else(some false)
set_option maxHeartbeats 8000000 in
set_option maxRecDepth 100000 in
theorem dn_small.calls (a0:Int) (r:Bool) (w:World) (h:dn_small.f a0=some r):
  Calls Try.prog 30 #[.int .u8 a0] w (fun e w'=>e=.returned (.bool r)∧Drawn0 w w'):=by
 unfold dn_small.f at h
 have HH:=za h
 clear h
 go_enter Try.func30,Try.ntmps30
 replace HH:=zqG HH
 rcases HH with⟨HH,hk2⟩|⟨HH,hk3⟩
 ·obtain rfl:=Option.some.inj HH.out
  clear HH
  go_wp2
  go_ret
  exact⟨by first|rfl|(simp;done)|(simp[*];done),by repeat(first|exact Drawn0.refl _|apply Drawn0.step)⟩
 obtain rfl:=Option.some.inj HH.out
 clear HH
 go_wp2
 go_ret
 exact⟨by first|rfl|(simp;done)|(simp[*];done),by repeat(first|exact Drawn0.refl _|apply Drawn0.step)⟩

def dn_Word.l0:Nat→Int→ByteArray→Option (Bool)
 |0,_,_=>none
 |k+1,x21,a0=>if x21<(a0.size:Int) then(if 0≤x21 then((dn_small.f (bt a0 x21)).bind fun t30=>(if t30=true then((dn_Word.l0 k (wrap64 (x21+1)) a0)) else(if (bt a0 x21)<48 then(if (bt a0 x21)=45 then((dn_Word.l0 k (wrap64 (x21+1)) a0)) else(some false)) else(if (bt a0 x21)>57 then(if (bt a0 x21)=45 then((dn_Word.l0 k (wrap64 (x21+1)) a0)) else(some false)) else((dn_Word.l0 k (wrap64 (x21+1)) a0)))))) else(none)) else(some true)
def dn_Word.f (k:Nat) (a0:ByteArray):Option (Bool):=if a0.toList=([]:List UInt8) then(some false) else(if (a0.size:Int)>16 then(some false) else(if 0<(a0.size:Int) then((dn_small.f (bt a0 0)).bind fun t17=>(if t17=true then((dn_Word.l0 k 1 a0)) else(some false))) else(none)))
theorem dn_Word.mono_l:∀ k,(∀ y0 y1,LeO (dn_Word.l0 k y0 y1) (dn_Word.l0 (k+1) y0 y1))
 |0=>fun _ _ r h=>by simp[dn_Word.l0] at h
 |k+1=>by
  have ih0:=dn_Word.mono_l k
  ·intro y0 y1
   unfold dn_Word.l0
   with_reducible repeat' first|exact ih0 _ _|exact LeO.refl _|exact LeO.none _|refine LeO.ite ?_ ?_|refine LeO.bind ?_ (fun _=>?_)
theorem dn_Word.mono:∀ a0_ k,LeO (dn_Word.f k a0_) (dn_Word.f (k+1) a0_):=by
 intro a0_ k
 have ih0:=dn_Word.mono_l k
 unfold dn_Word.f
 with_reducible repeat' first|exact ih0 _ _|exact LeO.refl _|exact LeO.none _|refine LeO.ite ?_ ?_|refine LeO.bind ?_ (fun _=>?_)
set_option maxHeartbeats 8000000 in
set_option maxRecDepth 100000 in
theorem dn_Word.calls (k:Nat) (a0:ByteArray) (r:Bool) (w:World) (h:dn_Word.f k a0=some r):
  Calls Try.prog 15 #[.string a0] w (fun e w'=>e=.returned (.bool r)∧Drawn0 w w'):=by
 unfold dn_Word.f at h
 have HH:=za h
 clear h
 go_enter Try.func15,Try.ntmps15
 replace HH:=zqe HH
 rcases HH with⟨HH,hk2,hk3⟩|⟨HH,hk4,hk5⟩
 ·obtain rfl:=Option.some.inj HH.out
  clear HH
  go_wp2
  go_ret
  exact⟨by first|rfl|(simp;done)|(simp[*];done),by repeat(first|exact Drawn0.refl _|apply Drawn0.step)⟩
 replace HH:=zqK 16 HH
 rcases HH with⟨HH,hk7,hk8⟩|⟨HH,hk9,hk10⟩
 ·obtain rfl:=Option.some.inj HH.out
  clear HH
  go_wp2
  go_ret
  exact⟨by first|rfl|(simp;done)|(simp[*];done),by repeat(first|exact Drawn0.refl _|apply Drawn0.step)⟩
 replace HH:=zqno 0 HH
 obtain⟨HH,hk12,hk13,hk14,hk15⟩:=HH
 have p16:0≤(0:Int):=(by omega)
 have q16:0<a0.size:=(by have:(0:Int)<(a0.size:Int):=of_decide_eq_true (by first|(with_reducible assumption)|assumption);omega)
 have hx16:∀ h:0<a0.size,((a0[0]'h).toNat:Int)=bt a0 0:=MW.bt_at' a0 0
 clear p16
 have qi16:(0<(a0.size:Int))=True:=eq_true (of_decide_eq_true (by first|(with_reducible assumption)|assumption))
 replace q16:=eq_true q16
 replace HH:=zd HH
 obtain⟨t17,At18,HH⟩:=HH
 go_wp2_with ((with_reducible refine gc 30 rfl ?_);refine zc 30 (some 15) Try.func30 #[.int .u8 (bt a0 0)] (h:=?_);(with_reducible refine(dn_small.calls  (bt a0 0) t17 _  At18.out).mono ?_);rintro e w' ⟨rfl,⟨nd,rfl⟩⟩;refine⟨_,rfl,?_⟩)
 refine zg ?_
 by_cases c20:t17=true
 ·replace HH:=MW.hpos HH c20
  subst c20
  go_wp2
  go_loopg [3] k (fun kq u3 w'=>∃ (x21:Int),u3=.int .i64 x21∧Aside0 ((dn_Word.l0 kq x21 a0)=some r)∧Aside0 (kq≤k)∧Drawn0 w w')
  case atStart=>exact⟨1,(by first|rfl|(simp;done)|(simp[*];done)),HH,⟨Nat.le_refl _⟩,by repeat(first|exact Drawn0.refl _|apply Drawn0.step)⟩
  case round=>
   clear hk4
   clear hk5
   clear hk9
   clear hk10
   clear hk12
   clear hk13
   clear hk14
   clear hk15
   clear qi16
   clear q16
   clear hx16
   clear HH
   obtain⟨x21,rfl,HA,HK0,⟨m0_,rfl⟩⟩:=hrel
   cases gk with
   |zero=>exact absurd HA.out (by simp[dn_Word.l0])
   |succ k22=>
    have H:=HA.out
    clear HA
    simp only[dn_Word.l0] at H
    have HH:=za H
    clear H
    replace HH:=zqt HH
    rcases HH with⟨HH,hk25,hk26⟩|⟨HH,hk53,hk54⟩
    ·replace HH:=zqdo HH
     obtain⟨HH,hk28⟩:=HH
     have p29:0≤(x21:Int):=of_decide_eq_true (by first|(with_reducible assumption)|assumption)
     have q29:x21<(a0.size:Int):=of_decide_eq_true (by first|(with_reducible assumption)|assumption)
     have hx29:=MW.bt_at' a0 x21
     replace p29:=eq_true p29
     replace q29:=eq_true q29
     replace HH:=zd HH
     obtain⟨t30,At31,HH⟩:=HH
     go_wp2_with ((with_reducible refine gc 30 rfl ?_);refine zc 30 (some 28) Try.func30 #[.int .u8 (bt a0 x21)] (h:=?_);(with_reducible refine(dn_small.calls  (bt a0 x21) t30 _  At31.out).mono ?_);rintro e w' ⟨rfl,⟨nd,rfl⟩⟩;refine⟨_,rfl,?_⟩)
     refine zg ?_
     by_cases c33:t30=true
     ·replace HH:=MW.hpos HH c33
      subst c33
      go_wp2
      go_roundg k22
      case measure=>have:=HK0.out;omega
      case rel=>exact⟨wrap64 (x21+1),(by first|rfl|(simp;done)|(simp[*];done)),HH,⟨by have:=HK0.out;omega⟩,by repeat(first|exact Drawn0.refl _|apply Drawn0.step)⟩
     replace HH:=MW.hneg HH c33
     replace c33:=Bool.eq_false_iff.mpr c33
     subst c33
     replace HH:=zqt HH
     rcases HH with⟨HH,hk35,hk36⟩|⟨HH,hk42,hk43⟩
     ·replace HH:=zqe HH
      rcases HH with⟨HH,hk38,hk39⟩|⟨HH,hk40,hk41⟩
      ·go_wp2
       go_roundg k22
       case measure=>have:=HK0.out;omega
       case rel=>exact⟨wrap64 (x21+1),(by first|rfl|(simp;done)|(simp[*];done)),HH,⟨by have:=HK0.out;omega⟩,by repeat(first|exact Drawn0.refl _|apply Drawn0.step)⟩
      obtain rfl:=Option.some.inj HH.out
      clear HH
      go_wp2
      go_ret
      exact⟨by first|rfl|(simp;done)|(simp[*];done),by repeat(first|exact Drawn0.refl _|apply Drawn0.step)⟩
     replace HH:=zqg HH
     rcases HH with⟨HH,hk45⟩|⟨HH,hk51⟩
     ·replace HH:=zqe HH
      rcases HH with⟨HH,hk47,hk48⟩|⟨HH,hk49,hk50⟩
      ·go_wp2
       go_roundg k22
       case measure=>have:=HK0.out;omega
       case rel=>exact⟨wrap64 (x21+1),(by first|rfl|(simp;done)|(simp[*];done)),HH,⟨by have:=HK0.out;omega⟩,by repeat(first|exact Drawn0.refl _|apply Drawn0.step)⟩
      obtain rfl:=Option.some.inj HH.out
      clear HH
      go_wp2
      go_ret
      exact⟨by first|rfl|(simp;done)|(simp[*];done),by repeat(first|exact Drawn0.refl _|apply Drawn0.step)⟩
     go_wp2
     go_roundg k22
     case measure=>have:=HK0.out;omega
     case rel=>exact⟨wrap64 (x21+1),(by first|rfl|(simp;done)|(simp[*];done)),HH,⟨by have:=HK0.out;omega⟩,by repeat(first|exact Drawn0.refl _|apply Drawn0.step)⟩
    obtain rfl:=Option.some.inj HH.out
    clear HH
    go_wp2
    go_ret
    exact⟨by first|rfl|(simp;done)|(simp[*];done),by repeat(first|exact Drawn0.refl _|apply Drawn0.step)⟩
 replace HH:=MW.hneg HH c20
 replace c20:=Bool.eq_false_iff.mpr c20
 subst c20
 obtain rfl:=Option.some.inj HH.out
 clear HH
 go_wp2
 go_ret
 exact⟨by first|rfl|(simp;done)|(simp[*];done),by repeat(first|exact Drawn0.refl _|apply Drawn0.step)⟩

mutual
def dn_Check.l0:Nat→Int→(List (List (S53)))→Option (Int)
 |0,_,_=>none
 |k+1,x6,l0=>if x6<(l0.length:Int) then(if 0≤x6 then(if ((rd_L2 l0 x6).length:Int)<1 then(some 220) else(if ((rd_L2 l0 x6).length:Int)>3 then(some 220) else((dn_Check.l1 k 0 l0 x6)))) else(none)) else(some 0)
def dn_Check.l1:Nat→Int→(List (List (S53)))→Int→Option (Int)
 |0,_,_,_=>none
 |k+1,x28,l0,x6=>if x28<((rd_L2 l0 x6).length:Int) then(if 0≤x28 then((dn_Word.f k ((rd_T53 (rd_L2 l0 x6) x28).f0)).bind fun t44=>(if t44=true then(if ((rd_T53 (rd_L2 l0 x6) x28).f1).toList=([]:List UInt8) then(some 220) else(if (((rd_T53 (rd_L2 l0 x6) x28).f1).size:Int)>400 then(some 220) else((dn_Check.l1 k (wrap64 (x28+1)) l0 x6)))) else(some 220))) else(none)) else((dn_Check.l0 k (wrap64 (x6+1)) l0))
end
def dn_Check.f (k:Nat) (l0:List (List (S53))):Option (Int):=if (l0.length:Int)>6 then(some 220) else((dn_Check.l0 k 0 l0))
theorem dn_Check.mono_l:∀ k,(∀ y0 y1,LeO (dn_Check.l0 k y0 y1) (dn_Check.l0 (k+1) y0 y1))∧(∀ y0 y1 y2,LeO (dn_Check.l1 k y0 y1 y2) (dn_Check.l1 (k+1) y0 y1 y2))
 |0=>⟨fun _ _ r h=>by simp[dn_Check.l0] at h,fun _ _ _ r h=>by simp[dn_Check.l1] at h⟩
 |k+1=>by
  obtain⟨ih0,ih1⟩:=dn_Check.mono_l k
  refine⟨?_,?_⟩
  ·intro y0 y1
   unfold dn_Check.l0
   with_reducible repeat' first|exact ih0 _ _|exact ih1 _ _ _|exact dn_Word.mono _ _|exact LeO.refl _|exact LeO.none _|refine LeO.ite ?_ ?_|refine LeO.bind ?_ (fun _=>?_)
  intro y0 y1 y2
  unfold dn_Check.l1
  with_reducible repeat' first|exact ih0 _ _|exact ih1 _ _ _|exact dn_Word.mono _ _|exact LeO.refl _|exact LeO.none _|refine LeO.ite ?_ ?_|refine LeO.bind ?_ (fun _=>?_)
theorem dn_Check.mono:∀ a0_ k,LeO (dn_Check.f k a0_) (dn_Check.f (k+1) a0_):=by
 intro a0_ k
 obtain⟨ih0,ih1⟩:=dn_Check.mono_l k
 unfold dn_Check.f
 with_reducible repeat' first|exact ih0 _ _|exact ih1 _ _ _|exact dn_Word.mono _ _|exact LeO.refl _|exact LeO.none _|refine LeO.ite ?_ ?_|refine LeO.bind ?_ (fun _=>?_)
set_option maxHeartbeats 8000000 in
set_option maxRecDepth 100000 in
theorem dn_Check.calls (k:Nat) (P_:Nat→Prop) (A0:Option Addr) (c0:Nat) (l0:List (List (S53))) (r:Int) (w:World) (hs0:Kd.F (Kd.slice 53 k53) w P_ A0 l0.length l0) (hc0:l0.length≤c0) (h:dn_Check.f k l0=some r):
  Calls Try.prog 13 #[.slice A0 l0.length c0] w (fun e w'=>e=.returned (.int .i64 r)∧Below w.heap.size w w'):=by
 unfold dn_Check.f at h
 have HH:=za h
 clear h
 have HF0:=zfp hs0
 clear hs0 hc0
 have HB:=za (Below.refl w.heap.size w)
 have hu53:=Try.underlying53
 go_enter Try.func13,Try.ntmps13
 replace HH:=zqK 6 HH
 rcases HH with⟨HH,hk2,hk3⟩|⟨HH,hk4,hk5⟩
 ·obtain rfl:=Option.some.inj HH.out
  clear HH
  go_wp2
  go_ret
  exact zfi HB.out
 go_wp2
 go_loopg [12] k (fun kq u12 w'=>∃ (x6:Int),u12=.int .i64 x6∧Aside0 ((dn_Check.l0 kq x6 l0)=some r)∧Aside0 (kq≤k)∧Aside0 (Kd.F (Kd.slice 53 k53) w' (fun k_=>(P_ k_∨w.heap.size≤k_)) A0 l0.length l0)∧Aside0 (Below w.heap.size w w'))
 case atStart=>exact⟨0,(by first|rfl|(simp;done)|(simp[*];done)),HH,⟨Nat.le_refl _⟩,⟨HF0.out⟩,⟨HB.out⟩⟩
 case round=>
  clear hk4
  clear hk5
  clear HH
  clear HF0 HB
  obtain⟨x6,rfl,HA,HK0,HF0,HB⟩:=hrel
  obtain⟨w8,rfl⟩:∃ wo_:World,wo_=wr:=⟨_,rfl⟩
  cases gk with
  |zero=>exact absurd HA.out (by simp[dn_Check.l0])
  |succ k9=>
   have H:=HA.out
   clear HA
   simp only[dn_Check.l0] at H
   have HH:=za H
   clear H
   replace HH:=zqt HH
   rcases HH with⟨HH,hk11,hk12⟩|⟨HH,hk62,hk63⟩
   ·replace HH:=zqdo HH
    obtain⟨HH,hk14⟩:=HH
    have p15:0≤(x6:Int):=of_decide_eq_true (by first|(with_reducible assumption)|assumption)
    have q15:x6<(l0.length:Int):=of_decide_eq_true (by first|(with_reducible assumption)|assumption)
    obtain⟨ad15,A15_0,c15_0,e15,hx15_0,hl15_0,hi15_0⟩:=atF_L2 HF0.out x6 p15 q15
    cases e15
    have HF15_0:=za hi15_0
    clear hi15_0 hl15_0
    replace p15:=eq_true p15
    replace q15:=eq_true q15
    replace HH:=zqN 1 HH
    rcases HH with⟨HH,hk17,hk18,hk19⟩|⟨HH,hk20,hk21,hk22⟩
    ·obtain rfl:=Option.some.inj HH.out
     clear HH
     go_wp2
     go_ret
     exact zfi HB.out
    replace HH:=zqK 3 HH
    rcases HH with⟨HH,hk24,hk25⟩|⟨HH,hk26,hk27⟩
    ·obtain rfl:=Option.some.inj HH.out
     clear HH
     go_wp2
     go_ret
     exact zfi HB.out
    go_wp2
    go_loopg [26] k9 (fun kq u26 w'=>∃ (x28:Int),u26=.int .i64 x28∧Aside0 ((dn_Check.l1 kq x28 l0 x6)=some r)∧Aside0 (kq≤k9)∧Aside0 (Kd.F (Kd.slice 53 k53) w' (fun k_=>(P_ k_∨w.heap.size≤k_)) (some ad15) l0.length l0)∧Aside0 (Kd.F k53 w' (fun k_=>(P_ k_∨w.heap.size≤k_)) A15_0 (rd_L2 l0 x6).length (rd_L2 l0 x6))∧Aside0 (Below w.heap.size w w'))
    case atStart=>exact⟨0,(by first|rfl|(simp;done)|(simp[*];done)),HH,⟨Nat.le_refl _⟩,⟨HF0.out⟩,⟨HF15_0.out⟩,⟨HB.out⟩⟩
    case round=>
     clear hx15_0 p15 q15
     clear hk11
     clear hk12
     clear hk14
     clear hk20
     clear hk21
     clear hk22
     clear hk26
     clear hk27
     clear HH
     clear HF0 HF15_0 HB
     obtain⟨x28,rfl,HA,HK1,HF0,HF15_0,HB⟩:=hrel
     obtain⟨w30,rfl⟩:∃ wo_:World,wo_=wr:=⟨_,rfl⟩
     cases gk with
     |zero=>exact absurd HA.out (by simp[dn_Check.l1])
     |succ k29=>
      have H:=HA.out
      clear HA
      simp only[dn_Check.l1] at H
      have HH:=za H
      clear H
      replace HH:=zqt HH
      rcases HH with⟨HH,hk32,hk33⟩|⟨HH,hk59,hk60⟩
      ·replace HH:=zqdo HH
       obtain⟨HH,hk35⟩:=HH
       have p36:0≤(x28:Int):=of_decide_eq_true (by first|(with_reducible assumption)|assumption)
       have q36:x28<((rd_L2 l0 x6).length:Int):=of_decide_eq_true (by first|(with_reducible assumption)|assumption)
       obtain⟨ad36,e36,hx36_0,hx36_1⟩:=atF_T53 HF15_0.out x28 p36 q36
       cases e36
       replace p36:=eq_true p36
       replace q36:=eq_true q36
       go_wp2_with ((with_reducible refine gd 6 rfl ?_);refine zb 6 53 #[.string (⟨#[]⟩:ByteArray),.string (⟨#[]⟩:ByteArray)] (h:=?_);intro g37 hg w38 BKg37 hb)
       refine zg ?_
       have GEg37:=zge hg (below_size HB.out)
       replace HF0:=zfe HF0.out hg hb
       replace HF15_0:=zfe HF15_0.out hg hb
       replace HB:=zhb HB.out hb
       clear hg hb
       clear hx36_0 hx36_1 p36 q36
       replace cBKg37:=MB.lz2 BKg37.out
       go_wp2_with ((with_reducible refine gs 53 6 rfl ?_);refine zs 53 6 #[.string ((rd_T53 (rd_L2 l0 x6) x28).f0),.string ((rd_T53 (rd_L2 l0 x6) x28).f1)] BKg37.out [.string ((rd_T53 (rd_L2 l0 x6) x28).f0),.string ((rd_T53 (rd_L2 l0 x6) x28).f1)] (h:=?_);intro w41 hbk hg)
       refine zg ?_
       replace HF0:=zfg HF0.out hg fun k_ hk_=>hk_.2
       replace HF15_0:=zfg HF15_0.out hg fun k_ hk_=>hk_.2
       replace HB:=zhg HB.out hg (below_size HB.out) GEg37
       replace BKg37:=hbk
       clear hg hbk
       replace cBKg37:=MB.lz2 BKg37.out
       replace HH:=zd HH
       obtain⟨t44,At45,HH⟩:=HH
       go_wp2_with ((with_reducible refine gc 15 rfl ?_);refine zc 15 (some 32) Try.func15 #[.string ((rd_T53 (rd_L2 l0 x6) x28).f0)] (h:=?_);(with_reducible refine(dn_Word.calls k29  ((rd_T53 (rd_L2 l0 x6) x28).f0) t44 _  At45.out).mono ?_);rintro e w' ⟨rfl,⟨nd,rfl⟩⟩;refine⟨_,rfl,?_⟩)
       refine zg ?_
       by_cases c47:t44=true
       ·replace HH:=MW.hpos HH c47
        subst c47
        replace HH:=zqe HH
        rcases HH with⟨HH,hk49,hk50⟩|⟨HH,hk51,hk52⟩
        ·obtain rfl:=Option.some.inj HH.out
         clear HH
         go_wp2
         go_ret
         exact zfi (by repeat(first|(with_reducible first|exact HB.out|apply below_alloc|apply pw_below_drewN|apply below_drew1)|exact HB.out))
        replace HH:=zqK 400 HH
        rcases HH with⟨HH,hk54,hk55⟩|⟨HH,hk56,hk57⟩
        ·obtain rfl:=Option.some.inj HH.out
         clear HH
         go_wp2
         go_ret
         exact zfi (by repeat(first|(with_reducible first|exact HB.out|apply below_alloc|apply pw_below_drewN|apply below_drew1)|exact HB.out))
        go_wp2
        go_roundg k29
        case measure=>have:=HK0.out;have:=HK1.out;omega
        case rel=>exact⟨wrap64 (x28+1),(by first|rfl|(simp;done)|(simp[*];done)),HH,⟨by have:=HK0.out;have:=HK1.out;omega⟩,⟨(Kd.F_mono (ok:=(fun k_=>(P_ k_∨w.heap.size≤k_)∧k_≠g37)) (by(with_reducible repeat(first|apply Kd.F_alloc|apply Kd.F_drewN|apply Kd.F_drew));exact HF0.out) (fun k_ hk_=>hk_.1))⟩,⟨(Kd.F_mono (ok:=(fun k_=>(P_ k_∨w.heap.size≤k_)∧k_≠g37)) (by(with_reducible repeat(first|apply Kd.F_alloc|apply Kd.F_drewN|apply Kd.F_drew));exact HF15_0.out) (fun k_ hk_=>hk_.1))⟩,⟨(by repeat(first|(with_reducible first|exact HB.out|apply below_alloc|apply pw_below_drewN|apply below_drew1)|exact HB.out))⟩⟩
       replace HH:=MW.hneg HH c47
       replace c47:=Bool.eq_false_iff.mpr c47
       subst c47
       obtain rfl:=Option.some.inj HH.out
       clear HH
       go_wp2
       go_ret
       exact zfi (by repeat(first|(with_reducible first|exact HB.out|apply below_alloc|apply pw_below_drewN|apply below_drew1)|exact HB.out))
      go_wp2
      go_roundg k29
      case measure=>have:=HK0.out;have:=HK1.out;omega
      case rel=>exact⟨wrap64 (x6+1),(by first|rfl|(simp;done)|(simp[*];done)),HH,⟨by have:=HK0.out;have:=HK1.out;omega⟩,⟨HF0.out⟩,⟨HB.out⟩⟩
   obtain rfl:=Option.some.inj HH.out
   clear HH
   go_wp2
   go_ret
   exact zfi HB.out

def jn.ren:Go.Shelf.Ren:=⟨fun|156=>28|165=>41|166=>42|169=>43|240=>51|241=>52|276=>56|277=>57|n=>n,fun|0=>0|3=>3|4=>4|5=>5|9=>9|20=>20|31=>54|37=>72|70=>71|72=>74|75=>77|76=>78|80=>80|127=>88|164=>90|n=>n,fun n=>n⟩
theorem jn.lays:Lays.n156 Try.prog jn.ren:={
  mixed:=by kernel_rfl,
  f156:=Try.func28.trans (by kernel_rfl),
  f165:=Try.func41.trans (by kernel_rfl),
  f166:=Try.func42.trans (by kernel_rfl),
  f169:=Try.func43.trans (by kernel_rfl),
  f240:=Try.func51.trans (by kernel_rfl),
  f241:=Try.func52.trans (by kernel_rfl),
  f276:=Try.func56.trans (by kernel_rfl),
  f277:=Try.func57.trans (by kernel_rfl),
  t0:=Try.underlying0,a0:=Try.isAgg0,z0:=Try.sizeOf0,v0:=Try.zeroValue0,
  t3:=Try.underlying3,a3:=Try.isAgg3,z3:=Try.sizeOf3,v3:=Try.zeroValue3,
  t4:=Try.underlying4,a4:=Try.isAgg4,z4:=Try.sizeOf4,v4:=Try.zeroValue4,
  t9:=Try.underlying9,a9:=Try.isAgg9,z9:=Try.sizeOf9,v9:=Try.zeroValue9,
  t20:=Try.underlying20,a20:=Try.isAgg20,z20:=Try.sizeOf20,v20:=Try.zeroValue20,
  t31:=Try.underlying54,a31:=Try.isAgg54,z31:=Try.sizeOf54,v31:=Try.zeroValue54,
  t37:=Try.underlying72,a37:=Try.isAgg72,z37:=Try.sizeOf72,v37:=Try.zeroValue72,
  t70:=Try.underlying71,a70:=Try.isAgg71,z70:=Try.sizeOf71,v70:=Try.zeroValue71,
  t72:=Try.underlying74,a72:=Try.isAgg74,z72:=Try.sizeOf74,v72:=Try.zeroValue74,
  t75:=Try.underlying77,a75:=Try.isAgg77,z75:=Try.sizeOf77,v75:=Try.zeroValue77,
  t76:=Try.underlying78,a76:=Try.isAgg78,z76:=Try.sizeOf78,v76:=Try.zeroValue78,
  t127:=Try.underlying88,a127:=Try.isAgg88,z127:=Try.sizeOf88,v127:=Try.zeroValue88,
  t164:=Try.underlying90,a164:=Try.isAgg90,z164:=Try.sizeOf90,v164:=Try.zeroValue90
}
theorem jn.extra:Builder.Extra Try.prog jn.ren:={
  sizeBuilder:=by kernel_rfl,
  liesBuilder:=by kernel_rfl,
  t5:=Try.underlying5,a5:=Try.isAgg5,z5:=Try.sizeOf5,v5:=Try.zeroValue5,
  infoByte:=by kernel_rfl,
  cellsByte:=by kernel_rfl,
  sizeByte:=by kernel_rfl,
  neB5:=by decide
}
def strings_Join.f (l0:List ByteArray) (a1:ByteArray):Option ByteArray:=if l0.length≤140737488355328∧(Lib.join (l0.map (·.data.toList)) a1.data.toList).length≤140737488355328 then some ⟨(Lib.join (l0.map (·.data.toList)) a1.data.toList).toArray⟩ else none
set_option maxHeartbeats 8000000 in
set_option maxRecDepth 100000 in
theorem strings_Join.calls (P_:Nat→Prop) (A0:Option Addr) (c0:Nat) (l0:List ByteArray) (a1:ByteArray) (r:ByteArray) (w:World) (hs0:Kd.F Kd.string w P_ A0 l0.length l0) (hc0:l0.length≤c0) (h:strings_Join.f l0 a1=some r):
    Calls Try.prog 28 #[.slice A0 l0.length c0,.string a1] w (fun e w'=>e=.returned (.string r)∧Below w.heap.size w w'):=by
  unfold strings_Join.f at h
  split at h
  · rename_i hb
    obtain rfl:=Option.some.inj h
    cases l0 with
    |nil=>
      have hJ:=Any.strings_Join_none jn.lays jn.extra A0 c0 a1 w
      refine Calls.mono hJ ?_
      rintro e w' ⟨rfl,rfl⟩
      exact⟨rfl,Below.refl _ _⟩
    |cons x t=>
      obtain⟨hl,hm,hr⟩:=Kd.F_now hs0
      obtain⟨ad,rfl,hcell⟩:=hr (by simp)
      have hat:∀ j y,(x::t)[j]? =some y→w.cell? (ad.add j)=some (.string y):=by
        intro j y hy
        obtain⟨c,hs,hk,hc⟩:=hcell j y hy
        have hk':c=[.string y]:=hk
        subst hk'
        have:=hc 0 (.string y) rfl
        simpa [Kd.string,Kd.scalar] using this
      have h0:=hat 0 x rfl
      obtain⟨bk,o,sp⟩:=ad
      have hsp:sp=none:=by
        cases sp with
        |none=>rfl
        |some q=>
          simp only[Addr.add,if_true,World.cell?] at h0
          split at h0 <;>simp at h0
      subst hsp
      have hbk:bk<w.heap.size:=by
        have:=World.block_lt_of_cell? w _ h0
        simpa [Addr.add] using this
      have hadd:∀ j,(⟨bk,o,none⟩:Addr).add j=⟨bk,o+j,none⟩:=by
        intro j
        unfold Addr.add
        split <;>simp_all
      have hJ:=Any.strings_Join jn.lays jn.extra bk o c0 (x::t) a1 w (fun j y hy=>by rw[← hadd];exact hat j y hy) hbk hb.1 hc0 hb.2
      exact hJ
  · cases h

def stringslite_IndexByte.f (a0:ByteArray) (a1:Int):Option (Int):=some (Lib.indexByte a0.data.toList a1.toNat.toUInt8)
set_option maxHeartbeats 2000000 in
set_option maxRecDepth 100000 in
theorem stringslite_IndexByte.calls (a0:ByteArray) (a1:Int) (r:Int) (w:World) (h:stringslite_IndexByte.f a0 a1=some r):
  Calls Try.prog 53 #[.string a0,.int .u8 a1] w (fun e w'=>e=.returned (.int .i64 r)∧Drawn0 w w'):=by
 obtain rfl:=Option.some.inj h
 go_enter Try.func53,Try.ntmps53
 go_wp2
 rw[run_callFunc_extern Try.func58 (by kernel_rfl) (by kernel_rfl) (by kernel_rfl) (e:=Extern.BytealgIndexByte.indexByte) (by kernel_rfl),Lib.run_indexByteString]
 simp only[Result.andThen]
 rw[Oper.upon_value]
 go_wp2
 go_ret
 exact⟨rfl,Drawn0.refl _⟩

def strings_IndexByte.f (a0:ByteArray) (a1:Int):Option (Int):=(stringslite_IndexByte.f a0 a1).bind fun t1=>(some t1)
set_option maxHeartbeats 8000000 in
set_option maxRecDepth 100000 in
theorem strings_IndexByte.calls (a0:ByteArray) (a1:Int) (r:Int) (w:World) (h:strings_IndexByte.f a0 a1=some r):
  Calls Try.prog 46 #[.string a0,.int .u8 a1] w (fun e w'=>e=.returned (.int .i64 r)∧Drawn0 w w'):=by
 unfold strings_IndexByte.f at h
 have HH:=za h
 clear h
 go_enter Try.func46,Try.ntmps46
 replace HH:=zd HH
 obtain⟨t1,At2,HH⟩:=HH
 go_wp2_with ((with_reducible refine gc 53 rfl ?_);refine zc 53 (some 7) Try.func53 #[.string a0,.int .u8 a1] (h:=?_);(with_reducible refine(stringslite_IndexByte.calls  a0 a1 t1 _  At2.out).mono ?_);rintro e w' ⟨rfl,⟨nd,rfl⟩⟩;refine⟨_,rfl,?_⟩)
 refine zg ?_
 obtain rfl:=Option.some.inj HH.out
 clear HH
 go_wp2
 go_ret
 exact⟨by first|rfl|(simp;done)|(simp[*];done),by repeat(first|exact Drawn0.refl _|apply Drawn0.step)⟩

def dn_special.f (a0:Int):Option (Bool):=(strings_IndexByte.f (⟨#[44,43,34,92,60,62,59,61]⟩:ByteArray) a0).bind fun t1=>(some (decide (t1≥0)))
set_option maxHeartbeats 8000000 in
set_option maxRecDepth 100000 in
theorem dn_special.calls (a0:Int) (r:Bool) (w:World) (h:dn_special.f a0=some r):
  Calls Try.prog 48 #[.int .u8 a0] w (fun e w'=>e=.returned (.bool r)∧Drawn0 w w'):=by
 unfold dn_special.f at h
 have HH:=za h
 clear h
 go_enter Try.func48,Try.ntmps48
 replace HH:=zd HH
 obtain⟨t1,At2,HH⟩:=HH
 go_wp2_with ((with_reducible refine gc 46 rfl ?_);refine zc 46 (some 4) Try.func46 #[.string (⟨#[44,43,34,92,60,62,59,61]⟩:ByteArray),.int .u8 a0] (h:=?_);(with_reducible refine(strings_IndexByte.calls  (⟨#[44,43,34,92,60,62,59,61]⟩:ByteArray) a0 t1 _  At2.out).mono ?_);rintro e w' ⟨rfl,⟨nd,rfl⟩⟩;refine⟨_,rfl,?_⟩)
 refine zg ?_
 obtain rfl:=Option.some.inj HH.out
 clear HH
 go_wp2
 go_ret
 exact⟨by first|rfl|(simp;done)|(simp[*];done),by repeat(first|exact Drawn0.refl _|apply Drawn0.step)⟩

def dn_reader_name.l0:Nat→Int→(List Int)→ByteArray→Int→Int→ByteArray→Option (ByteArray × Bool × ByteArray × Int)
 |0,_,_,_,_,_,_=>none
 |k+1,x38,x39,a0_0,a0_1,t8,y26=>if x38<((MB.numsOf y26).length:Int) then(if 0≤x38 then(if (rd x39 x38)≥65 then(if (rd x39 x38)≤90 then((some (List.set x39 x38.toNat (((((rd x39 x38)+97) % 256) - 65) % 256):List Int)).bind fun y54=>((dn_reader_name.l0 k (wrap64 (x38+1)) y54 a0_0 a0_1 t8 y26))) else((dn_reader_name.l0 k (wrap64 (x38+1)) x39 a0_0 a0_1 t8 y26))) else((dn_reader_name.l0 k (wrap64 (x38+1)) x39 a0_0 a0_1 t8 y26))) else(none)) else((dn_Word.f k (strOfNums x39)).bind fun t71=>(some (strOfNums x39,t71,a0_0,wrap64 (a0_1+(wrap64 (t8+1))))))
def dn_reader_name.f (k:Nat) (a0_0:ByteArray) (a0_1:Int):Option (ByteArray × Bool × ByteArray × Int):=if 0≤a0_1 then(if a0_1≤(a0_0.size:Int) then((strings_IndexByte.f (a0_0.extract a0_1.toNat a0_0.size) 61).bind fun t8=>(if t8<0 then(some ((⟨#[]⟩:ByteArray),false,a0_0,a0_1)) else(if t8>16 then(some ((⟨#[]⟩:ByteArray),false,a0_0,a0_1)) else(if a0_1≤(wrap64 (a0_1+t8)) then(if (wrap64 (a0_1+t8))≤(a0_0.size:Int) then((some (a0_0.extract a0_1.toNat (wrap64 (a0_1+t8)).toNat)).bind fun y26=>(if y26.size<140737488355328 then((dn_reader_name.l0 k 0 (MB.numsOf y26) a0_0 a0_1 t8 y26)) else(none))) else(none)) else(none))))) else(none)) else(none)
theorem dn_reader_name.mono_l:∀ k,(∀ y0 y1 y2 y3 y4 y5,LeO (dn_reader_name.l0 k y0 y1 y2 y3 y4 y5) (dn_reader_name.l0 (k+1) y0 y1 y2 y3 y4 y5))
 |0=>fun _ _ _ _ _ _ r h=>by simp[dn_reader_name.l0] at h
 |k+1=>by
  have ih0:=dn_reader_name.mono_l k
  ·intro y0 y1 y2 y3 y4 y5
   unfold dn_reader_name.l0
   with_reducible repeat' first|exact ih0 _ _ _ _ _ _|exact dn_Word.mono _ _|exact LeO.refl _|exact LeO.none _|refine LeO.ite ?_ ?_|refine LeO.bind ?_ (fun _=>?_)
theorem dn_reader_name.mono:∀ a0_ a1_ k,LeO (dn_reader_name.f k a0_ a1_) (dn_reader_name.f (k+1) a0_ a1_):=by
 intro a0_ a1_ k
 have ih0:=dn_reader_name.mono_l k
 unfold dn_reader_name.f
 with_reducible repeat' first|exact ih0 _ _ _ _ _ _|exact dn_Word.mono _ _|exact LeO.refl _|exact LeO.none _|refine LeO.ite ?_ ?_|refine LeO.bind ?_ (fun _=>?_)
def dn_reader_name.Post (B_:Nat) (g0:Nat) (a0_0:ByteArray) (a0_1:Int) (w:World) (r1:ByteArray) (r2:Bool) (r3:ByteArray) (r4:Int) (e:Ending) (w':World):Prop:=e=.returned (.tuple #[.string r1,.bool r2])∧w'.heap[g0]? =some (.cells #[.string r3,.int .i64 r4] 61 (0,0))∧(∀ k_:Nat,k_≠g0→k_<w.heap.size→w'.heap[k_]? =w.heap[k_]?)∧Below B_ w w'
set_option maxHeartbeats 8000000 in
set_option maxRecDepth 100000 in
theorem dn_reader_name.calls (k:Nat) (B_:Nat) (g0:Nat) (a0_0:ByteArray) (a0_1:Int) (r1:ByteArray) (r2:Bool) (r3:ByteArray) (r4:Int) (w:World) (hB0:B_≤w.heap.size) (hb0:w.heap[g0]? =some (.cells #[.string a0_0,.int .i64 a0_1] 61 (0,0))) (hge0:B_≤g0) (h:dn_reader_name.f k a0_0 a0_1=some (r1,r2,r3,r4)):
  Calls Try.prog 31 #[.pointer (some ⟨g0,0,none⟩)] w (fun e w'=>dn_reader_name.Post B_ g0 a0_0 a0_1 w r1 r2 r3 r4 e w'):=by
 unfold dn_reader_name.f at h
 have HH:=za h
 clear h
 obtain⟨P0_,HPO⟩:∃ P0_:Nat→Prop,P0_=(fun k_=>k_≠g0):=⟨_,rfl⟩
 have HFfr:=za (MB.frK_new w (fun k_ hk_=>by rw[HPO] at hk_;exact⟨trivial,hk_⟩):Kd.F (MB.frK w P0_) w (fun k_=>True∧k_≠g0) (some ⟨0,0,none⟩) [()].length [()])
 replace HPO:=za HPO
 have hB_:=za hB0
 have BKg0:=za hb0
 have GEg0:=za hge0
 clear hb0 hge0
 replace cBKg0:=MB.lz2 BKg0.out
 have HB:=za (Below.refl B_ w)
 go_enter Try.func31,Try.ntmps31
 replace HH:=zqdo HH
 obtain⟨HH,hk4⟩:=HH
 replace HH:=zqdo HH
 obtain⟨HH,hk6⟩:=HH
 have hh07:(0≤(a0_1:Int))=True:=eq_true (by first|exact Int.natCast_nonneg _|exact(of_decide_eq_true (by first|(with_reducible assumption)|assumption|(simp;done)):0≤(a0_1:Int)))
 have hh17:((a0_1:Int)≤((a0_0.size:Int):Int))=True:=eq_true (by first|exact Int.le_refl _|exact(of_decide_eq_true (by first|(with_reducible assumption)|assumption|(simp;done)):(a0_1:Int)≤((a0_0.size:Int):Int)))
 replace HH:=zd HH
 obtain⟨t8,At9,HH⟩:=HH
 replace HH:=zqt HH
 rcases HH with⟨HH,hk11,hk12⟩|⟨HH,hk13,hk14⟩
 ·have H:=HH.out
  simp only[Option.some.injEq,Prod.mk.injEq] at H
  obtain⟨rfl,rfl,rfl,rfl⟩:=H
  clear HH
  go_wp2
  go_quiet ((first|(go_at_call 46;first|exact Calls.quiet_of (MW.drawn (strings_IndexByte.calls  (a0_0.extract a0_1.toNat a0_0.size) 61 t8 _  At9.out))|exact MW.quiet_far (MW.drawn (strings_IndexByte.calls  (a0_0.extract a0_1.toNat a0_0.size) 61 t8 _  At9.out)))))
  go_wp2
  go_ret2
  unfold dn_reader_name.Post
  exact⟨by first|rfl|(simp;done)|(simp[*];done),(by first|exact(by(with_reducible repeat(first|refine blk_drewN ?_ _|refine blk_drew ?_|refine blk_alloc ?_ _));exact BKg0.out)|(have h_:=(by(with_reducible repeat(first|refine blk_drewN ?_ _|refine blk_drew ?_|refine blk_alloc ?_ _));exact BKg0.out);simp only[*] at h_;exact h_)|(have h_:=(by(with_reducible repeat(first|refine blk_drewN ?_ _|refine blk_drew ?_|refine blk_alloc ?_ _));exact BKg0.out);simp[*] at h_ ⊢;exact h_)),(fun k_ hg_ hlt_=>MB.frK_out (by(with_reducible repeat(first|apply Kd.F_alloc|apply Kd.F_drewN|apply Kd.F_drew));exact HFfr.out) k_ (by rw[HPO.out];exact hg_) hlt_),(by repeat(first|(with_reducible first|exact HB.out|apply MB.below_allocB hB_.out|apply pw_below_drewN|apply below_drew1)|exact HB.out))⟩
 replace HH:=zqg HH
 rcases HH with⟨HH,hk16⟩|⟨HH,hk17⟩
 ·have H:=HH.out
  simp only[Option.some.injEq,Prod.mk.injEq] at H
  obtain⟨rfl,rfl,rfl,rfl⟩:=H
  clear HH
  go_wp2
  go_quiet ((first|(go_at_call 46;first|exact Calls.quiet_of (MW.drawn (strings_IndexByte.calls  (a0_0.extract a0_1.toNat a0_0.size) 61 t8 _  At9.out))|exact MW.quiet_far (MW.drawn (strings_IndexByte.calls  (a0_0.extract a0_1.toNat a0_0.size) 61 t8 _  At9.out)))))
  go_wp2
  go_ret2
  unfold dn_reader_name.Post
  exact⟨by first|rfl|(simp;done)|(simp[*];done),(by first|exact(by(with_reducible repeat(first|refine blk_drewN ?_ _|refine blk_drew ?_|refine blk_alloc ?_ _));exact BKg0.out)|(have h_:=(by(with_reducible repeat(first|refine blk_drewN ?_ _|refine blk_drew ?_|refine blk_alloc ?_ _));exact BKg0.out);simp only[*] at h_;exact h_)|(have h_:=(by(with_reducible repeat(first|refine blk_drewN ?_ _|refine blk_drew ?_|refine blk_alloc ?_ _));exact BKg0.out);simp[*] at h_ ⊢;exact h_)),(fun k_ hg_ hlt_=>MB.frK_out (by(with_reducible repeat(first|apply Kd.F_alloc|apply Kd.F_drewN|apply Kd.F_drew));exact HFfr.out) k_ (by rw[HPO.out];exact hg_) hlt_),(by repeat(first|(with_reducible first|exact HB.out|apply MB.below_allocB hB_.out|apply pw_below_drewN|apply below_drew1)|exact HB.out))⟩
 go_wp2
 go_quiet ((first|(go_at_call 46;first|exact Calls.quiet_of (MW.drawn (strings_IndexByte.calls  (a0_0.extract a0_1.toNat a0_0.size) 61 t8 _  At9.out))|exact MW.quiet_far (MW.drawn (strings_IndexByte.calls  (a0_0.extract a0_1.toNat a0_0.size) 61 t8 _  At9.out)))))
 go_wp2
 refine MW.name_world (W0:=w) (by repeat(first|exact Drawn0.refl _|apply Drawn0.step)) ?_
 intro w18 hb
 replace HFfr:=zfb HFfr.out hb
 replace BKg0:=zbb BKg0.out hb
 replace HB:=za (MB.below_stepB hB_.out HB.out hb)
 clear hb
 clear hh07 hh17
 replace cBKg0:=MB.lz2 BKg0.out
 replace HH:=zqdo HH
 obtain⟨HH,hk22⟩:=HH
 replace HH:=zqdo HH
 obtain⟨HH,hk24⟩:=HH
 obtain⟨y26,hy26⟩:∃ y_:ByteArray,y_=(a0_0.extract a0_1.toNat (wrap64 (a0_1+t8)).toNat):=⟨_,rfl⟩
 have H:(if y26.size<140737488355328 then((dn_reader_name.l0 k 0 (MB.numsOf y26) a0_0 a0_1 t8 y26)) else(none))=some (r1,r2,r3,r4):=by rw[hy26];exact HH.out
 replace HH:=za H
 clear H
 have hcty26:a0_0.extract a0_1.toNat (wrap64 (a0_1+t8)).toNat=y26:=hy26.symm
 have NYy26:=za hy26
 clear hy26
 have hmx25:max ((wrap64 (a0_1+t8)):Int) 0=((wrap64 (a0_1+t8)):Int):=Int.max_eq_left (Int.le_trans (by first|exact Int.natCast_nonneg _|exact(of_decide_eq_true (by first|(with_reducible assumption)|assumption|(simp;done)):0≤(a0_1:Int))) (by first|exact Int.le_refl _|exact(of_decide_eq_true (by first|(with_reducible assumption)|assumption|(simp;done)):(a0_1:Int)≤((wrap64 (a0_1+t8)):Int))))
 have hh025:(0≤((wrap64 (a0_1+t8)):Int))=True:=eq_true (Int.le_trans (by first|exact Int.natCast_nonneg _|exact(of_decide_eq_true (by first|(with_reducible assumption)|assumption|(simp;done)):0≤(a0_1:Int))) (by first|exact Int.le_refl _|exact(of_decide_eq_true (by first|(with_reducible assumption)|assumption|(simp;done)):(a0_1:Int)≤((wrap64 (a0_1+t8)):Int))))
 have hh125:((a0_1:Int)≤((wrap64 (a0_1+t8)):Int))=True:=eq_true (by first|exact Int.le_refl _|exact(of_decide_eq_true (by first|(with_reducible assumption)|assumption|(simp;done)):(a0_1:Int)≤((wrap64 (a0_1+t8)):Int)))
 have hh225:(0≤(a0_1:Int))=True:=eq_true (by first|exact Int.natCast_nonneg _|exact(of_decide_eq_true (by first|(with_reducible assumption)|assumption|(simp;done)):0≤(a0_1:Int)))
 have hh325:(((wrap64 (a0_1+t8)):Int)≤(a0_0.size:Int))=True:=eq_true (of_decide_eq_true (by first|(with_reducible assumption)|assumption|(simp;done)):((wrap64 (a0_1+t8)):Int)≤(a0_0.size:Int))
 go_wp2
 have hwr_:∀ n_:Int,IntKind.i64.wrap n_=wrap64 n_:=fun n_=>IntWalk.i64_left n_
 have hw8_:∀ n_:Int,IntKind.u8.wrap n_=n_ % 256:=fun n_=>rfl
 go_still_tail 15,(by kernel_rfl)
 clear hwr_ hw8_
 change wpList _ _ _ _ _ w18.drew
 obtain⟨w27,hw_⟩:∃ w_:World,w_=w18.drew:=⟨_,rfl⟩
 rw[← hw_]
 have hb:Below w18.heap.size w18 w27:=by rw[hw_];exact below_drew1 (Below.refl _ _)
 clear hw_
 replace HFfr:=zfb HFfr.out hb
 replace BKg0:=zbb BKg0.out hb
 replace HB:=za (MB.below_stepB hB_.out HB.out hb)
 clear hb
 clear hmx25 hh025 hh125 hh225 hh325 hcty26
 replace cBKg0:=MB.lz2 BKg0.out
 obtain⟨HH,LMc30⟩:=zlm HH
 go_wp2_with (((with_reducible refine gate_dst (N:=39) rfl ?_);(try(refine gate_guard (by rfl) ?_;dsimp only));refine MC.ev_conv B_ 5 rfl 9 72 _ rfl Try.underlying9 Try.underlying72 Try.underlying5 y26 (fun k_=>(True∧(w.heap.size≤k_))∧k_≠g0) rfl (fun k_ h_=>⟨⟨trivial,((Nat.le_trans (MB.bsize (a:=B_) HB.out) h_))⟩,Kd.freshB (g:=g0) BKg0.out k_ h_⟩) HB.out (Nat.le_trans hB_.out (MB.bsize (a:=B_) HB.out)) LMc30.out ?_;intro v31 w32 hn1 hb1 hg1 hat1);replace hat1:=za hat1;refine stop_ ?_)
 refine zg ?_
 replace hat1:=hat1.out
 have hbe:=MW.grown_below hg1
 have hba:=MW.base_of hat1
 replace HFfr:=za (Kd.F_mono (Kd.F_elder' (ok:=(fun k_=>True∧k_≠g0)) HFfr.out hba hbe) (fun k_ hk_=>hk_):Kd.F (MB.frK w P0_) _ (fun k_=>(True∧k_≠g0)∧some k_≠(v31:Value).ownBlock) _ _ _)
 replace BKg0:=za (blk_below (g:=g0) BKg0.out hbe)
 replace HB:=za hb1
 have HN33:=za hn1
 clear hn1 hb1 hg1 hat1 hbe hba
 replace cBKg0:=MB.lz2 BKg0.out
 obtain⟨A36,cp37,he_⟩:=MC.KB_slice HN33.out
 subst he_
 go_wp2
 go_loopg [42] k (fun kq u42 w'=>∃ (x38:Int) (x39:List Int),u42=.int .i64 x38∧Aside0 ((dn_reader_name.l0 kq x38 x39 a0_0 a0_1 t8 y26)=some (r1,r2,r3,r4))∧Aside0 (kq≤k)∧Aside0 (Kd.F (MB.frK w P0_) w' (fun k_=>(True∧some k_≠((.slice A36 (MB.numsOf y26).length cp37):Value).ownBlock)∧k_≠g0) (some ⟨0,0,none⟩) [()].length [()])∧Aside0 (MC.KB 5 w' B_ (fun k_=>(True∧(w.heap.size≤k_))∧k_≠g0) (.slice A36 (MB.numsOf y26).length cp37) x39)∧Aside0 (w'.heap[g0]? =some (.cells #[.string a0_0,.int .i64 a0_1] 61 (0,0)))∧Aside0 (Below B_ w w'))
 case atStart=>exact⟨0,MB.numsOf y26,(by first|rfl|(simp;done)|(simp[*];done)),HH,⟨Nat.le_refl _⟩,⟨(Kd.F_mono (ok:=(fun k_=>(True∧k_≠g0)∧some k_≠((.slice A36 (MB.numsOf y26).length cp37):Value).ownBlock)) HFfr.out (fun k_ hk_=>⟨⟨hk_.1.1,hk_.2⟩,hk_.1.2⟩))⟩,⟨(MC.KB_mono (ok:=(fun k_=>(True∧(w.heap.size≤k_))∧k_≠g0)) HN33.out (fun k_ hk_=>hk_))⟩,⟨BKg0.out⟩,⟨HB.out⟩⟩
 case round=>
  clear hk4
  clear hk6
  clear hk13
  clear hk14
  clear hk17
  clear hk22
  clear hk24
  clear HH
  clear HFfr HN33 BKg0 HB
  obtain⟨x38,x39,rfl,HA,HK0,HFfr,HN33,BKg0,HB⟩:=hrel
  obtain⟨w41,rfl⟩:∃ wo_:World,wo_=wr:=⟨_,rfl⟩
  cases gk with
  |zero=>exact absurd HA.out (by simp[dn_reader_name.l0])
  |succ k40=>
   have H:=HA.out
   clear HA
   simp only[dn_reader_name.l0] at H
   have HH:=za H
   clear H
   replace cBKg0:=MB.lz2 BKg0.out
   replace HH:=zqt HH
   rcases HH with⟨HH,hk45,hk46⟩|⟨HH,hk62,hk63⟩
   ·replace HH:=zqdo HH
    obtain⟨HH,hk48⟩:=HH
    have p49:0≤(x38:Int):=of_decide_eq_true (by first|(with_reducible assumption)|assumption)
    have q49:x38<((MB.numsOf y26).length:Int):=of_decide_eq_true (by first|(with_reducible assumption)|assumption)
    obtain⟨ad49,e49,hx49_0⟩:=Kd.at_int (Kd.F_now (MC.KB_F HN33.out)) x38 p49 q49
    cases e49
    replace p49:=eq_true p49
    replace q49:=eq_true q49
    replace HH:=zqG HH
    rcases HH with⟨HH,hk51⟩|⟨HH,hk60⟩
    ·replace HH:=zqd HH
     rcases HH with⟨HH,hk53⟩|⟨HH,hk59⟩
     ·obtain⟨y54,hy54⟩:∃ y_:List Int,y_=(List.set x39 x38.toNat (((((rd x39 x38)+97) % 256) - 65) % 256)):=⟨_,rfl⟩
      have H:((dn_reader_name.l0 k40 (wrap64 (x38+1)) y54 a0_0 a0_1 t8 y26))=some (r1,r2,r3,r4):=by rw[hy54];exact HH.out
      replace HH:=za H
      clear H
      have NYy54:=za hy54
      clear hy54
      go_wp2_with (((with_reducible refine gate_store (t:=5) (p:=58) rfl ?_);(try(refine gate_guard (by rfl) ?_;dsimp only));refine MC.ev_setB (n:=(MB.numsOf y26).length) B_ 5 rfl rfl _ _ _ rfl x38 x39 (((((rd x39 x38)+97) % 256) - 65) % 256) (fun k_=>(True∧(w.heap.size≤k_))∧k_≠g0) (by rfl) (by rfl) (by kernel_rfl) HN33.out (of_decide_eq_true (by first|(with_reducible assumption)|assumption)) (of_decide_eq_true (by first|(with_reducible assumption)|assumption)) HB.out ?_;intro w55 hn1 hb1 hg1);refine stop_ ?_)
      refine zg ?_
      replace HFfr:=za (Kd.F_grown (ok:=(fun k_=>(True∧some k_≠((.slice (some ad49) (MB.numsOf y26).length cp37):Value).ownBlock)∧k_≠g0)) HFfr.out hg1 (fun k_ hk_=>hk_.1.2))
      replace BKg0:=za (blk_grown (g:=g0) BKg0.out hg1 (MC.KB_away (ok:=(fun k_=>(True∧(w.heap.size≤k_))∧k_≠g0)) HN33.out (fun k_ hk_=>hk_.2)))
      replace HB:=za hb1
      clear HN33
      have HN56:=za (by rw[NYy54.out];exact hn1:MC.KB 5 w55 B_ (fun k_=>(True∧(w.heap.size≤k_))∧k_≠g0) (.slice (some ad49) (MB.numsOf y26).length cp37) y54)
      clear hn1 hb1 hg1
      clear hx49_0 p49 q49
      replace cBKg0:=MB.lz2 BKg0.out
      go_wp2
      go_roundg k40
      case measure=>have:=HK0.out;omega
      case rel=>exact⟨wrap64 (x38+1),y54,(by first|rfl|(simp;done)|(simp[*];done)),HH,⟨by have:=HK0.out;omega⟩,⟨HFfr.out⟩,⟨(MC.KB_mono (ok:=(fun k_=>(True∧(w.heap.size≤k_))∧k_≠g0)) HN56.out (fun k_ hk_=>hk_))⟩,⟨BKg0.out⟩,⟨HB.out⟩⟩
     go_wp2
     go_roundg k40
     case measure=>have:=HK0.out;omega
     case rel=>exact⟨wrap64 (x38+1),x39,(by first|rfl|(simp;done)|(simp[*];done)),HH,⟨by have:=HK0.out;omega⟩,⟨HFfr.out⟩,⟨(MC.KB_mono (ok:=(fun k_=>(True∧(w.heap.size≤k_))∧k_≠g0)) HN33.out (fun k_ hk_=>hk_))⟩,⟨BKg0.out⟩,⟨HB.out⟩⟩
    go_wp2
    go_roundg k40
    case measure=>have:=HK0.out;omega
    case rel=>exact⟨wrap64 (x38+1),x39,(by first|rfl|(simp;done)|(simp[*];done)),HH,⟨by have:=HK0.out;omega⟩,⟨HFfr.out⟩,⟨(MC.KB_mono (ok:=(fun k_=>(True∧(w.heap.size≤k_))∧k_≠g0)) HN33.out (fun k_ hk_=>hk_))⟩,⟨BKg0.out⟩,⟨HB.out⟩⟩
   go_wp2_with ((with_reducible refine gs 3 68 rfl ?_);refine zs 3 68 #[.string a0_0,.int .i64 (wrap64 (a0_1+(wrap64 (t8+1))))] BKg0.out [.int .i64 (wrap64 (a0_1+(wrap64 (t8+1))))] (h:=?_);intro w64 hbk hg)
   refine zg ?_
   replace HFfr:=zfg HFfr.out hg fun k_ hk_=>hk_.2
   replace HN33:=MC.KB_zng HN33.out hg fun k_ hk_=>hk_.2
   replace HB:=zhg HB.out hg (Nat.le_trans hB_.out (MB.bsize (a:=B_) HB.out)) GEg0
   replace BKg0:=hbk
   clear hg hbk
   replace cBKg0:=MB.lz2 BKg0.out
   have hcv67:=MC.KB_string (P:=Try.prog) Try.underlying72 Try.underlying5 Try.underlying9 HN33.out
   have hcv68:=fun m_:Nat=>MC.KB_string (P:=Try.prog) Try.underlying72 Try.underlying5 Try.underlying9 (MC.KB_drewN HN33.out m_)
   have hcv69:=MC.KB_string (P:=Try.prog) Try.underlying72 Try.underlying5 Try.underlying9 HN33.out
   have hcv70:=fun m_:Nat=>MC.KB_string (P:=Try.prog) Try.underlying72 Try.underlying5 Try.underlying9 (MC.KB_drewN HN33.out m_)
   replace HH:=zd HH
   obtain⟨t71,At72,HH⟩:=HH
   have H:=HH.out
   simp only[Option.some.injEq,Prod.mk.injEq] at H
   obtain⟨rfl,rfl,rfl,rfl⟩:=H
   clear HH
   go_wp2
   go_quiet ((first|(go_at_call 15;first|exact Calls.quiet_of (MW.drawn (dn_Word.calls k40  (strOfNums x39) t71 _  At72.out))|exact MW.quiet_far (MW.drawn (dn_Word.calls k40  (strOfNums x39) t71 _  At72.out)))))
   go_wp2
   go_ret2
   unfold dn_reader_name.Post
   exact⟨by first|rfl|(simp;done)|(simp[*];done),(by first|exact(by(with_reducible repeat(first|refine blk_drewN ?_ _|refine blk_drew ?_|refine blk_alloc ?_ _));exact BKg0.out)|(have h_:=(by(with_reducible repeat(first|refine blk_drewN ?_ _|refine blk_drew ?_|refine blk_alloc ?_ _));exact BKg0.out);simp only[*] at h_;exact h_)|(have h_:=(by(with_reducible repeat(first|refine blk_drewN ?_ _|refine blk_drew ?_|refine blk_alloc ?_ _));exact BKg0.out);simp[*] at h_ ⊢;exact h_)),(fun k_ hg_ hlt_=>MB.frK_out (by(with_reducible repeat(first|apply Kd.F_alloc|apply Kd.F_drewN|apply Kd.F_drew));exact HFfr.out) k_ (by rw[HPO.out];exact hg_) hlt_),(by repeat(first|(with_reducible first|exact HB.out|apply MB.below_allocB hB_.out|apply pw_below_drewN|apply below_drew1)|exact HB.out))⟩

def dn_digit.f (a0:Int):Option (Int):=if a0≥65 then(if a0≤70 then((strings_IndexByte.f (⟨#[48,49,50,51,52,53,54,55,56,57,97,98,99,100,101,102]⟩:ByteArray) ((a0+32) % 256)).bind fun t5=>(some t5)) else((strings_IndexByte.f (⟨#[48,49,50,51,52,53,54,55,56,57,97,98,99,100,101,102]⟩:ByteArray) a0).bind fun t9=>(some t9))) else((strings_IndexByte.f (⟨#[48,49,50,51,52,53,54,55,56,57,97,98,99,100,101,102]⟩:ByteArray) a0).bind fun t13=>(some t13))
set_option maxHeartbeats 8000000 in
set_option maxRecDepth 100000 in
theorem dn_digit.calls (a0:Int) (r:Int) (w:World) (h:dn_digit.f a0=some r):
  Calls Try.prog 54 #[.int .u8 a0] w (fun e w'=>e=.returned (.int .i64 r)∧Drawn0 w w'):=by
 unfold dn_digit.f at h
 have HH:=za h
 clear h
 go_enter Try.func54,Try.ntmps54
 replace HH:=zqG HH
 rcases HH with⟨HH,hk2⟩|⟨HH,hk12⟩
 ·replace HH:=zqd HH
  rcases HH with⟨HH,hk4⟩|⟨HH,hk8⟩
  ·replace HH:=zd HH
   obtain⟨t5,At6,HH⟩:=HH
   go_wp2_with ((with_reducible refine gc 46 rfl ?_);refine zc 46 (some 12) Try.func46 #[.string (⟨#[48,49,50,51,52,53,54,55,56,57,97,98,99,100,101,102]⟩:ByteArray),.int .u8 ((a0+32) % 256)] (h:=?_);(with_reducible refine(strings_IndexByte.calls  (⟨#[48,49,50,51,52,53,54,55,56,57,97,98,99,100,101,102]⟩:ByteArray) ((a0+32) % 256) t5 _  At6.out).mono ?_);rintro e w' ⟨rfl,⟨nd,rfl⟩⟩;refine⟨_,rfl,?_⟩)
   refine zg ?_
   obtain rfl:=Option.some.inj HH.out
   clear HH
   go_wp2
   go_ret
   exact⟨by first|rfl|(simp;done)|(simp[*];done),by repeat(first|exact Drawn0.refl _|apply Drawn0.step)⟩
  replace HH:=zd HH
  obtain⟨t9,At10,HH⟩:=HH
  go_wp2_with ((with_reducible refine gc 46 rfl ?_);refine zc 46 (some 12) Try.func46 #[.string (⟨#[48,49,50,51,52,53,54,55,56,57,97,98,99,100,101,102]⟩:ByteArray),.int .u8 a0] (h:=?_);(with_reducible refine(strings_IndexByte.calls  (⟨#[48,49,50,51,52,53,54,55,56,57,97,98,99,100,101,102]⟩:ByteArray) a0 t9 _  At10.out).mono ?_);rintro e w' ⟨rfl,⟨nd,rfl⟩⟩;refine⟨_,rfl,?_⟩)
  refine zg ?_
  obtain rfl:=Option.some.inj HH.out
  clear HH
  go_wp2
  go_ret
  exact⟨by first|rfl|(simp;done)|(simp[*];done),by repeat(first|exact Drawn0.refl _|apply Drawn0.step)⟩
 replace HH:=zd HH
 obtain⟨t13,At14,HH⟩:=HH
 go_wp2_with ((with_reducible refine gc 46 rfl ?_);refine zc 46 (some 12) Try.func46 #[.string (⟨#[48,49,50,51,52,53,54,55,56,57,97,98,99,100,101,102]⟩:ByteArray),.int .u8 a0] (h:=?_);(with_reducible refine(strings_IndexByte.calls  (⟨#[48,49,50,51,52,53,54,55,56,57,97,98,99,100,101,102]⟩:ByteArray) a0 t13 _  At14.out).mono ?_);rintro e w' ⟨rfl,⟨nd,rfl⟩⟩;refine⟨_,rfl,?_⟩)
 refine zg ?_
 obtain rfl:=Option.some.inj HH.out
 clear HH
 go_wp2
 go_ret
 exact⟨by first|rfl|(simp;done)|(simp[*];done),by repeat(first|exact Drawn0.refl _|apply Drawn0.step)⟩

def Clone_33.f (l0:List (S53)):Option (List (S53)):=if l0.length<4398046511104 then some l0 else none
set_option maxHeartbeats 8000000 in
set_option maxRecDepth 100000 in
theorem Clone_33.calls (P_:Nat→Prop) (A0:Option Addr) (c0:Nat) (l0:List (S53)) (r:List (S53)) (w:World) (hs0:Kd.F k53 w P_ A0 l0.length l0) (hc0:l0.length≤c0) (h:Clone_33.f l0=some r):
  Calls Try.prog 33 #[.slice A0 l0.length c0] w fun e w'=>∃ v0_:Value,e=.returned (v0_)∧Kd.N k53 53 w' w.heap.size (fun k_=>P_ k_∨w.heap.size≤k_) v0_ r∧Below w.heap.size w w':=by
 have hu:=Try.underlying39
 unfold Clone_33.f at h
 by_cases hl:l0.length<4398046511104
 ·rw[if_pos hl] at h
  obtain rfl:=Option.some.inj h
  clear h
  have heq:=fun W=>Lib.run_eql_slice_nil (P:=Try.prog) W 39 53 A0 l0.length c0 0 0 hu
  have HF:=za (Kd.F_mono hs0 (fun k_ hk_=>(.inl hk_:P_ k_∨w.heap.size≤k_)))
  cases A0 with
  |none=>
   have hz:l0=[]:=by
    have h2:=(Kd.F_now hs0).2.2
    cases l0 with
    |nil=>rfl
    |cons a l=>obtain⟨ad,e,_⟩:=h2 (by simp);cases e
   subst hz
   clear hs0
   simp only[List.length_nil] at heq
   go_enter Try.func33,Try.ntmps33
   go_wp2
   go_ret
   exact⟨_,rfl,Kd.N_nil _ _ _ _ _,Below.refl _ _⟩
  |some ad=>
   clear hs0
   go_enter Try.func33,Try.ntmps33
   go_wp2_with ((with_reducible refine gate_dst (N:=5) rfl ?_);refine Kd.N_lit k53 w.heap.size 53 rfl rfl (xs:=[]) (inner:=[]) (ok:=fun k_=>P_ k_∨w.heap.size≤k_) (okp:=fun _=>False) ?hr ?hp (fun _ h=>h.elim) (.inr (Nat.le_refl _)) (Below.refl _ _) (Nat.le_refl _) (by simp) ?_;(case hr=>first|(go_simp;done)|(go_simp;rfl));(case hp=>exact Reps.none _ _);intro v1 w1 hN hB hg hat;replace hat:=za hat;refine stop_ ?_)
   refine zg ?_
   replace hat:=hat.out
   have HN:=za hN
   have HB:=za hB
   have HF1:=za (Kd.F_elder' HF.out (MW.base_of hat) (MW.grown_below hg))
   clear hN hB hg hat
   go_wp2_with ((with_reducible refine gate_dst (N:=7) rfl ?_);refine Kd.N_append_rows k53 w.heap.size rfl _ _ 39 53 (.agg #[(.string ⟨#[]⟩),(.string ⟨#[]⟩)]) 32 rfl hu info53 rfl (by decide) (by decide) _ _ l0 _ _ _ (fun k_=>P_ k_∨w.heap.size≤k_) _ rfl rfl HN.out HF1.out (fun _ hk=>hk) (fun k_ h_=>.inr (Nat.le_trans HB.out.size h_)) HB.out HB.out.size (by simp;omega) ?_;intro v2 w2 hN2 hB2 hg2 hat2;replace hat2:=za hat2;refine stop_ ?_)
   refine zg ?_
   have HN2:=za hN2
   have HB2:=za hB2
   clear hN2 hB2 hg2 hat2 HN HB HF1 HF
   go_wp2
   go_ret
   exact⟨_,rfl,HN2.out,HB2.out⟩
 rw[if_neg hl] at h
 exact absurd h (by simp)

def dn_copied.l0:Nat→(List (List (S53)))→Int→(List (List (S53)))→Option ((List (List (S53))))
 |0,_,_,_=>none
 |k+1,x1,x4,l0=>if x4<(l0.length:Int) then(if 0≤x4 then((Clone_33.f (rd_L2 l0 x4)).bind fun t13=>(if x1.length<5864062014805 then((some (x1++[t13]:List (List (S53)))).bind fun y22=>((dn_copied.l0 k y22 (wrap64 (x4+1)) l0))) else(none))) else(none)) else(some x1)
def dn_copied.f (k:Nat) (l0:List (List (S53))):Option ((List (List (S53)))):=(dn_copied.l0 k ([]:List (List (S53))) 0 l0)
theorem dn_copied.mono_l:∀ k,(∀ y0 y1 y2,LeO (dn_copied.l0 k y0 y1 y2) (dn_copied.l0 (k+1) y0 y1 y2))
 |0=>fun _ _ _ r h=>by simp[dn_copied.l0] at h
 |k+1=>by
  have ih0:=dn_copied.mono_l k
  ·intro y0 y1 y2
   unfold dn_copied.l0
   with_reducible repeat' first|exact ih0 _ _ _|exact LeO.refl _|exact LeO.none _|refine LeO.ite ?_ ?_|refine LeO.bind ?_ (fun _=>?_)
theorem dn_copied.mono:∀ a0_ k,LeO (dn_copied.f k a0_) (dn_copied.f (k+1) a0_):=by
 intro a0_ k
 have ih0:=dn_copied.mono_l k
 unfold dn_copied.f
 with_reducible repeat' first|exact ih0 _ _ _|exact LeO.refl _|exact LeO.none _|refine LeO.ite ?_ ?_|refine LeO.bind ?_ (fun _=>?_)
set_option maxHeartbeats 8000000 in
set_option maxRecDepth 100000 in
theorem dn_copied.calls (k:Nat) (P_:Nat→Prop) (A0:Option Addr) (c0:Nat) (l0:List (List (S53))) (r:List (List (S53))) (w:World) (hs0:Kd.F (Kd.slice 53 k53) w P_ A0 l0.length l0) (hc0:l0.length≤c0) (h:dn_copied.f k l0=some r):
  Calls Try.prog 34 #[.slice A0 l0.length c0] w (fun e w'=>∃ v0_:Value,e=.returned (v0_)∧Kd.N (Kd.slice 53 k53) 39 w' w.heap.size (fun k_=>P_ k_∨w.heap.size≤k_) v0_ r∧Below w.heap.size w w'):=by
 unfold dn_copied.f at h
 have HH:=za h
 clear h
 have HF0:=zfp hs0
 clear hs0 hc0
 have HB:=za (Below.refl w.heap.size w)
 go_enter Try.func34,Try.ntmps34
 go_wp2
 go_loopg [3,8] k (fun kq u3 u8 w'=>∃ (x1:List (List (S53))) (x4:Int),u8=.int .i64 x4∧Aside0 ((dn_copied.l0 kq x1 x4 l0)=some r)∧Aside0 (kq≤k)∧Aside0 (Kd.F (Kd.slice 53 k53) w' (fun k_=>(P_ k_∨w.heap.size≤k_)∧some k_≠(u3:Value).ownBlock) A0 l0.length l0)∧Aside0 (Kd.N (Kd.slice 53 k53) 39 w' w.heap.size (fun k_=>(P_ k_∨w.heap.size≤k_)) u3 x1)∧Aside0 (Below w.heap.size w w'))
 case atStart=>exact⟨([]:List (List (S53))),0,(by first|rfl|(simp;done)|(simp[*];done)),HH,⟨Nat.le_refl _⟩,⟨(Kd.F_mono (ok:=(fun k_=>(P_ k_∨w.heap.size≤k_))) HF0.out (fun k_ hk_=>⟨hk_,(by simp[Value.ownBlock])⟩))⟩,⟨Kd.N_nil _ _ _ _ _⟩,⟨HB.out⟩⟩
 case round=>
  clear HH
  clear HF0 HB
  obtain⟨x1,x4,rfl,HA,HK0,HF0,HN3,HB⟩:=hrel
  obtain⟨v2,rfl⟩:∃ z_:Value,z_=u3:=⟨_,rfl⟩
  obtain⟨w6,rfl⟩:∃ wo_:World,wo_=wr:=⟨_,rfl⟩
  cases gk with
  |zero=>exact absurd HA.out (by simp[dn_copied.l0])
  |succ k5=>
   have H:=HA.out
   clear HA
   simp only[dn_copied.l0] at H
   have HH:=za H
   clear H
   replace HH:=zqt HH
   rcases HH with⟨HH,hk8,hk9⟩|⟨HH,hk27,hk28⟩
   ·replace HH:=zqdo HH
    obtain⟨HH,hk11⟩:=HH
    have p12:0≤(x4:Int):=of_decide_eq_true (by first|(with_reducible assumption)|assumption)
    have q12:x4<(l0.length:Int):=of_decide_eq_true (by first|(with_reducible assumption)|assumption)
    obtain⟨ad12,A12_0,c12_0,e12,hx12_0,hl12_0,hi12_0⟩:=atF_L2 HF0.out x4 p12 q12
    cases e12
    have HF12_0:=za hi12_0
    have HL12_0:=za hl12_0
    clear hi12_0 hl12_0
    replace p12:=eq_true p12
    replace q12:=eq_true q12
    replace HH:=zd HH
    obtain⟨t13,At14,HH⟩:=HH
    go_wp2_with ((with_reducible refine gc 33 rfl ?_);refine zc 33 (some 14) Try.func33 #[.slice A12_0 (rd_L2 l0 x4).length c12_0] (h:=?_);(with_reducible refine(Clone_33.calls (fun k_=>(P_ k_∨w.heap.size≤k_)∧some k_≠(v2:Value).ownBlock) _ _ (rd_L2 l0 x4) t13 _ HF12_0.out HL12_0.out At14.out).mono ?_);rintro e w15 ⟨v16,rfl,hn16,hb⟩;refine⟨_,rfl,?_⟩)
    refine zg ?_
    have hba:=Kd.N_base hn16
    have HN16:=znl (ok2:=(fun k_=>(P_ k_∨w.heap.size≤k_)∧some k_≠(v2:Value).ownBlock)) hn16 (below_size HB.out) (fun k_ hk_=>hk_.elim (fun h_=>h_) (fun h_=>⟨.inr (Nat.le_trans (below_size HB.out) h_),Kd.fresh' (Kd.N_lt HN3.out) k_ h_⟩))
    replace HF0:=zfr (v:=v16) HF0.out hba hb
    replace HN3:=znr (u:=v16) HN3.out hba hb
    replace HB:=zhb HB.out hb
    clear hn16 hba hb
    clear hx12_0 p12 q12
    obtain⟨A17,cp18,he_⟩:=Kd.N_slice HN16.out
    subst he_
    have HL20:=za (Kd.N_reads' HN16.out).2.1
    have HF19:=za (Kd.N_F HN16.out)
    clear HN16
    replace HF0:=za (Kd.F_mono (ok:=(fun k_=>((P_ k_∨w.heap.size≤k_)∧some k_≠(v2:Value).ownBlock)∧some k_≠((.slice A17 t13.length cp18):Value).ownBlock)) HF0.out (fun k_ hk_=>hk_.1):Kd.F (Kd.slice 53 k53) _ (fun k_=>(P_ k_∨w.heap.size≤k_)∧some k_≠(v2:Value).ownBlock) _ _ _)
    replace HN3:=za (Kd.N_mono (ok:=(fun k_=>(P_ k_∨w.heap.size≤k_)∧some k_≠((.slice A17 t13.length cp18):Value).ownBlock)) HN3.out (fun k_ hk_=>hk_.1):Kd.N (Kd.slice 53 k53) _ _ _ (fun k_=>(P_ k_∨w.heap.size≤k_)) _ _)
    obtain⟨HH,LMc21⟩:=zlm HH
    obtain⟨y22,hy22⟩:∃ y_:List (List (S53)),y_=(x1++[t13]):=⟨_,rfl⟩
    have H:((dn_copied.l0 k5 y22 (wrap64 (x4+1)) l0))=some r:=by rw[hy22];exact HH.out
    replace HH:=za H
    clear H
    have NYy22:=za hy22
    clear hy22
    go_wp2_with (((with_reducible refine gate_dst (N:=16) rfl ?_);(try(refine gate_guard (by rfl) ?_;dsimp only));refine Kd.N_append (Kd.slice 53 k53) w.heap.size rfl _ _ 23 39 (.slice none 0 0) 24 rfl Try.underlying23 info39 rfl (by decide) (by decide) (v2) x1 t13 [.slice A17 t13.length cp18] (fun k_=>(P_ k_∨w.heap.size≤k_)) (fun k_=>(fun k_=>(P_ k_∨w.heap.size≤k_)) k_∧some k_≠(v2:Value).ownBlock) rfl rfl (Kd.FK_slice_mk HL20.out (Kd.F_mono (ok:=(fun k_=>(P_ k_∨w.heap.size≤k_)∧some k_≠(v2:Value).ownBlock)) (by(with_reducible repeat(first|apply Kd.F_alloc|apply Kd.F_drewN|apply Kd.F_drew));exact HF19.out) (fun k_ hk_=>⟨hk_.1,hk_.2⟩))) (fun _ hk_=>hk_) (fun k_ h_=>.inr (Nat.le_trans (below_size (by repeat(first|(with_reducible first|exact HB.out|apply below_alloc|apply pw_below_drewN|apply below_drew1)|exact HB.out))) h_)) (by(with_reducible repeat(first|apply Kd.N_alloc|apply Kd.N_drewN|apply Kd.N_drew));exact HN3.out) (by repeat(first|(with_reducible first|exact HB.out|apply below_alloc|apply pw_below_drewN|apply below_drew1)|exact HB.out)) (below_size (by repeat(first|(with_reducible first|exact HB.out|apply below_alloc|apply pw_below_drewN|apply below_drew1)|exact HB.out))) (by first|(have:=LMc21.out;omega)|(have:=LMc21.out;simp at *;omega)) ?_;intro v23 w24 hn1 hb1 hg1 hat1);replace hat1:=za hat1;refine stop_ ?_)
    refine zg ?_
    replace hat1:=hat1.out
    replace HF0:=za (Kd.F_mono (Kd.F_after (v:=v2) (ok:=(fun k_=>(P_ k_∨w.heap.size≤k_))) (Kd.F_mono (ok:=(fun k_=>(P_ k_∨w.heap.size≤k_)∧some k_≠(v2:Value).ownBlock)) (by(with_reducible repeat(first|apply Kd.F_alloc|apply Kd.F_drewN|apply Kd.F_drew));exact HF0.out) (fun k_ hk_=>⟨hk_.1,hk_.2⟩)) hg1 hat1) (fun k_ hk_=>hk_):Kd.F (Kd.slice 53 k53) _ (fun k_=>(P_ k_∨w.heap.size≤k_)∧some k_≠(v23:Value).ownBlock) _ _ _)
    replace HB:=za hb1
    clear HN3
    have HN25:=za hn1
    clear hn1 hb1 hg1 hat1
    replace HN25:=za (by rw[NYy22.out];exact HN25.out:Kd.N (Kd.slice 53 k53) 39 w24 w.heap.size (fun k_=>(P_ k_∨w.heap.size≤k_)) v23 y22)
    go_wp2
    go_roundg k5
    case measure=>have:=HK0.out;omega
    case rel=>exact⟨y22,wrap64 (x4+1),(by first|rfl|(simp;done)|(simp[*];done)),HH,⟨by have:=HK0.out;omega⟩,⟨HF0.out⟩,⟨(Kd.N_mono (ok:=(fun k_=>(P_ k_∨w.heap.size≤k_))) HN25.out (fun k_ hk_=>hk_))⟩,⟨HB.out⟩⟩
   obtain rfl:=Option.some.inj HH.out
   clear HH
   go_wp2
   go_ret
   exact⟨_,by first|rfl|(simp;done)|(simp[*];done),(Kd.N_mono (ok:=(fun k_=>(P_ k_∨w.heap.size≤k_))) HN3.out (fun k_ hk_=>hk_)),HB.out⟩

def dn_Above.f (k:Nat) (l0:List (List (S53))):Option ((List (List (S53))) × Bool):=(dn_Check.f k l0).bind fun t1=>(if t1=0 then(if (l0.length:Int)=0 then(some (([]:List (List (S53))),false)) else(if 1≤(l0.length:Int) then((some (List.drop 1 l0:List (List (S53)))).bind fun y17=>((dn_copied.f k y17).bind fun t18=>(some (t18,true)))) else(none))) else(some (([]:List (List (S53))),false)))
theorem dn_Above.mono:∀ a0_ k,LeO (dn_Above.f k a0_) (dn_Above.f (k+1) a0_):=by
 intro a0_ k
 unfold dn_Above.f
 with_reducible repeat' first|exact dn_Check.mono _ _|exact dn_copied.mono _ _|exact LeO.refl _|exact LeO.none _|refine LeO.ite ?_ ?_|refine LeO.bind ?_ (fun _=>?_)
set_option maxHeartbeats 8000000 in
set_option maxRecDepth 100000 in
theorem dn_Above.calls (k:Nat) (P_:Nat→Prop) (A0:Option Addr) (c0:Nat) (l0:List (List (S53))) (r1:List (List (S53))) (r2:Bool) (w:World) (hs0:Kd.F (Kd.slice 53 k53) w P_ A0 l0.length l0) (hc0:l0.length≤c0) (h:dn_Above.f k l0=some (r1,r2)):
  Calls Try.prog 20 #[.slice A0 l0.length c0] w (fun e w'=>∃ v0_:Value,e=.returned (.tuple #[v0_,.bool r2])∧Kd.N (Kd.slice 53 k53) 39 w' w.heap.size (fun k_=>P_ k_∨w.heap.size≤k_) v0_ r1∧Below w.heap.size w w'):=by
 unfold dn_Above.f at h
 have HH:=za h
 clear h
 have HF0:=zfp hs0
 have HL0:=za hc0
 clear hs0 hc0
 have HB:=za (Below.refl w.heap.size w)
 go_enter Try.func20,Try.ntmps20
 replace HH:=zd HH
 obtain⟨t1,At2,HH⟩:=HH
 go_wp2_with ((with_reducible refine gc 13 rfl ?_);refine zc 13 (some 5) Try.func13 #[.slice A0 l0.length c0] (h:=?_);(with_reducible refine(dn_Check.calls k (fun k_=>(P_ k_∨w.heap.size≤k_)) _ _ l0 t1 _ HF0.out HL0.out At2.out).mono ?_);rintro e w3 ⟨rfl,hb⟩;refine⟨_,rfl,?_⟩)
 refine zg ?_
 replace HF0:=zfb HF0.out hb
 replace HB:=zhb HB.out hb
 clear hb
 replace HH:=zqe HH
 rcases HH with⟨HH,hk5,hk6⟩|⟨HH,hk24,hk25⟩
 ·by_cases c7:(l0.length:Int)=0
  ·replace HH:=MW.hpos HH c7
   have hk8:((l0.length:Int)==0)=true:=beq_iff_eq.mpr c7
   have hk9:((l0.length:Int) != 0)=false:=bne_eq_false_iff_eq.mpr c7
   clear c7
   have H:=HH.out
   simp only[Option.some.injEq,Prod.mk.injEq] at H
   obtain⟨rfl,rfl⟩:=H
   clear HH
   go_wp2
   go_ret2
   exact⟨_,by first|rfl|(simp;done)|(simp[*];done),(Kd.N_nil _ _ _ _ _),HB.out⟩
  replace HH:=MW.hneg HH c7
  have hk10:((l0.length:Int)==0)=false:=beq_eq_false_iff_ne.mpr c7
  have hk11:((l0.length:Int) != 0)=true:=bne_iff_ne.mpr c7
  have hk12: ¬ (l0=[]):=fun h_=>c7 (by rw[h_];rfl)
  clear c7
  replace HH:=zqlo 1 HH
  obtain⟨HH,hk15,hk16⟩:=HH
  obtain⟨i013,hi013,_,hsz13,_⟩:=info_parts info39
  have q013:0≤(1:Int):=(by decide)
  have ql13:(1:Int)≤((l0.length:Int):Int):=(by first|exact Int.le_refl _|exact of_decide_eq_true (by first|(with_reducible assumption)|assumption)|(simp;done))
  have hcut13:=cut_from (P:=Try.prog) 23 39 .i64 Try.underlying23 hi013 1 hsz13 A0 l0.length c0 1 q013 ql13
  have hr13:Kd.F (Kd.slice 53 k53) w3 (fun k_=>(P_ k_∨w.heap.size≤k_)) (if c0=1 then A0 else(A0:Option Addr).map (·.add (1*1))) (List.drop 1 l0).length (List.drop 1 l0):=Kd.F_cut (m:=1) (c:=c0) HF0.out (by omega) HL0.out
  have hy13:(List.drop 1 l0).length=l0.length - 1:=List.length_drop
  have hl13:(List.drop 1 l0).length≤c0 - 1:=(by have:=HL0.out;rw[List.length_drop];omega)
  try simp only[show((1:Int)).toNat=1 from rfl] at hcut13
  rw[← hy13] at hcut13
  generalize (if c0=1 then A0 else(A0:Option Addr).map (·.add (1*1)))=A13 at hcut13 hr13
  generalize c0 - 1=cp13 at hcut13 hl13
  clear hy13 q013 ql13
  have HF13:=za hr13
  have HL13:=za hl13
  clear hr13 hl13 hi013 hsz13
  obtain⟨y17,hy17⟩:∃ y_:List (List (S53)),y_=List.drop 1 l0:=⟨_,rfl⟩
  rw[← hy17] at hcut13 HL13 HF13
  have H:((dn_copied.f k y17).bind fun t18=>(some (t18,true)))=some (r1,r2):=by rw[hy17];exact HH.out
  replace HH:=za H
  clear H
  clear hy17
  replace HH:=zd HH
  obtain⟨t18,At19,HH⟩:=HH
  go_wp2_with ((with_reducible refine gc 34 rfl ?_);refine zc 34 (some 14) Try.func34 #[.slice A13 y17.length cp13] (h:=?_);(with_reducible refine(dn_copied.calls k (fun k_=>(P_ k_∨w.heap.size≤k_)) _ _ y17 t18 _ HF13.out HL13.out At19.out).mono ?_);rintro e w20 ⟨v21,rfl,hn21,hb⟩;refine⟨_,rfl,?_⟩)
  refine zg ?_
  have hba:=Kd.N_base hn21
  have HN21:=znl (ok2:=(fun k_=>(P_ k_∨w.heap.size≤k_))) hn21 (below_size HB.out) (fun k_ hk_=>hk_.elim (fun h_=>h_) (fun h_=>.inr (Nat.le_trans (below_size HB.out) h_)))
  replace HB:=zhb HB.out hb
  clear hn21 hba hb
  clear hcut13
  have H:=HH.out
  simp only[Option.some.injEq,Prod.mk.injEq] at H
  obtain⟨rfl,rfl⟩:=H
  clear HH
  go_wp2
  go_ret2
  exact⟨_,by first|rfl|(simp;done)|(simp[*];done),(Kd.N_mono (ok:=(fun k_=>(P_ k_∨w.heap.size≤k_))) HN21.out (fun k_ hk_=>hk_)),HB.out⟩
 have H:=HH.out
 simp only[Option.some.injEq,Prod.mk.injEq] at H
 obtain⟨rfl,rfl⟩:=H
 clear HH
 go_wp2
 go_ret2
 exact⟨_,by first|rfl|(simp;done)|(simp[*];done),(Kd.N_nil _ _ _ _ _),HB.out⟩

def toponymref18_Word.l0:Nat→Int→ByteArray→Option (Bool)
 |0,_,_=>none
 |k+1,x13,a0=>if x13<(a0.size:Int) then(if 0≤x13 then(if (bt a0 x13)≥97 then(if (bt a0 x13)≥48 then(if (bt a0 x13)≤57 then(if (bt a0 x13)≤122 then((toponymref18_Word.l0 k (wrap64 (x13+1)) a0)) else(if x13=0 then(some false) else((toponymref18_Word.l0 k (wrap64 (x13+1)) a0)))) else(if (bt a0 x13)≤122 then((toponymref18_Word.l0 k (wrap64 (x13+1)) a0)) else(if x13=0 then(some false) else(if (bt a0 x13)=45 then((toponymref18_Word.l0 k (wrap64 (x13+1)) a0)) else(some false))))) else(if (bt a0 x13)≤122 then((toponymref18_Word.l0 k (wrap64 (x13+1)) a0)) else(if x13=0 then(some false) else(if (bt a0 x13)=45 then((toponymref18_Word.l0 k (wrap64 (x13+1)) a0)) else(some false))))) else(if (bt a0 x13)≥48 then(if (bt a0 x13)≤57 then(if x13=0 then(some false) else((toponymref18_Word.l0 k (wrap64 (x13+1)) a0))) else(if x13=0 then(some false) else(if (bt a0 x13)=45 then((toponymref18_Word.l0 k (wrap64 (x13+1)) a0)) else(some false)))) else(if x13=0 then(some false) else(if (bt a0 x13)=45 then((toponymref18_Word.l0 k (wrap64 (x13+1)) a0)) else(some false))))) else(none)) else(some true)
def toponymref18_Word.f (k:Nat) (a0:ByteArray):Option (Bool):=if (a0.size:Int)<1 then(some false) else(if (a0.size:Int)>16 then(some false) else((toponymref18_Word.l0 k 0 a0)))
theorem toponymref18_Word.mono_l:∀ k,(∀ y0 y1,LeO (toponymref18_Word.l0 k y0 y1) (toponymref18_Word.l0 (k+1) y0 y1))
 |0=>fun _ _ r h=>by simp[toponymref18_Word.l0] at h
 |k+1=>by
  have ih0:=toponymref18_Word.mono_l k
  ·intro y0 y1
   unfold toponymref18_Word.l0
   with_reducible repeat' first|exact ih0 _ _|exact LeO.refl _|exact LeO.none _|refine LeO.ite ?_ ?_|refine LeO.bind ?_ (fun _=>?_)
theorem toponymref18_Word.mono:∀ a0_ k,LeO (toponymref18_Word.f k a0_) (toponymref18_Word.f (k+1) a0_):=by
 intro a0_ k
 have ih0:=toponymref18_Word.mono_l k
 unfold toponymref18_Word.f
 with_reducible repeat' first|exact ih0 _ _|exact LeO.refl _|exact LeO.none _|refine LeO.ite ?_ ?_|refine LeO.bind ?_ (fun _=>?_)
set_option maxHeartbeats 8000000 in
set_option maxRecDepth 100000 in
theorem toponymref18_Word.calls (k:Nat) (a0:ByteArray) (r:Bool) (w:World) (h:toponymref18_Word.f k a0=some r):
  Calls Try.prog 16 #[.string a0] w (fun e w'=>e=.returned (.bool r)∧Drawn0 w w'):=by
 unfold toponymref18_Word.f at h
 have HH:=za h
 clear h
 go_enter Try.func16,Try.ntmps16
 replace HH:=zqN 1 HH
 rcases HH with⟨HH,hk2,hk3,hk4⟩|⟨HH,hk5,hk6,hk7⟩
 ·obtain rfl:=Option.some.inj HH.out
  clear HH
  go_wp2
  go_ret
  exact⟨by first|rfl|(simp;done)|(simp[*];done),by repeat(first|exact Drawn0.refl _|apply Drawn0.step)⟩
 replace HH:=zqK 16 HH
 rcases HH with⟨HH,hk9,hk10⟩|⟨HH,hk11,hk12⟩
 ·obtain rfl:=Option.some.inj HH.out
  clear HH
  go_wp2
  go_ret
  exact⟨by first|rfl|(simp;done)|(simp[*];done),by repeat(first|exact Drawn0.refl _|apply Drawn0.step)⟩
 go_wp2
 go_loopg [3] k (fun kq u3 w'=>∃ (x13:Int),u3=.int .i64 x13∧Aside0 ((toponymref18_Word.l0 kq x13 a0)=some r)∧Aside0 (kq≤k)∧Drawn0 w w')
 case atStart=>exact⟨0,(by first|rfl|(simp;done)|(simp[*];done)),HH,⟨Nat.le_refl _⟩,by repeat(first|exact Drawn0.refl _|apply Drawn0.step)⟩
 case round=>
  clear hk5
  clear hk6
  clear hk7
  clear hk11
  clear hk12
  clear HH
  obtain⟨x13,rfl,HA,HK0,⟨m0_,rfl⟩⟩:=hrel
  cases gk with
  |zero=>exact absurd HA.out (by simp[toponymref18_Word.l0])
  |succ k16=>
   have H:=HA.out
   clear HA
   simp only[toponymref18_Word.l0] at H
   have HH:=za H
   clear H
   replace HH:=zqt HH
   rcases HH with⟨HH,hk18,hk19⟩|⟨HH,hk98,hk99⟩
   ·replace HH:=zqdo HH
    obtain⟨HH,hk21⟩:=HH
    have p22:0≤(x13:Int):=of_decide_eq_true (by first|(with_reducible assumption)|assumption)
    have q22:x13<(a0.size:Int):=of_decide_eq_true (by first|(with_reducible assumption)|assumption)
    have hx22:=MW.bt_at' a0 x13
    replace p22:=eq_true p22
    replace q22:=eq_true q22
    replace HH:=zqG HH
    rcases HH with⟨HH,hk24⟩|⟨HH,hk65⟩
    ·replace HH:=zqG HH
     rcases HH with⟨HH,hk26⟩|⟨HH,hk51⟩
     ·replace HH:=zqd HH
      rcases HH with⟨HH,hk28⟩|⟨HH,hk37⟩
      ·replace HH:=zqd HH
       rcases HH with⟨HH,hk30⟩|⟨HH,hk31⟩
       ·go_wp2
        go_roundg k16
        case measure=>have:=HK0.out;omega
        case rel=>exact⟨wrap64 (x13+1),(by first|rfl|(simp;done)|(simp[*];done)),HH,⟨by have:=HK0.out;omega⟩,by repeat(first|exact Drawn0.refl _|apply Drawn0.step)⟩
       replace HH:=zqe HH
       rcases HH with⟨HH,hk33,hk34⟩|⟨HH,hk35,hk36⟩
       ·obtain rfl:=Option.some.inj HH.out
        clear HH
        go_wp2
        go_ret
        exact⟨by first|rfl|(simp;done)|(simp[*];done),by repeat(first|exact Drawn0.refl _|apply Drawn0.step)⟩
       go_wp2
       go_roundg k16
       case measure=>have:=HK0.out;omega
       case rel=>exact⟨wrap64 (x13+1),(by first|rfl|(simp;done)|(simp[*];done)),HH,⟨by have:=HK0.out;omega⟩,by repeat(first|exact Drawn0.refl _|apply Drawn0.step)⟩
      replace HH:=zqd HH
      rcases HH with⟨HH,hk39⟩|⟨HH,hk40⟩
      ·go_wp2
       go_roundg k16
       case measure=>have:=HK0.out;omega
       case rel=>exact⟨wrap64 (x13+1),(by first|rfl|(simp;done)|(simp[*];done)),HH,⟨by have:=HK0.out;omega⟩,by repeat(first|exact Drawn0.refl _|apply Drawn0.step)⟩
      replace HH:=zqe HH
      rcases HH with⟨HH,hk42,hk43⟩|⟨HH,hk44,hk45⟩
      ·obtain rfl:=Option.some.inj HH.out
       clear HH
       go_wp2
       go_ret
       exact⟨by first|rfl|(simp;done)|(simp[*];done),by repeat(first|exact Drawn0.refl _|apply Drawn0.step)⟩
      replace HH:=zqe HH
      rcases HH with⟨HH,hk47,hk48⟩|⟨HH,hk49,hk50⟩
      ·go_wp2
       go_roundg k16
       case measure=>have:=HK0.out;omega
       case rel=>exact⟨wrap64 (x13+1),(by first|rfl|(simp;done)|(simp[*];done)),HH,⟨by have:=HK0.out;omega⟩,by repeat(first|exact Drawn0.refl _|apply Drawn0.step)⟩
      obtain rfl:=Option.some.inj HH.out
      clear HH
      go_wp2
      go_ret
      exact⟨by first|rfl|(simp;done)|(simp[*];done),by repeat(first|exact Drawn0.refl _|apply Drawn0.step)⟩
     replace HH:=zqd HH
     rcases HH with⟨HH,hk53⟩|⟨HH,hk54⟩
     ·go_wp2
      go_roundg k16
      case measure=>have:=HK0.out;omega
      case rel=>exact⟨wrap64 (x13+1),(by first|rfl|(simp;done)|(simp[*];done)),HH,⟨by have:=HK0.out;omega⟩,by repeat(first|exact Drawn0.refl _|apply Drawn0.step)⟩
     replace HH:=zqe HH
     rcases HH with⟨HH,hk56,hk57⟩|⟨HH,hk58,hk59⟩
     ·obtain rfl:=Option.some.inj HH.out
      clear HH
      go_wp2
      go_ret
      exact⟨by first|rfl|(simp;done)|(simp[*];done),by repeat(first|exact Drawn0.refl _|apply Drawn0.step)⟩
     replace HH:=zqe HH
     rcases HH with⟨HH,hk61,hk62⟩|⟨HH,hk63,hk64⟩
     ·go_wp2
      go_roundg k16
      case measure=>have:=HK0.out;omega
      case rel=>exact⟨wrap64 (x13+1),(by first|rfl|(simp;done)|(simp[*];done)),HH,⟨by have:=HK0.out;omega⟩,by repeat(first|exact Drawn0.refl _|apply Drawn0.step)⟩
     obtain rfl:=Option.some.inj HH.out
     clear HH
     go_wp2
     go_ret
     exact⟨by first|rfl|(simp;done)|(simp[*];done),by repeat(first|exact Drawn0.refl _|apply Drawn0.step)⟩
    replace HH:=zqG HH
    rcases HH with⟨HH,hk67⟩|⟨HH,hk86⟩
    ·replace HH:=zqd HH
     rcases HH with⟨HH,hk69⟩|⟨HH,hk75⟩
     ·replace HH:=zqe HH
      rcases HH with⟨HH,hk71,hk72⟩|⟨HH,hk73,hk74⟩
      ·obtain rfl:=Option.some.inj HH.out
       clear HH
       go_wp2
       go_ret
       exact⟨by first|rfl|(simp;done)|(simp[*];done),by repeat(first|exact Drawn0.refl _|apply Drawn0.step)⟩
      go_wp2
      go_roundg k16
      case measure=>have:=HK0.out;omega
      case rel=>exact⟨wrap64 (x13+1),(by first|rfl|(simp;done)|(simp[*];done)),HH,⟨by have:=HK0.out;omega⟩,by repeat(first|exact Drawn0.refl _|apply Drawn0.step)⟩
     replace HH:=zqe HH
     rcases HH with⟨HH,hk77,hk78⟩|⟨HH,hk79,hk80⟩
     ·obtain rfl:=Option.some.inj HH.out
      clear HH
      go_wp2
      go_ret
      exact⟨by first|rfl|(simp;done)|(simp[*];done),by repeat(first|exact Drawn0.refl _|apply Drawn0.step)⟩
     replace HH:=zqe HH
     rcases HH with⟨HH,hk82,hk83⟩|⟨HH,hk84,hk85⟩
     ·go_wp2
      go_roundg k16
      case measure=>have:=HK0.out;omega
      case rel=>exact⟨wrap64 (x13+1),(by first|rfl|(simp;done)|(simp[*];done)),HH,⟨by have:=HK0.out;omega⟩,by repeat(first|exact Drawn0.refl _|apply Drawn0.step)⟩
     obtain rfl:=Option.some.inj HH.out
     clear HH
     go_wp2
     go_ret
     exact⟨by first|rfl|(simp;done)|(simp[*];done),by repeat(first|exact Drawn0.refl _|apply Drawn0.step)⟩
    replace HH:=zqe HH
    rcases HH with⟨HH,hk88,hk89⟩|⟨HH,hk90,hk91⟩
    ·obtain rfl:=Option.some.inj HH.out
     clear HH
     go_wp2
     go_ret
     exact⟨by first|rfl|(simp;done)|(simp[*];done),by repeat(first|exact Drawn0.refl _|apply Drawn0.step)⟩
    replace HH:=zqe HH
    rcases HH with⟨HH,hk93,hk94⟩|⟨HH,hk95,hk96⟩
    ·go_wp2
     go_roundg k16
     case measure=>have:=HK0.out;omega
     case rel=>exact⟨wrap64 (x13+1),(by first|rfl|(simp;done)|(simp[*];done)),HH,⟨by have:=HK0.out;omega⟩,by repeat(first|exact Drawn0.refl _|apply Drawn0.step)⟩
    obtain rfl:=Option.some.inj HH.out
    clear HH
    go_wp2
    go_ret
    exact⟨by first|rfl|(simp;done)|(simp[*];done),by repeat(first|exact Drawn0.refl _|apply Drawn0.step)⟩
   obtain rfl:=Option.some.inj HH.out
   clear HH
   go_wp2
   go_ret
   exact⟨by first|rfl|(simp;done)|(simp[*];done),by repeat(first|exact Drawn0.refl _|apply Drawn0.step)⟩

mutual
def toponymref18_Check.l0:Nat→Int→(List (List (S53)))→Option (Int)
 |0,_,_=>none
 |k+1,x6,l0=>if x6<(l0.length:Int) then(if 0≤x6 then(if ((rd_L2 l0 x6).length:Int)=0 then(some 220) else(if ((rd_L2 l0 x6).length:Int)>3 then(some 220) else((toponymref18_Check.l1 k 0 l0 x6)))) else(none)) else(some 0)
def toponymref18_Check.l1:Nat→Int→(List (List (S53)))→Int→Option (Int)
 |0,_,_,_=>none
 |k+1,x27,l0,x6=>if 0≤x6 then(if x6<(l0.length:Int) then(if x27<((rd_L2 l0 x6).length:Int) then(if 0≤x27 then((toponymref18_Word.f k ((rd_T53 (rd_L2 l0 x6) x27).f0)).bind fun t42=>(if t42=true then(if (((rd_T53 (rd_L2 l0 x6) x27).f1).size:Int)=0 then(some 220) else(if (((rd_T53 (rd_L2 l0 x6) x27).f1).size:Int)>400 then(some 220) else((toponymref18_Check.l1 k (wrap64 (x27+1)) l0 x6)))) else(some 220))) else(none)) else((toponymref18_Check.l0 k (wrap64 (x6+1)) l0))) else(none)) else(none)
end
def toponymref18_Check.f (k:Nat) (l0:List (List (S53))):Option (Int):=if (l0.length:Int)>6 then(some 220) else((toponymref18_Check.l0 k 0 l0))
theorem toponymref18_Check.mono_l:∀ k,(∀ y0 y1,LeO (toponymref18_Check.l0 k y0 y1) (toponymref18_Check.l0 (k+1) y0 y1))∧(∀ y0 y1 y2,LeO (toponymref18_Check.l1 k y0 y1 y2) (toponymref18_Check.l1 (k+1) y0 y1 y2))
 |0=>⟨fun _ _ r h=>by simp[toponymref18_Check.l0] at h,fun _ _ _ r h=>by simp[toponymref18_Check.l1] at h⟩
 |k+1=>by
  obtain⟨ih0,ih1⟩:=toponymref18_Check.mono_l k
  refine⟨?_,?_⟩
  ·intro y0 y1
   unfold toponymref18_Check.l0
   with_reducible repeat' first|exact ih0 _ _|exact ih1 _ _ _|exact toponymref18_Word.mono _ _|exact LeO.refl _|exact LeO.none _|refine LeO.ite ?_ ?_|refine LeO.bind ?_ (fun _=>?_)
  intro y0 y1 y2
  unfold toponymref18_Check.l1
  with_reducible repeat' first|exact ih0 _ _|exact ih1 _ _ _|exact toponymref18_Word.mono _ _|exact LeO.refl _|exact LeO.none _|refine LeO.ite ?_ ?_|refine LeO.bind ?_ (fun _=>?_)
theorem toponymref18_Check.mono:∀ a0_ k,LeO (toponymref18_Check.f k a0_) (toponymref18_Check.f (k+1) a0_):=by
 intro a0_ k
 obtain⟨ih0,ih1⟩:=toponymref18_Check.mono_l k
 unfold toponymref18_Check.f
 with_reducible repeat' first|exact ih0 _ _|exact ih1 _ _ _|exact toponymref18_Word.mono _ _|exact LeO.refl _|exact LeO.none _|refine LeO.ite ?_ ?_|refine LeO.bind ?_ (fun _=>?_)
set_option maxHeartbeats 8000000 in
set_option maxRecDepth 100000 in
theorem toponymref18_Check.calls (k:Nat) (P_:Nat→Prop) (A0:Option Addr) (c0:Nat) (l0:List (List (S53))) (r:Int) (w:World) (hs0:Kd.F (Kd.slice 53 k53) w P_ A0 l0.length l0) (hc0:l0.length≤c0) (h:toponymref18_Check.f k l0=some r):
  Calls Try.prog 14 #[.slice A0 l0.length c0] w (fun e w'=>e=.returned (.int .i64 r)∧Drawn0 w w'):=by
 unfold toponymref18_Check.f at h
 have HH:=za h
 clear h
 have HF0:=zfp hs0
 clear hs0 hc0
 go_enter Try.func14,Try.ntmps14
 replace HH:=zqK 6 HH
 rcases HH with⟨HH,hk2,hk3⟩|⟨HH,hk4,hk5⟩
 ·obtain rfl:=Option.some.inj HH.out
  clear HH
  go_wp2
  go_ret
  exact⟨by first|rfl|(simp;done)|(simp[*];done),by repeat(first|exact Drawn0.refl _|apply Drawn0.step)⟩
 go_wp2
 go_loopg [3] k (fun kq u3 w'=>∃ (x6:Int),u3=.int .i64 x6∧Aside0 ((toponymref18_Check.l0 kq x6 l0)=some r)∧Aside0 (kq≤k)∧Drawn0 w w')
 case atStart=>exact⟨0,(by first|rfl|(simp;done)|(simp[*];done)),HH,⟨Nat.le_refl _⟩,by repeat(first|exact Drawn0.refl _|apply Drawn0.step)⟩
 case round=>
  clear hk4
  clear hk5
  clear HH
  obtain⟨x6,rfl,HA,HK0,⟨m0_,rfl⟩⟩:=hrel
  cases gk with
  |zero=>exact absurd HA.out (by simp[toponymref18_Check.l0])
  |succ k9=>
   have H:=HA.out
   clear HA
   simp only[toponymref18_Check.l0] at H
   have HH:=za H
   clear H
   replace HH:=zqt HH
   rcases HH with⟨HH,hk11,hk12⟩|⟨HH,hk63,hk64⟩
   ·replace HH:=zqdo HH
    obtain⟨HH,hk14⟩:=HH
    have p15:0≤(x6:Int):=of_decide_eq_true (by first|(with_reducible assumption)|assumption)
    have q15:x6<(l0.length:Int):=of_decide_eq_true (by first|(with_reducible assumption)|assumption)
    obtain⟨ad15,A15_0,c15_0,e15,hx15_0,hl15_0,hi15_0⟩:=atF_L2 HF0.out x6 p15 q15
    cases e15
    clear hi15_0 hl15_0
    replace p15:=eq_true p15
    replace q15:=eq_true q15
    by_cases c16:((rd_L2 l0 x6).length:Int)=0
    ·replace HH:=MW.hpos HH c16
     have hk17:(((rd_L2 l0 x6).length:Int)==0)=true:=beq_iff_eq.mpr c16
     have hk18:(((rd_L2 l0 x6).length:Int) != 0)=false:=bne_eq_false_iff_eq.mpr c16
     clear c16
     obtain rfl:=Option.some.inj HH.out
     clear HH
     go_wp2
     go_ret
     exact⟨by first|rfl|(simp;done)|(simp[*];done),by repeat(first|exact Drawn0.refl _|apply Drawn0.step)⟩
    replace HH:=MW.hneg HH c16
    have hk19:(((rd_L2 l0 x6).length:Int)==0)=false:=beq_eq_false_iff_ne.mpr c16
    have hk20:(((rd_L2 l0 x6).length:Int) != 0)=true:=bne_iff_ne.mpr c16
    have hk21: ¬ ((rd_L2 l0 x6)=[]):=fun h_=>c16 (by rw[h_];rfl)
    clear c16
    replace HH:=zqK 3 HH
    rcases HH with⟨HH,hk23,hk24⟩|⟨HH,hk25,hk26⟩
    ·obtain rfl:=Option.some.inj HH.out
     clear HH
     go_wp2
     go_ret
     exact⟨by first|rfl|(simp;done)|(simp[*];done),by repeat(first|exact Drawn0.refl _|apply Drawn0.step)⟩
    go_wp2
    go_loopg [4] k9 (fun kq u4 w'=>∃ (x27:Int),u4=.int .i64 x27∧Aside0 ((toponymref18_Check.l1 kq x27 l0 x6)=some r)∧Aside0 (kq≤k9)∧Drawn0 w w')
    case atStart=>exact⟨0,(by first|rfl|(simp;done)|(simp[*];done)),HH,⟨Nat.le_refl _⟩,by repeat(first|exact Drawn0.refl _|apply Drawn0.step)⟩
    case round=>
     clear hx15_0 p15 q15
     clear hk11
     clear hk12
     clear hk14
     clear hk19
     clear hk20
     clear hk21
     clear hk25
     clear hk26
     clear HH
     obtain⟨x27,rfl,HA,HK1,⟨m1_,rfl⟩⟩:=hrel
     cases gk with
     |zero=>exact absurd HA.out (by simp[toponymref18_Check.l1])
     |succ k28=>
      have H:=HA.out
      clear HA
      simp only[toponymref18_Check.l1] at H
      have HH:=za H
      clear H
      replace HH:=zqdo HH
      obtain⟨HH,hk31⟩:=HH
      replace HH:=zqto HH
      obtain⟨HH,hk33,hk34⟩:=HH
      have p35:0≤(x6:Int):=of_decide_eq_true (by first|(with_reducible assumption)|assumption)
      have q35:x6<(l0.length:Int):=of_decide_eq_true (by first|(with_reducible assumption)|assumption)
      obtain⟨ad35,A35_0,c35_0,e35,hx35_0,hl35_0,hi35_0⟩:=atF_L2 HF0.out x6 p35 q35
      cases e35
      have HF35_0:=za hi35_0
      clear hi35_0 hl35_0
      replace p35:=eq_true p35
      replace q35:=eq_true q35
      replace HH:=zqt HH
      rcases HH with⟨HH,hk37,hk38⟩|⟨HH,hk57,hk58⟩
      ·replace HH:=zqdo HH
       obtain⟨HH,hk40⟩:=HH
       have p41:0≤(x27:Int):=of_decide_eq_true (by first|(with_reducible assumption)|assumption)
       have q41:x27<((rd_L2 l0 x6).length:Int):=of_decide_eq_true (by first|(with_reducible assumption)|assumption)
       obtain⟨ad41,e41,hx41_0,hx41_1⟩:=atF_T53 HF35_0.out x27 p41 q41
       cases e41
       replace p41:=eq_true p41
       replace q41:=eq_true q41
       replace HH:=zd HH
       obtain⟨t42,At43,HH⟩:=HH
       go_wp2_with ((with_reducible refine gc 16 rfl ?_);refine zc 16 (some 45) Try.func16 #[.string ((rd_T53 (rd_L2 l0 x6) x27).f0)] (h:=?_);(with_reducible refine(toponymref18_Word.calls k28  ((rd_T53 (rd_L2 l0 x6) x27).f0) t42 _  At43.out).mono ?_);rintro e w' ⟨rfl,⟨nd,rfl⟩⟩;refine⟨_,rfl,?_⟩)
       refine zg ?_
       by_cases c45:t42=true
       ·replace HH:=MW.hpos HH c45
        subst c45
        replace HH:=zqe HH
        rcases HH with⟨HH,hk47,hk48⟩|⟨HH,hk49,hk50⟩
        ·obtain rfl:=Option.some.inj HH.out
         clear HH
         go_wp2
         go_ret
         exact⟨by first|rfl|(simp;done)|(simp[*];done),by repeat(first|exact Drawn0.refl _|apply Drawn0.step)⟩
        replace HH:=zqK 400 HH
        rcases HH with⟨HH,hk52,hk53⟩|⟨HH,hk54,hk55⟩
        ·obtain rfl:=Option.some.inj HH.out
         clear HH
         go_wp2
         go_ret
         exact⟨by first|rfl|(simp;done)|(simp[*];done),by repeat(first|exact Drawn0.refl _|apply Drawn0.step)⟩
        go_wp2
        go_roundg k28
        case measure=>have:=HK0.out;have:=HK1.out;omega
        case rel=>exact⟨wrap64 (x27+1),(by first|rfl|(simp;done)|(simp[*];done)),HH,⟨by have:=HK0.out;have:=HK1.out;omega⟩,by repeat(first|exact Drawn0.refl _|apply Drawn0.step)⟩
       replace HH:=MW.hneg HH c45
       replace c45:=Bool.eq_false_iff.mpr c45
       subst c45
       obtain rfl:=Option.some.inj HH.out
       clear HH
       go_wp2
       go_ret
       exact⟨by first|rfl|(simp;done)|(simp[*];done),by repeat(first|exact Drawn0.refl _|apply Drawn0.step)⟩
      go_wp2
      go_roundg k28
      case measure=>have:=HK0.out;have:=HK1.out;omega
      case rel=>exact⟨wrap64 (x6+1),(by first|rfl|(simp;done)|(simp[*];done)),HH,⟨by have:=HK0.out;have:=HK1.out;omega⟩,by repeat(first|exact Drawn0.refl _|apply Drawn0.step)⟩
   obtain rfl:=Option.some.inj HH.out
   clear HH
   go_wp2
   go_ret
   exact⟨by first|rfl|(simp;done)|(simp[*];done),by repeat(first|exact Drawn0.refl _|apply Drawn0.step)⟩

def toponymref18_hex.f (a0:Int):Option (Int):=if a0<10 then(some ((48+a0) % 256)) else(some ((87+a0) % 256))
set_option maxHeartbeats 8000000 in
set_option maxRecDepth 100000 in
theorem toponymref18_hex.calls (a0:Int) (r:Int) (w:World) (h:toponymref18_hex.f a0=some r):
  Calls Try.prog 44 #[.int .u8 a0] w (fun e w'=>e=.returned (.int .u8 r)∧Drawn0 w w'):=by
 unfold toponymref18_hex.f at h
 have HH:=za h
 clear h
 go_enter Try.func44,Try.ntmps44
 replace HH:=zqt HH
 rcases HH with⟨HH,hk2,hk3⟩|⟨HH,hk4,hk5⟩
 ·obtain rfl:=Option.some.inj HH.out
  clear HH
  go_wp2
  go_ret
  exact⟨by first|rfl|(simp;done)|(simp[*];done),by repeat(first|exact Drawn0.refl _|apply Drawn0.step)⟩
 obtain rfl:=Option.some.inj HH.out
 clear HH
 go_wp2
 go_ret
 exact⟨by first|rfl|(simp;done)|(simp[*];done),by repeat(first|exact Drawn0.refl _|apply Drawn0.step)⟩

def toponymref18_sign.f (a0:Int):Option (Bool):=(some (if a0=44 then(true) else((a0==43)):Bool)).bind fun b1=>((some (if b1=true then(true) else(if a0=34 then(true) else((a0==92))):Bool)).bind fun b4=>((some (if b4=true then(true) else(if a0=60 then(true) else((a0==62))):Bool)).bind fun b8=>((some (if b8=true then(true) else(if a0=59 then(true) else((a0==61))):Bool)).bind fun b12=>(some b12))))
noncomputable def toponymref18_sign.ops:List Oper:=match Try.f45.body with
 |some (.seq _ (.seq (.region _ o _) _))=>o.toList
 |_=>[]
set_option maxHeartbeats 8000000 in
set_option maxRecDepth 100000 in
theorem toponymref18_sign.p0 {Q:Exit→Act→World→Prop} (OPS:Array Oper) (hO:OPS=toponymref18_sign.ops.toArray) (a0:Int) (r:Bool) (w:World) (af0:Act) (hs:af0.tmps.size=33) (hd:af0.defers=[]) (ep0:af0.eval (.tmp 0)=.int .u8 a0) (h:((some (if a0=44 then(true) else((a0==43)):Bool)).bind fun b1=>((some (if b1=true then(true) else(if a0=34 then(true) else((a0==92))):Bool)).bind fun b4=>((some (if b4=true then(true) else(if a0=60 then(true) else((a0==62))):Bool)).bind fun b8=>((some (if b8=true then(true) else(if a0=59 then(true) else((a0==61))):Bool)).bind fun b12=>(some b12)))))=some r) (fin:∀ a':Act,a'.tmps.size=33→a'.defers=[]→a'.eval (.tmp 2)=.bool r→Q .normal a' w):wpList Try.prog OPS Q (toponymref18_sign.ops.drop 0) af0 w:=by
 have HH:=za h
 clear h
 have H2:(OPS[2]?).bind (·.dst)=some 5:=by rw[hO];rfl
 have H6:(OPS[6]?).bind (·.dst)=some 9:=by rw[hO];rfl
 have H10:(OPS[10]?).bind (·.dst)=some 13:=by rw[hO];rfl
 have H14:(OPS[14]?).bind (·.dst)=some 17:=by rw[hO];rfl
 have H18:(OPS[18]?).bind (·.dst)=some 21:=by rw[hO];rfl
 have H22:(OPS[22]?).bind (·.dst)=some 25:=by rw[hO];rfl
 have H26:(OPS[26]?).bind (·.dst)=some 29:=by rw[hO];rfl
 replace hO:=(Stop.go hO:Stop _ (.mk _))
 replace fin:=(Stop.go fin:Stop _ (.mk _))
 simp only[toponymref18_sign.ops,Try.f45,List.append_eq,List.cons_append,List.nil_append,List.drop_succ_cons,List.drop_zero,List.take_succ_cons,List.take_zero]
 obtain⟨E2,hE2⟩:∃ e_:Bool,e_=(if a0=44 then(true) else((a0==43))):=⟨_,rfl⟩
 replace hE2:=za hE2
 refine MW.list_cut 6 (fun a_ w_=>∃ b_:Bool,b_=E2∧a_.tmps.size=33∧a_.defers=[]∧a_.eval (.tmp 0)=.int .u8 a0∧a_.eval (.tmp 8)=.bool b_∧w=w_) (fun K_ hK_=>?seg) (fun af1 w_ hc_=>?rest)
 case seg=>
  simp only[List.take_succ_cons,List.take_zero,List.take_nil]
  clear HH
  by_cases c3:a0=44
  ·refine yA 3 (.int .u8 a0) hs hd rfl (yM ep0) fun _ hs hd S0 N0=>?_
   refine yA 4 (.bool true) hs hd rfl (yC c3 S0) fun _ hs hd S1 N1=>?_
   refine yA 5 (.bool true) hs hd rfl (yM S1) fun _ hs hd S2 N2=>?_
   refine yK 6 hs hd (yW H2 S2) fun _ hs hd S3 N3=>?_
   refine yK 7 hs hd (yW H2 (zN N3 S2)) fun _ hs hd S4 N4=>?_
   refine yA 8 (.bool true) hs hd rfl (yP (zN N4 (zN N3 S2)) rfl) fun _ hs hd S5 N5=>?_
   exact wpList_nil (hK_ _ _ (Stop.go ⟨true,Eq.trans (by first|rfl|(rw[if_pos c3];rfl)|(simp[*];done)) hE2.out.symm,hs,hd,(zN N5 (zN N4 (zN N3 (zN N2 (zN N1 (zN N0 ep0)))))),S5,rfl⟩))
  refine yA 3 (.int .u8 a0) hs hd rfl (yM ep0) fun _ hs hd S0 N0=>?_
  refine yA 4 (.bool false) hs hd rfl (yD c3 S0) fun _ hs hd S1 N1=>?_
  refine yA 5 (.bool false) hs hd rfl (yM S1) fun _ hs hd S2 N2=>?_
  refine yA 6 (.int .u8 a0) hs hd (yW H2 S2) (yM (zN N2 (zN N1 (zN N0 ep0)))) fun _ hs hd S3 N3=>?_
  refine yA 7 (.bool (a0==43)) hs hd (yW H2 (zN N3 S2)) (yB S3) fun _ hs hd S4 N4=>?_
  refine yA 8 (.bool (a0==43)) hs hd rfl (yQ (zN N4 (zN N3 S2)) S4) fun _ hs hd S5 N5=>?_
  exact wpList_nil (hK_ _ _ (Stop.go ⟨(a0==43),Eq.trans (by first|rfl|(rw[if_neg c3];rfl)|(simp[*];done)) hE2.out.symm,hs,hd,(zN N5 (zN N4 (zN N3 (zN N2 (zN N1 (zN N0 ep0)))))),S5,rfl⟩))
 case rest=>
  clear hs hd ep0
  obtain⟨b1,hb_,hs,hd,ep1,es1,rfl⟩:=hc_
  simp only[List.drop_succ_cons,List.drop_zero,List.drop_nil]
  have H:=MW.bind_step HH.out (hb_.trans hE2.out)
  replace HH:=za H
  clear H hb_ hE2
  obtain⟨E5,hE5⟩:∃ e_:Bool,e_=(if b1=true then(true) else(if a0=34 then(true) else((a0==92)))):=⟨_,rfl⟩
  replace hE5:=za hE5
  refine MW.list_cut 8 (fun a_ w_=>∃ b_:Bool,b_=E5∧a_.tmps.size=33∧a_.defers=[]∧a_.eval (.tmp 0)=.int .u8 a0∧a_.eval (.tmp 16)=.bool b_∧w=w_) (fun K_ hK_=>?seg) (fun af2 w_ hc_=>?rest)
  case seg=>
   simp only[List.take_succ_cons,List.take_zero,List.take_nil]
   clear HH
   by_cases c6:b1=true
   ·subst c6
    refine yA 9 (.bool true) hs hd rfl (yM es1) fun _ hs hd S0 N0=>?_
    refine yK 10 hs hd (yW H6 S0) fun _ hs hd S1 N1=>?_
    refine yK 11 hs hd (yW H6 (zN N1 S0)) fun _ hs hd S2 N2=>?_
    refine yA 12 (.bool true) hs hd rfl (yP (zN N2 (zN N1 S0)) rfl) fun _ hs hd S3 N3=>?_
    refine yA 13 (.bool true) hs hd rfl (yM S3) fun _ hs hd S4 N4=>?_
    refine yK 14 hs hd (yW H10 S4) fun _ hs hd S5 N5=>?_
    refine yK 15 hs hd (yW H10 (zN N5 S4)) fun _ hs hd S6 N6=>?_
    refine yA 16 (.bool true) hs hd rfl (yP (zN N6 (zN N5 S4)) rfl) fun _ hs hd S7 N7=>?_
    exact wpList_nil (hK_ _ _ (Stop.go ⟨true,Eq.trans (by first|rfl|(rw[];rfl)|(simp[*];done)) hE5.out.symm,hs,hd,(zN N7 (zN N6 (zN N5 (zN N4 (zN N3 (zN N2 (zN N1 (zN N0 ep1)))))))),S7,rfl⟩))
   replace c6:=Bool.eq_false_iff.mpr c6
   subst c6
   by_cases c7:a0=34
   ·refine yA 9 (.bool false) hs hd rfl (yM es1) fun _ hs hd S0 N0=>?_
    refine yA 10 (.int .u8 a0) hs hd (yW H6 S0) (yM (zN N0 ep1)) fun _ hs hd S1 N1=>?_
    refine yA 11 (.bool true) hs hd (yW H6 (zN N1 S0)) (yC c7 S1) fun _ hs hd S2 N2=>?_
    refine yA 12 (.bool true) hs hd rfl (yQ (zN N2 (zN N1 S0)) S2) fun _ hs hd S3 N3=>?_
    refine yA 13 (.bool true) hs hd rfl (yM S3) fun _ hs hd S4 N4=>?_
    refine yK 14 hs hd (yW H10 S4) fun _ hs hd S5 N5=>?_
    refine yK 15 hs hd (yW H10 (zN N5 S4)) fun _ hs hd S6 N6=>?_
    refine yA 16 (.bool true) hs hd rfl (yP (zN N6 (zN N5 S4)) rfl) fun _ hs hd S7 N7=>?_
    exact wpList_nil (hK_ _ _ (Stop.go ⟨true,Eq.trans (by first|rfl|(rw[if_pos c7];rfl)|(simp[*];done)) hE5.out.symm,hs,hd,(zN N7 (zN N6 (zN N5 (zN N4 (zN N3 (zN N2 (zN N1 (zN N0 ep1)))))))),S7,rfl⟩))
   refine yA 9 (.bool false) hs hd rfl (yM es1) fun _ hs hd S0 N0=>?_
   refine yA 10 (.int .u8 a0) hs hd (yW H6 S0) (yM (zN N0 ep1)) fun _ hs hd S1 N1=>?_
   refine yA 11 (.bool false) hs hd (yW H6 (zN N1 S0)) (yD c7 S1) fun _ hs hd S2 N2=>?_
   refine yA 12 (.bool false) hs hd rfl (yQ (zN N2 (zN N1 S0)) S2) fun _ hs hd S3 N3=>?_
   refine yA 13 (.bool false) hs hd rfl (yM S3) fun _ hs hd S4 N4=>?_
   refine yA 14 (.int .u8 a0) hs hd (yW H10 S4) (yM (zN N4 (zN N3 (zN N2 (zN N1 (zN N0 ep1)))))) fun _ hs hd S5 N5=>?_
   refine yA 15 (.bool (a0==92)) hs hd (yW H10 (zN N5 S4)) (yB S5) fun _ hs hd S6 N6=>?_
   refine yA 16 (.bool (a0==92)) hs hd rfl (yQ (zN N6 (zN N5 S4)) S6) fun _ hs hd S7 N7=>?_
   exact wpList_nil (hK_ _ _ (Stop.go ⟨(a0==92),Eq.trans (by first|rfl|(rw[if_neg c7];rfl)|(simp[*];done)) hE5.out.symm,hs,hd,(zN N7 (zN N6 (zN N5 (zN N4 (zN N3 (zN N2 (zN N1 (zN N0 ep1)))))))),S7,rfl⟩))
  case rest=>
   clear hs hd ep1 es1
   obtain⟨b4,hb_,hs,hd,ep2,es2,rfl⟩:=hc_
   simp only[List.drop_succ_cons,List.drop_zero,List.drop_nil]
   have H:=MW.bind_step HH.out (hb_.trans hE5.out)
   replace HH:=za H
   clear H hb_ hE5
   obtain⟨E9,hE9⟩:∃ e_:Bool,e_=(if b4=true then(true) else(if a0=60 then(true) else((a0==62)))):=⟨_,rfl⟩
   replace hE9:=za hE9
   refine MW.list_cut 8 (fun a_ w_=>∃ b_:Bool,b_=E9∧a_.tmps.size=33∧a_.defers=[]∧a_.eval (.tmp 0)=.int .u8 a0∧a_.eval (.tmp 24)=.bool b_∧w=w_) (fun K_ hK_=>?seg) (fun af3 w_ hc_=>?rest)
   case seg=>
    simp only[List.take_succ_cons,List.take_zero,List.take_nil]
    clear HH
    by_cases c10:b4=true
    ·subst c10
     refine yA 17 (.bool true) hs hd rfl (yM es2) fun _ hs hd S0 N0=>?_
     refine yK 18 hs hd (yW H14 S0) fun _ hs hd S1 N1=>?_
     refine yK 19 hs hd (yW H14 (zN N1 S0)) fun _ hs hd S2 N2=>?_
     refine yA 20 (.bool true) hs hd rfl (yP (zN N2 (zN N1 S0)) rfl) fun _ hs hd S3 N3=>?_
     refine yA 21 (.bool true) hs hd rfl (yM S3) fun _ hs hd S4 N4=>?_
     refine yK 22 hs hd (yW H18 S4) fun _ hs hd S5 N5=>?_
     refine yK 23 hs hd (yW H18 (zN N5 S4)) fun _ hs hd S6 N6=>?_
     refine yA 24 (.bool true) hs hd rfl (yP (zN N6 (zN N5 S4)) rfl) fun _ hs hd S7 N7=>?_
     exact wpList_nil (hK_ _ _ (Stop.go ⟨true,Eq.trans (by first|rfl|(rw[];rfl)|(simp[*];done)) hE9.out.symm,hs,hd,(zN N7 (zN N6 (zN N5 (zN N4 (zN N3 (zN N2 (zN N1 (zN N0 ep2)))))))),S7,rfl⟩))
    replace c10:=Bool.eq_false_iff.mpr c10
    subst c10
    by_cases c11:a0=60
    ·refine yA 17 (.bool false) hs hd rfl (yM es2) fun _ hs hd S0 N0=>?_
     refine yA 18 (.int .u8 a0) hs hd (yW H14 S0) (yM (zN N0 ep2)) fun _ hs hd S1 N1=>?_
     refine yA 19 (.bool true) hs hd (yW H14 (zN N1 S0)) (yC c11 S1) fun _ hs hd S2 N2=>?_
     refine yA 20 (.bool true) hs hd rfl (yQ (zN N2 (zN N1 S0)) S2) fun _ hs hd S3 N3=>?_
     refine yA 21 (.bool true) hs hd rfl (yM S3) fun _ hs hd S4 N4=>?_
     refine yK 22 hs hd (yW H18 S4) fun _ hs hd S5 N5=>?_
     refine yK 23 hs hd (yW H18 (zN N5 S4)) fun _ hs hd S6 N6=>?_
     refine yA 24 (.bool true) hs hd rfl (yP (zN N6 (zN N5 S4)) rfl) fun _ hs hd S7 N7=>?_
     exact wpList_nil (hK_ _ _ (Stop.go ⟨true,Eq.trans (by first|rfl|(rw[if_pos c11];rfl)|(simp[*];done)) hE9.out.symm,hs,hd,(zN N7 (zN N6 (zN N5 (zN N4 (zN N3 (zN N2 (zN N1 (zN N0 ep2)))))))),S7,rfl⟩))
    refine yA 17 (.bool false) hs hd rfl (yM es2) fun _ hs hd S0 N0=>?_
    refine yA 18 (.int .u8 a0) hs hd (yW H14 S0) (yM (zN N0 ep2)) fun _ hs hd S1 N1=>?_
    refine yA 19 (.bool false) hs hd (yW H14 (zN N1 S0)) (yD c11 S1) fun _ hs hd S2 N2=>?_
    refine yA 20 (.bool false) hs hd rfl (yQ (zN N2 (zN N1 S0)) S2) fun _ hs hd S3 N3=>?_
    refine yA 21 (.bool false) hs hd rfl (yM S3) fun _ hs hd S4 N4=>?_
    refine yA 22 (.int .u8 a0) hs hd (yW H18 S4) (yM (zN N4 (zN N3 (zN N2 (zN N1 (zN N0 ep2)))))) fun _ hs hd S5 N5=>?_
    refine yA 23 (.bool (a0==62)) hs hd (yW H18 (zN N5 S4)) (yB S5) fun _ hs hd S6 N6=>?_
    refine yA 24 (.bool (a0==62)) hs hd rfl (yQ (zN N6 (zN N5 S4)) S6) fun _ hs hd S7 N7=>?_
    exact wpList_nil (hK_ _ _ (Stop.go ⟨(a0==62),Eq.trans (by first|rfl|(rw[if_neg c11];rfl)|(simp[*];done)) hE9.out.symm,hs,hd,(zN N7 (zN N6 (zN N5 (zN N4 (zN N3 (zN N2 (zN N1 (zN N0 ep2)))))))),S7,rfl⟩))
   case rest=>
    clear hs hd ep2 es2
    obtain⟨b8,hb_,hs,hd,ep3,es3,rfl⟩:=hc_
    simp only[List.drop_succ_cons,List.drop_zero,List.drop_nil]
    have H:=MW.bind_step HH.out (hb_.trans hE9.out)
    replace HH:=za H
    clear H hb_ hE9
    obtain⟨E13,hE13⟩:∃ e_:Bool,e_=(if b8=true then(true) else(if a0=59 then(true) else((a0==61)))):=⟨_,rfl⟩
    replace hE13:=za hE13
    refine MW.list_cut 9 (fun a_ w_=>∃ b_:Bool,b_=E13∧a_.tmps.size=33∧a_.defers=[]∧a_.eval (.tmp 0)=.int .u8 a0∧a_.eval (.tmp 2)=.bool b_∧w=w_) (fun K_ hK_=>?seg) (fun af4 w_ hc_=>?rest)
    case seg=>
     simp only[List.take_succ_cons,List.take_zero,List.take_nil]
     clear HH
     by_cases c14:b8=true
     ·subst c14
      refine yA 25 (.bool true) hs hd rfl (yM es3) fun _ hs hd S0 N0=>?_
      refine yK 26 hs hd (yW H22 S0) fun _ hs hd S1 N1=>?_
      refine yK 27 hs hd (yW H22 (zN N1 S0)) fun _ hs hd S2 N2=>?_
      refine yA 28 (.bool true) hs hd rfl (yP (zN N2 (zN N1 S0)) rfl) fun _ hs hd S3 N3=>?_
      refine yA 29 (.bool true) hs hd rfl (yM S3) fun _ hs hd S4 N4=>?_
      refine yK 30 hs hd (yW H26 S4) fun _ hs hd S5 N5=>?_
      refine yK 31 hs hd (yW H26 (zN N5 S4)) fun _ hs hd S6 N6=>?_
      refine yA 32 (.bool true) hs hd rfl (yP (zN N6 (zN N5 S4)) rfl) fun _ hs hd S7 N7=>?_
      refine yA 2 (.bool true) hs hd rfl (MW.ab_assign rfl S7) fun _ hs hd S8 N8=>?_
      exact wpList_nil (hK_ _ _ (Stop.go ⟨true,Eq.trans (by first|rfl|(rw[];rfl)|(simp[*];done)) hE13.out.symm,hs,hd,(zN N8 (zN N7 (zN N6 (zN N5 (zN N4 (zN N3 (zN N2 (zN N1 (zN N0 ep3))))))))),S8,rfl⟩))
     replace c14:=Bool.eq_false_iff.mpr c14
     subst c14
     by_cases c15:a0=59
     ·refine yA 25 (.bool false) hs hd rfl (yM es3) fun _ hs hd S0 N0=>?_
      refine yA 26 (.int .u8 a0) hs hd (yW H22 S0) (yM (zN N0 ep3)) fun _ hs hd S1 N1=>?_
      refine yA 27 (.bool true) hs hd (yW H22 (zN N1 S0)) (yC c15 S1) fun _ hs hd S2 N2=>?_
      refine yA 28 (.bool true) hs hd rfl (yQ (zN N2 (zN N1 S0)) S2) fun _ hs hd S3 N3=>?_
      refine yA 29 (.bool true) hs hd rfl (yM S3) fun _ hs hd S4 N4=>?_
      refine yK 30 hs hd (yW H26 S4) fun _ hs hd S5 N5=>?_
      refine yK 31 hs hd (yW H26 (zN N5 S4)) fun _ hs hd S6 N6=>?_
      refine yA 32 (.bool true) hs hd rfl (yP (zN N6 (zN N5 S4)) rfl) fun _ hs hd S7 N7=>?_
      refine yA 2 (.bool true) hs hd rfl (MW.ab_assign rfl S7) fun _ hs hd S8 N8=>?_
      exact wpList_nil (hK_ _ _ (Stop.go ⟨true,Eq.trans (by first|rfl|(rw[if_pos c15];rfl)|(simp[*];done)) hE13.out.symm,hs,hd,(zN N8 (zN N7 (zN N6 (zN N5 (zN N4 (zN N3 (zN N2 (zN N1 (zN N0 ep3))))))))),S8,rfl⟩))
     refine yA 25 (.bool false) hs hd rfl (yM es3) fun _ hs hd S0 N0=>?_
     refine yA 26 (.int .u8 a0) hs hd (yW H22 S0) (yM (zN N0 ep3)) fun _ hs hd S1 N1=>?_
     refine yA 27 (.bool false) hs hd (yW H22 (zN N1 S0)) (yD c15 S1) fun _ hs hd S2 N2=>?_
     refine yA 28 (.bool false) hs hd rfl (yQ (zN N2 (zN N1 S0)) S2) fun _ hs hd S3 N3=>?_
     refine yA 29 (.bool false) hs hd rfl (yM S3) fun _ hs hd S4 N4=>?_
     refine yA 30 (.int .u8 a0) hs hd (yW H26 S4) (yM (zN N4 (zN N3 (zN N2 (zN N1 (zN N0 ep3)))))) fun _ hs hd S5 N5=>?_
     refine yA 31 (.bool (a0==61)) hs hd (yW H26 (zN N5 S4)) (yB S5) fun _ hs hd S6 N6=>?_
     refine yA 32 (.bool (a0==61)) hs hd rfl (yQ (zN N6 (zN N5 S4)) S6) fun _ hs hd S7 N7=>?_
     refine yA 2 (.bool (a0==61)) hs hd rfl (MW.ab_assign rfl S7) fun _ hs hd S8 N8=>?_
     exact wpList_nil (hK_ _ _ (Stop.go ⟨(a0==61),Eq.trans (by first|rfl|(rw[if_neg c15];rfl)|(simp[*];done)) hE13.out.symm,hs,hd,(zN N8 (zN N7 (zN N6 (zN N5 (zN N4 (zN N3 (zN N2 (zN N1 (zN N0 ep3))))))))),S8,rfl⟩))
    case rest=>
     clear hs hd ep3 es3
     obtain⟨b12,hb_,hs,hd,ep4,es4,rfl⟩:=hc_
     simp only[List.drop_succ_cons,List.drop_zero,List.drop_nil]
     have H:=MW.bind_step HH.out (hb_.trans hE13.out)
     replace HH:=za H
     clear H hb_ hE13
     obtain rfl:=Option.some.inj HH.out
     exact wpList_nil (fin.out _ hs hd es4)
set_option maxHeartbeats 8000000 in
set_option maxRecDepth 100000 in
theorem toponymref18_sign.calls (a0:Int) (r:Bool) (w:World) (h:toponymref18_sign.f a0=some r):
  Calls Try.prog 45 #[.int .u8 a0] w (fun e w'=>e=.returned (.bool r)∧Drawn0 w w'):=by
 have HH:=za h
 clear h
 unfold toponymref18_sign.f at HH
 go_enter Try.func45,Try.ntmps45
 repeat(first|(refine MW.region_ops (id:=1) ?_)|go_step)
 intro OPS hO
 refine toponymref18_sign.p0 OPS hO a0 r w _ (by kernel_rfl) (by kernel_rfl) (by kernel_rfl) HH.out ?_
 intro a' hs hd es
 repeat go_step
 refine bodyPost_ret (results_tmp rfl _ _ _) hd ?_
 exact⟨congrArg Ending.returned es,Drawn0.refl _⟩
end Go.Proofs.Ytapinanmmhdpcaa.GA

namespace Go.Proofs.Ytapinanmmhdpcaa.GA
open Go.RowKit Go.Proofs.Ytapinanmmhdpcaa Go.Proofs.Ytapinanmmhdpcaa.MW Go.Proofs.YtapinanmmhdpcaaW.PrintWords Go.Proofs.YtapinanmmhdpcaaW.PrintLast Go.Proofs.YtapinanmmhdpcaaW.PrintMore
attribute [local go_sem] max2_int min2_int max_two min_two
set_option linter.unusedVariables false
set_option linter.unusedSimpArgs false
attribute [local go_sem high] eqA53
mutual
def toponymref18_Same.l0:Nat→Int→(List (List (S53)))→(List (List (S53)))→Option (Bool)
 |0,_,_,_=>none
 |k+1,x5,l0,l1=>if x5<(l0.length:Int) then(if 0≤x5 then(if x5<(l1.length:Int) then(if ((rd_L2 l0 x5).length:Int)=((rd_L2 l1 x5).length:Int) then((toponymref18_Same.l1 k 0 l0 l1 x5)) else(some false)) else(none)) else(none)) else(some true)
def toponymref18_Same.l1:Nat→Int→(List (List (S53)))→(List (List (S53)))→Int→Option (Bool)
 |0,_,_,_,_=>none
 |k+1,x22,l0,l1,x5=>if 0≤x5 then(if x5<(l0.length:Int) then(if x22<((rd_L2 l0 x5).length:Int) then(if 0≤x22 then(if x5<(l1.length:Int) then(if x22<((rd_L2 l1 x5).length:Int) then(if (!(((rd_T53 (rd_L2 l0 x5) x22).f0).toList==((rd_T53 (rd_L2 l1 x5) x22).f0).toList) || (!(((rd_T53 (rd_L2 l0 x5) x22).f1).toList==((rd_T53 (rd_L2 l1 x5) x22).f1).toList)))=true then(some false) else((toponymref18_Same.l1 k (wrap64 (x22+1)) l0 l1 x5))) else(none)) else(none)) else(none)) else((toponymref18_Same.l0 k (wrap64 (x5+1)) l0 l1))) else(none)) else(none)
end
def toponymref18_Same.f (k:Nat) (l0:List (List (S53))) (l1:List (List (S53))):Option (Bool):=if (l0.length:Int)=(l1.length:Int) then((toponymref18_Same.l0 k 0 l0 l1)) else(some false)
theorem toponymref18_Same.mono_l:∀ k,(∀ y0 y1 y2,LeO (toponymref18_Same.l0 k y0 y1 y2) (toponymref18_Same.l0 (k+1) y0 y1 y2))∧(∀ y0 y1 y2 y3,LeO (toponymref18_Same.l1 k y0 y1 y2 y3) (toponymref18_Same.l1 (k+1) y0 y1 y2 y3))
 |0=>⟨fun _ _ _ r h=>by simp[toponymref18_Same.l0] at h,fun _ _ _ _ r h=>by simp[toponymref18_Same.l1] at h⟩
 |k+1=>by
  obtain⟨ih0,ih1⟩:=toponymref18_Same.mono_l k
  refine⟨?_,?_⟩
  ·intro y0 y1 y2
   unfold toponymref18_Same.l0
   with_reducible repeat' first|exact ih0 _ _ _|exact ih1 _ _ _ _|exact LeO.refl _|exact LeO.none _|refine LeO.ite ?_ ?_|refine LeO.bind ?_ (fun _=>?_)
  intro y0 y1 y2 y3
  unfold toponymref18_Same.l1
  with_reducible repeat' first|exact ih0 _ _ _|exact ih1 _ _ _ _|exact LeO.refl _|exact LeO.none _|refine LeO.ite ?_ ?_|refine LeO.bind ?_ (fun _=>?_)
theorem toponymref18_Same.mono:∀ a0_ a1_ k,LeO (toponymref18_Same.f k a0_ a1_) (toponymref18_Same.f (k+1) a0_ a1_):=by
 intro a0_ a1_ k
 obtain⟨ih0,ih1⟩:=toponymref18_Same.mono_l k
 unfold toponymref18_Same.f
 with_reducible repeat' first|exact ih0 _ _ _|exact ih1 _ _ _ _|exact LeO.refl _|exact LeO.none _|refine LeO.ite ?_ ?_|refine LeO.bind ?_ (fun _=>?_)
set_option maxHeartbeats 8000000 in
set_option maxRecDepth 100000 in
theorem toponymref18_Same.calls (k:Nat) (P_:Nat→Prop) (A0:Option Addr) (c0:Nat) (l0:List (List (S53))) (A1:Option Addr) (c1:Nat) (l1:List (List (S53))) (r:Bool) (w:World) (hs0:Kd.F (Kd.slice 53 k53) w P_ A0 l0.length l0) (hc0:l0.length≤c0) (hs1:Kd.F (Kd.slice 53 k53) w P_ A1 l1.length l1) (hc1:l1.length≤c1) (h:toponymref18_Same.f k l0 l1=some r):
  Calls Try.prog 18 #[.slice A0 l0.length c0,.slice A1 l1.length c1] w (fun e w'=>e=.returned (.bool r)∧Drawn0 w w'):=by
 unfold toponymref18_Same.f at h
 have HH:=za h
 clear h
 have HF0:=zfp hs0
 clear hs0 hc0
 have HF1:=zfp hs1
 clear hs1 hc1
 have hu53:=Try.underlying53
 go_enter Try.func18,Try.ntmps18
 by_cases c1:(l0.length:Int)=(l1.length:Int)
 ·replace HH:=MW.hpos HH c1
  have hk2:((l0.length:Int)==(l1.length:Int))=true:=beq_iff_eq.mpr c1
  have hk3:((l0.length:Int) != (l1.length:Int))=false:=bne_eq_false_iff_eq.mpr c1
  have hk4:(l0.length==l1.length)=true:=by first|simpa using c1|(simp at c1 ⊢;omega)
  clear c1
  go_wp2
  go_loopg [5] k (fun kq u5 w'=>∃ (x5:Int),u5=.int .i64 x5∧Aside0 ((toponymref18_Same.l0 kq x5 l0 l1)=some r)∧Aside0 (kq≤k)∧Drawn0 w w')
  case atStart=>exact⟨0,(by first|rfl|(simp;done)|(simp[*];done)),HH,⟨Nat.le_refl _⟩,by repeat(first|exact Drawn0.refl _|apply Drawn0.step)⟩
  case round=>
   clear hk2
   clear hk3
   clear hk4
   clear HH
   obtain⟨x5,rfl,HA,HK0,⟨m0_,rfl⟩⟩:=hrel
   cases gk with
   |zero=>exact absurd HA.out (by simp[toponymref18_Same.l0])
   |succ k6=>
    have H:=HA.out
    clear HA
    simp only[toponymref18_Same.l0] at H
    have HH:=za H
    clear H
    replace HH:=zqt HH
    rcases HH with⟨HH,hk9,hk10⟩|⟨HH,hk64,hk65⟩
    ·replace HH:=zqdo HH
     obtain⟨HH,hk12⟩:=HH
     have p13:0≤(x5:Int):=of_decide_eq_true (by first|(with_reducible assumption)|assumption)
     have q13:x5<(l0.length:Int):=of_decide_eq_true (by first|(with_reducible assumption)|assumption)
     obtain⟨ad13,A13_0,c13_0,e13,hx13_0,hl13_0,hi13_0⟩:=atF_L2 HF0.out x5 p13 q13
     cases e13
     clear hi13_0 hl13_0
     replace p13:=eq_true p13
     replace q13:=eq_true q13
     replace HH:=zqto HH
     obtain⟨HH,hk15,hk16⟩:=HH
     have p17:0≤(x5:Int):=of_decide_eq_true (by first|(with_reducible assumption)|assumption)
     have q17:x5<(l1.length:Int):=of_decide_eq_true (by first|(with_reducible assumption)|assumption)
     obtain⟨ad17,A17_0,c17_0,e17,hx17_0,hl17_0,hi17_0⟩:=atF_L2 HF1.out x5 p17 q17
     cases e17
     clear hi17_0 hl17_0
     replace p17:=eq_true p17
     replace q17:=eq_true q17
     by_cases c18:((rd_L2 l0 x5).length:Int)=((rd_L2 l1 x5).length:Int)
     ·replace HH:=MW.hpos HH c18
      have hk19:(((rd_L2 l0 x5).length:Int)==((rd_L2 l1 x5).length:Int))=true:=beq_iff_eq.mpr c18
      have hk20:(((rd_L2 l0 x5).length:Int) != ((rd_L2 l1 x5).length:Int))=false:=bne_eq_false_iff_eq.mpr c18
      have hk21:((rd_L2 l0 x5).length==(rd_L2 l1 x5).length)=true:=by first|simpa using c18|(simp at c18 ⊢;omega)
      clear c18
      go_wp2
      go_quiet (fail)
      go_wp2
      go_loopg [6] k6 (fun kq u6 w'=>∃ (x22:Int),u6=.int .i64 x22∧Aside0 ((toponymref18_Same.l1 kq x22 l0 l1 x5)=some r)∧Aside0 (kq≤k6)∧Drawn0 w w')
      case atStart=>exact⟨0,(by first|rfl|(simp;done)|(simp[*];done)),HH,⟨Nat.le_refl _⟩,by repeat(first|exact Drawn0.refl _|apply Drawn0.step)⟩
      case round=>
       clear hx13_0 p13 q13 hx17_0 p17 q17
       clear hk9
       clear hk10
       clear hk12
       clear hk15
       clear hk16
       clear hk19
       clear hk20
       clear hk21
       clear HH
       obtain⟨x22,rfl,HA,HK1,⟨m1_,rfl⟩⟩:=hrel
       cases gk with
       |zero=>exact absurd HA.out (by simp[toponymref18_Same.l1])
       |succ k23=>
        have H:=HA.out
        clear HA
        simp only[toponymref18_Same.l1] at H
        have HH:=za H
        clear H
        replace HH:=zqdo HH
        obtain⟨HH,hk26⟩:=HH
        replace HH:=zqto HH
        obtain⟨HH,hk28,hk29⟩:=HH
        have p30:0≤(x5:Int):=of_decide_eq_true (by first|(with_reducible assumption)|assumption)
        have q30:x5<(l0.length:Int):=of_decide_eq_true (by first|(with_reducible assumption)|assumption)
        obtain⟨ad30,A30_0,c30_0,e30,hx30_0,hl30_0,hi30_0⟩:=atF_L2 HF0.out x5 p30 q30
        cases e30
        have HF30_0:=za hi30_0
        clear hi30_0 hl30_0
        replace p30:=eq_true p30
        replace q30:=eq_true q30
        replace HH:=zqt HH
        rcases HH with⟨HH,hk32,hk33⟩|⟨HH,hk53,hk54⟩
        ·replace HH:=zqdo HH
         obtain⟨HH,hk35⟩:=HH
         have p36:0≤(x22:Int):=of_decide_eq_true (by first|(with_reducible assumption)|assumption)
         have q36:x22<((rd_L2 l0 x5).length:Int):=of_decide_eq_true (by first|(with_reducible assumption)|assumption)
         obtain⟨ad36,e36,hx36_0,hx36_1⟩:=atF_T53 HF30_0.out x22 p36 q36
         cases e36
         replace p36:=eq_true p36
         replace q36:=eq_true q36
         replace HH:=zqto HH
         obtain⟨HH,hk38,hk39⟩:=HH
         have p40:0≤(x5:Int):=of_decide_eq_true (by first|(with_reducible assumption)|assumption)
         have q40:x5<(l1.length:Int):=of_decide_eq_true (by first|(with_reducible assumption)|assumption)
         obtain⟨ad40,A40_0,c40_0,e40,hx40_0,hl40_0,hi40_0⟩:=atF_L2 HF1.out x5 p40 q40
         cases e40
         have HF40_0:=za hi40_0
         clear hi40_0 hl40_0
         replace p40:=eq_true p40
         replace q40:=eq_true q40
         replace HH:=zqto HH
         obtain⟨HH,hk42,hk43⟩:=HH
         have p44:0≤(x22:Int):=of_decide_eq_true (by first|(with_reducible assumption)|assumption)
         have q44:x22<((rd_L2 l1 x5).length:Int):=of_decide_eq_true (by first|(with_reducible assumption)|assumption)
         obtain⟨ad44,e44,hx44_0,hx44_1⟩:=atF_T53 HF40_0.out x22 p44 q44
         cases e44
         replace p44:=eq_true p44
         replace q44:=eq_true q44
         by_cases c45:(!(((rd_T53 (rd_L2 l0 x5) x22).f0).toList==((rd_T53 (rd_L2 l1 x5) x22).f0).toList) || (!(((rd_T53 (rd_L2 l0 x5) x22).f1).toList==((rd_T53 (rd_L2 l1 x5) x22).f1).toList)))=true
         ·replace HH:=MW.hpos HH c45
          have hk46:(!(((rd_T53 (rd_L2 l0 x5) x22).f0).toList==((rd_T53 (rd_L2 l1 x5) x22).f0).toList) || (!(((rd_T53 (rd_L2 l0 x5) x22).f1).toList==((rd_T53 (rd_L2 l1 x5) x22).f1).toList)))=true:=c45
          clear c45
          obtain rfl:=Option.some.inj HH.out
          clear HH
          go_wp2
          go_quiet (fail)
          go_wp2
          go_ret
          exact⟨by first|rfl|(simp;done)|(simp[*];done),by repeat(first|exact Drawn0.refl _|apply Drawn0.step)⟩
         replace HH:=MW.hneg HH c45
         have hk47:(!(((rd_T53 (rd_L2 l0 x5) x22).f0).toList==((rd_T53 (rd_L2 l1 x5) x22).f0).toList) || (!(((rd_T53 (rd_L2 l0 x5) x22).f1).toList==((rd_T53 (rd_L2 l1 x5) x22).f1).toList)))=false:=by simpa using c45
         clear c45
         go_wp2
         go_quiet (fail)
         go_wp2
         go_roundg k23
         case measure=>have:=HK0.out;have:=HK1.out;omega
         case rel=>exact⟨wrap64 (x22+1),(by first|rfl|(simp;done)|(simp[*];done)),HH,⟨by have:=HK0.out;have:=HK1.out;omega⟩,by repeat(first|exact Drawn0.refl _|apply Drawn0.step)⟩
        go_wp2
        go_roundg k23
        case measure=>have:=HK0.out;have:=HK1.out;omega
        case rel=>exact⟨wrap64 (x5+1),(by first|rfl|(simp;done)|(simp[*];done)),HH,⟨by have:=HK0.out;have:=HK1.out;omega⟩,by repeat(first|exact Drawn0.refl _|apply Drawn0.step)⟩
     replace HH:=MW.hneg HH c18
     have hk58:(((rd_L2 l0 x5).length:Int)==((rd_L2 l1 x5).length:Int))=false:=beq_eq_false_iff_ne.mpr c18
     have hk59:(((rd_L2 l0 x5).length:Int) != ((rd_L2 l1 x5).length:Int))=true:=bne_iff_ne.mpr c18
     have hk60:((rd_L2 l0 x5).length==(rd_L2 l1 x5).length)=false:=by first|simpa using c18|(simp at c18 ⊢;omega)
     clear c18
     obtain rfl:=Option.some.inj HH.out
     clear HH
     go_wp2
     go_quiet (fail)
     go_wp2
     go_ret
     exact⟨by first|rfl|(simp;done)|(simp[*];done),by repeat(first|exact Drawn0.refl _|apply Drawn0.step)⟩
    obtain rfl:=Option.some.inj HH.out
    clear HH
    go_wp2
    go_ret
    exact⟨by first|rfl|(simp;done)|(simp[*];done),by repeat(first|exact Drawn0.refl _|apply Drawn0.step)⟩
 replace HH:=MW.hneg HH c1
 have hk66:((l0.length:Int)==(l1.length:Int))=false:=beq_eq_false_iff_ne.mpr c1
 have hk67:((l0.length:Int) != (l1.length:Int))=true:=bne_iff_ne.mpr c1
 have hk68:(l0.length==l1.length)=false:=by first|simpa using c1|(simp at c1 ⊢;omega)
 clear c1
 obtain rfl:=Option.some.inj HH.out
 clear HH
 go_wp2
 go_ret
 exact⟨by first|rfl|(simp;done)|(simp[*];done),by repeat(first|exact Drawn0.refl _|apply Drawn0.step)⟩
end Go.Proofs.Ytapinanmmhdpcaa.GA

namespace Go.Proofs.Ytapinanmmhdpcaa.GA
open Go.RowKit Go.Proofs.Ytapinanmmhdpcaa Go.Proofs.Ytapinanmmhdpcaa.MW Go.Proofs.YtapinanmmhdpcaaW.PrintWords Go.Proofs.YtapinanmmhdpcaaW.PrintLast Go.Proofs.YtapinanmmhdpcaaW.PrintMore
attribute [local go_sem] max2_int min2_int max_two min_two
set_option linter.unusedVariables false
set_option linter.unusedSimpArgs false
def dn_Below.f (k:Nat) (l0:List (List (S53))) (l1:List (S53)):Option ((List (List (S53))) × Int):=(dn_Check.f k l0).bind fun t1=>(if t1=0 then(if (l0.length:Int)≥6 then(some (([]:List (List (S53))),220)) else((dn_Check.f k ([l1]:List (List (S53)))).bind fun t19=>(if t19=0 then((Clone_33.f l1).bind fun t25=>((dn_copied.f k l0).bind fun t36=>(if ([t25]:List (List (S53))).length+t36.length<5864062014805 then((some (([t25]:List (List (S53)))++t36:List (List (S53)))).bind fun y45=>(some (y45,0))) else(none)))) else(some (([]:List (List (S53))),220))))) else(some (([]:List (List (S53))),220)))
theorem dn_Below.mono:∀ a0_ a1_ k,LeO (dn_Below.f k a0_ a1_) (dn_Below.f (k+1) a0_ a1_):=by
 intro a0_ a1_ k
 unfold dn_Below.f
 with_reducible repeat' first|exact dn_Check.mono _ _|exact dn_copied.mono _ _|exact LeO.refl _|exact LeO.none _|refine LeO.ite ?_ ?_|refine LeO.bind ?_ (fun _=>?_)
set_option maxHeartbeats 8000000 in
set_option maxRecDepth 100000 in
theorem dn_Below.calls (k:Nat) (P_:Nat→Prop) (A0:Option Addr) (c0:Nat) (l0:List (List (S53))) (A1:Option Addr) (c1:Nat) (l1:List (S53)) (r1:List (List (S53))) (r2:Int) (w:World) (hs0:Kd.F (Kd.slice 53 k53) w P_ A0 l0.length l0) (hc0:l0.length≤c0) (hs1:Kd.F k53 w P_ A1 l1.length l1) (hc1:l1.length≤c1) (h:dn_Below.f k l0 l1=some (r1,r2)):
  Calls Try.prog 19 #[.slice A0 l0.length c0,.slice A1 l1.length c1] w (fun e w'=>∃ v0_:Value,e=.returned (.tuple #[v0_,.int .i64 r2])∧Kd.N (Kd.slice 53 k53) 39 w' w.heap.size (fun k_=>P_ k_∨w.heap.size≤k_) v0_ r1∧Below w.heap.size w w'):=by
 unfold dn_Below.f at h
 have HH:=za h
 clear h
 have HF0:=zfp hs0
 have HL0:=za hc0
 clear hs0 hc0
 have HF1:=zfp hs1
 have HL1:=za hc1
 clear hs1 hc1
 have HB:=za (Below.refl w.heap.size w)
 go_enter Try.func19,Try.ntmps19
 replace HH:=zd HH
 obtain⟨t1,At2,HH⟩:=HH
 go_wp2_with ((with_reducible refine gc 13 rfl ?_);refine zc 13 (some 7) Try.func13 #[.slice A0 l0.length c0] (h:=?_);(with_reducible refine(dn_Check.calls k (fun k_=>(P_ k_∨w.heap.size≤k_)) _ _ l0 t1 _ HF0.out HL0.out At2.out).mono ?_);rintro e w3 ⟨rfl,hb⟩;refine⟨_,rfl,?_⟩)
 refine zg ?_
 replace HF0:=zfb HF0.out hb
 replace HF1:=zfb HF1.out hb
 replace HB:=zhb HB.out hb
 clear hb
 replace HH:=zqe HH
 rcases HH with⟨HH,hk5,hk6⟩|⟨HH,hk51,hk52⟩
 ·by_cases c7:(l0.length:Int)≥6
  ·replace HH:=MW.hpos HH c7
   have hk8:decide (6≤(l0.length:Int))=true:=decide_eq_true c7
   have hk9:decide (6≤l0.length)=true:=decide_eq_true (by omega)
   clear c7
   have H:=HH.out
   simp only[Option.some.injEq,Prod.mk.injEq] at H
   obtain⟨rfl,rfl⟩:=H
   clear HH
   go_wp2
   go_ret2
   exact⟨_,by first|rfl|(simp;done)|(simp[*];done),(Kd.N_nil _ _ _ _ _),HB.out⟩
  replace HH:=MW.hneg HH c7
  have hk10:decide (6≤(l0.length:Int))=false:=decide_eq_false c7
  have hk11:decide (6≤l0.length)=false:=decide_eq_false (by omega)
  clear c7
  go_wp2_with (((with_reducible refine gate_dst (N:=16) rfl ?_);(try(refine gate_guard (by rfl) ?_;dsimp only));refine Kd.N_lit (Kd.slice 53 k53) w.heap.size 39 rfl (N':=16) rfl (xs:=([l1]:List (List (S53)))) (inner:=[.slice A1 l1.length c1]) (ok:=(fun k_=>(P_ k_∨w.heap.size≤k_))) (okp:=(fun k_=>(P_ k_∨w.heap.size≤k_))) ?hr ?hp (fun _ hk_=>hk_) ?hf HB.out (below_size HB.out) (by first|simp|decide) ?_;(case hr=>first|(go_simp;done)|(go_simp;rfl));(case hp=>exact(Reps.one (Kd.FK_slice_mk HL1.out HF1.out) (Reps.none _ _)));(case hf=>exact(show ∀ k_,w3.heap.size≤k_→(fun k_=>(P_ k_∨w.heap.size≤k_)) k_ from fun k_ h_=>.inr (Nat.le_trans (below_size HB.out) h_)) _ (Nat.le_refl _));intro v12 w13 hn1 hb1 hg1 hat1);replace hat1:=za hat1;refine stop_ ?_)
  refine zg ?_
  replace hat1:=hat1.out
  have hbe:=MW.grown_below hg1
  have hba:=MW.base_of hat1
  replace HF0:=za (Kd.F_mono (Kd.F_elder' (ok:=(fun k_=>(P_ k_∨w.heap.size≤k_))) HF0.out hba hbe) (fun k_ hk_=>hk_):Kd.F (Kd.slice 53 k53) _ (fun k_=>(P_ k_∨w.heap.size≤k_)∧some k_≠(v12:Value).ownBlock) _ _ _)
  replace HF1:=za (Kd.F_mono (Kd.F_elder' (ok:=(fun k_=>(P_ k_∨w.heap.size≤k_))) HF1.out hba hbe) (fun k_ hk_=>hk_):Kd.F k53 _ (fun k_=>(P_ k_∨w.heap.size≤k_)∧some k_≠(v12:Value).ownBlock) _ _ _)
  replace HB:=za hb1
  have HN14:=za hn1
  clear hn1 hb1 hg1 hat1 hbe hba
  obtain⟨A15,cp16,he_⟩:=Kd.N_slice HN14.out
  subst he_
  have HL18:=za (Kd.N_reads' HN14.out).2.1
  have HF17:=za (Kd.N_F HN14.out)
  clear HN14
  replace HF0:=za (Kd.F_mono (ok:=(fun k_=>(P_ k_∨w.heap.size≤k_)∧some k_≠((.slice A15 ([l1]:List (List (S53))).length cp16):Value).ownBlock)) HF0.out (fun k_ hk_=>hk_.1):Kd.F (Kd.slice 53 k53) _ (fun k_=>(P_ k_∨w.heap.size≤k_)) _ _ _)
  replace HF1:=za (Kd.F_mono (ok:=(fun k_=>(P_ k_∨w.heap.size≤k_)∧some k_≠((.slice A15 ([l1]:List (List (S53))).length cp16):Value).ownBlock)) HF1.out (fun k_ hk_=>hk_.1):Kd.F k53 _ (fun k_=>(P_ k_∨w.heap.size≤k_)) _ _ _)
  replace HH:=zd HH
  obtain⟨t19,At20,HH⟩:=HH
  go_wp2_with ((with_reducible refine gc 13 rfl ?_);refine zc 13 (some 17) Try.func13 #[.slice A15 ([l1]:List (List (S53))).length cp16] (h:=?_);(with_reducible refine(dn_Check.calls k (fun k_=>(P_ k_∨w.heap.size≤k_)) _ _ ([l1]:List (List (S53))) t19 _ HF17.out HL18.out At20.out).mono ?_);rintro e w21 ⟨rfl,hb⟩;refine⟨_,rfl,?_⟩)
  refine zg ?_
  replace HF0:=zfb HF0.out hb
  replace HF1:=zfb HF1.out hb
  replace HB:=zhb HB.out hb
  clear hb
  replace HH:=zqe HH
  rcases HH with⟨HH,hk23,hk24⟩|⟨HH,hk49,hk50⟩
  ·replace HH:=zd HH
   obtain⟨t25,At26,HH⟩:=HH
   go_wp2_with ((with_reducible refine gc 33 rfl ?_);refine zc 33 (some 21) Try.func33 #[.slice A1 l1.length c1] (h:=?_);(with_reducible refine(Clone_33.calls (fun k_=>(P_ k_∨w.heap.size≤k_)) _ _ l1 t25 _ HF1.out HL1.out At26.out).mono ?_);rintro e w27 ⟨v28,rfl,hn28,hb⟩;refine⟨_,rfl,?_⟩)
   refine zg ?_
   have hba:=Kd.N_base hn28
   have HN28:=znl (ok2:=(fun k_=>(P_ k_∨w.heap.size≤k_))) hn28 (below_size HB.out) (fun k_ hk_=>hk_.elim (fun h_=>h_) (fun h_=>.inr (Nat.le_trans (below_size HB.out) h_)))
   replace HF0:=zfr (v:=v28) HF0.out hba hb
   replace HB:=zhb HB.out hb
   clear hn28 hba hb
   obtain⟨A29,cp30,he_⟩:=Kd.N_slice HN28.out
   subst he_
   have HL32:=za (Kd.N_reads' HN28.out).2.1
   have HF31:=za (Kd.N_F HN28.out)
   clear HN28
   replace HF0:=za (Kd.F_mono (ok:=(fun k_=>(P_ k_∨w.heap.size≤k_)∧some k_≠((.slice A29 t25.length cp30):Value).ownBlock)) HF0.out (fun k_ hk_=>hk_.1):Kd.F (Kd.slice 53 k53) _ (fun k_=>(P_ k_∨w.heap.size≤k_)) _ _ _)
   go_wp2_with (((with_reducible refine gate_dst (N:=22) rfl ?_);(try(refine gate_guard (by rfl) ?_;dsimp only));refine Kd.N_lit (Kd.slice 53 k53) w.heap.size 39 rfl (N':=22) rfl (xs:=([t25]:List (List (S53)))) (inner:=[.slice A29 t25.length cp30]) (ok:=(fun k_=>(P_ k_∨w.heap.size≤k_))) (okp:=(fun k_=>(P_ k_∨w.heap.size≤k_))) ?hr ?hp (fun _ hk_=>hk_) ?hf HB.out (below_size HB.out) (by first|simp|decide) ?_;(case hr=>first|(go_simp;done)|(go_simp;rfl));(case hp=>exact(Reps.one (Kd.FK_slice_mk HL32.out HF31.out) (Reps.none _ _)));(case hf=>exact(show ∀ k_,w27.heap.size≤k_→(fun k_=>(P_ k_∨w.heap.size≤k_)) k_ from fun k_ h_=>.inr (Nat.le_trans (below_size HB.out) h_)) _ (Nat.le_refl _));intro v33 w34 hn1 hb1 hg1 hat1);replace hat1:=za hat1;refine stop_ ?_)
   refine zg ?_
   replace hat1:=hat1.out
   have hbe:=MW.grown_below hg1
   have hba:=MW.base_of hat1
   replace HF0:=za (Kd.F_mono (Kd.F_elder' (ok:=(fun k_=>(P_ k_∨w.heap.size≤k_))) HF0.out hba hbe) (fun k_ hk_=>hk_):Kd.F (Kd.slice 53 k53) _ (fun k_=>(P_ k_∨w.heap.size≤k_)∧some k_≠(v33:Value).ownBlock) _ _ _)
   replace HB:=za hb1
   have HN35:=za hn1
   clear hn1 hb1 hg1 hat1 hbe hba
   replace HH:=zd HH
   obtain⟨t36,At37,HH⟩:=HH
   go_wp2_with ((with_reducible refine gc 34 rfl ?_);refine zc 34 (some 24) Try.func34 #[.slice A0 l0.length c0] (h:=?_);(with_reducible refine(dn_copied.calls k (fun k_=>(P_ k_∨w.heap.size≤k_)∧some k_≠(v33:Value).ownBlock) _ _ l0 t36 _ HF0.out HL0.out At37.out).mono ?_);rintro e w38 ⟨v39,rfl,hn39,hb⟩;refine⟨_,rfl,?_⟩)
   refine zg ?_
   have hba:=Kd.N_base hn39
   have HN39:=znl (ok2:=(fun k_=>(P_ k_∨w.heap.size≤k_)∧some k_≠(v33:Value).ownBlock)) hn39 (below_size HB.out) (fun k_ hk_=>hk_.elim (fun h_=>h_) (fun h_=>⟨.inr (Nat.le_trans (below_size HB.out) h_),Kd.fresh' (Kd.N_lt HN35.out) k_ h_⟩))
   replace HN35:=znr (u:=v39) HN35.out hba hb
   replace HB:=zhb HB.out hb
   clear hn39 hba hb
   obtain⟨A40,cp41,he_⟩:=Kd.N_slice HN39.out
   subst he_
   have HF42:=za (Kd.N_F HN39.out)
   clear HN39
   replace HN35:=za (Kd.N_mono (ok:=(fun k_=>(P_ k_∨w.heap.size≤k_)∧some k_≠((.slice A40 t36.length cp41):Value).ownBlock)) HN35.out (fun k_ hk_=>hk_.1):Kd.N (Kd.slice 53 k53) _ _ _ (fun k_=>(P_ k_∨w.heap.size≤k_)) _ _)
   obtain⟨HH,LMc44⟩:=zlm HH
   obtain⟨y45,hy45⟩:∃ y_:List (List (S53)),y_=(([t25]:List (List (S53)))++t36):=⟨_,rfl⟩
   have H:(some (y45,0))=some (r1,r2):=by rw[hy45];exact HH.out
   replace HH:=za H
   clear H
   have NYy45:=za hy45
   clear hy45
   go_wp2_with (((with_reducible refine gate_dst (N:=25) rfl ?_);(try(refine gate_guard (by rfl) ?_;dsimp only));refine Kd.N_append_rows (Kd.slice 53 k53) w.heap.size rfl _ _ 23 39 (.slice none 0 0) 24 rfl Try.underlying23 info39 rfl (by decide) (by decide) (v33) ([t25]:List (List (S53))) t36 _ _ _ (fun k_=>(P_ k_∨w.heap.size≤k_)) (fun k_=>(fun k_=>(P_ k_∨w.heap.size≤k_)) k_∧some k_≠(v33:Value).ownBlock) rfl rfl HN35.out (Kd.F_mono (ok:=(fun k_=>(P_ k_∨w.heap.size≤k_)∧some k_≠(v33:Value).ownBlock)) HF42.out (fun k_ hk_=>⟨hk_.1,hk_.2⟩)) (fun _ hk_=>hk_) (fun k_ h_=>.inr (Nat.le_trans (below_size HB.out) h_)) HB.out (below_size HB.out) (by first|(have:=LMc44.out;simp only[List.length_nil] at *;omega)|(have:=LMc44.out;simp at *;omega)) ?_;intro v46 w47 hn1 hb1 hg1 hat1);replace hat1:=za hat1;refine stop_ ?_)
   refine zg ?_
   replace hat1:=hat1.out
   replace HB:=za hb1
   clear HN35
   have HN48:=za hn1
   clear hn1 hb1 hg1 hat1
   replace HN48:=za (by rw[NYy45.out];exact HN48.out:Kd.N (Kd.slice 53 k53) 39 w47 w.heap.size (fun k_=>(P_ k_∨w.heap.size≤k_)) v46 y45)
   have H:=HH.out
   simp only[Option.some.injEq,Prod.mk.injEq] at H
   obtain⟨rfl,rfl⟩:=H
   clear HH
   go_wp2
   go_ret2
   exact⟨_,by first|rfl|(simp;done)|(simp[*];done),(Kd.N_mono (ok:=(fun k_=>(P_ k_∨w.heap.size≤k_))) HN48.out (fun k_ hk_=>hk_)),HB.out⟩
  have H:=HH.out
  simp only[Option.some.injEq,Prod.mk.injEq] at H
  obtain⟨rfl,rfl⟩:=H
  clear HH
  go_wp2
  go_ret2
  exact⟨_,by first|rfl|(simp;done)|(simp[*];done),(Kd.N_nil _ _ _ _ _),HB.out⟩
 have H:=HH.out
 simp only[Option.some.injEq,Prod.mk.injEq] at H
 obtain⟨rfl,rfl⟩:=H
 clear HH
 go_wp2
 go_ret2
 exact⟨_,by first|rfl|(simp;done)|(simp[*];done),(Kd.N_nil _ _ _ _ _),HB.out⟩

def toponymref18_cut.l0:Nat→(List ByteArray)→Int→Int→ByteArray→Int→Option (List ByteArray)
 |0,_,_,_,_,_=>none
 |k+1,x1,x4,x5,a0,a1=>if x5<(a0.size:Int) then(if 0≤x5 then(if (bt a0 x5)=92 then((toponymref18_cut.l0 k x1 x4 (wrap64 ((wrap64 (x5+1))+1)) a0 a1)) else(if (bt a0 x5)=a1 then(if 0≤x4 then(if x4≤x5 then(if x5≤(a0.size:Int) then((some (a0.extract x4.toNat x5.toNat)).bind fun y29=>(if x1.length<8796093022208 then((some (x1++[y29]:List ByteArray)).bind fun y31=>((toponymref18_cut.l0 k y31 (wrap64 (x5+1)) (wrap64 (x5+1)) a0 a1))) else(none))) else(none)) else(none)) else(none)) else((toponymref18_cut.l0 k x1 x4 (wrap64 (x5+1)) a0 a1)))) else(none)) else(if 0≤x4 then(if x4≤(a0.size:Int) then(if x1.length<8796093022208 then((some (x1++[a0.extract x4.toNat a0.size]:List ByteArray)).bind fun y49=>(some y49)) else(none)) else(none)) else(none))
def toponymref18_cut.f (k:Nat) (a0:ByteArray) (a1:Int):Option (List ByteArray):=(toponymref18_cut.l0 k ([]:List ByteArray) 0 0 a0 a1)
theorem toponymref18_cut.mono_l:∀ k,(∀ y0 y1 y2 y3 y4,LeO (toponymref18_cut.l0 k y0 y1 y2 y3 y4) (toponymref18_cut.l0 (k+1) y0 y1 y2 y3 y4))
 |0=>fun _ _ _ _ _ r h=>by simp[toponymref18_cut.l0] at h
 |k+1=>by
  have ih0:=toponymref18_cut.mono_l k
  ·intro y0 y1 y2 y3 y4
   unfold toponymref18_cut.l0
   with_reducible repeat' first|exact ih0 _ _ _ _ _|exact LeO.refl _|exact LeO.none _|refine LeO.ite ?_ ?_|refine LeO.bind ?_ (fun _=>?_)
theorem toponymref18_cut.mono:∀ a0_ a1_ k,LeO (toponymref18_cut.f k a0_ a1_) (toponymref18_cut.f (k+1) a0_ a1_):=by
 intro a0_ a1_ k
 have ih0:=toponymref18_cut.mono_l k
 unfold toponymref18_cut.f
 with_reducible repeat' first|exact ih0 _ _ _ _ _|exact LeO.refl _|exact LeO.none _|refine LeO.ite ?_ ?_|refine LeO.bind ?_ (fun _=>?_)
set_option maxHeartbeats 8000000 in
set_option maxRecDepth 100000 in
theorem toponymref18_cut.calls (k:Nat) (a0:ByteArray) (a1:Int) (r:List ByteArray) (w:World) (h:toponymref18_cut.f k a0 a1=some r):
  Calls Try.prog 35 #[.string a0,.int .u8 a1] w (fun e w'=>∃ v0_:Value,e=.returned (v0_)∧Kd.N Kd.string 9 w' w.heap.size (fun k_=>w.heap.size≤k_) v0_ r∧Below w.heap.size w w'):=by
 unfold toponymref18_cut.f at h
 have HH:=za h
 clear h
 have HB:=za (Below.refl w.heap.size w)
 go_enter Try.func35,Try.ntmps35
 go_wp2
 go_loopg [5,6,7] k (fun kq u5 u6 u7 w'=>∃ (x1:List ByteArray) (x4:Int) (x5:Int),u6=.int .i64 x4∧u7=.int .i64 x5∧Aside0 ((toponymref18_cut.l0 kq x1 x4 x5 a0 a1)=some r)∧Aside0 (kq≤k)∧Aside0 (Kd.N Kd.string 9 w' w.heap.size (fun k_=>(w.heap.size≤k_)) u5 x1)∧Aside0 (Below w.heap.size w w'))
 case atStart=>exact⟨([]:List ByteArray),0,0,(by first|rfl|(simp;done)|(simp[*];done)),(by first|rfl|(simp;done)|(simp[*];done)),HH,⟨Nat.le_refl _⟩,⟨Kd.N_nil _ _ _ _ _⟩,⟨HB.out⟩⟩
 case round=>
  clear HH
  clear HB
  obtain⟨x1,x4,x5,rfl,rfl,HA,HK0,HN3,HB⟩:=hrel
  obtain⟨v2,rfl⟩:∃ z_:Value,z_=u5:=⟨_,rfl⟩
  obtain⟨w7,rfl⟩:∃ wo_:World,wo_=wr:=⟨_,rfl⟩
  cases gk with
  |zero=>exact absurd HA.out (by simp[toponymref18_cut.l0])
  |succ k6=>
   have H:=HA.out
   clear HA
   simp only[toponymref18_cut.l0] at H
   have HH:=za H
   clear H
   replace HH:=zqt HH
   rcases HH with⟨HH,hk9,hk10⟩|⟨HH,hk41,hk42⟩
   ·replace HH:=zqdo HH
    obtain⟨HH,hk12⟩:=HH
    have p13:0≤(x5:Int):=of_decide_eq_true (by first|(with_reducible assumption)|assumption)
    have q13:x5<(a0.size:Int):=of_decide_eq_true (by first|(with_reducible assumption)|assumption)
    have hx13:=MW.bt_at' a0 x5
    replace p13:=eq_true p13
    replace q13:=eq_true q13
    replace HH:=zqe HH
    rcases HH with⟨HH,hk15,hk16⟩|⟨HH,hk17,hk18⟩
    ·go_wp2
     go_roundg k6
     case measure=>have:=HK0.out;omega
     case rel=>exact⟨x1,x4,wrap64 ((wrap64 (x5+1))+1),(by first|rfl|(simp;done)|(simp[*];done)),(by first|rfl|(simp;done)|(simp[*];done)),HH,⟨by have:=HK0.out;omega⟩,⟨(Kd.N_mono (ok:=(fun k_=>(w.heap.size≤k_))) HN3.out (fun k_ hk_=>hk_))⟩,⟨HB.out⟩⟩
    replace HH:=zqe HH
    rcases HH with⟨HH,hk20,hk21⟩|⟨HH,hk38,hk39⟩
    ·replace HH:=zqdo HH
     obtain⟨HH,hk23⟩:=HH
     replace HH:=zqdo HH
     obtain⟨HH,hk25⟩:=HH
     replace HH:=zqdo HH
     obtain⟨HH,hk27⟩:=HH
     obtain⟨y29,hy29⟩:∃ y_:ByteArray,y_=(a0.extract x4.toNat x5.toNat):=⟨_,rfl⟩
     have H:(if x1.length<8796093022208 then((some (x1++[y29]:List ByteArray)).bind fun y31=>((toponymref18_cut.l0 k6 y31 (wrap64 (x5+1)) (wrap64 (x5+1)) a0 a1))) else(none))=some r:=by rw[hy29];exact HH.out
     replace HH:=za H
     clear H
     have hcty29:a0.extract x4.toNat x5.toNat=y29:=hy29.symm
     have NYy29:=za hy29
     clear hy29
     have hmx28:max (x5:Int) 0=(x5:Int):=Int.max_eq_left (Int.le_trans (by first|exact Int.natCast_nonneg _|exact(of_decide_eq_true (by first|(with_reducible assumption)|assumption|(simp;done)):0≤(x4:Int))) (by first|exact Int.le_refl _|exact(of_decide_eq_true (by first|(with_reducible assumption)|assumption|(simp;done)):(x4:Int)≤(x5:Int))))
     have hh028:(0≤(x5:Int))=True:=eq_true (Int.le_trans (by first|exact Int.natCast_nonneg _|exact(of_decide_eq_true (by first|(with_reducible assumption)|assumption|(simp;done)):0≤(x4:Int))) (by first|exact Int.le_refl _|exact(of_decide_eq_true (by first|(with_reducible assumption)|assumption|(simp;done)):(x4:Int)≤(x5:Int))))
     have hh128:((x4:Int)≤(x5:Int))=True:=eq_true (by first|exact Int.le_refl _|exact(of_decide_eq_true (by first|(with_reducible assumption)|assumption|(simp;done)):(x4:Int)≤(x5:Int)))
     have hh228:(0≤(x4:Int))=True:=eq_true (by first|exact Int.natCast_nonneg _|exact(of_decide_eq_true (by first|(with_reducible assumption)|assumption|(simp;done)):0≤(x4:Int)))
     have hh328:((x5:Int)≤(a0.size:Int))=True:=eq_true (of_decide_eq_true (by first|(with_reducible assumption)|assumption|(simp;done)):(x5:Int)≤(a0.size:Int))
     obtain⟨HH,LMc30⟩:=zlm HH
     obtain⟨y31,hy31⟩:∃ y_:List ByteArray,y_=(x1++[y29]):=⟨_,rfl⟩
     have H:((toponymref18_cut.l0 k6 y31 (wrap64 (x5+1)) (wrap64 (x5+1)) a0 a1))=some r:=by rw[hy31];exact HH.out
     replace HH:=za H
     clear H
     have NYy31:=za hy31
     clear hy31
     go_wp2_with (((with_reducible refine gate_dst (N:=31) rfl ?_);(try(refine gate_guard (by rfl) ?_;dsimp only));refine Kd.N_append Kd.string w.heap.size rfl _ _ 54 9 (.string ⟨#[]⟩) 16 rfl Try.underlying54 info9 rfl (by decide) (by decide) (v2) x1 y29 [.string y29] (fun k_=>(w.heap.size≤k_)) (fun k_=>(fun k_=>(w.heap.size≤k_)) k_∧some k_≠(v2:Value).ownBlock) rfl rfl (fun _ _=>rfl) (fun _ hk_=>hk_) (fun k_ h_=>(Nat.le_trans (below_size (by repeat(first|(with_reducible first|exact HB.out|apply below_alloc|apply pw_below_drewN|apply below_drew1)|exact HB.out))) h_)) (by(with_reducible repeat(first|apply Kd.N_alloc|apply Kd.N_drewN|apply Kd.N_drew));exact HN3.out) (by repeat(first|(with_reducible first|exact HB.out|apply below_alloc|apply pw_below_drewN|apply below_drew1)|exact HB.out)) (below_size (by repeat(first|(with_reducible first|exact HB.out|apply below_alloc|apply pw_below_drewN|apply below_drew1)|exact HB.out))) (by first|(have:=LMc30.out;omega)|(have:=LMc30.out;simp at *;omega)) ?_;intro v32 w33 hn1 hb1 hg1 hat1);replace hat1:=za hat1;refine stop_ ?_)
     refine zg ?_
     replace hat1:=hat1.out
     replace HB:=za hb1
     clear HN3
     have HN34:=za hn1
     clear hn1 hb1 hg1 hat1
     replace HN34:=za (by rw[NYy31.out];exact HN34.out:Kd.N Kd.string 9 w33 w.heap.size (fun k_=>(w.heap.size≤k_)) v32 y31)
     clear hmx28 hh028 hh128 hh228 hh328 hcty29
     go_wp2
     go_roundg k6
     case measure=>have:=HK0.out;omega
     case rel=>exact⟨y31,wrap64 (x5+1),wrap64 (x5+1),(by first|rfl|(simp;done)|(simp[*];done)),(by first|rfl|(simp;done)|(simp[*];done)),HH,⟨by have:=HK0.out;omega⟩,⟨(Kd.N_mono (ok:=(fun k_=>(w.heap.size≤k_))) HN34.out (fun k_ hk_=>hk_))⟩,⟨HB.out⟩⟩
    go_wp2
    go_roundg k6
    case measure=>have:=HK0.out;omega
    case rel=>exact⟨x1,x4,wrap64 (x5+1),(by first|rfl|(simp;done)|(simp[*];done)),(by first|rfl|(simp;done)|(simp[*];done)),HH,⟨by have:=HK0.out;omega⟩,⟨(Kd.N_mono (ok:=(fun k_=>(w.heap.size≤k_))) HN3.out (fun k_ hk_=>hk_))⟩,⟨HB.out⟩⟩
   replace HH:=zqdo HH
   obtain⟨HH,hk44⟩:=HH
   replace HH:=zqdo HH
   obtain⟨HH,hk46⟩:=HH
   have hh047:(0≤(x4:Int))=True:=eq_true (by first|exact Int.natCast_nonneg _|exact(of_decide_eq_true (by first|(with_reducible assumption)|assumption|(simp;done)):0≤(x4:Int)))
   have hh147:((x4:Int)≤((a0.size:Int):Int))=True:=eq_true (by first|exact Int.le_refl _|exact(of_decide_eq_true (by first|(with_reducible assumption)|assumption|(simp;done)):(x4:Int)≤((a0.size:Int):Int)))
   obtain⟨HH,LMc48⟩:=zlm HH
   obtain⟨y49,hy49⟩:∃ y_:List ByteArray,y_=(x1++[a0.extract x4.toNat a0.size]):=⟨_,rfl⟩
   have H:(some y49)=some r:=by rw[hy49];exact HH.out
   replace HH:=za H
   clear H
   have NYy49:=za hy49
   clear hy49
   go_wp2_with (((with_reducible refine gate_dst (N:=39) rfl ?_);(try(refine gate_guard (by rfl) ?_;dsimp only));refine Kd.N_append Kd.string w.heap.size rfl _ _ 54 9 (.string ⟨#[]⟩) 16 rfl Try.underlying54 info9 rfl (by decide) (by decide) (v2) x1 (a0.extract x4.toNat a0.size) [.string (a0.extract x4.toNat a0.size)] (fun k_=>(w.heap.size≤k_)) (fun k_=>(fun k_=>(w.heap.size≤k_)) k_∧some k_≠(v2:Value).ownBlock) rfl rfl (fun _ _=>rfl) (fun _ hk_=>hk_) (fun k_ h_=>(Nat.le_trans (below_size (by repeat(first|(with_reducible first|exact HB.out|apply below_alloc|apply pw_below_drewN|apply below_drew1)|exact HB.out))) h_)) (by(with_reducible repeat(first|apply Kd.N_alloc|apply Kd.N_drewN|apply Kd.N_drew));exact HN3.out) (by repeat(first|(with_reducible first|exact HB.out|apply below_alloc|apply pw_below_drewN|apply below_drew1)|exact HB.out)) (below_size (by repeat(first|(with_reducible first|exact HB.out|apply below_alloc|apply pw_below_drewN|apply below_drew1)|exact HB.out))) (by first|(have:=LMc48.out;omega)|(have:=LMc48.out;simp at *;omega)) ?_;intro v50 w51 hn1 hb1 hg1 hat1);replace hat1:=za hat1;refine stop_ ?_)
   refine zg ?_
   replace hat1:=hat1.out
   replace HB:=za hb1
   clear HN3
   have HN52:=za hn1
   clear hn1 hb1 hg1 hat1
   replace HN52:=za (by rw[NYy49.out];exact HN52.out:Kd.N Kd.string 9 w51 w.heap.size (fun k_=>(w.heap.size≤k_)) v50 y49)
   clear hh047 hh147
   obtain rfl:=Option.some.inj HH.out
   clear HH
   go_wp2
   go_ret
   exact⟨_,by first|rfl|(simp;done)|(simp[*];done),(Kd.N_mono (ok:=(fun k_=>(w.heap.size≤k_))) HN52.out (fun k_ hk_=>hk_)),HB.out⟩

def toponymref18_unhex.f (a0:Int):Option (Int):=if a0≥48 then(if a0≤57 then(some (wrap64 ((wrap64 (a0)) - 48))) else(if a0≥97 then(if a0≤102 then(some (wrap64 ((wrap64 (a0)) - 87))) else(if a0≥65 then(if a0≤70 then(some (wrap64 ((wrap64 (a0)) - 55))) else(some 16)) else(some 16))) else(if a0≥65 then(if a0≤70 then(some (wrap64 ((wrap64 (a0)) - 55))) else(some 16)) else(some 16)))) else(if a0≥97 then(if a0≤102 then(some (wrap64 ((wrap64 (a0)) - 87))) else(if a0≥65 then(if a0≤70 then(some (wrap64 ((wrap64 (a0)) - 55))) else(some 16)) else(some 16))) else(if a0≥65 then(if a0≤70 then(some (wrap64 ((wrap64 (a0)) - 55))) else(some 16)) else(some 16)))
set_option maxHeartbeats 8000000 in
set_option maxRecDepth 100000 in
theorem toponymref18_unhex.calls (a0:Int) (r:Int) (w:World) (h:toponymref18_unhex.f a0=some r):
  Calls Try.prog 55 #[.int .u8 a0] w (fun e w'=>e=.returned (.int .i64 r)∧Drawn0 w w'):=by
 unfold toponymref18_unhex.f at h
 have HH:=za h
 clear h
 go_enter Try.func55,Try.ntmps55
 replace HH:=zqG HH
 rcases HH with⟨HH,hk2⟩|⟨HH,hk24⟩
 ·replace HH:=zqd HH
  rcases HH with⟨HH,hk4⟩|⟨HH,hk5⟩
  ·obtain rfl:=Option.some.inj HH.out
   clear HH
   go_wp2
   go_ret
   exact⟨by first|rfl|(simp;done)|(simp[*];done),by repeat(first|exact Drawn0.refl _|apply Drawn0.step)⟩
  replace HH:=zqG HH
  rcases HH with⟨HH,hk7⟩|⟨HH,hk17⟩
  ·replace HH:=zqd HH
   rcases HH with⟨HH,hk9⟩|⟨HH,hk10⟩
   ·obtain rfl:=Option.some.inj HH.out
    clear HH
    go_wp2
    go_ret
    exact⟨by first|rfl|(simp;done)|(simp[*];done),by repeat(first|exact Drawn0.refl _|apply Drawn0.step)⟩
   replace HH:=zqG HH
   rcases HH with⟨HH,hk12⟩|⟨HH,hk16⟩
   ·replace HH:=zqd HH
    rcases HH with⟨HH,hk14⟩|⟨HH,hk15⟩
    ·obtain rfl:=Option.some.inj HH.out
     clear HH
     go_wp2
     go_ret
     exact⟨by first|rfl|(simp;done)|(simp[*];done),by repeat(first|exact Drawn0.refl _|apply Drawn0.step)⟩
    obtain rfl:=Option.some.inj HH.out
    clear HH
    go_wp2
    go_ret
    exact⟨by first|rfl|(simp;done)|(simp[*];done),by repeat(first|exact Drawn0.refl _|apply Drawn0.step)⟩
   obtain rfl:=Option.some.inj HH.out
   clear HH
   go_wp2
   go_ret
   exact⟨by first|rfl|(simp;done)|(simp[*];done),by repeat(first|exact Drawn0.refl _|apply Drawn0.step)⟩
  replace HH:=zqG HH
  rcases HH with⟨HH,hk19⟩|⟨HH,hk23⟩
  ·replace HH:=zqd HH
   rcases HH with⟨HH,hk21⟩|⟨HH,hk22⟩
   ·obtain rfl:=Option.some.inj HH.out
    clear HH
    go_wp2
    go_ret
    exact⟨by first|rfl|(simp;done)|(simp[*];done),by repeat(first|exact Drawn0.refl _|apply Drawn0.step)⟩
   obtain rfl:=Option.some.inj HH.out
   clear HH
   go_wp2
   go_ret
   exact⟨by first|rfl|(simp;done)|(simp[*];done),by repeat(first|exact Drawn0.refl _|apply Drawn0.step)⟩
  obtain rfl:=Option.some.inj HH.out
  clear HH
  go_wp2
  go_ret
  exact⟨by first|rfl|(simp;done)|(simp[*];done),by repeat(first|exact Drawn0.refl _|apply Drawn0.step)⟩
 replace HH:=zqG HH
 rcases HH with⟨HH,hk26⟩|⟨HH,hk36⟩
 ·replace HH:=zqd HH
  rcases HH with⟨HH,hk28⟩|⟨HH,hk29⟩
  ·obtain rfl:=Option.some.inj HH.out
   clear HH
   go_wp2
   go_ret
   exact⟨by first|rfl|(simp;done)|(simp[*];done),by repeat(first|exact Drawn0.refl _|apply Drawn0.step)⟩
  replace HH:=zqG HH
  rcases HH with⟨HH,hk31⟩|⟨HH,hk35⟩
  ·replace HH:=zqd HH
   rcases HH with⟨HH,hk33⟩|⟨HH,hk34⟩
   ·obtain rfl:=Option.some.inj HH.out
    clear HH
    go_wp2
    go_ret
    exact⟨by first|rfl|(simp;done)|(simp[*];done),by repeat(first|exact Drawn0.refl _|apply Drawn0.step)⟩
   obtain rfl:=Option.some.inj HH.out
   clear HH
   go_wp2
   go_ret
   exact⟨by first|rfl|(simp;done)|(simp[*];done),by repeat(first|exact Drawn0.refl _|apply Drawn0.step)⟩
  obtain rfl:=Option.some.inj HH.out
  clear HH
  go_wp2
  go_ret
  exact⟨by first|rfl|(simp;done)|(simp[*];done),by repeat(first|exact Drawn0.refl _|apply Drawn0.step)⟩
 replace HH:=zqG HH
 rcases HH with⟨HH,hk38⟩|⟨HH,hk42⟩
 ·replace HH:=zqd HH
  rcases HH with⟨HH,hk40⟩|⟨HH,hk41⟩
  ·obtain rfl:=Option.some.inj HH.out
   clear HH
   go_wp2
   go_ret
   exact⟨by first|rfl|(simp;done)|(simp[*];done),by repeat(first|exact Drawn0.refl _|apply Drawn0.step)⟩
  obtain rfl:=Option.some.inj HH.out
  clear HH
  go_wp2
  go_ret
  exact⟨by first|rfl|(simp;done)|(simp[*];done),by repeat(first|exact Drawn0.refl _|apply Drawn0.step)⟩
 obtain rfl:=Option.some.inj HH.out
 clear HH
 go_wp2
 go_ret
 exact⟨by first|rfl|(simp;done)|(simp[*];done),by repeat(first|exact Drawn0.refl _|apply Drawn0.step)⟩
end Go.Proofs.Ytapinanmmhdpcaa.GA

namespace Go.Proofs.Ytapinanmmhdpcaa.GA
open Go.RowKit Go.Proofs.Ytapinanmmhdpcaa Go.Proofs.Ytapinanmmhdpcaa.MW Go.Proofs.YtapinanmmhdpcaaW.PrintWords Go.Proofs.YtapinanmmhdpcaaW.PrintLast Go.Proofs.YtapinanmmhdpcaaW.PrintMore
attribute [local go_sem] max2_int min2_int max_two min_two
set_option linter.unusedVariables false
set_option linter.unusedSimpArgs false
attribute [local go_sem high] eqA53
def api_Pair_39.l0:Nat→Int→(List (S53))→(List (S53))→Option (Bool)
 |0,_,_,_=>none
 |k+1,x5,l0,l1=>if x5<(l0.length:Int) then(if 0≤x5 then(if x5<(l1.length:Int) then(if (!(((rd_T53 l0 x5).f0).toList==((rd_T53 l1 x5).f0).toList) || (!(((rd_T53 l0 x5).f1).toList==((rd_T53 l1 x5).f1).toList)))=true then(some false) else((api_Pair_39.l0 k (wrap64 (x5+1)) l0 l1))) else(none)) else(none)) else(some true)
def api_Pair_39.f (k:Nat) (l0:List (S53)) (l1:List (S53)):Option (Bool):=if (l0.length:Int)=(l1.length:Int) then((api_Pair_39.l0 k 0 l0 l1)) else(some false)
theorem api_Pair_39.mono_l:∀ k,(∀ y0 y1 y2,LeO (api_Pair_39.l0 k y0 y1 y2) (api_Pair_39.l0 (k+1) y0 y1 y2))
 |0=>fun _ _ _ r h=>by simp[api_Pair_39.l0] at h
 |k+1=>by
  have ih0:=api_Pair_39.mono_l k
  ·intro y0 y1 y2
   unfold api_Pair_39.l0
   with_reducible repeat' first|exact ih0 _ _ _|exact LeO.refl _|exact LeO.none _|refine LeO.ite ?_ ?_|refine LeO.bind ?_ (fun _=>?_)
theorem api_Pair_39.mono:∀ a0_ a1_ k,LeO (api_Pair_39.f k a0_ a1_) (api_Pair_39.f (k+1) a0_ a1_):=by
 intro a0_ a1_ k
 have ih0:=api_Pair_39.mono_l k
 unfold api_Pair_39.f
 with_reducible repeat' first|exact ih0 _ _ _|exact LeO.refl _|exact LeO.none _|refine LeO.ite ?_ ?_|refine LeO.bind ?_ (fun _=>?_)
set_option maxHeartbeats 8000000 in
set_option maxRecDepth 100000 in
theorem api_Pair_39.calls (k:Nat) (P_:Nat→Prop) (A0:Option Addr) (c0:Nat) (l0:List (S53)) (A1:Option Addr) (c1:Nat) (l1:List (S53)) (r:Bool) (w:World) (hs0:Kd.F k53 w P_ A0 l0.length l0) (hc0:l0.length≤c0) (hs1:Kd.F k53 w P_ A1 l1.length l1) (hc1:l1.length≤c1) (h:api_Pair_39.f k l0 l1=some r):
  Calls Try.prog 39 #[.slice A0 l0.length c0,.slice A1 l1.length c1] w (fun e w'=>e=.returned (.bool r)∧Drawn0 w w'):=by
 unfold api_Pair_39.f at h
 have HH:=za h
 clear h
 have HF0:=zfp hs0
 clear hs0 hc0
 have HF1:=zfp hs1
 clear hs1 hc1
 have hu53:=Try.underlying53
 go_enter Try.func39,Try.ntmps39
 by_cases c1:(l0.length:Int)=(l1.length:Int)
 ·replace HH:=MW.hpos HH c1
  have hk2:((l0.length:Int)==(l1.length:Int))=true:=beq_iff_eq.mpr c1
  have hk3:((l0.length:Int) != (l1.length:Int))=false:=bne_eq_false_iff_eq.mpr c1
  have hk4:(l0.length==l1.length)=true:=by first|simpa using c1|(simp at c1 ⊢;omega)
  clear c1
  go_wp2
  go_loopg [13] k (fun kq u13 w'=>∃ (x5:Int),u13=.int .i64 x5∧Aside0 ((api_Pair_39.l0 kq x5 l0 l1)=some r)∧Aside0 (kq≤k)∧Drawn0 w w')
  case atStart=>exact⟨0,(by first|rfl|(simp;done)|(simp[*];done)),HH,⟨Nat.le_refl _⟩,by repeat(first|exact Drawn0.refl _|apply Drawn0.step)⟩
  case round=>
   clear hk2
   clear hk3
   clear hk4
   clear HH
   obtain⟨x5,rfl,HA,HK0,⟨m0_,rfl⟩⟩:=hrel
   cases gk with
   |zero=>exact absurd HA.out (by simp[api_Pair_39.l0])
   |succ k6=>
    have H:=HA.out
    clear HA
    simp only[api_Pair_39.l0] at H
    have HH:=za H
    clear H
    replace HH:=zqt HH
    rcases HH with⟨HH,hk9,hk10⟩|⟨HH,hk24,hk25⟩
    ·replace HH:=zqdo HH
     obtain⟨HH,hk12⟩:=HH
     have p13:0≤(x5:Int):=of_decide_eq_true (by first|(with_reducible assumption)|assumption)
     have q13:x5<(l0.length:Int):=of_decide_eq_true (by first|(with_reducible assumption)|assumption)
     obtain⟨ad13,e13,hx13_0,hx13_1⟩:=atF_T53 HF0.out x5 p13 q13
     cases e13
     replace p13:=eq_true p13
     replace q13:=eq_true q13
     replace HH:=zqto HH
     obtain⟨HH,hk15,hk16⟩:=HH
     have p17:0≤(x5:Int):=of_decide_eq_true (by first|(with_reducible assumption)|assumption)
     have q17:x5<(l1.length:Int):=of_decide_eq_true (by first|(with_reducible assumption)|assumption)
     obtain⟨ad17,e17,hx17_0,hx17_1⟩:=atF_T53 HF1.out x5 p17 q17
     cases e17
     replace p17:=eq_true p17
     replace q17:=eq_true q17
     by_cases c18:(!(((rd_T53 l0 x5).f0).toList==((rd_T53 l1 x5).f0).toList) || (!(((rd_T53 l0 x5).f1).toList==((rd_T53 l1 x5).f1).toList)))=true
     ·replace HH:=MW.hpos HH c18
      have hk19:(!(((rd_T53 l0 x5).f0).toList==((rd_T53 l1 x5).f0).toList) || (!(((rd_T53 l0 x5).f1).toList==((rd_T53 l1 x5).f1).toList)))=true:=c18
      clear c18
      obtain rfl:=Option.some.inj HH.out
      clear HH
      go_wp2
      go_quiet (fail)
      go_wp2
      go_ret
      exact⟨by first|rfl|(simp;done)|(simp[*];done),by repeat(first|exact Drawn0.refl _|apply Drawn0.step)⟩
     replace HH:=MW.hneg HH c18
     have hk20:(!(((rd_T53 l0 x5).f0).toList==((rd_T53 l1 x5).f0).toList) || (!(((rd_T53 l0 x5).f1).toList==((rd_T53 l1 x5).f1).toList)))=false:=by simpa using c18
     clear c18
     go_wp2
     go_quiet (fail)
     go_wp2
     go_roundg k6
     case measure=>have:=HK0.out;omega
     case rel=>exact⟨wrap64 (x5+1),(by first|rfl|(simp;done)|(simp[*];done)),HH,⟨by have:=HK0.out;omega⟩,by repeat(first|exact Drawn0.refl _|apply Drawn0.step)⟩
    obtain rfl:=Option.some.inj HH.out
    clear HH
    go_wp2
    go_ret
    exact⟨by first|rfl|(simp;done)|(simp[*];done),by repeat(first|exact Drawn0.refl _|apply Drawn0.step)⟩
 replace HH:=MW.hneg HH c1
 have hk26:((l0.length:Int)==(l1.length:Int))=false:=beq_eq_false_iff_ne.mpr c1
 have hk27:((l0.length:Int) != (l1.length:Int))=true:=bne_iff_ne.mpr c1
 have hk28:(l0.length==l1.length)=false:=by first|simpa using c1|(simp at c1 ⊢;omega)
 clear c1
 obtain rfl:=Option.some.inj HH.out
 clear HH
 go_wp2
 go_ret
 exact⟨by first|rfl|(simp;done)|(simp[*];done),by repeat(first|exact Drawn0.refl _|apply Drawn0.step)⟩
end Go.Proofs.Ytapinanmmhdpcaa.GA

namespace Go.Proofs.Ytapinanmmhdpcaa.GA
open Go.RowKit Go.Proofs.Ytapinanmmhdpcaa Go.Proofs.Ytapinanmmhdpcaa.MW Go.Proofs.YtapinanmmhdpcaaW.PrintWords Go.Proofs.YtapinanmmhdpcaaW.PrintLast Go.Proofs.YtapinanmmhdpcaaW.PrintMore
attribute [local go_sem] max2_int min2_int max_two min_two
set_option linter.unusedVariables false
set_option linter.unusedSimpArgs false
def dn_Same_1.f (k:Nat) (l0:List (S53)) (l1:List (S53)):Option (Bool):=(api_Pair_39.f k l0 l1).bind fun t1=>(some t1)
theorem dn_Same_1.mono:∀ a0_ a1_ k,LeO (dn_Same_1.f k a0_ a1_) (dn_Same_1.f (k+1) a0_ a1_):=by
 intro a0_ a1_ k
 unfold dn_Same_1.f
 with_reducible repeat' first|exact api_Pair_39.mono _ _ _|exact LeO.refl _|exact LeO.none _|refine LeO.ite ?_ ?_|refine LeO.bind ?_ (fun _=>?_)
set_option maxHeartbeats 8000000 in
set_option maxRecDepth 100000 in
theorem dn_Same_1.calls (k:Nat) (P_:Nat→Prop) (A0:Option Addr) (c0:Nat) (l0:List (S53)) (A1:Option Addr) (c1:Nat) (l1:List (S53)) (r:Bool) (w:World) (hs0:Kd.F k53 w P_ A0 l0.length l0) (hc0:l0.length≤c0) (hs1:Kd.F k53 w P_ A1 l1.length l1) (hc1:l1.length≤c1) (h:dn_Same_1.f k l0 l1=some r):
  Calls Try.prog 38 #[.slice A0 l0.length c0,.slice A1 l1.length c1] w (fun e w'=>e=.returned (.bool r)∧Drawn0 w w'):=by
 unfold dn_Same_1.f at h
 have HH:=za h
 clear h
 have HF0:=zfp hs0
 have HL0:=za hc0
 clear hs0 hc0
 have HF1:=zfp hs1
 have HL1:=za hc1
 clear hs1 hc1
 go_enter Try.func38,Try.ntmps38
 replace HH:=zd HH
 obtain⟨t1,At2,HH⟩:=HH
 go_wp2_with ((with_reducible refine gc 39 rfl ?_);refine zc 39 (some 7) Try.func39 #[.slice A0 l0.length c0,.slice A1 l1.length c1] (h:=?_);(with_reducible refine(api_Pair_39.calls k (fun k_=>(P_ k_∨w.heap.size≤k_)) _ _ l0 _ _ l1 t1 _ HF0.out HL0.out HF1.out HL1.out At2.out).mono ?_);rintro e w' ⟨rfl,⟨nd,rfl⟩⟩;refine⟨_,rfl,?_⟩)
 refine zg ?_
 obtain rfl:=Option.some.inj HH.out
 clear HH
 go_wp2
 go_ret
 exact⟨by first|rfl|(simp;done)|(simp[*];done),by repeat(first|exact Drawn0.refl _|apply Drawn0.step)⟩

def dn_Same.l0:Nat→Int→(List (List (S53)))→(List (List (S53)))→Option (Bool)
 |0,_,_,_=>none
 |k+1,x5,l0,l1=>if x5<(l0.length:Int) then(if 0≤x5 then(if x5<(l1.length:Int) then((dn_Same_1.f k (rd_L2 l0 x5) (rd_L2 l1 x5)).bind fun t18=>(if t18=true then((dn_Same.l0 k (wrap64 (x5+1)) l0 l1)) else(some false))) else(none)) else(none)) else(some true)
def dn_Same.f (k:Nat) (l0:List (List (S53))) (l1:List (List (S53))):Option (Bool):=if (l0.length:Int)=(l1.length:Int) then((dn_Same.l0 k 0 l0 l1)) else(some false)
theorem dn_Same.mono_l:∀ k,(∀ y0 y1 y2,LeO (dn_Same.l0 k y0 y1 y2) (dn_Same.l0 (k+1) y0 y1 y2))
 |0=>fun _ _ _ r h=>by simp[dn_Same.l0] at h
 |k+1=>by
  have ih0:=dn_Same.mono_l k
  ·intro y0 y1 y2
   unfold dn_Same.l0
   with_reducible repeat' first|exact ih0 _ _ _|exact dn_Same_1.mono _ _ _|exact LeO.refl _|exact LeO.none _|refine LeO.ite ?_ ?_|refine LeO.bind ?_ (fun _=>?_)
theorem dn_Same.mono:∀ a0_ a1_ k,LeO (dn_Same.f k a0_ a1_) (dn_Same.f (k+1) a0_ a1_):=by
 intro a0_ a1_ k
 have ih0:=dn_Same.mono_l k
 unfold dn_Same.f
 with_reducible repeat' first|exact ih0 _ _ _|exact dn_Same_1.mono _ _ _|exact LeO.refl _|exact LeO.none _|refine LeO.ite ?_ ?_|refine LeO.bind ?_ (fun _=>?_)
set_option maxHeartbeats 8000000 in
set_option maxRecDepth 100000 in
theorem dn_Same.calls (k:Nat) (P_:Nat→Prop) (A0:Option Addr) (c0:Nat) (l0:List (List (S53))) (A1:Option Addr) (c1:Nat) (l1:List (List (S53))) (r:Bool) (w:World) (hs0:Kd.F (Kd.slice 53 k53) w P_ A0 l0.length l0) (hc0:l0.length≤c0) (hs1:Kd.F (Kd.slice 53 k53) w P_ A1 l1.length l1) (hc1:l1.length≤c1) (h:dn_Same.f k l0 l1=some r):
  Calls Try.prog 24 #[.slice A0 l0.length c0,.slice A1 l1.length c1] w (fun e w'=>e=.returned (.bool r)∧Below w.heap.size w w'):=by
 unfold dn_Same.f at h
 have HH:=za h
 clear h
 have HF0:=zfp hs0
 clear hs0 hc0
 have HF1:=zfp hs1
 clear hs1 hc1
 have HB:=za (Below.refl w.heap.size w)
 go_enter Try.func24,Try.ntmps24
 go_wp2_with (((with_reducible refine gate_callee (f:=37) rfl ?_);(try(refine gate_guard (by rfl) ?_;dsimp only));refine goesL_ (some 7) rfl rfl Try.func37 (by kernel_rfl) rfl #[.slice A0 l0.length c0,.slice A1 l1.length c1,.func (.func 38) #[] #[]] rfl (by(try simp only[List.map_toArray,List.map_cons,List.map_nil]);first|done|rfl) ?_);refine stop_ ?_)
 refine zg ?_
 go_enter Try.func37,Try.ntmps37
 by_cases c1:(l0.length:Int)=(l1.length:Int)
 ·replace HH:=MW.hpos HH c1
  have hk2:((l0.length:Int)==(l1.length:Int))=true:=beq_iff_eq.mpr c1
  have hk3:((l0.length:Int) != (l1.length:Int))=false:=bne_eq_false_iff_eq.mpr c1
  have hk4:(l0.length==l1.length)=true:=by first|simpa using c1|(simp at c1 ⊢;omega)
  clear c1
  go_wp2
  go_loopg [17] k (fun kq u17 w'=>∃ (x5:Int),u17=.int .i64 x5∧Aside0 ((dn_Same.l0 kq x5 l0 l1)=some r)∧Aside0 (kq≤k)∧Aside0 (Kd.F (Kd.slice 53 k53) w' (fun k_=>(P_ k_∨w.heap.size≤k_)) A0 l0.length l0)∧Aside0 (Kd.F (Kd.slice 53 k53) w' (fun k_=>(P_ k_∨w.heap.size≤k_)) A1 l1.length l1)∧Aside0 (Below w.heap.size w w'))
  case atStart=>exact⟨0,(by first|rfl|(simp;done)|(simp[*];done)),HH,⟨Nat.le_refl _⟩,⟨HF0.out⟩,⟨HF1.out⟩,⟨HB.out⟩⟩
  case round=>
   clear hk2
   clear hk3
   clear hk4
   clear HH
   clear HF0 HF1 HB
   obtain⟨x5,rfl,HA,HK0,HF0,HF1,HB⟩:=hrel
   obtain⟨w7,rfl⟩:∃ wo_:World,wo_=wr:=⟨_,rfl⟩
   cases gk with
   |zero=>exact absurd HA.out (by simp[dn_Same.l0])
   |succ k6=>
    have H:=HA.out
    clear HA
    simp only[dn_Same.l0] at H
    have HH:=za H
    clear H
    replace HH:=zqt HH
    rcases HH with⟨HH,hk9,hk10⟩|⟨HH,hk25,hk26⟩
    ·replace HH:=zqdo HH
     obtain⟨HH,hk12⟩:=HH
     have p13:0≤(x5:Int):=of_decide_eq_true (by first|(with_reducible assumption)|assumption)
     have q13:x5<(l0.length:Int):=of_decide_eq_true (by first|(with_reducible assumption)|assumption)
     obtain⟨ad13,A13_0,c13_0,e13,hx13_0,hl13_0,hi13_0⟩:=atF_L2 HF0.out x5 p13 q13
     cases e13
     have HF13_0:=za hi13_0
     have HL13_0:=za hl13_0
     clear hi13_0 hl13_0
     replace p13:=eq_true p13
     replace q13:=eq_true q13
     replace HH:=zqto HH
     obtain⟨HH,hk15,hk16⟩:=HH
     have p17:0≤(x5:Int):=of_decide_eq_true (by first|(with_reducible assumption)|assumption)
     have q17:x5<(l1.length:Int):=of_decide_eq_true (by first|(with_reducible assumption)|assumption)
     obtain⟨ad17,A17_0,c17_0,e17,hx17_0,hl17_0,hi17_0⟩:=atF_L2 HF1.out x5 p17 q17
     cases e17
     have HF17_0:=za hi17_0
     have HL17_0:=za hl17_0
     clear hi17_0 hl17_0
     replace p17:=eq_true p17
     replace q17:=eq_true q17
     replace HH:=zd HH
     obtain⟨t18,At19,HH⟩:=HH
     go_wp2_with ((with_reducible refine gd 29 rfl ?_);refine zv 29 Try.func38 #[.slice A13_0 (rd_L2 l0 x5).length c13_0,.slice A17_0 (rd_L2 l1 x5).length c17_0] #[] (h:=?_);(with_reducible refine(dn_Same_1.calls k6 (fun k_=>(P_ k_∨w.heap.size≤k_)) _ _ (rd_L2 l0 x5) _ _ (rd_L2 l1 x5) t18 _ HF13_0.out HL13_0.out HF17_0.out HL17_0.out At19.out).mono ?_);rintro e w' ⟨rfl,⟨nd,rfl⟩⟩;refine⟨_,rfl,?_⟩)
     refine zg ?_
     by_cases c21:t18=true
     ·replace HH:=MW.hpos HH c21
      subst c21
      go_wp2
      go_roundg k6
      case measure=>have:=HK0.out;omega
      case rel=>exact⟨wrap64 (x5+1),(by first|rfl|(simp;done)|(simp[*];done)),HH,⟨by have:=HK0.out;omega⟩,⟨(by(with_reducible repeat(first|apply Kd.F_alloc|apply Kd.F_drewN|apply Kd.F_drew));exact HF0.out)⟩,⟨(by(with_reducible repeat(first|apply Kd.F_alloc|apply Kd.F_drewN|apply Kd.F_drew));exact HF1.out)⟩,⟨(by repeat(first|(with_reducible first|exact HB.out|apply below_alloc|apply pw_below_drewN|apply below_drew1)|exact HB.out))⟩⟩
     replace HH:=MW.hneg HH c21
     replace c21:=Bool.eq_false_iff.mpr c21
     subst c21
     go_wp2
     go_ret
     refine⟨_,rfl,?_⟩
     obtain rfl:=Option.some.inj HH.out
     clear HH
     go_wp2
     go_ret
     exact zfi (by repeat(first|(with_reducible first|exact HB.out|apply below_alloc|apply pw_below_drewN|apply below_drew1)|exact HB.out))
    go_wp2
    go_ret
    refine⟨_,rfl,?_⟩
    obtain rfl:=Option.some.inj HH.out
    clear HH
    go_wp2
    go_ret
    exact zfi HB.out
 replace HH:=MW.hneg HH c1
 have hk27:((l0.length:Int)==(l1.length:Int))=false:=beq_eq_false_iff_ne.mpr c1
 have hk28:((l0.length:Int) != (l1.length:Int))=true:=bne_iff_ne.mpr c1
 have hk29:(l0.length==l1.length)=false:=by first|simpa using c1|(simp at c1 ⊢;omega)
 clear c1
 go_wp2
 go_ret
 refine⟨_,rfl,?_⟩
 obtain rfl:=Option.some.inj HH.out
 clear HH
 go_wp2
 go_ret
 exact zfi HB.out

def toponymref18_Above.f (k:Nat) (l0:List (List (S53))):Option ((List (List (S53))) × Bool):=(toponymref18_Check.f k l0).bind fun t1=>(if t1=0 then(if (l0.length:Int)=0 then(some (([]:List (List (S53))),false)) else(if 1≤(l0.length:Int) then((some (List.drop 1 l0:List (List (S53)))).bind fun y17=>(some (y17,true))) else(none))) else(some (([]:List (List (S53))),false)))
theorem toponymref18_Above.mono:∀ a0_ k,LeO (toponymref18_Above.f k a0_) (toponymref18_Above.f (k+1) a0_):=by
 intro a0_ k
 unfold toponymref18_Above.f
 with_reducible repeat' first|exact toponymref18_Check.mono _ _|exact LeO.refl _|exact LeO.none _|refine LeO.ite ?_ ?_|refine LeO.bind ?_ (fun _=>?_)
set_option maxHeartbeats 8000000 in
set_option maxRecDepth 100000 in
theorem toponymref18_Above.calls (k:Nat) (P_:Nat→Prop) (A0:Option Addr) (c0:Nat) (l0:List (List (S53))) (r1:List (List (S53))) (r2:Bool) (w:World) (hs0:Kd.F (Kd.slice 53 k53) w P_ A0 l0.length l0) (hc0:l0.length≤c0) (h:toponymref18_Above.f k l0=some (r1,r2)):
  Calls Try.prog 25 #[.slice A0 l0.length c0] w (fun e w'=>∃ (A0_:Option Addr) (c0_:Nat),e=.returned (.tuple #[.slice A0_ r1.length c0_,.bool r2])∧r1.length≤c0_∧Kd.F (Kd.slice 53 k53) w' (fun k_=>P_ k_∨w.heap.size≤k_) A0_ r1.length r1∧Below w.heap.size w w'):=by
 unfold toponymref18_Above.f at h
 have HH:=za h
 clear h
 have HF0:=zfp hs0
 have HL0:=za hc0
 clear hs0 hc0
 have HB:=za (Below.refl w.heap.size w)
 go_enter Try.func25,Try.ntmps25
 replace HH:=zd HH
 obtain⟨t1,At2,HH⟩:=HH
 go_wp2_with ((with_reducible refine gc 14 rfl ?_);refine zc 14 (some 5) Try.func14 #[.slice A0 l0.length c0] (h:=?_);(with_reducible refine(toponymref18_Check.calls k (fun k_=>(P_ k_∨w.heap.size≤k_)) _ _ l0 t1 _ HF0.out HL0.out At2.out).mono ?_);rintro e w' ⟨rfl,⟨nd,rfl⟩⟩;refine⟨_,rfl,?_⟩)
 refine zg ?_
 replace HH:=zqe HH
 rcases HH with⟨HH,hk5,hk6⟩|⟨HH,hk20,hk21⟩
 ·by_cases c7:(l0.length:Int)=0
  ·replace HH:=MW.hpos HH c7
   have hk8:((l0.length:Int)==0)=true:=beq_iff_eq.mpr c7
   have hk9:((l0.length:Int) != 0)=false:=bne_eq_false_iff_eq.mpr c7
   clear c7
   have H:=HH.out
   simp only[Option.some.injEq,Prod.mk.injEq] at H
   obtain⟨rfl,rfl⟩:=H
   clear HH
   go_wp2
   go_ret2
   exact⟨none,0,by first|rfl|(simp;done)|(simp[*];done),(Nat.le_refl _),(Kd.F_nil _ _ _),(by repeat(first|(with_reducible first|exact HB.out|apply below_alloc|apply pw_below_drewN|apply below_drew1)|exact HB.out))⟩
  replace HH:=MW.hneg HH c7
  have hk10:((l0.length:Int)==0)=false:=beq_eq_false_iff_ne.mpr c7
  have hk11:((l0.length:Int) != 0)=true:=bne_iff_ne.mpr c7
  have hk12: ¬ (l0=[]):=fun h_=>c7 (by rw[h_];rfl)
  clear c7
  replace HH:=zqlo 1 HH
  obtain⟨HH,hk15,hk16⟩:=HH
  obtain⟨i013,hi013,_,hsz13,_⟩:=info_parts info39
  have q013:0≤(1:Int):=(by decide)
  have ql13:(1:Int)≤((l0.length:Int):Int):=(by first|exact Int.le_refl _|exact of_decide_eq_true (by first|(with_reducible assumption)|assumption)|(simp;done))
  have hcut13:=cut_from (P:=Try.prog) 23 39 .i64 Try.underlying23 hi013 1 hsz13 A0 l0.length c0 1 q013 ql13
  have hr13:Kd.F (Kd.slice 53 k53) w (fun k_=>(P_ k_∨w.heap.size≤k_)) (if c0=1 then A0 else(A0:Option Addr).map (·.add (1*1))) (List.drop 1 l0).length (List.drop 1 l0):=Kd.F_cut (m:=1) (c:=c0) HF0.out (by omega) HL0.out
  have hy13:(List.drop 1 l0).length=l0.length - 1:=List.length_drop
  have hl13:(List.drop 1 l0).length≤c0 - 1:=(by have:=HL0.out;rw[List.length_drop];omega)
  try simp only[show((1:Int)).toNat=1 from rfl] at hcut13
  rw[← hy13] at hcut13
  generalize (if c0=1 then A0 else(A0:Option Addr).map (·.add (1*1)))=A13 at hcut13 hr13
  generalize c0 - 1=cp13 at hcut13 hl13
  clear hy13 q013 ql13
  have HF13:=za hr13
  have HL13:=za hl13
  clear hr13 hl13 hi013 hsz13
  obtain⟨y17,hy17⟩:∃ y_:List (List (S53)),y_=List.drop 1 l0:=⟨_,rfl⟩
  rw[← hy17] at hcut13 HL13 HF13
  have H:(some (y17,true))=some (r1,r2):=by rw[hy17];exact HH.out
  replace HH:=za H
  clear H
  clear hy17
  have H:=HH.out
  simp only[Option.some.injEq,Prod.mk.injEq] at H
  obtain⟨rfl,rfl⟩:=H
  clear HH
  go_wp2
  go_ret2
  exact⟨_,_,by first|rfl|(simp;done)|(simp[*];done),HL13.out,(by(with_reducible repeat(first|apply Kd.F_alloc|apply Kd.F_drewN|apply Kd.F_drew));exact HF13.out),(by repeat(first|(with_reducible first|exact HB.out|apply below_alloc|apply pw_below_drewN|apply below_drew1)|exact HB.out))⟩
 have H:=HH.out
 simp only[Option.some.injEq,Prod.mk.injEq] at H
 obtain⟨rfl,rfl⟩:=H
 clear HH
 go_wp2
 go_ret2
 exact⟨none,0,by first|rfl|(simp;done)|(simp[*];done),(Nat.le_refl _),(Kd.F_nil _ _ _),(by repeat(first|(with_reducible first|exact HB.out|apply below_alloc|apply pw_below_drewN|apply below_drew1)|exact HB.out))⟩

def toponymref18_Below.f (k:Nat) (l0:List (List (S53))) (l1:List (S53)):Option ((List (List (S53))) × Int):=(toponymref18_Check.f k l0).bind fun t1=>(if t1=0 then(if (l0.length:Int)>5 then(some (([]:List (List (S53))),220)) else((toponymref18_Check.f k ([l1]:List (List (S53)))).bind fun t19=>(if t19=0 then(if ([l1]:List (List (S53))).length+l0.length<5864062014805 then((some (([l1]:List (List (S53)))++l0:List (List (S53)))).bind fun y29=>(some (y29,0))) else(none)) else(some (([]:List (List (S53))),220))))) else(some (([]:List (List (S53))),220)))
theorem toponymref18_Below.mono:∀ a0_ a1_ k,LeO (toponymref18_Below.f k a0_ a1_) (toponymref18_Below.f (k+1) a0_ a1_):=by
 intro a0_ a1_ k
 unfold toponymref18_Below.f
 with_reducible repeat' first|exact toponymref18_Check.mono _ _|exact LeO.refl _|exact LeO.none _|refine LeO.ite ?_ ?_|refine LeO.bind ?_ (fun _=>?_)
set_option maxHeartbeats 8000000 in
set_option maxRecDepth 100000 in
theorem toponymref18_Below.calls (k:Nat) (P_:Nat→Prop) (A0:Option Addr) (c0:Nat) (l0:List (List (S53))) (A1:Option Addr) (c1:Nat) (l1:List (S53)) (r1:List (List (S53))) (r2:Int) (w:World) (hs0:Kd.F (Kd.slice 53 k53) w P_ A0 l0.length l0) (hc0:l0.length≤c0) (hs1:Kd.F k53 w P_ A1 l1.length l1) (hc1:l1.length≤c1) (h:toponymref18_Below.f k l0 l1=some (r1,r2)):
  Calls Try.prog 26 #[.slice A0 l0.length c0,.slice A1 l1.length c1] w (fun e w'=>∃ v0_:Value,e=.returned (.tuple #[v0_,.int .i64 r2])∧Kd.N (Kd.slice 53 k53) 39 w' w.heap.size (fun k_=>P_ k_∨w.heap.size≤k_) v0_ r1∧Below w.heap.size w w'):=by
 unfold toponymref18_Below.f at h
 have HH:=za h
 clear h
 have HF0:=zfp hs0
 have HL0:=za hc0
 clear hs0 hc0
 have HF1:=zfp hs1
 have HL1:=za hc1
 clear hs1 hc1
 have HB:=za (Below.refl w.heap.size w)
 go_enter Try.func26,Try.ntmps26
 replace HH:=zd HH
 obtain⟨t1,At2,HH⟩:=HH
 go_wp2_with ((with_reducible refine gc 14 rfl ?_);refine zc 14 (some 7) Try.func14 #[.slice A0 l0.length c0] (h:=?_);(with_reducible refine(toponymref18_Check.calls k (fun k_=>(P_ k_∨w.heap.size≤k_)) _ _ l0 t1 _ HF0.out HL0.out At2.out).mono ?_);rintro e w' ⟨rfl,⟨nd,rfl⟩⟩;refine⟨_,rfl,?_⟩)
 refine zg ?_
 replace HH:=zqe HH
 rcases HH with⟨HH,hk5,hk6⟩|⟨HH,hk35,hk36⟩
 ·replace HH:=zqK 5 HH
  rcases HH with⟨HH,hk8,hk9⟩|⟨HH,hk10,hk11⟩
  ·have H:=HH.out
   simp only[Option.some.injEq,Prod.mk.injEq] at H
   obtain⟨rfl,rfl⟩:=H
   clear HH
   go_wp2
   go_ret2
   exact⟨_,by first|rfl|(simp;done)|(simp[*];done),(Kd.N_nil _ _ _ _ _),(by repeat(first|(with_reducible first|exact HB.out|apply below_alloc|apply pw_below_drewN|apply below_drew1)|exact HB.out))⟩
  go_wp2_with (((with_reducible refine gate_dst (N:=16) rfl ?_);(try(refine gate_guard (by rfl) ?_;dsimp only));refine Kd.N_lit (Kd.slice 53 k53) w.heap.size 39 rfl (N':=16) rfl (xs:=([l1]:List (List (S53)))) (inner:=[.slice A1 l1.length c1]) (ok:=(fun k_=>(P_ k_∨w.heap.size≤k_))) (okp:=(fun k_=>(P_ k_∨w.heap.size≤k_))) ?hr ?hp (fun _ hk_=>hk_) ?hf (by repeat(first|(with_reducible first|exact HB.out|apply below_alloc|apply pw_below_drewN|apply below_drew1)|exact HB.out)) (below_size (by repeat(first|(with_reducible first|exact HB.out|apply below_alloc|apply pw_below_drewN|apply below_drew1)|exact HB.out))) (by first|simp|decide) ?_;(case hr=>first|(go_simp;done)|(go_simp;rfl));(case hp=>exact(Reps.one (Kd.FK_slice_mk HL1.out (by(with_reducible repeat(first|apply Kd.F_alloc|apply Kd.F_drewN|apply Kd.F_drew));exact HF1.out)) (Reps.none _ _)));(case hf=>exact(show ∀ k_,w.heap.size≤k_→(fun k_=>(P_ k_∨w.heap.size≤k_)) k_ from fun k_ h_=>.inr (Nat.le_trans (below_size (by repeat(first|(with_reducible first|exact HB.out|apply below_alloc|apply pw_below_drewN|apply below_drew1)|exact HB.out))) h_)) _ (Nat.le_refl _));intro v12 w13 hn1 hb1 hg1 hat1);replace hat1:=za hat1;refine stop_ ?_)
  refine zg ?_
  replace hat1:=hat1.out
  have hbe:=MW.grown_below hg1
  have hba:=MW.base_of hat1
  replace HF0:=za (Kd.F_mono (Kd.F_elder' (ok:=(fun k_=>(P_ k_∨w.heap.size≤k_))) (by(with_reducible repeat(first|apply Kd.F_alloc|apply Kd.F_drewN|apply Kd.F_drew));exact HF0.out) hba hbe) (fun k_ hk_=>hk_):Kd.F (Kd.slice 53 k53) _ (fun k_=>(P_ k_∨w.heap.size≤k_)∧some k_≠(v12:Value).ownBlock) _ _ _)
  replace HF1:=za (Kd.F_mono (Kd.F_elder' (ok:=(fun k_=>(P_ k_∨w.heap.size≤k_))) (by(with_reducible repeat(first|apply Kd.F_alloc|apply Kd.F_drewN|apply Kd.F_drew));exact HF1.out) hba hbe) (fun k_ hk_=>hk_):Kd.F k53 _ (fun k_=>(P_ k_∨w.heap.size≤k_)∧some k_≠(v12:Value).ownBlock) _ _ _)
  replace HB:=za hb1
  have HN14:=za hn1
  clear hn1 hb1 hg1 hat1 hbe hba
  obtain⟨A15,cp16,he_⟩:=Kd.N_slice HN14.out
  subst he_
  have HL18:=za (Kd.N_reads' HN14.out).2.1
  have HF17:=za (Kd.N_F HN14.out)
  clear HN14
  replace HF0:=za (Kd.F_mono (ok:=(fun k_=>(P_ k_∨w.heap.size≤k_)∧some k_≠((.slice A15 ([l1]:List (List (S53))).length cp16):Value).ownBlock)) HF0.out (fun k_ hk_=>hk_.1):Kd.F (Kd.slice 53 k53) _ (fun k_=>(P_ k_∨w.heap.size≤k_)) _ _ _)
  replace HF1:=za (Kd.F_mono (ok:=(fun k_=>(P_ k_∨w.heap.size≤k_)∧some k_≠((.slice A15 ([l1]:List (List (S53))).length cp16):Value).ownBlock)) HF1.out (fun k_ hk_=>hk_.1):Kd.F k53 _ (fun k_=>(P_ k_∨w.heap.size≤k_)) _ _ _)
  replace HH:=zd HH
  obtain⟨t19,At20,HH⟩:=HH
  go_wp2_with ((with_reducible refine gc 14 rfl ?_);refine zc 14 (some 17) Try.func14 #[.slice A15 ([l1]:List (List (S53))).length cp16] (h:=?_);(with_reducible refine(toponymref18_Check.calls k (fun k_=>(P_ k_∨w.heap.size≤k_)) _ _ ([l1]:List (List (S53))) t19 _ HF17.out HL18.out At20.out).mono ?_);rintro e w' ⟨rfl,⟨nd,rfl⟩⟩;refine⟨_,rfl,?_⟩)
  refine zg ?_
  replace HH:=zqe HH
  rcases HH with⟨HH,hk23,hk24⟩|⟨HH,hk33,hk34⟩
  ·go_wp2_with (((with_reducible refine gate_dst (N:=21) rfl ?_);(try(refine gate_guard (by rfl) ?_;dsimp only));refine Kd.N_lit (Kd.slice 53 k53) w.heap.size 39 rfl (N':=21) rfl (xs:=([l1]:List (List (S53)))) (inner:=[.slice A1 l1.length c1]) (ok:=(fun k_=>(P_ k_∨w.heap.size≤k_))) (okp:=(fun k_=>(P_ k_∨w.heap.size≤k_))) ?hr ?hp (fun _ hk_=>hk_) ?hf (by repeat(first|(with_reducible first|exact HB.out|apply below_alloc|apply pw_below_drewN|apply below_drew1)|exact HB.out)) (below_size (by repeat(first|(with_reducible first|exact HB.out|apply below_alloc|apply pw_below_drewN|apply below_drew1)|exact HB.out))) (by first|simp|decide) ?_;(case hr=>first|(go_simp;done)|(go_simp;rfl));(case hp=>exact(Reps.one (Kd.FK_slice_mk HL1.out (by(with_reducible repeat(first|apply Kd.F_alloc|apply Kd.F_drewN|apply Kd.F_drew));exact HF1.out)) (Reps.none _ _)));(case hf=>exact(show ∀ k_,w13.heap.size≤k_→(fun k_=>(P_ k_∨w.heap.size≤k_)) k_ from fun k_ h_=>.inr (Nat.le_trans (below_size (by repeat(first|(with_reducible first|exact HB.out|apply below_alloc|apply pw_below_drewN|apply below_drew1)|exact HB.out))) h_)) _ (Nat.le_refl _));intro v25 w26 hn1 hb1 hg1 hat1);replace hat1:=za hat1;refine stop_ ?_)
   refine zg ?_
   replace hat1:=hat1.out
   have hbe:=MW.grown_below hg1
   have hba:=MW.base_of hat1
   replace HF0:=za (Kd.F_mono (Kd.F_elder' (ok:=(fun k_=>(P_ k_∨w.heap.size≤k_))) (by(with_reducible repeat(first|apply Kd.F_alloc|apply Kd.F_drewN|apply Kd.F_drew));exact HF0.out) hba hbe) (fun k_ hk_=>hk_):Kd.F (Kd.slice 53 k53) _ (fun k_=>(P_ k_∨w.heap.size≤k_)∧some k_≠(v25:Value).ownBlock) _ _ _)
   replace HB:=za hb1
   have HN27:=za hn1
   clear hn1 hb1 hg1 hat1 hbe hba
   obtain⟨HH,LMc28⟩:=zlm HH
   obtain⟨y29,hy29⟩:∃ y_:List (List (S53)),y_=(([l1]:List (List (S53)))++l0):=⟨_,rfl⟩
   have H:(some (y29,0))=some (r1,r2):=by rw[hy29];exact HH.out
   replace HH:=za H
   clear H
   have NYy29:=za hy29
   clear hy29
   go_wp2_with (((with_reducible refine gate_dst (N:=23) rfl ?_);(try(refine gate_guard (by rfl) ?_;dsimp only));refine Kd.N_append_rows (Kd.slice 53 k53) w.heap.size rfl _ _ 23 39 (.slice none 0 0) 24 rfl Try.underlying23 info39 rfl (by decide) (by decide) (v25) ([l1]:List (List (S53))) l0 _ _ _ (fun k_=>(P_ k_∨w.heap.size≤k_)) (fun k_=>(fun k_=>(P_ k_∨w.heap.size≤k_)) k_∧some k_≠(v25:Value).ownBlock) rfl rfl HN27.out (Kd.F_mono (ok:=(fun k_=>(P_ k_∨w.heap.size≤k_)∧some k_≠(v25:Value).ownBlock)) HF0.out (fun k_ hk_=>⟨hk_.1,hk_.2⟩)) (fun _ hk_=>hk_) (fun k_ h_=>.inr (Nat.le_trans (below_size HB.out) h_)) HB.out (below_size HB.out) (by first|(have:=LMc28.out;simp only[List.length_nil] at *;omega)|(have:=LMc28.out;simp at *;omega)) ?_;intro v30 w31 hn1 hb1 hg1 hat1);replace hat1:=za hat1;refine stop_ ?_)
   refine zg ?_
   replace hat1:=hat1.out
   replace HB:=za hb1
   clear HN27
   have HN32:=za hn1
   clear hn1 hb1 hg1 hat1
   replace HN32:=za (by rw[NYy29.out];exact HN32.out:Kd.N (Kd.slice 53 k53) 39 w31 w.heap.size (fun k_=>(P_ k_∨w.heap.size≤k_)) v30 y29)
   have H:=HH.out
   simp only[Option.some.injEq,Prod.mk.injEq] at H
   obtain⟨rfl,rfl⟩:=H
   clear HH
   go_wp2
   go_ret2
   exact⟨_,by first|rfl|(simp;done)|(simp[*];done),(Kd.N_mono (ok:=(fun k_=>(P_ k_∨w.heap.size≤k_))) HN32.out (fun k_ hk_=>hk_)),HB.out⟩
  have H:=HH.out
  simp only[Option.some.injEq,Prod.mk.injEq] at H
  obtain⟨rfl,rfl⟩:=H
  clear HH
  go_wp2
  go_ret2
  exact⟨_,by first|rfl|(simp;done)|(simp[*];done),(Kd.N_nil _ _ _ _ _),(by repeat(first|(with_reducible first|exact HB.out|apply below_alloc|apply pw_below_drewN|apply below_drew1)|exact HB.out))⟩
 have H:=HH.out
 simp only[Option.some.injEq,Prod.mk.injEq] at H
 obtain⟨rfl,rfl⟩:=H
 clear HH
 go_wp2
 go_ret2
 exact⟨_,by first|rfl|(simp;done)|(simp[*];done),(Kd.N_nil _ _ _ _ _),(by repeat(first|(with_reducible first|exact HB.out|apply below_alloc|apply pw_below_drewN|apply below_drew1)|exact HB.out))⟩

mutual
def toponymlaw18_Few.l0:Nat→Int→(List (List (S53)))→Option (Bool)
 |0,_,_=>none
 |k+1,x6,l0=>if x6<(l0.length:Int) then(if 0≤x6 then(if ((rd_L2 l0 x6).length:Int)>10 then(some false) else((toponymlaw18_Few.l1 k 0 l0 x6))) else(none)) else(some true)
def toponymlaw18_Few.l1:Nat→Int→(List (List (S53)))→Int→Option (Bool)
 |0,_,_,_=>none
 |k+1,x21,l0,x6=>if 0≤x6 then(if x6<(l0.length:Int) then(if x21<((rd_L2 l0 x6).length:Int) then(if 0≤x21 then(if (((rd_T53 (rd_L2 l0 x6) x21).f0).size:Int)>1000 then(some false) else(if (((rd_T53 (rd_L2 l0 x6) x21).f1).size:Int)>1000 then(some false) else((toponymlaw18_Few.l1 k (wrap64 (x21+1)) l0 x6)))) else(none)) else((toponymlaw18_Few.l0 k (wrap64 (x6+1)) l0))) else(none)) else(none)
end
def toponymlaw18_Few.f (k:Nat) (l0:List (List (S53))):Option (Bool):=if (l0.length:Int)>10 then(some false) else((toponymlaw18_Few.l0 k 0 l0))
theorem toponymlaw18_Few.mono_l:∀ k,(∀ y0 y1,LeO (toponymlaw18_Few.l0 k y0 y1) (toponymlaw18_Few.l0 (k+1) y0 y1))∧(∀ y0 y1 y2,LeO (toponymlaw18_Few.l1 k y0 y1 y2) (toponymlaw18_Few.l1 (k+1) y0 y1 y2))
 |0=>⟨fun _ _ r h=>by simp[toponymlaw18_Few.l0] at h,fun _ _ _ r h=>by simp[toponymlaw18_Few.l1] at h⟩
 |k+1=>by
  obtain⟨ih0,ih1⟩:=toponymlaw18_Few.mono_l k
  refine⟨?_,?_⟩
  ·intro y0 y1
   unfold toponymlaw18_Few.l0
   with_reducible repeat' first|exact ih0 _ _|exact ih1 _ _ _|exact LeO.refl _|exact LeO.none _|refine LeO.ite ?_ ?_|refine LeO.bind ?_ (fun _=>?_)
  intro y0 y1 y2
  unfold toponymlaw18_Few.l1
  with_reducible repeat' first|exact ih0 _ _|exact ih1 _ _ _|exact LeO.refl _|exact LeO.none _|refine LeO.ite ?_ ?_|refine LeO.bind ?_ (fun _=>?_)
theorem toponymlaw18_Few.mono:∀ a0_ k,LeO (toponymlaw18_Few.f k a0_) (toponymlaw18_Few.f (k+1) a0_):=by
 intro a0_ k
 obtain⟨ih0,ih1⟩:=toponymlaw18_Few.mono_l k
 unfold toponymlaw18_Few.f
 with_reducible repeat' first|exact ih0 _ _|exact ih1 _ _ _|exact LeO.refl _|exact LeO.none _|refine LeO.ite ?_ ?_|refine LeO.bind ?_ (fun _=>?_)
set_option maxHeartbeats 8000000 in
set_option maxRecDepth 100000 in
theorem toponymlaw18_Few.calls (k:Nat) (P_:Nat→Prop) (A0:Option Addr) (c0:Nat) (l0:List (List (S53))) (r:Bool) (w:World) (hs0:Kd.F (Kd.slice 53 k53) w P_ A0 l0.length l0) (hc0:l0.length≤c0) (h:toponymlaw18_Few.f k l0=some r):
  Calls Try.prog 9 #[.slice A0 l0.length c0] w (fun e w'=>e=.returned (.bool r)∧Drawn0 w w'):=by
 unfold toponymlaw18_Few.f at h
 have HH:=za h
 clear h
 have HF0:=zfp hs0
 clear hs0 hc0
 go_enter Try.func9,Try.ntmps9
 replace HH:=zqK 10 HH
 rcases HH with⟨HH,hk2,hk3⟩|⟨HH,hk4,hk5⟩
 ·obtain rfl:=Option.some.inj HH.out
  clear HH
  go_wp2
  go_ret
  exact⟨by first|rfl|(simp;done)|(simp[*];done),by repeat(first|exact Drawn0.refl _|apply Drawn0.step)⟩
 go_wp2
 go_loopg [3] k (fun kq u3 w'=>∃ (x6:Int),u3=.int .i64 x6∧Aside0 ((toponymlaw18_Few.l0 kq x6 l0)=some r)∧Aside0 (kq≤k)∧Drawn0 w w')
 case atStart=>exact⟨0,(by first|rfl|(simp;done)|(simp[*];done)),HH,⟨Nat.le_refl _⟩,by repeat(first|exact Drawn0.refl _|apply Drawn0.step)⟩
 case round=>
  clear hk4
  clear hk5
  clear HH
  obtain⟨x6,rfl,HA,HK0,⟨m0_,rfl⟩⟩:=hrel
  cases gk with
  |zero=>exact absurd HA.out (by simp[toponymlaw18_Few.l0])
  |succ k9=>
   have H:=HA.out
   clear HA
   simp only[toponymlaw18_Few.l0] at H
   have HH:=za H
   clear H
   replace HH:=zqt HH
   rcases HH with⟨HH,hk11,hk12⟩|⟨HH,hk53,hk54⟩
   ·replace HH:=zqdo HH
    obtain⟨HH,hk14⟩:=HH
    have p15:0≤(x6:Int):=of_decide_eq_true (by first|(with_reducible assumption)|assumption)
    have q15:x6<(l0.length:Int):=of_decide_eq_true (by first|(with_reducible assumption)|assumption)
    obtain⟨ad15,A15_0,c15_0,e15,hx15_0,hl15_0,hi15_0⟩:=atF_L2 HF0.out x6 p15 q15
    cases e15
    clear hi15_0 hl15_0
    replace p15:=eq_true p15
    replace q15:=eq_true q15
    replace HH:=zqK 10 HH
    rcases HH with⟨HH,hk17,hk18⟩|⟨HH,hk19,hk20⟩
    ·obtain rfl:=Option.some.inj HH.out
     clear HH
     go_wp2
     go_ret
     exact⟨by first|rfl|(simp;done)|(simp[*];done),by repeat(first|exact Drawn0.refl _|apply Drawn0.step)⟩
    go_wp2
    go_loopg [4] k9 (fun kq u4 w'=>∃ (x21:Int),u4=.int .i64 x21∧Aside0 ((toponymlaw18_Few.l1 kq x21 l0 x6)=some r)∧Aside0 (kq≤k9)∧Drawn0 w w')
    case atStart=>exact⟨0,(by first|rfl|(simp;done)|(simp[*];done)),HH,⟨Nat.le_refl _⟩,by repeat(first|exact Drawn0.refl _|apply Drawn0.step)⟩
    case round=>
     clear hx15_0 p15 q15
     clear hk11
     clear hk12
     clear hk14
     clear hk19
     clear hk20
     clear HH
     obtain⟨x21,rfl,HA,HK1,⟨m1_,rfl⟩⟩:=hrel
     cases gk with
     |zero=>exact absurd HA.out (by simp[toponymlaw18_Few.l1])
     |succ k22=>
      have H:=HA.out
      clear HA
      simp only[toponymlaw18_Few.l1] at H
      have HH:=za H
      clear H
      replace HH:=zqdo HH
      obtain⟨HH,hk25⟩:=HH
      replace HH:=zqto HH
      obtain⟨HH,hk27,hk28⟩:=HH
      have p29:0≤(x6:Int):=of_decide_eq_true (by first|(with_reducible assumption)|assumption)
      have q29:x6<(l0.length:Int):=of_decide_eq_true (by first|(with_reducible assumption)|assumption)
      obtain⟨ad29,A29_0,c29_0,e29,hx29_0,hl29_0,hi29_0⟩:=atF_L2 HF0.out x6 p29 q29
      cases e29
      have HF29_0:=za hi29_0
      clear hi29_0 hl29_0
      replace p29:=eq_true p29
      replace q29:=eq_true q29
      replace HH:=zqt HH
      rcases HH with⟨HH,hk31,hk32⟩|⟨HH,hk47,hk48⟩
      ·replace HH:=zqdo HH
       obtain⟨HH,hk34⟩:=HH
       have p35:0≤(x21:Int):=of_decide_eq_true (by first|(with_reducible assumption)|assumption)
       have q35:x21<((rd_L2 l0 x6).length:Int):=of_decide_eq_true (by first|(with_reducible assumption)|assumption)
       obtain⟨ad35,e35,hx35_0,hx35_1⟩:=atF_T53 HF29_0.out x21 p35 q35
       cases e35
       replace p35:=eq_true p35
       replace q35:=eq_true q35
       replace HH:=zqK 1000 HH
       rcases HH with⟨HH,hk37,hk38⟩|⟨HH,hk39,hk40⟩
       ·obtain rfl:=Option.some.inj HH.out
        clear HH
        go_wp2
        go_ret
        exact⟨by first|rfl|(simp;done)|(simp[*];done),by repeat(first|exact Drawn0.refl _|apply Drawn0.step)⟩
       replace HH:=zqK 1000 HH
       rcases HH with⟨HH,hk42,hk43⟩|⟨HH,hk44,hk45⟩
       ·obtain rfl:=Option.some.inj HH.out
        clear HH
        go_wp2
        go_ret
        exact⟨by first|rfl|(simp;done)|(simp[*];done),by repeat(first|exact Drawn0.refl _|apply Drawn0.step)⟩
       go_wp2
       go_roundg k22
       case measure=>have:=HK0.out;have:=HK1.out;omega
       case rel=>exact⟨wrap64 (x21+1),(by first|rfl|(simp;done)|(simp[*];done)),HH,⟨by have:=HK0.out;have:=HK1.out;omega⟩,by repeat(first|exact Drawn0.refl _|apply Drawn0.step)⟩
      go_wp2
      go_roundg k22
      case measure=>have:=HK0.out;have:=HK1.out;omega
      case rel=>exact⟨wrap64 (x6+1),(by first|rfl|(simp;done)|(simp[*];done)),HH,⟨by have:=HK0.out;have:=HK1.out;omega⟩,by repeat(first|exact Drawn0.refl _|apply Drawn0.step)⟩
   obtain rfl:=Option.some.inj HH.out
   clear HH
   go_wp2
   go_ret
   exact⟨by first|rfl|(simp;done)|(simp[*];done),by repeat(first|exact Drawn0.refl _|apply Drawn0.step)⟩
end Go.Proofs.Ytapinanmmhdpcaa.GA
