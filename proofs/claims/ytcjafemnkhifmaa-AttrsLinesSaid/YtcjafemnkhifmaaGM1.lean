import Derived.Lib.Hide
import Derived.Outline
import Derived.OwnWalkIn
import Derived.Shelf.RegionOpen
import Derived.TacticsInMore
import Derived.Test.YtcjafemnkhifmaaGA0
import Derived.Test.YtcjafemnkhifmaaMQ
import Derived.Test.YtcjafemnkhifmaaMX
namespace Go.Proofs.Ytcjafemnkhifmaa.GA
open Go.RowKit Go.Proofs.Ytcjafemnkhifmaa Go.Proofs.Ytcjafemnkhifmaa.MW Go.Proofs.YtcjafemnkhifmaaW.PrintWords Go.Proofs.YtcjafemnkhifmaaW.PrintLast Go.Proofs.YtcjafemnkhifmaaW.PrintMore
attribute [local go_sem] max2_int min2_int max_two min_two
set_option linter.unusedVariables false
set_option linter.unusedSimpArgs false
def toponymref20_at.l0:Nat→Int→ByteArray→(List (S26))→Option (Int)
 |0,_,_,_=>none
 |k+1,x1,a1,l0=>if x1<(l0.length:Int) then(if 0≤x1 then(if ((rd_T26 l0 x1).f0).toList=a1.toList then(some x1) else((toponymref20_at.l0 k (wrap64 (x1+1)) a1 l0))) else(none)) else(some (-1))
def toponymref20_at.f (k:Nat) (l0:List (S26)) (a1:ByteArray):Option (Int):=(toponymref20_at.l0 k 0 a1 l0)
theorem toponymref20_at.mono_l:∀ k,(∀ y0 y1 y2,LeO (toponymref20_at.l0 k y0 y1 y2) (toponymref20_at.l0 (k+1) y0 y1 y2))
 |0=>fun _ _ _ r h=>by simp[toponymref20_at.l0] at h
 |k+1=>by
  have ih0:=toponymref20_at.mono_l k
  ·intro y0 y1 y2
   unfold toponymref20_at.l0
   with_reducible repeat' first|exact ih0 _ _ _|exact LeO.refl _|exact LeO.none _|refine LeO.ite ?_ ?_|refine LeO.bind ?_ (fun _=>?_)
theorem toponymref20_at.mono:∀ a0_ a1_ k,LeO (toponymref20_at.f k a0_ a1_) (toponymref20_at.f (k+1) a0_ a1_):=by
 intro a0_ a1_ k
 have ih0:=toponymref20_at.mono_l k
 unfold toponymref20_at.f
 with_reducible repeat' first|exact ih0 _ _ _|exact LeO.refl _|exact LeO.none _|refine LeO.ite ?_ ?_|refine LeO.bind ?_ (fun _=>?_)
set_option maxHeartbeats 8000000 in
set_option maxRecDepth 100000 in
theorem toponymref20_at.calls (k:Nat) (P_:Nat→Prop) (A0:Option Addr) (c0:Nat) (l0:List (S26)) (a1:ByteArray) (r:Int) (w:World) (hs0:Kd.F k26 w P_ A0 l0.length l0) (hc0:l0.length≤c0) (h:toponymref20_at.f k l0 a1=some r):
  Calls Try.prog 25 #[.slice A0 l0.length c0,.string a1] w (fun e w'=>e=.returned (.int .i64 r)∧Drawn0 w w'):=by
 unfold toponymref20_at.f at h
 have HH:=za h
 clear h
 have HF0:=zfp hs0
 clear hs0 hc0
 go_enter Try.func25,Try.ntmps25
 go_wp2
 go_loopg [5] k (fun kq u5 w'=>∃ (x1:Int),u5=.int .i64 x1∧Aside0 ((toponymref20_at.l0 kq x1 a1 l0)=some r)∧Aside0 (kq≤k)∧Drawn0 w w')
 case atStart=>exact⟨0,(by first|rfl|(simp;done)|(simp[*];done)),HH,⟨Nat.le_refl _⟩,by repeat(first|exact Drawn0.refl _|apply Drawn0.step)⟩
 case round=>
  clear HH
  obtain⟨x1,rfl,HA,HK0,⟨m0_,rfl⟩⟩:=hrel
  cases gk with
  |zero=>exact absurd HA.out (by simp[toponymref20_at.l0])
  |succ k2=>
   have H:=HA.out
   clear HA
   simp only[toponymref20_at.l0] at H
   have HH:=za H
   clear H
   replace HH:=zqt HH
   rcases HH with⟨HH,hk5,hk6⟩|⟨HH,hk16,hk17⟩
   ·replace HH:=zqdo HH
    obtain⟨HH,hk8⟩:=HH
    have p9:0≤(x1:Int):=of_decide_eq_true (by first|(with_reducible assumption)|assumption)
    have q9:x1<(l0.length:Int):=of_decide_eq_true (by first|(with_reducible assumption)|assumption)
    obtain⟨ad9,e9,hx9_0,hx9_1,hx9_2,hx9_3,hx9_4,hx9_5⟩:=atF_T26 HF0.out x1 p9 q9
    cases e9
    replace p9:=eq_true p9
    replace q9:=eq_true q9
    replace HH:=zqe HH
    rcases HH with⟨HH,hk11,hk12⟩|⟨HH,hk13,hk14⟩
    ·obtain rfl:=Option.some.inj HH.out
     clear HH
     go_wp2
     go_ret
     exact⟨by first|rfl|(simp;done)|(simp[*];done),by repeat(first|exact Drawn0.refl _|apply Drawn0.step)⟩
    go_wp2
    go_roundg k2
    case measure=>have:=HK0.out;omega
    case rel=>exact⟨wrap64 (x1+1),(by first|rfl|(simp;done)|(simp[*];done)),HH,⟨by have:=HK0.out;omega⟩,by repeat(first|exact Drawn0.refl _|apply Drawn0.step)⟩
   obtain rfl:=Option.some.inj HH.out
   clear HH
   go_wp2
   go_ret
   exact⟨by first|rfl|(simp;done)|(simp[*];done),by repeat(first|exact Drawn0.refl _|apply Drawn0.step)⟩

def toponymref20_fits.f (a0:Int) (a1:Int):Option (Bool):=if a0<1 then(some false) else(if a0>10 then(some false) else(if a0=1 then(if a1≥0 then(some (decide (a1≤2))) else(some false)) else(if a0=2 then(if a1≥0 then(some (decide (a1≤2))) else(some false)) else(if a0=10 then(if a1=0 then(some true) else(if a1=10 then(some true) else(some (a1==11)))) else(if a1=0 then(some true) else(some (a1==a0)))))))
set_option maxHeartbeats 8000000 in
set_option maxRecDepth 100000 in
theorem toponymref20_fits.calls (a0:Int) (a1:Int) (r:Bool) (w:World) (h:toponymref20_fits.f a0 a1=some r):
  Calls Try.prog 40 #[.int .i64 a0,.int .i64 a1] w (fun e w'=>e=.returned (.bool r)∧Drawn0 w w'):=by
 unfold toponymref20_fits.f at h
 have HH:=za h
 clear h
 go_enter Try.func40,Try.ntmps40
 replace HH:=zqt HH
 rcases HH with⟨HH,hk2,hk3⟩|⟨HH,hk4,hk5⟩
 ·obtain rfl:=Option.some.inj HH.out
  clear HH
  go_wp2
  go_ret
  exact⟨by first|rfl|(simp;done)|(simp[*];done),by repeat(first|exact Drawn0.refl _|apply Drawn0.step)⟩
 replace HH:=zqg HH
 rcases HH with⟨HH,hk7⟩|⟨HH,hk8⟩
 ·obtain rfl:=Option.some.inj HH.out
  clear HH
  go_wp2
  go_ret
  exact⟨by first|rfl|(simp;done)|(simp[*];done),by repeat(first|exact Drawn0.refl _|apply Drawn0.step)⟩
 replace HH:=zqe HH
 rcases HH with⟨HH,hk10,hk11⟩|⟨HH,hk15,hk16⟩
 ·replace HH:=zqG HH
  rcases HH with⟨HH,hk13⟩|⟨HH,hk14⟩
  ·obtain rfl:=Option.some.inj HH.out
   clear HH
   go_wp2
   go_ret
   exact⟨by first|rfl|(simp;done)|(simp[*];done),by repeat(first|exact Drawn0.refl _|apply Drawn0.step)⟩
  obtain rfl:=Option.some.inj HH.out
  clear HH
  go_wp2
  go_ret
  exact⟨by first|rfl|(simp;done)|(simp[*];done),by repeat(first|exact Drawn0.refl _|apply Drawn0.step)⟩
 replace HH:=zqe HH
 rcases HH with⟨HH,hk18,hk19⟩|⟨HH,hk23,hk24⟩
 ·replace HH:=zqG HH
  rcases HH with⟨HH,hk21⟩|⟨HH,hk22⟩
  ·obtain rfl:=Option.some.inj HH.out
   clear HH
   go_wp2
   go_ret
   exact⟨by first|rfl|(simp;done)|(simp[*];done),by repeat(first|exact Drawn0.refl _|apply Drawn0.step)⟩
  obtain rfl:=Option.some.inj HH.out
  clear HH
  go_wp2
  go_ret
  exact⟨by first|rfl|(simp;done)|(simp[*];done),by repeat(first|exact Drawn0.refl _|apply Drawn0.step)⟩
 replace HH:=zqe HH
 rcases HH with⟨HH,hk26,hk27⟩|⟨HH,hk38,hk39⟩
 ·replace HH:=zqe HH
  rcases HH with⟨HH,hk29,hk30⟩|⟨HH,hk31,hk32⟩
  ·obtain rfl:=Option.some.inj HH.out
   clear HH
   go_wp2
   go_ret
   exact⟨by first|rfl|(simp;done)|(simp[*];done),by repeat(first|exact Drawn0.refl _|apply Drawn0.step)⟩
  replace HH:=zqe HH
  rcases HH with⟨HH,hk34,hk35⟩|⟨HH,hk36,hk37⟩
  ·obtain rfl:=Option.some.inj HH.out
   clear HH
   go_wp2
   go_ret
   exact⟨by first|rfl|(simp;done)|(simp[*];done),by repeat(first|exact Drawn0.refl _|apply Drawn0.step)⟩
  obtain rfl:=Option.some.inj HH.out
  clear HH
  go_wp2
  go_ret
  exact⟨by first|rfl|(simp;done)|(simp[*];done),by repeat(first|exact Drawn0.refl _|apply Drawn0.step)⟩
 replace HH:=zqe HH
 rcases HH with⟨HH,hk41,hk42⟩|⟨HH,hk43,hk44⟩
 ·obtain rfl:=Option.some.inj HH.out
  clear HH
  go_wp2
  go_ret
  exact⟨by first|rfl|(simp;done)|(simp[*];done),by repeat(first|exact Drawn0.refl _|apply Drawn0.step)⟩
 obtain rfl:=Option.some.inj HH.out
 clear HH
 go_wp2
 go_ret
 exact⟨by first|rfl|(simp;done)|(simp[*];done),by repeat(first|exact Drawn0.refl _|apply Drawn0.step)⟩

def toponymref18_Word.l0:Nat→Int→ByteArray→Option (Bool)
 |0,_,_=>none
 |k+1,x13,a0=>if x13<(a0.size:Int) then(if 0≤x13 then(if (bt a0 x13)≥97 then(if (bt a0 x13)≥48 then(if (bt a0 x13)≤57 then(if (bt a0 x13)≤122 then((toponymref18_Word.l0 k (wrap64 (x13+1)) a0)) else(if x13=0 then(some false) else((toponymref18_Word.l0 k (wrap64 (x13+1)) a0)))) else(if (bt a0 x13)≤122 then((toponymref18_Word.l0 k (wrap64 (x13+1)) a0)) else(if x13=0 then(some false) else(if (bt a0 x13)=45 then((toponymref18_Word.l0 k (wrap64 (x13+1)) a0)) else(some false))))) else(if (bt a0 x13)≤122 then((toponymref18_Word.l0 k (wrap64 (x13+1)) a0)) else(if x13=0 then(some false) else(if (bt a0 x13)=45 then((toponymref18_Word.l0 k (wrap64 (x13+1)) a0)) else(some false))))) else(if (bt a0 x13)≥48 then(if (bt a0 x13)≤57 then(if x13=0 then(some false) else((toponymref18_Word.l0 k (wrap64 (x13+1)) a0))) else(if x13=0 then(some false) else(if (bt a0 x13)=45 then((toponymref18_Word.l0 k (wrap64 (x13+1)) a0)) else(some false)))) else(if x13=0 then(some false) else(if (bt a0 x13)=45 then((toponymref18_Word.l0 k (wrap64 (x13+1)) a0)) else(some false))))) else(none)) else(some true)
def toponymref18_Word.f (k:Nat) (a0:ByteArray):Option (Bool):=if (a0.size:Int)<1 then(some false) else(if (a0.size:Int)>16 then(some false) else((toponymref18_Word.l0 k 0 a0)))
theorem toponymref18_Word.mono_l:∀ k,(∀ y0 y1,LeO (toponymref18_Word.l0 k y0 y1) (toponymref18_Word.l0 (k+1) y0 y1))
 |0=>fun _ _ r h=>by simp[toponymref18_Word.l0] at h
 |k+1=>by
  have ih0:=toponymref18_Word.mono_l k
  ·intro y0 y1
   unfold toponymref18_Word.l0
   with_reducible repeat' first|exact ih0 _ _|exact LeO.refl _|exact LeO.none _|refine LeO.ite ?_ ?_|refine LeO.bind ?_ (fun _=>?_)
theorem toponymref18_Word.mono:∀ a0_ k,LeO (toponymref18_Word.f k a0_) (toponymref18_Word.f (k+1) a0_):=by
 intro a0_ k
 have ih0:=toponymref18_Word.mono_l k
 unfold toponymref18_Word.f
 with_reducible repeat' first|exact ih0 _ _|exact LeO.refl _|exact LeO.none _|refine LeO.ite ?_ ?_|refine LeO.bind ?_ (fun _=>?_)
set_option maxHeartbeats 8000000 in
set_option maxRecDepth 100000 in
theorem toponymref18_Word.calls (k:Nat) (a0:ByteArray) (r:Bool) (w:World) (h:toponymref18_Word.f k a0=some r):
  Calls Try.prog 41 #[.string a0] w (fun e w'=>e=.returned (.bool r)∧Drawn0 w w'):=by
 unfold toponymref18_Word.f at h
 have HH:=za h
 clear h
 go_enter Try.func41,Try.ntmps41
 replace HH:=zqN 1 HH
 rcases HH with⟨HH,hk2,hk3,hk4⟩|⟨HH,hk5,hk6,hk7⟩
 ·obtain rfl:=Option.some.inj HH.out
  clear HH
  go_wp2
  go_ret
  exact⟨by first|rfl|(simp;done)|(simp[*];done),by repeat(first|exact Drawn0.refl _|apply Drawn0.step)⟩
 replace HH:=zqK 16 HH
 rcases HH with⟨HH,hk9,hk10⟩|⟨HH,hk11,hk12⟩
 ·obtain rfl:=Option.some.inj HH.out
  clear HH
  go_wp2
  go_ret
  exact⟨by first|rfl|(simp;done)|(simp[*];done),by repeat(first|exact Drawn0.refl _|apply Drawn0.step)⟩
 go_wp2
 go_loopg [3] k (fun kq u3 w'=>∃ (x13:Int),u3=.int .i64 x13∧Aside0 ((toponymref18_Word.l0 kq x13 a0)=some r)∧Aside0 (kq≤k)∧Drawn0 w w')
 case atStart=>exact⟨0,(by first|rfl|(simp;done)|(simp[*];done)),HH,⟨Nat.le_refl _⟩,by repeat(first|exact Drawn0.refl _|apply Drawn0.step)⟩
 case round=>
  clear hk5
  clear hk6
  clear hk7
  clear hk11
  clear hk12
  clear HH
  obtain⟨x13,rfl,HA,HK0,⟨m0_,rfl⟩⟩:=hrel
  cases gk with
  |zero=>exact absurd HA.out (by simp[toponymref18_Word.l0])
  |succ k16=>
   have H:=HA.out
   clear HA
   simp only[toponymref18_Word.l0] at H
   have HH:=za H
   clear H
   replace HH:=zqt HH
   rcases HH with⟨HH,hk18,hk19⟩|⟨HH,hk98,hk99⟩
   ·replace HH:=zqdo HH
    obtain⟨HH,hk21⟩:=HH
    have p22:0≤(x13:Int):=of_decide_eq_true (by first|(with_reducible assumption)|assumption)
    have q22:x13<(a0.size:Int):=of_decide_eq_true (by first|(with_reducible assumption)|assumption)
    have hx22:=MW.bt_at' a0 x13
    replace p22:=eq_true p22
    replace q22:=eq_true q22
    replace HH:=zqG HH
    rcases HH with⟨HH,hk24⟩|⟨HH,hk65⟩
    ·replace HH:=zqG HH
     rcases HH with⟨HH,hk26⟩|⟨HH,hk51⟩
     ·replace HH:=zqd HH
      rcases HH with⟨HH,hk28⟩|⟨HH,hk37⟩
      ·replace HH:=zqd HH
       rcases HH with⟨HH,hk30⟩|⟨HH,hk31⟩
       ·go_wp2
        go_roundg k16
        case measure=>have:=HK0.out;omega
        case rel=>exact⟨wrap64 (x13+1),(by first|rfl|(simp;done)|(simp[*];done)),HH,⟨by have:=HK0.out;omega⟩,by repeat(first|exact Drawn0.refl _|apply Drawn0.step)⟩
       replace HH:=zqe HH
       rcases HH with⟨HH,hk33,hk34⟩|⟨HH,hk35,hk36⟩
       ·obtain rfl:=Option.some.inj HH.out
        clear HH
        go_wp2
        go_ret
        exact⟨by first|rfl|(simp;done)|(simp[*];done),by repeat(first|exact Drawn0.refl _|apply Drawn0.step)⟩
       go_wp2
       go_roundg k16
       case measure=>have:=HK0.out;omega
       case rel=>exact⟨wrap64 (x13+1),(by first|rfl|(simp;done)|(simp[*];done)),HH,⟨by have:=HK0.out;omega⟩,by repeat(first|exact Drawn0.refl _|apply Drawn0.step)⟩
      replace HH:=zqd HH
      rcases HH with⟨HH,hk39⟩|⟨HH,hk40⟩
      ·go_wp2
       go_roundg k16
       case measure=>have:=HK0.out;omega
       case rel=>exact⟨wrap64 (x13+1),(by first|rfl|(simp;done)|(simp[*];done)),HH,⟨by have:=HK0.out;omega⟩,by repeat(first|exact Drawn0.refl _|apply Drawn0.step)⟩
      replace HH:=zqe HH
      rcases HH with⟨HH,hk42,hk43⟩|⟨HH,hk44,hk45⟩
      ·obtain rfl:=Option.some.inj HH.out
       clear HH
       go_wp2
       go_ret
       exact⟨by first|rfl|(simp;done)|(simp[*];done),by repeat(first|exact Drawn0.refl _|apply Drawn0.step)⟩
      replace HH:=zqe HH
      rcases HH with⟨HH,hk47,hk48⟩|⟨HH,hk49,hk50⟩
      ·go_wp2
       go_roundg k16
       case measure=>have:=HK0.out;omega
       case rel=>exact⟨wrap64 (x13+1),(by first|rfl|(simp;done)|(simp[*];done)),HH,⟨by have:=HK0.out;omega⟩,by repeat(first|exact Drawn0.refl _|apply Drawn0.step)⟩
      obtain rfl:=Option.some.inj HH.out
      clear HH
      go_wp2
      go_ret
      exact⟨by first|rfl|(simp;done)|(simp[*];done),by repeat(first|exact Drawn0.refl _|apply Drawn0.step)⟩
     replace HH:=zqd HH
     rcases HH with⟨HH,hk53⟩|⟨HH,hk54⟩
     ·go_wp2
      go_roundg k16
      case measure=>have:=HK0.out;omega
      case rel=>exact⟨wrap64 (x13+1),(by first|rfl|(simp;done)|(simp[*];done)),HH,⟨by have:=HK0.out;omega⟩,by repeat(first|exact Drawn0.refl _|apply Drawn0.step)⟩
     replace HH:=zqe HH
     rcases HH with⟨HH,hk56,hk57⟩|⟨HH,hk58,hk59⟩
     ·obtain rfl:=Option.some.inj HH.out
      clear HH
      go_wp2
      go_ret
      exact⟨by first|rfl|(simp;done)|(simp[*];done),by repeat(first|exact Drawn0.refl _|apply Drawn0.step)⟩
     replace HH:=zqe HH
     rcases HH with⟨HH,hk61,hk62⟩|⟨HH,hk63,hk64⟩
     ·go_wp2
      go_roundg k16
      case measure=>have:=HK0.out;omega
      case rel=>exact⟨wrap64 (x13+1),(by first|rfl|(simp;done)|(simp[*];done)),HH,⟨by have:=HK0.out;omega⟩,by repeat(first|exact Drawn0.refl _|apply Drawn0.step)⟩
     obtain rfl:=Option.some.inj HH.out
     clear HH
     go_wp2
     go_ret
     exact⟨by first|rfl|(simp;done)|(simp[*];done),by repeat(first|exact Drawn0.refl _|apply Drawn0.step)⟩
    replace HH:=zqG HH
    rcases HH with⟨HH,hk67⟩|⟨HH,hk86⟩
    ·replace HH:=zqd HH
     rcases HH with⟨HH,hk69⟩|⟨HH,hk75⟩
     ·replace HH:=zqe HH
      rcases HH with⟨HH,hk71,hk72⟩|⟨HH,hk73,hk74⟩
      ·obtain rfl:=Option.some.inj HH.out
       clear HH
       go_wp2
       go_ret
       exact⟨by first|rfl|(simp;done)|(simp[*];done),by repeat(first|exact Drawn0.refl _|apply Drawn0.step)⟩
      go_wp2
      go_roundg k16
      case measure=>have:=HK0.out;omega
      case rel=>exact⟨wrap64 (x13+1),(by first|rfl|(simp;done)|(simp[*];done)),HH,⟨by have:=HK0.out;omega⟩,by repeat(first|exact Drawn0.refl _|apply Drawn0.step)⟩
     replace HH:=zqe HH
     rcases HH with⟨HH,hk77,hk78⟩|⟨HH,hk79,hk80⟩
     ·obtain rfl:=Option.some.inj HH.out
      clear HH
      go_wp2
      go_ret
      exact⟨by first|rfl|(simp;done)|(simp[*];done),by repeat(first|exact Drawn0.refl _|apply Drawn0.step)⟩
     replace HH:=zqe HH
     rcases HH with⟨HH,hk82,hk83⟩|⟨HH,hk84,hk85⟩
     ·go_wp2
      go_roundg k16
      case measure=>have:=HK0.out;omega
      case rel=>exact⟨wrap64 (x13+1),(by first|rfl|(simp;done)|(simp[*];done)),HH,⟨by have:=HK0.out;omega⟩,by repeat(first|exact Drawn0.refl _|apply Drawn0.step)⟩
     obtain rfl:=Option.some.inj HH.out
     clear HH
     go_wp2
     go_ret
     exact⟨by first|rfl|(simp;done)|(simp[*];done),by repeat(first|exact Drawn0.refl _|apply Drawn0.step)⟩
    replace HH:=zqe HH
    rcases HH with⟨HH,hk88,hk89⟩|⟨HH,hk90,hk91⟩
    ·obtain rfl:=Option.some.inj HH.out
     clear HH
     go_wp2
     go_ret
     exact⟨by first|rfl|(simp;done)|(simp[*];done),by repeat(first|exact Drawn0.refl _|apply Drawn0.step)⟩
    replace HH:=zqe HH
    rcases HH with⟨HH,hk93,hk94⟩|⟨HH,hk95,hk96⟩
    ·go_wp2
     go_roundg k16
     case measure=>have:=HK0.out;omega
     case rel=>exact⟨wrap64 (x13+1),(by first|rfl|(simp;done)|(simp[*];done)),HH,⟨by have:=HK0.out;omega⟩,by repeat(first|exact Drawn0.refl _|apply Drawn0.step)⟩
    obtain rfl:=Option.some.inj HH.out
    clear HH
    go_wp2
    go_ret
    exact⟨by first|rfl|(simp;done)|(simp[*];done),by repeat(first|exact Drawn0.refl _|apply Drawn0.step)⟩
   obtain rfl:=Option.some.inj HH.out
   clear HH
   go_wp2
   go_ret
   exact⟨by first|rfl|(simp;done)|(simp[*];done),by repeat(first|exact Drawn0.refl _|apply Drawn0.step)⟩

def toponymref20_one.l0:Nat→Int→ByteArray→ByteArray→Int→Int→Bool→Bool→(List (S26))→Option (Bool)
 |0,_,_,_,_,_,_,_,_=>none
 |k+1,x17,x18,x19,x20,x21,x22,x23,l0=>if x19.toList=([]:List UInt8) then(some true) else((toponymref20_at.f k l0 x19).bind fun t37=>(if t37<0 then(some false) else(if 0≤t37 then(if t37<(l0.length:Int) then(if ((rd_T26 l0 t37).f2)=x20 then(if x17>(l0.length:Int) then(some false) else((toponymref20_one.l0 k (wrap64 (x17+1)) ((rd_T26 l0 t37).f0) ((rd_T26 l0 t37).f1) ((rd_T26 l0 t37).f2) ((rd_T26 l0 t37).f3) ((rd_T26 l0 t37).f4) ((rd_T26 l0 t37).f5) l0))) else(some false)) else(none)) else(none))))
def toponymref20_one.f (k:Nat) (l0:List (S26)) (a1_0:ByteArray) (a1_1:ByteArray) (a1_2:Int) (a1_3:Int) (a1_4:Bool) (a1_5:Bool):Option (Bool):=(toponymref20_fits.f a1_2 a1_3).bind fun t9=>(if t9=true then((toponymref18_Word.f k a1_0).bind fun t13=>(if t13=true then((toponymref20_one.l0 k 0 a1_0 a1_1 a1_2 a1_3 a1_4 a1_5 l0)) else(some false))) else(some false))
theorem toponymref20_one.mono_l:∀ k,(∀ y0 y1 y2 y3 y4 y5 y6 y7,LeO (toponymref20_one.l0 k y0 y1 y2 y3 y4 y5 y6 y7) (toponymref20_one.l0 (k+1) y0 y1 y2 y3 y4 y5 y6 y7))
 |0=>fun _ _ _ _ _ _ _ _ r h=>by simp[toponymref20_one.l0] at h
 |k+1=>by
  have ih0:=toponymref20_one.mono_l k
  ·intro y0 y1 y2 y3 y4 y5 y6 y7
   unfold toponymref20_one.l0
   with_reducible repeat' first|exact ih0 _ _ _ _ _ _ _ _|exact toponymref18_Word.mono _ _|exact toponymref20_at.mono _ _ _|exact LeO.refl _|exact LeO.none _|refine LeO.ite ?_ ?_|refine LeO.bind ?_ (fun _=>?_)
theorem toponymref20_one.mono:∀ a0_ a1_ a2_ a3_ a4_ a5_ a6_ k,LeO (toponymref20_one.f k a0_ a1_ a2_ a3_ a4_ a5_ a6_) (toponymref20_one.f (k+1) a0_ a1_ a2_ a3_ a4_ a5_ a6_):=by
 intro a0_ a1_ a2_ a3_ a4_ a5_ a6_ k
 have ih0:=toponymref20_one.mono_l k
 unfold toponymref20_one.f
 with_reducible repeat' first|exact ih0 _ _ _ _ _ _ _ _|exact toponymref18_Word.mono _ _|exact toponymref20_at.mono _ _ _|exact LeO.refl _|exact LeO.none _|refine LeO.ite ?_ ?_|refine LeO.bind ?_ (fun _=>?_)
set_option maxHeartbeats 8000000 in
set_option maxRecDepth 100000 in
theorem toponymref20_one.calls (k:Nat) (P_:Nat→Prop) (A0:Option Addr) (c0:Nat) (l0:List (S26)) (a1_0:ByteArray) (a1_1:ByteArray) (a1_2:Int) (a1_3:Int) (a1_4:Bool) (a1_5:Bool) (r:Bool) (w:World) (hs0:Kd.F k26 w P_ A0 l0.length l0) (hc0:l0.length≤c0) (h:toponymref20_one.f k l0 a1_0 a1_1 a1_2 a1_3 a1_4 a1_5=some r):
  Calls Try.prog 28 #[.slice A0 l0.length c0,.agg #[.string a1_0,.string a1_1,.int .i64 a1_2,.int .i64 a1_3,.bool a1_4,.bool a1_5]] w (fun e w'=>e=.returned (.bool r)∧Below w.heap.size w w'):=by
 unfold toponymref20_one.f at h
 have HH:=za h
 clear h
 have HF0:=zfp hs0
 have HL0:=za hc0
 clear hs0 hc0
 have HB:=za (Below.refl w.heap.size w)
 have hu26:=Try.underlying26
 go_enter Try.func28,Try.ntmps28
 go_wp2_with ((with_reducible refine gd 3 rfl ?_);refine zb 3 26 #[.string a1_0,.string a1_1,.int .i64 a1_2,.int .i64 a1_3,.bool a1_4,.bool a1_5] (h:=?_);intro g1 hg w2 BKg1 hb)
 refine zg ?_
 have GEg1:=zge hg (below_size HB.out)
 replace HF0:=zfe HF0.out hg hb
 replace HB:=zhb HB.out hb
 clear hg hb
 replace cBKg1:=MB.lz6 BKg1.out
 replace HH:=zd HH
 obtain⟨t9,At10,HH⟩:=HH
 go_wp2_with ((with_reducible refine gc 40 rfl ?_);refine zc 40 (some 11) Try.func40 #[.int .i64 a1_2,.int .i64 a1_3] (h:=?_);(with_reducible refine(toponymref20_fits.calls  a1_2 a1_3 t9 _  At10.out).mono ?_);rintro e w' ⟨rfl,⟨nd,rfl⟩⟩;refine⟨_,rfl,?_⟩)
 refine zg ?_
 by_cases c12:t9=true
 ·replace HH:=MW.hpos HH c12
  subst c12
  replace HH:=zd HH
  obtain⟨t13,At14,HH⟩:=HH
  go_wp2_with ((with_reducible refine gc 41 rfl ?_);refine zc 41 (some 16) Try.func41 #[.string a1_0] (h:=?_);(with_reducible refine(toponymref18_Word.calls k  a1_0 t13 _  At14.out).mono ?_);rintro e w' ⟨rfl,⟨nd,rfl⟩⟩;refine⟨_,rfl,?_⟩)
  refine zg ?_
  by_cases c16:t13=true
  ·replace HH:=MW.hpos HH c16
   subst c16
   go_wp2
   go_loopg [5] k (fun kq u5 w'=>∃ (x17:Int) (x18:ByteArray) (x19:ByteArray) (x20:Int) (x21:Int) (x22:Bool) (x23:Bool),u5=.int .i64 x17∧Aside0 ((toponymref20_one.l0 kq x17 x18 x19 x20 x21 x22 x23 l0)=some r)∧Aside0 (kq≤k)∧Aside0 (Kd.F k26 w' (fun k_=>(P_ k_∨w.heap.size≤k_)∧k_≠g1) A0 l0.length l0)∧Aside0 (w'.heap[g1]? =some (.cells #[.string x18,.string x19,.int .i64 x20,.int .i64 x21,.bool x22,.bool x23] 26 (0,0)))∧Aside0 (Below w.heap.size w w'))
   case atStart=>exact⟨0,a1_0,a1_1,a1_2,a1_3,a1_4,a1_5,(by first|rfl|(simp;done)|(simp[*];done)),HH,⟨Nat.le_refl _⟩,⟨(by(with_reducible repeat(first|apply Kd.F_alloc|apply Kd.F_drewN|apply Kd.F_drew));exact HF0.out)⟩,⟨(by(with_reducible repeat(first|refine blk_drewN ?_ _|refine blk_drew ?_|refine blk_alloc ?_ _));exact BKg1.out)⟩,⟨(by repeat(first|(with_reducible first|exact HB.out|apply below_alloc|apply pw_below_drewN|apply below_drew1)|exact HB.out))⟩⟩
   case round=>
    clear HH
    clear HF0 BKg1 HB
    obtain⟨x17,x18,x19,x20,x21,x22,x23,rfl,HA,HK0,HF0,BKg1,HB⟩:=hrel
    obtain⟨w25,rfl⟩:∃ wo_:World,wo_=wr:=⟨_,rfl⟩
    cases gk with
    |zero=>exact absurd HA.out (by simp[toponymref20_one.l0])
    |succ k24=>
     have H:=HA.out
     clear HA
     simp only[toponymref20_one.l0] at H
     have HH:=za H
     clear H
     replace cBKg1:=MB.lz6 BKg1.out
     replace HH:=zqe HH
     rcases HH with⟨HH,hk33,hk34⟩|⟨HH,hk35,hk36⟩
     ·obtain rfl:=Option.some.inj HH.out
      clear HH
      go_wp2
      go_ret
      exact zfi HB.out
     replace HH:=zd HH
     obtain⟨t37,At38,HH⟩:=HH
     go_wp2_with ((with_reducible refine gc 25 rfl ?_);refine zc 25 (some 25) Try.func25 #[.slice A0 l0.length c0,.string x19] (h:=?_);(with_reducible refine(toponymref20_at.calls k24 (fun k_=>(P_ k_∨w.heap.size≤k_)∧k_≠g1) _ _ l0 x19 t37 _ HF0.out HL0.out At38.out).mono ?_);rintro e w' ⟨rfl,⟨nd,rfl⟩⟩;refine⟨_,rfl,?_⟩)
     refine zg ?_
     replace HH:=zqt HH
     rcases HH with⟨HH,hk41,hk42⟩|⟨HH,hk43,hk44⟩
     ·obtain rfl:=Option.some.inj HH.out
      clear HH
      go_wp2
      go_quiet (fail)
      go_wp2
      go_ret
      exact zfi (by repeat(first|(with_reducible first|exact HB.out|apply below_alloc|apply pw_below_drewN|apply below_drew1)|exact HB.out))
     replace HH:=zqdo HH
     obtain⟨HH,hk46⟩:=HH
     replace HH:=zqto HH
     obtain⟨HH,hk48,hk49⟩:=HH
     have p50:0≤(t37:Int):=of_decide_eq_true (by first|(with_reducible assumption)|assumption)
     have q50:t37<(l0.length:Int):=of_decide_eq_true (by first|(with_reducible assumption)|assumption)
     obtain⟨ad50,e50,hx50_0,hx50_1,hx50_2,hx50_3,hx50_4,hx50_5⟩:=atF_T26 HF0.out t37 p50 q50
     cases e50
     replace p50:=eq_true p50
     replace q50:=eq_true q50
     replace HH:=zqe HH
     rcases HH with⟨HH,hk52,hk53⟩|⟨HH,hk64,hk65⟩
     ·replace HH:=zqg HH
      rcases HH with⟨HH,hk55⟩|⟨HH,hk56⟩
      ·obtain rfl:=Option.some.inj HH.out
       clear HH
       go_wp2
       go_quiet (fail)
       go_wp2
       go_ret
       exact zfi (by repeat(first|(with_reducible first|exact HB.out|apply below_alloc|apply pw_below_drewN|apply below_drew1)|exact HB.out))
      go_wp2
      go_quiet (fail)
      go_wp2_with ((with_reducible refine gs 26 3 rfl ?_);refine zs 26 3 #[.string ((rd_T26 l0 t37).f0),.string ((rd_T26 l0 t37).f1),.int .i64 ((rd_T26 l0 t37).f2),.int .i64 ((rd_T26 l0 t37).f3),.bool ((rd_T26 l0 t37).f4),.bool ((rd_T26 l0 t37).f5)] (cs:= #[.string x18,.string x19,.int .i64 x20,.int .i64 x21,.bool x22,.bool x23]) (ty:=26) (by(with_reducible repeat(first|refine blk_drewN ?_ _|refine blk_drew ?_|refine blk_alloc ?_ _));exact BKg1.out) [.string ((rd_T26 l0 t37).f0),.string ((rd_T26 l0 t37).f1),.int .i64 ((rd_T26 l0 t37).f2),.int .i64 ((rd_T26 l0 t37).f3),.bool ((rd_T26 l0 t37).f4),.bool ((rd_T26 l0 t37).f5)] (h:=?_);intro w57 hbk hg)
      refine zg ?_
      replace HF0:=zfg (ok:=(fun k_=>(P_ k_∨w.heap.size≤k_)∧k_≠g1)) (by(with_reducible repeat(first|apply Kd.F_alloc|apply Kd.F_drewN|apply Kd.F_drew));exact HF0.out) hg fun k_ hk_=>hk_.2
      replace HB:=zhg (by repeat(first|(with_reducible first|exact HB.out|apply below_alloc|apply pw_below_drewN|apply below_drew1)|exact HB.out)) hg (below_size (by repeat(first|(with_reducible first|exact HB.out|apply below_alloc|apply pw_below_drewN|apply below_drew1)|exact HB.out))) GEg1
      replace BKg1:=hbk
      clear hg hbk
      clear hx50_0 hx50_1 hx50_2 hx50_3 hx50_4 hx50_5 p50 q50
      replace cBKg1:=MB.lz6 BKg1.out
      go_wp2
      go_roundg k24
      case measure=>have:=HK0.out;omega
      case rel=>exact⟨wrap64 (x17+1),(rd_T26 l0 t37).f0,(rd_T26 l0 t37).f1,(rd_T26 l0 t37).f2,(rd_T26 l0 t37).f3,(rd_T26 l0 t37).f4,(rd_T26 l0 t37).f5,(by first|rfl|(simp;done)|(simp[*];done)),HH,⟨by have:=HK0.out;omega⟩,⟨HF0.out⟩,⟨BKg1.out⟩,⟨HB.out⟩⟩
     obtain rfl:=Option.some.inj HH.out
     clear HH
     go_wp2
     go_quiet (fail)
     go_wp2
     go_ret
     exact zfi (by repeat(first|(with_reducible first|exact HB.out|apply below_alloc|apply pw_below_drewN|apply below_drew1)|exact HB.out))
  replace HH:=MW.hneg HH c16
  replace c16:=Bool.eq_false_iff.mpr c16
  subst c16
  obtain rfl:=Option.some.inj HH.out
  clear HH
  go_wp2
  go_ret
  exact zfi (by repeat(first|(with_reducible first|exact HB.out|apply below_alloc|apply pw_below_drewN|apply below_drew1)|exact HB.out))
 replace HH:=MW.hneg HH c12
 replace c12:=Bool.eq_false_iff.mpr c12
 subst c12
 obtain rfl:=Option.some.inj HH.out
 clear HH
 go_wp2
 go_ret
 exact zfi (by repeat(first|(with_reducible first|exact HB.out|apply below_alloc|apply pw_below_drewN|apply below_drew1)|exact HB.out))

def bytealg_CompareString.f (a0:ByteArray) (a1:ByteArray):Option (Int):=some (Lib.compareBytes a0.data.toList a1.data.toList)
set_option maxHeartbeats 2000000 in
set_option maxRecDepth 100000 in
theorem bytealg_CompareString.calls (a0:ByteArray) (a1:ByteArray) (r:Int) (w:World) (h:bytealg_CompareString.f a0 a1=some r):
  Calls Try.prog 44 #[.string a0,.string a1] w (fun e w'=>e=.returned (.int .i64 r)∧Drawn0 w w'):=by
 obtain rfl:=Option.some.inj h
 go_enter Try.func44,Try.ntmps44
 go_wp2
 rw[run_callFunc_extern Try.func46 (by kernel_rfl) (by kernel_rfl) (by kernel_rfl) (e:=Extern.BytealgCompare.compare) (by kernel_rfl),Lib.run_compareString]
 simp only[Result.andThen]
 rw[Oper.upon_value]
 go_wp2
 go_ret
 exact⟨rfl,Drawn0.refl _⟩

def strings_Compare.f (a0:ByteArray) (a1:ByteArray):Option (Int):=(bytealg_CompareString.f a0 a1).bind fun t1=>(some t1)
set_option maxHeartbeats 8000000 in
set_option maxRecDepth 100000 in
theorem strings_Compare.calls (a0:ByteArray) (a1:ByteArray) (r:Int) (w:World) (h:strings_Compare.f a0 a1=some r):
  Calls Try.prog 36 #[.string a0,.string a1] w (fun e w'=>e=.returned (.int .i64 r)∧Drawn0 w w'):=by
 unfold strings_Compare.f at h
 have HH:=za h
 clear h
 go_enter Try.func36,Try.ntmps36
 replace HH:=zd HH
 obtain⟨t1,At2,HH⟩:=HH
 go_wp2_with ((with_reducible refine gc 44 rfl ?_);refine zc 44 (some 7) Try.func44 #[.string a0,.string a1] (h:=?_);(with_reducible refine(bytealg_CompareString.calls  a0 a1 t1 _  At2.out).mono ?_);rintro e w' ⟨rfl,⟨nd,rfl⟩⟩;refine⟨_,rfl,?_⟩)
 refine zg ?_
 obtain rfl:=Option.some.inj HH.out
 clear HH
 go_wp2
 go_ret
 exact⟨by first|rfl|(simp;done)|(simp[*];done),by repeat(first|exact Drawn0.refl _|apply Drawn0.step)⟩

def attrs_find_1.f (a0_0:ByteArray) (a0_1:ByteArray) (a0_2:Int) (a0_3:Int) (a0_4:Bool) (a0_5:Bool) (a1:ByteArray):Option (Int):=(strings_Compare.f a0_0 a1).bind fun t9=>(some t9)
set_option maxHeartbeats 8000000 in
set_option maxRecDepth 100000 in
theorem attrs_find_1.calls (a0_0:ByteArray) (a0_1:ByteArray) (a0_2:Int) (a0_3:Int) (a0_4:Bool) (a0_5:Bool) (a1:ByteArray) (r:Int) (w:World) (h:attrs_find_1.f a0_0 a0_1 a0_2 a0_3 a0_4 a0_5 a1=some r):
  Calls Try.prog 35 #[.agg #[.string a0_0,.string a0_1,.int .i64 a0_2,.int .i64 a0_3,.bool a0_4,.bool a0_5],.string a1] w (fun e w'=>e=.returned (.int .i64 r)∧Below w.heap.size w w'):=by
 unfold attrs_find_1.f at h
 have HH:=za h
 clear h
 have HB:=za (Below.refl w.heap.size w)
 have hu26:=Try.underlying26
 go_enter Try.func35,Try.ntmps35
 go_wp2_with ((with_reducible refine gd 2 rfl ?_);refine zb 2 26 #[.string a0_0,.string a0_1,.int .i64 a0_2,.int .i64 a0_3,.bool a0_4,.bool a0_5] (h:=?_);intro g1 hg w2 BKg1 hb)
 refine zg ?_
 replace HB:=zhb HB.out hb
 clear hg hb
 replace cBKg1:=MB.lz6 BKg1.out
 replace HH:=zd HH
 obtain⟨t9,At10,HH⟩:=HH
 go_wp2_with ((with_reducible refine gc 36 rfl ?_);refine zc 36 (some 8) Try.func36 #[.string a0_0,.string a1] (h:=?_);(with_reducible refine(strings_Compare.calls  a0_0 a1 t9 _  At10.out).mono ?_);rintro e w' ⟨rfl,⟨nd,rfl⟩⟩;refine⟨_,rfl,?_⟩)
 refine zg ?_
 obtain rfl:=Option.some.inj HH.out
 clear HH
 go_wp2
 go_ret
 exact zfi (by repeat(first|(with_reducible first|exact HB.out|apply below_alloc|apply pw_below_drewN|apply below_drew1)|exact HB.out))

def attrs_find.l0:Nat→Int→Int→ByteArray→(List (S26))→Option (ByteArray × ByteArray × Int × Int × Bool × Bool × Bool)
 |0,_,_,_,_=>none
 |k+1,x9,x10,a1,l0=>if x9<x10 then(if 0≤(wrap64 ((IntKind.u64.wrap (wrap64 (x9+x10))) / 2)) then(if (wrap64 ((IntKind.u64.wrap (wrap64 (x9+x10))) / 2))<(l0.length:Int) then((attrs_find_1.f ((rd_T26 l0 (wrap64 ((IntKind.u64.wrap (wrap64 (x9+x10))) / 2))).f0) ((rd_T26 l0 (wrap64 ((IntKind.u64.wrap (wrap64 (x9+x10))) / 2))).f1) ((rd_T26 l0 (wrap64 ((IntKind.u64.wrap (wrap64 (x9+x10))) / 2))).f2) ((rd_T26 l0 (wrap64 ((IntKind.u64.wrap (wrap64 (x9+x10))) / 2))).f3) ((rd_T26 l0 (wrap64 ((IntKind.u64.wrap (wrap64 (x9+x10))) / 2))).f4) ((rd_T26 l0 (wrap64 ((IntKind.u64.wrap (wrap64 (x9+x10))) / 2))).f5) a1).bind fun t28=>(if t28<0 then((attrs_find.l0 k (wrap64 ((wrap64 ((IntKind.u64.wrap (wrap64 (x9+x10))) / 2))+1)) x10 a1 l0)) else((attrs_find.l0 k x9 (wrap64 ((IntKind.u64.wrap (wrap64 (x9+x10))) / 2)) a1 l0)))) else(none)) else(none)) else(if x9<(l0.length:Int) then(if 0≤x9 then((attrs_find_1.f ((rd_T26 l0 x9).f0) ((rd_T26 l0 x9).f1) ((rd_T26 l0 x9).f2) ((rd_T26 l0 x9).f3) ((rd_T26 l0 x9).f4) ((rd_T26 l0 x9).f5) a1).bind fun t53=>(if t53=0 then(some ((rd_T26 l0 x9).f0,(rd_T26 l0 x9).f1,(rd_T26 l0 x9).f2,(rd_T26 l0 x9).f3,(rd_T26 l0 x9).f4,(rd_T26 l0 x9).f5,true)) else(some ((⟨#[]⟩:ByteArray),(⟨#[]⟩:ByteArray),0,0,false,false,false)))) else(none)) else(some ((⟨#[]⟩:ByteArray),(⟨#[]⟩:ByteArray),0,0,false,false,false)))
def attrs_find.f (k:Nat) (l0:List (S26)) (a1:ByteArray):Option (ByteArray × ByteArray × Int × Int × Bool × Bool × Bool):=(attrs_find.l0 k 0 (l0.length:Int) a1 l0)
theorem attrs_find.mono_l:∀ k,(∀ y0 y1 y2 y3,LeO (attrs_find.l0 k y0 y1 y2 y3) (attrs_find.l0 (k+1) y0 y1 y2 y3))
 |0=>fun _ _ _ _ r h=>by simp[attrs_find.l0] at h
 |k+1=>by
  have ih0:=attrs_find.mono_l k
  ·intro y0 y1 y2 y3
   unfold attrs_find.l0
   with_reducible repeat' first|exact ih0 _ _ _ _|exact LeO.refl _|exact LeO.none _|refine LeO.ite ?_ ?_|refine LeO.bind ?_ (fun _=>?_)
theorem attrs_find.mono:∀ a0_ a1_ k,LeO (attrs_find.f k a0_ a1_) (attrs_find.f (k+1) a0_ a1_):=by
 intro a0_ a1_ k
 have ih0:=attrs_find.mono_l k
 unfold attrs_find.f
 with_reducible repeat' first|exact ih0 _ _ _ _|exact LeO.refl _|exact LeO.none _|refine LeO.ite ?_ ?_|refine LeO.bind ?_ (fun _=>?_)
set_option maxHeartbeats 8000000 in
set_option maxRecDepth 100000 in
theorem attrs_find.calls (k:Nat) (P_:Nat→Prop) (A0:Option Addr) (c0:Nat) (l0:List (S26)) (a1:ByteArray) (r1:ByteArray) (r2:ByteArray) (r3:Int) (r4:Int) (r5:Bool) (r6:Bool) (r7:Bool) (w:World) (hs0:Kd.F k26 w P_ A0 l0.length l0) (hc0:l0.length≤c0) (h:attrs_find.f k l0 a1=some (r1,r2,r3,r4,r5,r6,r7)):
  Calls Try.prog 24 #[.slice A0 l0.length c0,.string a1] w (fun e w'=>e=.returned (.tuple #[.agg #[.string r1,.string r2,.int .i64 r3,.int .i64 r4,.bool r5,.bool r6],.bool r7])∧Below w.heap.size w w'):=by
 unfold attrs_find.f at h
 have HH:=za h
 clear h
 have HF0:=zfp hs0
 clear hs0 hc0
 have HB:=za (Below.refl w.heap.size w)
 have hu26:=Try.underlying26
 go_enter Try.func24,Try.ntmps24
 go_wp2_with ((with_reducible refine gd 4 rfl ?_);refine zb 4 26 #[.string (⟨#[]⟩:ByteArray),.string (⟨#[]⟩:ByteArray),.int .i64 0,.int .i64 0,.bool false,.bool false] (h:=?_);intro g1 hg w2 BKg1 hb)
 refine zg ?_
 have GEg1:=zge hg (below_size HB.out)
 replace HF0:=zfe HF0.out hg hb
 replace HB:=zhb HB.out hb
 clear hg hb
 replace cBKg1:=MB.lz6 BKg1.out
 go_wp2_with (((with_reducible refine gate_callee (f:=34) rfl ?_);(try(refine gate_guard (by rfl) ?_;dsimp only));refine goesL_ (some 11) rfl rfl Try.func34 (by kernel_rfl) rfl #[.slice A0 l0.length c0,.string a1,.func (.func 35) #[] #[]] rfl (by(try simp only[List.map_toArray,List.map_cons,List.map_nil]);first|done|rfl) ?_);refine stop_ ?_)
 refine zg ?_
 go_enter Try.func34,Try.ntmps34
 go_wp2
 go_loopg [9,10] k (fun kq u9 u10 w'=>∃ (x9:Int) (x10:Int),u9=.int .i64 x9∧u10=.int .i64 x10∧Aside0 ((attrs_find.l0 kq x9 x10 a1 l0)=some (r1,r2,r3,r4,r5,r6,r7))∧Aside0 (kq≤k)∧Aside0 (Kd.F k26 w' (fun k_=>(P_ k_∨w.heap.size≤k_)∧k_≠g1) A0 l0.length l0)∧Aside0 (w'.heap[g1]? =some (.cells #[.string (⟨#[]⟩:ByteArray),.string (⟨#[]⟩:ByteArray),.int .i64 0,.int .i64 0,.bool false,.bool false] 26 (0,0)))∧Aside0 (Below w.heap.size w w'))
 case atStart=>exact⟨0,(l0.length:Int),(by first|rfl|(simp;done)|(simp[*];done)),(by first|rfl|(simp;done)|(simp[*];done)),HH,⟨Nat.le_refl _⟩,⟨HF0.out⟩,⟨BKg1.out⟩,⟨HB.out⟩⟩
 case round=>
  clear HH
  clear HF0 BKg1 HB
  obtain⟨x9,x10,rfl,rfl,HA,HK0,HF0,BKg1,HB⟩:=hrel
  obtain⟨w12,rfl⟩:∃ wo_:World,wo_=wr:=⟨_,rfl⟩
  cases gk with
  |zero=>exact absurd HA.out (by simp[attrs_find.l0])
  |succ k11=>
   have H:=HA.out
   clear HA
   simp only[attrs_find.l0] at H
   have HH:=za H
   clear H
   replace cBKg1:=MB.lz6 BKg1.out
   replace HH:=zqt HH
   rcases HH with⟨HH,hk20,hk21⟩|⟨HH,hk45,hk46⟩
   ·replace HH:=zqdo HH
    obtain⟨HH,hk23⟩:=HH
    replace HH:=zqto HH
    obtain⟨HH,hk25,hk26⟩:=HH
    have p27:0≤((wrap64 ((IntKind.u64.wrap (wrap64 (x9+x10))) / 2)):Int):=of_decide_eq_true (by first|(with_reducible assumption)|assumption)
    have q27:(wrap64 ((IntKind.u64.wrap (wrap64 (x9+x10))) / 2))<(l0.length:Int):=of_decide_eq_true (by first|(with_reducible assumption)|assumption)
    obtain⟨ad27,e27,hx27_0,hx27_1,hx27_2,hx27_3,hx27_4,hx27_5⟩:=atF_T26 HF0.out (wrap64 ((IntKind.u64.wrap (wrap64 (x9+x10))) / 2)) p27 q27
    cases e27
    replace p27:=eq_true p27
    replace q27:=eq_true q27
    replace HH:=zd HH
    obtain⟨t28,At29,HH⟩:=HH
    go_wp2_with ((with_reducible refine gd 30 rfl ?_);refine zv 30 Try.func35 #[.agg #[.string ((rd_T26 l0 (wrap64 ((IntKind.u64.wrap (wrap64 (x9+x10))) / 2))).f0),.string ((rd_T26 l0 (wrap64 ((IntKind.u64.wrap (wrap64 (x9+x10))) / 2))).f1),.int .i64 ((rd_T26 l0 (wrap64 ((IntKind.u64.wrap (wrap64 (x9+x10))) / 2))).f2),.int .i64 ((rd_T26 l0 (wrap64 ((IntKind.u64.wrap (wrap64 (x9+x10))) / 2))).f3),.bool ((rd_T26 l0 (wrap64 ((IntKind.u64.wrap (wrap64 (x9+x10))) / 2))).f4),.bool ((rd_T26 l0 (wrap64 ((IntKind.u64.wrap (wrap64 (x9+x10))) / 2))).f5)],.string a1] #[] (h:=?_);(with_reducible refine(attrs_find_1.calls  ((rd_T26 l0 (wrap64 ((IntKind.u64.wrap (wrap64 (x9+x10))) / 2))).f0) ((rd_T26 l0 (wrap64 ((IntKind.u64.wrap (wrap64 (x9+x10))) / 2))).f1) ((rd_T26 l0 (wrap64 ((IntKind.u64.wrap (wrap64 (x9+x10))) / 2))).f2) ((rd_T26 l0 (wrap64 ((IntKind.u64.wrap (wrap64 (x9+x10))) / 2))).f3) ((rd_T26 l0 (wrap64 ((IntKind.u64.wrap (wrap64 (x9+x10))) / 2))).f4) ((rd_T26 l0 (wrap64 ((IntKind.u64.wrap (wrap64 (x9+x10))) / 2))).f5) a1 t28 _  At29.out).mono ?_);rintro e w30 ⟨rfl,hb⟩;refine⟨_,rfl,?_⟩)
    refine zg ?_
    replace HF0:=zfb HF0.out hb
    replace BKg1:=zbb BKg1.out hb
    replace HB:=zhb HB.out hb
    clear hb
    clear hx27_0 hx27_1 hx27_2 hx27_3 hx27_4 hx27_5 p27 q27
    replace cBKg1:=MB.lz6 BKg1.out
    replace HH:=zqt HH
    rcases HH with⟨HH,hk38,hk39⟩|⟨HH,hk40,hk41⟩
    ·go_wp2
     go_roundg k11
     case measure=>have:=HK0.out;omega
     case rel=>exact⟨wrap64 ((wrap64 ((IntKind.u64.wrap (wrap64 (x9+x10))) / 2))+1),x10,(by first|rfl|(simp;done)|(simp[*];done)),(by first|rfl|(simp;done)|(simp[*];done)),HH,⟨by have:=HK0.out;omega⟩,⟨HF0.out⟩,⟨BKg1.out⟩,⟨HB.out⟩⟩
    go_wp2
    go_roundg k11
    case measure=>have:=HK0.out;omega
    case rel=>exact⟨x9,wrap64 ((IntKind.u64.wrap (wrap64 (x9+x10))) / 2),(by first|rfl|(simp;done)|(simp[*];done)),(by first|rfl|(simp;done)|(simp[*];done)),HH,⟨by have:=HK0.out;omega⟩,⟨HF0.out⟩,⟨BKg1.out⟩,⟨HB.out⟩⟩
   replace HH:=zqt HH
   rcases HH with⟨HH,hk48,hk49⟩|⟨HH,hk83,hk84⟩
   ·replace HH:=zqdo HH
    obtain⟨HH,hk51⟩:=HH
    have p52:0≤(x9:Int):=of_decide_eq_true (by first|(with_reducible assumption)|assumption)
    have q52:x9<(l0.length:Int):=of_decide_eq_true (by first|(with_reducible assumption)|assumption)
    obtain⟨ad52,e52,hx52_0,hx52_1,hx52_2,hx52_3,hx52_4,hx52_5⟩:=atF_T26 HF0.out x9 p52 q52
    cases e52
    replace p52:=eq_true p52
    replace q52:=eq_true q52
    replace HH:=zd HH
    obtain⟨t53,At54,HH⟩:=HH
    go_wp2_with ((with_reducible refine gd 46 rfl ?_);refine zv 46 Try.func35 #[.agg #[.string ((rd_T26 l0 x9).f0),.string ((rd_T26 l0 x9).f1),.int .i64 ((rd_T26 l0 x9).f2),.int .i64 ((rd_T26 l0 x9).f3),.bool ((rd_T26 l0 x9).f4),.bool ((rd_T26 l0 x9).f5)],.string a1] #[] (h:=?_);(with_reducible refine(attrs_find_1.calls  ((rd_T26 l0 x9).f0) ((rd_T26 l0 x9).f1) ((rd_T26 l0 x9).f2) ((rd_T26 l0 x9).f3) ((rd_T26 l0 x9).f4) ((rd_T26 l0 x9).f5) a1 t53 _  At54.out).mono ?_);rintro e w55 ⟨rfl,hb⟩;refine⟨_,rfl,?_⟩)
    refine zg ?_
    replace HF0:=zfb HF0.out hb
    replace BKg1:=zbb BKg1.out hb
    replace HB:=zhb HB.out hb
    clear hb
    clear hx52_0 hx52_1 hx52_2 hx52_3 hx52_4 hx52_5 p52 q52
    replace cBKg1:=MB.lz6 BKg1.out
    go_wp2
    go_ret2
    refine⟨_,rfl,?_⟩
    replace HH:=zqe HH
    rcases HH with⟨HH,hk63,hk64⟩|⟨HH,hk73,hk74⟩
    ·have p65:0≤(x9:Int):=of_decide_eq_true (by first|(with_reducible assumption)|assumption)
     have q65:x9<(l0.length:Int):=of_decide_eq_true (by first|(with_reducible assumption)|assumption)
     obtain⟨ad65,e65,hx65_0,hx65_1,hx65_2,hx65_3,hx65_4,hx65_5⟩:=atF_T26 HF0.out x9 p65 q65
     cases e65
     replace p65:=eq_true p65
     replace q65:=eq_true q65
     go_wp2_with ((with_reducible refine gs 26 4 rfl ?_);refine zs 26 4 #[.string ((rd_T26 l0 x9).f0),.string ((rd_T26 l0 x9).f1),.int .i64 ((rd_T26 l0 x9).f2),.int .i64 ((rd_T26 l0 x9).f3),.bool ((rd_T26 l0 x9).f4),.bool ((rd_T26 l0 x9).f5)] BKg1.out [.string ((rd_T26 l0 x9).f0),.string ((rd_T26 l0 x9).f1),.int .i64 ((rd_T26 l0 x9).f2),.int .i64 ((rd_T26 l0 x9).f3),.bool ((rd_T26 l0 x9).f4),.bool ((rd_T26 l0 x9).f5)] (h:=?_);intro w66 hbk hg)
     refine zg ?_
     replace HB:=zhg HB.out hg (below_size HB.out) GEg1
     replace BKg1:=hbk
     clear hg hbk
     clear hx65_0 hx65_1 hx65_2 hx65_3 hx65_4 hx65_5 p65 q65
     replace cBKg1:=MB.lz6 BKg1.out
     have H:=HH.out
     simp only[Option.some.injEq,Prod.mk.injEq] at H
     obtain⟨rfl,rfl,rfl,rfl,rfl,rfl,rfl⟩:=H
     clear HH
     go_wp2
     refine bodyPost_ret (results_ct rfl _ _ g1 26 #[.string ((rd_T26 l0 x9).f0),.string ((rd_T26 l0 x9).f1),.int .i64 ((rd_T26 l0 x9).f2),.int .i64 ((rd_T26 l0 x9).f3),.bool ((rd_T26 l0 x9).f4),.bool ((rd_T26 l0 x9).f5)] (0,0) _ rfl BKg1.out Try.underlying26 rfl (by kernel_rfl)) rfl ?_
     exact zfi HB.out
    go_wp2_with ((with_reducible refine gs 26 4 rfl ?_);refine zs 26 4 #[.string (⟨#[]⟩:ByteArray),.string (⟨#[]⟩:ByteArray),.int .i64 0,.int .i64 0,.bool false,.bool false] BKg1.out [.string (⟨#[]⟩:ByteArray),.string (⟨#[]⟩:ByteArray),.int .i64 0,.int .i64 0,.bool false,.bool false] (h:=?_);intro w75 hbk hg)
    refine zg ?_
    replace HB:=zhg HB.out hg (below_size HB.out) GEg1
    replace BKg1:=hbk
    clear hg hbk
    replace cBKg1:=MB.lz6 BKg1.out
    have H:=HH.out
    simp only[Option.some.injEq,Prod.mk.injEq] at H
    obtain⟨rfl,rfl,rfl,rfl,rfl,rfl,rfl⟩:=H
    clear HH
    go_wp2
    refine bodyPost_ret (results_ct rfl _ _ g1 26 #[.string (⟨#[]⟩:ByteArray),.string (⟨#[]⟩:ByteArray),.int .i64 0,.int .i64 0,.bool false,.bool false] (0,0) _ rfl BKg1.out Try.underlying26 rfl (by kernel_rfl)) rfl ?_
    exact zfi HB.out
   go_wp2
   go_ret2
   refine⟨_,rfl,?_⟩
   go_wp2_with ((with_reducible refine gs 26 4 rfl ?_);refine zs 26 4 #[.string (⟨#[]⟩:ByteArray),.string (⟨#[]⟩:ByteArray),.int .i64 0,.int .i64 0,.bool false,.bool false] BKg1.out [.string (⟨#[]⟩:ByteArray),.string (⟨#[]⟩:ByteArray),.int .i64 0,.int .i64 0,.bool false,.bool false] (h:=?_);intro w85 hbk hg)
   refine zg ?_
   replace HB:=zhg HB.out hg (below_size HB.out) GEg1
   replace BKg1:=hbk
   clear hg hbk
   replace cBKg1:=MB.lz6 BKg1.out
   have H:=HH.out
   simp only[Option.some.injEq,Prod.mk.injEq] at H
   obtain⟨rfl,rfl,rfl,rfl,rfl,rfl,rfl⟩:=H
   clear HH
   go_wp2
   refine bodyPost_ret (results_ct rfl _ _ g1 26 #[.string (⟨#[]⟩:ByteArray),.string (⟨#[]⟩:ByteArray),.int .i64 0,.int .i64 0,.bool false,.bool false] (0,0) _ rfl BKg1.out Try.underlying26 rfl (by kernel_rfl)) rfl ?_
   exact zfi HB.out
end Go.Proofs.Ytcjafemnkhifmaa.GA

namespace Go.Proofs.Ytcjafemnkhifmaa.GA
open Go.RowKit Go.Proofs.Ytcjafemnkhifmaa Go.Proofs.Ytcjafemnkhifmaa.MW Go.Proofs.Ytcjafemnkhifmaa.MQ Go.Proofs.YtcjafemnkhifmaaW.PrintWords Go.Proofs.YtcjafemnkhifmaaW.PrintLast Go.Proofs.YtcjafemnkhifmaaW.PrintMore
attribute [local go_sem] max2_int min2_int max_two min_two
set_option linter.unusedVariables false
set_option linter.unusedSimpArgs false
def attrs_up.seq:Nat→Int→ByteArray→List S26→Option (List S26)
  |0,_,_,_=>none
  |k+1,i,a,l=>if i<wrap64 ((l.length:Int)+1) then((attrs_find.f k l a).bind fun b=>if b.2.2.2.2.2.2=true then((attrs_up.seq k (wrap64 (i+1)) b.2.1 l).bind fun r=>some ((⟨b.1,b.2.1,b.2.2.1,b.2.2.2.1,b.2.2.2.2.1,b.2.2.2.2.2.1⟩:S26)::r)) else(some [])) else(some [])
abbrev enc26 (x:S26):Array Value:= #[.agg #[.string x.f0,.string x.f1,.int .i64 x.f2,.int .i64 x.f3,.bool x.f4,.bool x.f5]]
set_option maxHeartbeats 8000000 in
set_option maxRecDepth 100000 in
theorem attrs_up.iter (k:Nat) (K K':Nat→Prop) (Bl Bn:Nat) (A0:Option Addr) (c0:Nat) (l0:List S26) (name:ByteArray) (xs:List S26) (w:World) (hl:w.heap[Bl]? =some (.cells #[.slice A0 l0.length c0] 22 (0,0))) (hn:w.heap[Bn]? =some (.cells #[.string name] 9 (0,0)))
    (hF:Kd.F k26 w K' A0 l0.length l0) (hc0:l0.length≤c0) (hKl:K Bl) (hK':∀ k,K' k→K k∧k≠Bn) (hne:Bl≠Bn) (h:attrs_up.seq k 0 name l0=some xs):
    Iter Try.prog 39 #[.pointer (some ⟨Bl,0,none⟩),.pointer (some ⟨Bn,0,none⟩)] enc26 (fun k=>k=Bn) K xs w:=by
  intro l J Jx W hkw hJ hY h0
  have hlW:=(hkw.block Bl (blk_lt hl) (blk_lt hl)).trans hl
  have hnW:=(hkw.block Bn (blk_lt hn) (blk_lt hn)).trans hn
  have hFW:=Kd.F_step (Kd.F_bound hF) (fun k hk _=>hkw.block k hk.2 hk.2)
  replace hFW:=Kd.F_mono hFW (fun k hk=>hk.1)
  clear hF hkw hl hn
  have HH:=za h
  have HY:=za hY
  have HJ:=za hJ
  have H0:=za h0
  have HF0:=za hFW
  have BKl:=za hlW
  have BKn:=za hnW
  have HK':=za hK'
  have HKl:=za hKl
  have HNE:=za hne
  have HL0:=za hc0
  clear h hY hJ h0 hFW hlW hnW hK' hne hKl hc0
  have c1:=MB.lz1 BKl.out
  have c2:=MB.lz1 BKn.out
  have hu26:=Try.underlying26
  show Calls Try.prog 39 #[.func (.yield l) #[] #[],.pointer (some ⟨Bl,0,none⟩),.pointer (some ⟨Bn,0,none⟩)] W _
  go_enter Try.func39,Try.ntmps39
  go_wp2
  go_loopg [9] k (fun kq u9 w'=>∃ (x9:Int) (cur:ByteArray) (E:Nat→Prop) (pre rest:List S26),u9=.int .i64 x9∧Aside0 (attrs_up.seq kq x9 cur l0=some rest)∧Aside0 (xs=pre++rest)∧Aside0 (Kd.F k26 w' K' A0 l0.length l0)∧Aside0 (w'.heap[Bl]? =some (.cells #[.slice A0 l0.length c0] 22 (0,0)))∧Aside0 (w'.heap[Bn]? =some (.cells #[.string cur] 9 (0,0)))∧Aside0 (E Bn)∧Aside0 (J E pre w'))
  case atStart=>exact⟨0,name,(fun k=>k=Bn),[],xs,rfl,HH,⟨rfl⟩,HF0,BKl,BKn,⟨rfl⟩,H0⟩
  case round=>
    clear c1 c2 HH HF0 BKl BKn H0
    obtain⟨x9,cur,E,pre,rest,rfl,HA,HX,HF0,BKl,BKn,HE,HJ0⟩:=hrel
    obtain⟨w1,rfl⟩:∃ wo_:World,wo_=wr:=⟨_,rfl⟩
    cases gk with
    |zero=>exact absurd HA.out (by simp[attrs_up.seq])
    |succ k1=>
    have H:=HA.out
    clear HA
    simp only[attrs_up.seq] at H
    have HH:=za H
    clear H
    have c1:=MB.lz1 BKl.out
    have c2:=MB.lz1 BKn.out
    replace HH:=zqt HH
    rcases HH with⟨HH,hk20,hk21⟩|⟨HH,hk45,hk46⟩
    · replace HH:=zd HH
      obtain⟨⟨t1,t2,t3,t4,t5,t6,t7⟩,At,HH⟩:=HH
      dsimp only at HH
      have HB:=za (Below.refl w1.heap.size w1)
      go_wp2_with ((with_reducible refine gc 24 rfl ?_);refine zc 24 (some 14) Try.func24 #[.slice A0 l0.length c0,.string cur] (h:=?_);(with_reducible refine(attrs_find.calls k1 K' A0 c0 l0 cur t1 t2 t3 t4 t5 t6 t7 _ HF0.out HL0.out At.out).mono ?_);rintro e w5 ⟨rfl,hb⟩;refine⟨_,rfl,?_⟩)
      refine zg ?_
      clear c1 c2
      replace HF0:=zfb HF0.out hb
      replace BKl:=zbb BKl.out hb
      replace BKn:=zbb BKn.out hb
      replace HB:=zhb HB.out hb
      clear hb
      go_wp2_with ((with_reducible refine gd 4 rfl ?_);refine zb 4 26 #[.string (⟨#[]⟩:ByteArray),.string (⟨#[]⟩:ByteArray),.int .i64 0,.int .i64 0,.bool false,.bool false] (h:=?_);intro g1 hg w6 BKg1 hb)
      refine zg ?_
      have GEg1:=zge hg (below_size HB.out)
      replace HF0:=zfe HF0.out hg hb
      have NEl:=znq hg BKl.out
      have NEn:=znq hg BKn.out
      replace BKl:=zbb BKl.out hb
      replace BKn:=zbb BKn.out hb
      replace HB:=zhb HB.out hb
      clear hg hb
      have c3:=MB.lz6 BKg1.out
      go_wp2_with ((with_reducible refine gs 26 4 rfl ?_);refine zs 26 4 #[.string t1,.string t2,.int .i64 t3,.int .i64 t4,.bool t5,.bool t6] BKg1.out [.string t1,.string t2,.int .i64 t3,.int .i64 t4,.bool t5,.bool t6] (h:=?_);intro w7 hbk hg)
      refine zg ?_
      replace HF0:=zfg HF0.out hg fun k_ hk_=>hk_.2
      replace BKl:=zbg BKl.out hg NEl
      replace BKn:=zbg BKn.out hg NEn
      replace HB:=zhg HB.out hg (below_size HB.out) GEg1
      replace BKg1:=hbk
      clear hg hbk c3
      have c1:=MB.lz1 BKl.out
      have c2:=MB.lz1 BKn.out
      have c3:=MB.lz6 BKg1.out
      have hgl:=blk_lt BKg1.out
      have HJ2:=za (HJ.out.more _ _ _ _ _ HJ0.out (Kp.grown0 HB.out) GEg1.out hgl)
      clear HJ0 hgl
      repeat(first|(refine code_stop (id:=3) ?_)|go_values|go_skip|go_guarded|go_step|go_upon)
      refine zg ?_
      by_cases hok:t7=true
      · subst hok
        replace HH:=za (by have h:=HH.out;rw[if_pos rfl] at h;exact h)
        replace HH:=zd HH
        obtain⟨rest',At2,HH⟩:=HH
        have hr:=Option.some.inj HH.out
        obtain⟨fn,tmps,assign,body,hy,hR⟩:=HY.out _ pre _ rest' w7 (by rw[HX.out,← hr]) HJ2.out
        dsimp only[enc26] at hy hR
        clear At HY
        have hr2:=Lib.hid hr
        clear hr
        refine(wpIn_wide (n:=1)).1 ?_
        gi_wp2
        refine hR.mono ?_
        clear hR hy
        rintro e w8 (⟨rfl,hJ8,hk8⟩|⟨rfl,hJ8⟩)
        · have HF8:=za (Kd.F_step HF0.out (fun k_ hk_ hlt_=>hk8.block k_ (.inl (HK'.out k_ hk_.1).1) hlt_))
          have BKl8:=za ((hk8.block Bl (.inl HKl.out) (blk_lt BKl.out)).trans BKl.out)
          have BKn8:=za ((hk8.block Bn (.inr (.inl HE.out)) (blk_lt BKn.out)).trans BKn.out)
          have BKg8:=za ((hk8.block g1 (.inr (.inr rfl)) (blk_lt BKg1.out)).trans BKg1.out)
          have HJ8:=za hJ8
          clear hJ8 hk8 c1 c2 c3 HF0 BKl BKn BKg1 HJ2 HB
          have c1:=MB.lz1 BKl8.out
          have c2:=MB.lz1 BKn8.out
          have c3:=MB.lz6 BKg8.out
          gi_wp2
          go_wp2_with ((with_reducible refine gs 9 2 rfl ?_);refine zs 9 2 #[.string t2] BKn8.out [.string t2] (h:=?_);intro w9 hbk hg)
          refine zg ?_
          replace HF8:=za (Kd.F_mono (ok':=K') (Kd.F_grown (ok:=fun k_=>K' k_∧k_≠g1) HF8.out hg (fun k_ hk_ he_=>(HK'.out k_ hk_.1).2 (Option.some.inj he_))) (fun k_ hk_=>hk_.1))
          have NEx:Aside0 (Bl≠Bn):=HNE
          replace BKl8:=zbg BKl8.out hg NEx
          replace HJ8:=za (HJ.out.step _ _ _ _ _ HJ8.out hg (fun r e=>by injection e with e;rw[← e];exact .inl HE.out))
          have HE2:Aside0 ((fun k=>E k∨k=g1) Bn):=⟨.inl HE.out⟩
          clear hg c1 c2 c3 NEx BKn8
          go_wp2
          go_roundg k1
          case measure=>omega
          case rel=>exact⟨wrap64 (x9+1),t2,(fun k=>E k∨k=g1),pre++[⟨t1,t2,t3,t4,t5,t6⟩],rest',rfl,At2,⟨by rw[HX.out,← hr2.out];simp⟩,HF8,BKl8,hbk,HE2,HJ8⟩
        · have hJ9:=Lib.hid hJ8
          clear hJ8 c1 c2 c3 HJ2
          gi_wp2
          go_wp2
          refine bodyPost_ret (results_none rfl _ _ _) rfl ?_
          exact⟨⟨_,rfl⟩,.inr ⟨_,_,hJ9.out⟩⟩
      · have hok':t7=false:=by simpa using hok
        subst hok'
        replace HH:=za (by have h:=HH.out;rw[if_neg (by simp)] at h;exact h)
        have hr:=Option.some.inj HH.out
        have hX:xs=pre:=by rw[HX.out,← hr];simp
        subst hX
        have hjx:=HJ2.out
        replace HJ2:=Lib.hid hjx
        clear hjx hr hok
        go_wp2
        refine bodyPost_ret (results_none rfl _ _ _) rfl ?_
        exact⟨⟨_,rfl⟩,.inl ⟨_,HJ2.out⟩⟩
    · have hr:=Option.some.inj HH.out
      have hX:xs=pre:=by rw[HX.out,← hr];simp
      subst hX
      have hjx:=Lib.hid HJ0.out
      clear hr HJ0
      go_wp2
      go_end0
      exact⟨⟨_,rfl⟩,.inl ⟨_,hjx.out⟩⟩
end Go.Proofs.Ytcjafemnkhifmaa.GA

namespace Go.Proofs.Ytcjafemnkhifmaa.GA
open Go.RowKit Go.Proofs.Ytcjafemnkhifmaa Go.Proofs.Ytcjafemnkhifmaa.MW Go.Proofs.Ytcjafemnkhifmaa.MQ Go.Proofs.YtcjafemnkhifmaaW.PrintWords Go.Proofs.YtcjafemnkhifmaaW.PrintLast Go.Proofs.YtcjafemnkhifmaaW.PrintMore
set_option linter.unusedVariables false
set_option linter.unusedSimpArgs false
def attrs_up.cnt:Nat→Int→Int
  |0,n=>n
  |m+1,n=>wrap64 (attrs_up.cnt m n+1)
set_option maxHeartbeats 2000000 in
/-- A loop over a line that counts. -/
theorem attrs_up.count {Q:Exit→Act→World→Prop} {tmps:Array Value} {ds:List Nat} {w:World} {b:Nat} {g:Operand} {t:Tmp} {L:List Oper} {idb idr:Nat}
    (k:Nat) (K':Nat→Prop) (Bl Bn:Nat) (A0:Option Addr) (c0:Nat) (l0:List S26) (name:ByteArray) (xs:List S26) (hl:w.heap[Bl]? =some (.cells #[.slice A0 l0.length c0] 22 (0,0))) (hn:w.heap[Bn]? =some (.cells #[.string name] 9 (0,0)))
    (hF:Kd.F k26 w K' A0 l0.length l0) (hc0:l0.length≤c0) (gn:Nat) (n0:Int) (hgn:w.heap[gn]? =some (.cells #[.int .i64 n0] 3 (0,0))) (hKn:∀ k,K' k→k≠Bn) (hKg:∀ k,K' k→k≠gn) (hln:Aside0 (Bl≠Bn)) (hgl:Aside0 (gn≠Bl)) (hgb:Aside0 (gn≠Bn)) (h:attrs_up.seq k 0 name l0=some xs)
    (hds:Aside0 (Ds b ds w)) (hb:b≤w.heap.size)
    (hg:(⟨tmps,ds.map markD⟩:Act).eval g=.func (.func 39) #[] #[.pointer (some ⟨Bl,0,none⟩),.pointer (some ⟨Bn,0,none⟩)])
    (hd:∀ o ∈ L,∀ c,o.op≠.defer c)
    (hbody:∀ (x:S26) (n:Int) (W:World) (Q':Exit→Act→World→Prop),Aside0 (W.heap[gn]? =some (.cells #[.int .i64 n] 3 (0,0)))→(∀ a' W',Aside0 (W'.heap[gn]? =some (.cells #[.int .i64 (wrap64 (n+1))] 3 (0,0)))→W.grownBy W' (some gn)→Q' .normal a' W')→
      wpList Try.prog L.toArray Q' L ⟨tmps.setIfInBounds t (.agg #[.string x.f0,.string x.f1,.int .i64 x.f2,.int .i64 x.f3,.bool x.f4,.bool x.f5]),[]⟩ W)
    (hK:∀ (w':World) (ds':List Nat),Aside0 (w'.heap[gn]? =some (.cells #[.int .i64 (attrs_up.cnt xs.length n0)] 3 (0,0)))→Kp (fun k=>k≠gn∧k≠Bn∧k<w.heap.size) w w'→Aside0 (Ds b ds' w')→Stop (Q .normal ⟨tmps,ds'.map markD⟩ w') (.mk _)):
    (Code.rangeFunc g #[t] .skip (.block idb (.region idr L.toArray false))).wp Try.prog Q ⟨tmps,ds.map markD⟩ w:=by
  have hgnlt:=blk_lt hgn
  refine range_law (enc:=enc26) (E₀:=fun k=>k=Bn) (K:=fun k=>(K' k∧k<w.heap.size)∨k=Bl) (xs:=xs) hg (enters_ Try.func39 (by kernel_rfl) rfl)
    (attrs_up.iter k _ (fun k=>K' k∧k<w.heap.size) Bl Bn A0 c0 l0 name xs w hl hn (Kd.F_bound hF) hc0 (.inr rfl) (fun k hk=>⟨.inl hk,hKn k hk.1⟩) hln.out h) (fun _=>rfl) (fun k e=>by rw[e];exact blk_lt hn) (fun k hk=>hk.elim (fun h=>h.2) (fun e=>by rw[e];exact blk_lt hl))
    (fun E pre W=>W.heap[gn]? =some (.cells #[.int .i64 (attrs_up.cnt pre.length n0)] 3 (0,0))∧(∀ k,E k→k≠gn∧(k<w.heap.size→k=Bn))∧Kp (fun k=>k≠gn∧k≠Bn∧k<w.heap.size) w W)
    (fun _ _ _ _=>False) ⟨?_,?_⟩ (fun _ _ _ _ _ _ h _ _=>h) ⟨hgn,fun k e=>⟨fun h=>hgb.out (by rw[← h,e]),fun _=>e⟩,Kp.refl _ _⟩ ?_ ?_ (fun _ _ _ _ h=>h.elim)
  · rintro E s A A' row ⟨h1,h2,h3⟩ hg' hr
    exact⟨(hg'.block gn (blk_lt h1) (fun e=>(h2 gn (hr gn e.symm)).1 rfl)).trans h1,h2,h3.trans (Kp.grown hg' (fun r e hk=>hk.2.1 ((h2 r (hr r e)).2 hk.2.2)))⟩
  · rintro E s A A' g' ⟨h1,h2,h3⟩ hg' hge hlt
    refine⟨(hg'.block gn (blk_lt h1) (by simp)).trans h1,fun k hk=>hk.elim (h2 k) (fun e=>?_),h3.trans (Kp.grown hg' (fun r e=>by cases e))⟩
    have:=h3.size
    have:=blk_lt h1
    exact⟨by omega,fun h=>by omega⟩
  · rintro l E pre x rest W hxs ⟨h1,h2,h3⟩ hEl hlt
    refine wpIn_skip ⟨rfl,fun V hV=>?_⟩
    refine wpIn_block (round_region (inBlock_calm roundEnd_calm) hd ?_)
    have hlg:l≠gn:=(h2 l hEl).1
    have hV1:=(hV.block gn (blk_lt h1) (fun e=>hlg (Option.some.inj e).symm)).trans h1
    show wpList Try.prog L.toArray _ L ⟨setAll #[t] #[.agg #[.string x.f0,.string x.f1,.int .i64 x.f2,.int .i64 x.f3,.bool x.f4,.bool x.f5]] tmps,[]⟩ V
    rw[setAll_one]
    refine hbody x _ V _ ⟨hV1⟩ ?_
    intro a' W' hW' hg'
    have hKE:∀ k,((K' k∧k<w.heap.size)∨k=Bl)∨E k→k≠gn:=fun k hk=>by
      rcases hk with(h|h)|h
      · exact hKg k h.1
      · rw[h];exact fun e=>hgl.out e.symm
      · exact(h2 k h).1
    refine⟨(Kp.grown hV (fun r e hk=>hk.2 (Option.some.inj e).symm)).trans (Kp.grown hg' (fun r e hk=>hKE r hk.1 (Option.some.inj e).symm)),hg'.block l (Nat.lt_of_lt_of_le hlt hV.size) (fun e=>hlg (Option.some.inj e)),?_,h2,?_⟩
    · rw[List.length_append];exact hW'.out
    · refine h3.trans ((Kp.grown hV (fun r e hk=>?_)).trans (Kp.grown hg' (fun r e hk=>hk.1 (Option.some.inj e).symm)))
      have e':=Option.some.inj e
      subst e'
      exact hk.2.1 ((h2 l hEl).2 hk.2.2)
  · rintro E W ⟨h1,h2,h3⟩ hED hWD
    refine(hK W (w.heap.size::ds) ⟨h1⟩ h3 ⟨List.nodup_cons.2 ⟨fun hm=>?_,hds.out.1⟩,fun D hD=>?_⟩).out
    · have:=blk_lt (hds.out.2 _ hm).2
      omega
    · rcases List.mem_cons.1 hD with e|hm
      · rw[e];exact⟨hb,hWD⟩
      · have hd':=hds.out.2 D hm
        refine⟨hd'.1,(h3.block D ⟨fun e=>?_,fun e=>?_,blk_lt hd'.2⟩ (blk_lt hd'.2)).trans hd'.2⟩
        · have h5:=hd'.2;rw[e,hgn] at h5;cases h5
        · have h5:=hd'.2;rw[e,hn] at h5;cases h5
theorem attrs_up.seq.mono_l:∀ k,(∀ y0 y1 y2,LeO (attrs_up.seq k y0 y1 y2) (attrs_up.seq (k+1) y0 y1 y2))
  |0=>fun _ _ _ r h=>by simp[attrs_up.seq] at h
  |k+1=>by
    have ih0:=attrs_up.seq.mono_l k
    · intro y0 y1 y2
      unfold attrs_up.seq
      repeat' first
      |(with_reducible exact ih0 _ _ _)
      |(with_reducible exact attrs_find.mono _ _ _)
      |(with_reducible exact LeO.refl _)
      |(with_reducible exact LeO.none _)
      |(with_reducible refine LeO.ite ?_ ?_)
      |(with_reducible refine LeO.bind ?_ (fun _=>?_))
      |exact ih0 _ _ _
      |exact attrs_find.mono _ _ _
      |exact LeO.none _
      |refine LeO.ite ?_ ?_
      |refine LeO.bind ?_ (fun _=>?_)
theorem attrs_up.seq.mono:∀ a0_ a1_ a2_ k,LeO (attrs_up.seq k a0_ a1_ a2_) (attrs_up.seq (k+1) a0_ a1_ a2_):=fun a b c k=>attrs_up.seq.mono_l k a b c
end Go.Proofs.Ytcjafemnkhifmaa.GA

namespace Go.Proofs.Ytcjafemnkhifmaa.GA
open Go.RowKit Go.Proofs.Ytcjafemnkhifmaa Go.Proofs.Ytcjafemnkhifmaa.MW Go.Proofs.YtcjafemnkhifmaaW.PrintWords Go.Proofs.YtcjafemnkhifmaaW.PrintLast Go.Proofs.YtcjafemnkhifmaaW.PrintMore
attribute [local go_sem] max2_int min2_int max_two min_two
set_option linter.unusedVariables false
set_option linter.unusedSimpArgs false
def dn_small.f (a0:Int):Option (Bool):=if a0≥97 then(some (decide (a0≤122))) else(some false)
set_option maxHeartbeats 8000000 in
set_option maxRecDepth 100000 in
theorem dn_small.calls (a0:Int) (r:Bool) (w:World) (h:dn_small.f a0=some r):
  Calls Try.prog 45 #[.int .u8 a0] w (fun e w'=>e=.returned (.bool r)∧Drawn0 w w'):=by
 unfold dn_small.f at h
 have HH:=za h
 clear h
 go_enter Try.func45,Try.ntmps45
 replace HH:=zqG HH
 rcases HH with⟨HH,hk2⟩|⟨HH,hk3⟩
 ·obtain rfl:=Option.some.inj HH.out
  clear HH
  go_wp2
  go_ret
  exact⟨by first|rfl|(simp;done)|(simp[*];done),by repeat(first|exact Drawn0.refl _|apply Drawn0.step)⟩
 obtain rfl:=Option.some.inj HH.out
 clear HH
 go_wp2
 go_ret
 exact⟨by first|rfl|(simp;done)|(simp[*];done),by repeat(first|exact Drawn0.refl _|apply Drawn0.step)⟩

def dn_Word.l0:Nat→Int→ByteArray→Option (Bool)
 |0,_,_=>none
 |k+1,x21,a0=>if x21<(a0.size:Int) then(if 0≤x21 then((dn_small.f (bt a0 x21)).bind fun t30=>(if t30=true then((dn_Word.l0 k (wrap64 (x21+1)) a0)) else(if (bt a0 x21)<48 then(if (bt a0 x21)=45 then((dn_Word.l0 k (wrap64 (x21+1)) a0)) else(some false)) else(if (bt a0 x21)>57 then(if (bt a0 x21)=45 then((dn_Word.l0 k (wrap64 (x21+1)) a0)) else(some false)) else((dn_Word.l0 k (wrap64 (x21+1)) a0)))))) else(none)) else(some true)
def dn_Word.f (k:Nat) (a0:ByteArray):Option (Bool):=if a0.toList=([]:List UInt8) then(some false) else(if (a0.size:Int)>16 then(some false) else(if 0<(a0.size:Int) then((dn_small.f (bt a0 0)).bind fun t17=>(if t17=true then((dn_Word.l0 k 1 a0)) else(some false))) else(none)))
theorem dn_Word.mono_l:∀ k,(∀ y0 y1,LeO (dn_Word.l0 k y0 y1) (dn_Word.l0 (k+1) y0 y1))
 |0=>fun _ _ r h=>by simp[dn_Word.l0] at h
 |k+1=>by
  have ih0:=dn_Word.mono_l k
  ·intro y0 y1
   unfold dn_Word.l0
   with_reducible repeat' first|exact ih0 _ _|exact LeO.refl _|exact LeO.none _|refine LeO.ite ?_ ?_|refine LeO.bind ?_ (fun _=>?_)
theorem dn_Word.mono:∀ a0_ k,LeO (dn_Word.f k a0_) (dn_Word.f (k+1) a0_):=by
 intro a0_ k
 have ih0:=dn_Word.mono_l k
 unfold dn_Word.f
 with_reducible repeat' first|exact ih0 _ _|exact LeO.refl _|exact LeO.none _|refine LeO.ite ?_ ?_|refine LeO.bind ?_ (fun _=>?_)
set_option maxHeartbeats 8000000 in
set_option maxRecDepth 100000 in
theorem dn_Word.calls (k:Nat) (a0:ByteArray) (r:Bool) (w:World) (h:dn_Word.f k a0=some r):
  Calls Try.prog 37 #[.string a0] w (fun e w'=>e=.returned (.bool r)∧Drawn0 w w'):=by
 unfold dn_Word.f at h
 have HH:=za h
 clear h
 go_enter Try.func37,Try.ntmps37
 replace HH:=zqe HH
 rcases HH with⟨HH,hk2,hk3⟩|⟨HH,hk4,hk5⟩
 ·obtain rfl:=Option.some.inj HH.out
  clear HH
  go_wp2
  go_ret
  exact⟨by first|rfl|(simp;done)|(simp[*];done),by repeat(first|exact Drawn0.refl _|apply Drawn0.step)⟩
 replace HH:=zqK 16 HH
 rcases HH with⟨HH,hk7,hk8⟩|⟨HH,hk9,hk10⟩
 ·obtain rfl:=Option.some.inj HH.out
  clear HH
  go_wp2
  go_ret
  exact⟨by first|rfl|(simp;done)|(simp[*];done),by repeat(first|exact Drawn0.refl _|apply Drawn0.step)⟩
 replace HH:=zqno 0 HH
 obtain⟨HH,hk12,hk13,hk14,hk15⟩:=HH
 have p16:0≤(0:Int):=(by omega)
 have q16:0<a0.size:=(by have:(0:Int)<(a0.size:Int):=of_decide_eq_true (by first|(with_reducible assumption)|assumption);omega)
 have hx16:∀ h:0<a0.size,((a0[0]'h).toNat:Int)=bt a0 0:=MW.bt_at' a0 0
 clear p16
 have qi16:(0<(a0.size:Int))=True:=eq_true (of_decide_eq_true (by first|(with_reducible assumption)|assumption))
 replace q16:=eq_true q16
 replace HH:=zd HH
 obtain⟨t17,At18,HH⟩:=HH
 go_wp2_with ((with_reducible refine gc 45 rfl ?_);refine zc 45 (some 15) Try.func45 #[.int .u8 (bt a0 0)] (h:=?_);(with_reducible refine(dn_small.calls  (bt a0 0) t17 _  At18.out).mono ?_);rintro e w' ⟨rfl,⟨nd,rfl⟩⟩;refine⟨_,rfl,?_⟩)
 refine zg ?_
 by_cases c20:t17=true
 ·replace HH:=MW.hpos HH c20
  subst c20
  go_wp2
  go_loopg [3] k (fun kq u3 w'=>∃ (x21:Int),u3=.int .i64 x21∧Aside0 ((dn_Word.l0 kq x21 a0)=some r)∧Aside0 (kq≤k)∧Drawn0 w w')
  case atStart=>exact⟨1,(by first|rfl|(simp;done)|(simp[*];done)),HH,⟨Nat.le_refl _⟩,by repeat(first|exact Drawn0.refl _|apply Drawn0.step)⟩
  case round=>
   clear hk4
   clear hk5
   clear hk9
   clear hk10
   clear hk12
   clear hk13
   clear hk14
   clear hk15
   clear qi16
   clear q16
   clear hx16
   clear HH
   obtain⟨x21,rfl,HA,HK0,⟨m0_,rfl⟩⟩:=hrel
   cases gk with
   |zero=>exact absurd HA.out (by simp[dn_Word.l0])
   |succ k22=>
    have H:=HA.out
    clear HA
    simp only[dn_Word.l0] at H
    have HH:=za H
    clear H
    replace HH:=zqt HH
    rcases HH with⟨HH,hk25,hk26⟩|⟨HH,hk53,hk54⟩
    ·replace HH:=zqdo HH
     obtain⟨HH,hk28⟩:=HH
     have p29:0≤(x21:Int):=of_decide_eq_true (by first|(with_reducible assumption)|assumption)
     have q29:x21<(a0.size:Int):=of_decide_eq_true (by first|(with_reducible assumption)|assumption)
     have hx29:=MW.bt_at' a0 x21
     replace p29:=eq_true p29
     replace q29:=eq_true q29
     replace HH:=zd HH
     obtain⟨t30,At31,HH⟩:=HH
     go_wp2_with ((with_reducible refine gc 45 rfl ?_);refine zc 45 (some 28) Try.func45 #[.int .u8 (bt a0 x21)] (h:=?_);(with_reducible refine(dn_small.calls  (bt a0 x21) t30 _  At31.out).mono ?_);rintro e w' ⟨rfl,⟨nd,rfl⟩⟩;refine⟨_,rfl,?_⟩)
     refine zg ?_
     by_cases c33:t30=true
     ·replace HH:=MW.hpos HH c33
      subst c33
      go_wp2
      go_roundg k22
      case measure=>have:=HK0.out;omega
      case rel=>exact⟨wrap64 (x21+1),(by first|rfl|(simp;done)|(simp[*];done)),HH,⟨by have:=HK0.out;omega⟩,by repeat(first|exact Drawn0.refl _|apply Drawn0.step)⟩
     replace HH:=MW.hneg HH c33
     replace c33:=Bool.eq_false_iff.mpr c33
     subst c33
     replace HH:=zqt HH
     rcases HH with⟨HH,hk35,hk36⟩|⟨HH,hk42,hk43⟩
     ·replace HH:=zqe HH
      rcases HH with⟨HH,hk38,hk39⟩|⟨HH,hk40,hk41⟩
      ·go_wp2
       go_roundg k22
       case measure=>have:=HK0.out;omega
       case rel=>exact⟨wrap64 (x21+1),(by first|rfl|(simp;done)|(simp[*];done)),HH,⟨by have:=HK0.out;omega⟩,by repeat(first|exact Drawn0.refl _|apply Drawn0.step)⟩
      obtain rfl:=Option.some.inj HH.out
      clear HH
      go_wp2
      go_ret
      exact⟨by first|rfl|(simp;done)|(simp[*];done),by repeat(first|exact Drawn0.refl _|apply Drawn0.step)⟩
     replace HH:=zqg HH
     rcases HH with⟨HH,hk45⟩|⟨HH,hk51⟩
     ·replace HH:=zqe HH
      rcases HH with⟨HH,hk47,hk48⟩|⟨HH,hk49,hk50⟩
      ·go_wp2
       go_roundg k22
       case measure=>have:=HK0.out;omega
       case rel=>exact⟨wrap64 (x21+1),(by first|rfl|(simp;done)|(simp[*];done)),HH,⟨by have:=HK0.out;omega⟩,by repeat(first|exact Drawn0.refl _|apply Drawn0.step)⟩
      obtain rfl:=Option.some.inj HH.out
      clear HH
      go_wp2
      go_ret
      exact⟨by first|rfl|(simp;done)|(simp[*];done),by repeat(first|exact Drawn0.refl _|apply Drawn0.step)⟩
     go_wp2
     go_roundg k22
     case measure=>have:=HK0.out;omega
     case rel=>exact⟨wrap64 (x21+1),(by first|rfl|(simp;done)|(simp[*];done)),HH,⟨by have:=HK0.out;omega⟩,by repeat(first|exact Drawn0.refl _|apply Drawn0.step)⟩
    obtain rfl:=Option.some.inj HH.out
    clear HH
    go_wp2
    go_ret
    exact⟨by first|rfl|(simp;done)|(simp[*];done),by repeat(first|exact Drawn0.refl _|apply Drawn0.step)⟩
 replace HH:=MW.hneg HH c20
 replace c20:=Bool.eq_false_iff.mpr c20
 subst c20
 obtain rfl:=Option.some.inj HH.out
 clear HH
 go_wp2
 go_ret
 exact⟨by first|rfl|(simp;done)|(simp[*];done),by repeat(first|exact Drawn0.refl _|apply Drawn0.step)⟩

def syntax_Known.f (a0:Int):Option (Bool):=if a0≥1 then(some (decide (a0≤10))) else(some false)
set_option maxHeartbeats 8000000 in
set_option maxRecDepth 100000 in
theorem syntax_Known.calls (a0:Int) (r:Bool) (w:World) (h:syntax_Known.f a0=some r):
  Calls Try.prog 29 #[.int .i64 a0] w (fun e w'=>e=.returned (.bool r)∧Drawn0 w w'):=by
 unfold syntax_Known.f at h
 have HH:=za h
 clear h
 go_enter Try.func29,Try.ntmps29
 replace HH:=zqG HH
 rcases HH with⟨HH,hk2⟩|⟨HH,hk3⟩
 ·obtain rfl:=Option.some.inj HH.out
  clear HH
  go_wp2
  go_ret
  exact⟨by first|rfl|(simp;done)|(simp[*];done),by repeat(first|exact Drawn0.refl _|apply Drawn0.step)⟩
 obtain rfl:=Option.some.inj HH.out
 clear HH
 go_wp2
 go_ret
 exact⟨by first|rfl|(simp;done)|(simp[*];done),by repeat(first|exact Drawn0.refl _|apply Drawn0.step)⟩

def attrs_has.f (a0:Int) (a1:Int):Option (Bool):=if a0=1 then(if a1≥0 then(some (decide (a1≤2))) else(some false)) else(if a0=2 then(if a1≥0 then(some (decide (a1≤2))) else(some false)) else(if a0=10 then(if a1=0 then(some true) else(if a1=10 then(some true) else(some (a1==11)))) else((syntax_Known.f a0).bind fun t32=>(if t32=true then(if a1=0 then(some true) else(some (a1==a0))) else(some false)))))
set_option maxHeartbeats 8000000 in
set_option maxRecDepth 100000 in
theorem attrs_has.calls (a0:Int) (a1:Int) (r:Bool) (w:World) (h:attrs_has.f a0 a1=some r):
  Calls Try.prog 38 #[.int .i64 a0,.int .i64 a1] w (fun e w'=>e=.returned (.bool r)∧Drawn0 w w'):=by
 unfold attrs_has.f at h
 have HH:=za h
 clear h
 go_enter Try.func38,Try.ntmps38
 replace HH:=zqe HH
 rcases HH with⟨HH,hk2,hk3⟩|⟨HH,hk7,hk8⟩
 ·replace HH:=zqG HH
  rcases HH with⟨HH,hk5⟩|⟨HH,hk6⟩
  ·obtain rfl:=Option.some.inj HH.out
   clear HH
   go_wp2
   go_ret
   exact⟨by first|rfl|(simp;done)|(simp[*];done),by repeat(first|exact Drawn0.refl _|apply Drawn0.step)⟩
  obtain rfl:=Option.some.inj HH.out
  clear HH
  go_wp2
  go_ret
  exact⟨by first|rfl|(simp;done)|(simp[*];done),by repeat(first|exact Drawn0.refl _|apply Drawn0.step)⟩
 replace HH:=zqe HH
 rcases HH with⟨HH,hk10,hk11⟩|⟨HH,hk15,hk16⟩
 ·replace HH:=zqG HH
  rcases HH with⟨HH,hk13⟩|⟨HH,hk14⟩
  ·obtain rfl:=Option.some.inj HH.out
   clear HH
   go_wp2
   go_ret
   exact⟨by first|rfl|(simp;done)|(simp[*];done),by repeat(first|exact Drawn0.refl _|apply Drawn0.step)⟩
  obtain rfl:=Option.some.inj HH.out
  clear HH
  go_wp2
  go_ret
  exact⟨by first|rfl|(simp;done)|(simp[*];done),by repeat(first|exact Drawn0.refl _|apply Drawn0.step)⟩
 replace HH:=zqe HH
 rcases HH with⟨HH,hk18,hk19⟩|⟨HH,hk30,hk31⟩
 ·replace HH:=zqe HH
  rcases HH with⟨HH,hk21,hk22⟩|⟨HH,hk23,hk24⟩
  ·obtain rfl:=Option.some.inj HH.out
   clear HH
   go_wp2
   go_ret
   exact⟨by first|rfl|(simp;done)|(simp[*];done),by repeat(first|exact Drawn0.refl _|apply Drawn0.step)⟩
  replace HH:=zqe HH
  rcases HH with⟨HH,hk26,hk27⟩|⟨HH,hk28,hk29⟩
  ·obtain rfl:=Option.some.inj HH.out
   clear HH
   go_wp2
   go_ret
   exact⟨by first|rfl|(simp;done)|(simp[*];done),by repeat(first|exact Drawn0.refl _|apply Drawn0.step)⟩
  obtain rfl:=Option.some.inj HH.out
  clear HH
  go_wp2
  go_ret
  exact⟨by first|rfl|(simp;done)|(simp[*];done),by repeat(first|exact Drawn0.refl _|apply Drawn0.step)⟩
 replace HH:=zd HH
 obtain⟨t32,At33,HH⟩:=HH
 go_wp2_with ((with_reducible refine gc 29 rfl ?_);refine zc 29 (some 28) Try.func29 #[.int .i64 a0] (h:=?_);(with_reducible refine(syntax_Known.calls  a0 t32 _  At33.out).mono ?_);rintro e w' ⟨rfl,⟨nd,rfl⟩⟩;refine⟨_,rfl,?_⟩)
 refine zg ?_
 by_cases c35:t32=true
 ·replace HH:=MW.hpos HH c35
  subst c35
  replace HH:=zqe HH
  rcases HH with⟨HH,hk37,hk38⟩|⟨HH,hk39,hk40⟩
  ·obtain rfl:=Option.some.inj HH.out
   clear HH
   go_wp2
   go_ret
   exact⟨by first|rfl|(simp;done)|(simp[*];done),by repeat(first|exact Drawn0.refl _|apply Drawn0.step)⟩
  obtain rfl:=Option.some.inj HH.out
  clear HH
  go_wp2
  go_ret
  exact⟨by first|rfl|(simp;done)|(simp[*];done),by repeat(first|exact Drawn0.refl _|apply Drawn0.step)⟩
 replace HH:=MW.hneg HH c35
 replace c35:=Bool.eq_false_iff.mpr c35
 subst c35
 obtain rfl:=Option.some.inj HH.out
 clear HH
 go_wp2
 go_ret
 exact⟨by first|rfl|(simp;done)|(simp[*];done),by repeat(first|exact Drawn0.refl _|apply Drawn0.step)⟩

def attrs_sane.f (k:Nat) (l0:List (S26)) (a1_0:ByteArray) (a1_1:ByteArray) (a1_2:Int) (a1_3:Int) (a1_4:Bool) (a1_5:Bool):Option (Bool):=(dn_Word.f k a1_0).bind fun t9=>(if t9=true then((attrs_has.f a1_2 a1_3).bind fun t13=>(if t13=true then(if a1_1.toList=([]:List UInt8) then(some true) else((attrs_find.f k l0 a1_1).bind fun bt22=>(if bt22.2.2.2.2.2.2=true then(some (bt22.2.2.1==a1_2)) else(some false)))) else(some false))) else(some false))
theorem attrs_sane.mono:∀ a0_ a1_ a2_ a3_ a4_ a5_ a6_ k,LeO (attrs_sane.f k a0_ a1_ a2_ a3_ a4_ a5_ a6_) (attrs_sane.f (k+1) a0_ a1_ a2_ a3_ a4_ a5_ a6_):=by
 intro a0_ a1_ a2_ a3_ a4_ a5_ a6_ k
 unfold attrs_sane.f
 with_reducible repeat' first|exact attrs_find.mono _ _ _|exact dn_Word.mono _ _|exact LeO.refl _|exact LeO.none _|refine LeO.ite ?_ ?_|refine LeO.bind ?_ (fun _=>?_)
set_option maxHeartbeats 8000000 in
set_option maxRecDepth 100000 in
theorem attrs_sane.calls (k:Nat) (P_:Nat→Prop) (A0:Option Addr) (c0:Nat) (l0:List (S26)) (a1_0:ByteArray) (a1_1:ByteArray) (a1_2:Int) (a1_3:Int) (a1_4:Bool) (a1_5:Bool) (r:Bool) (w:World) (hs0:Kd.F k26 w P_ A0 l0.length l0) (hc0:l0.length≤c0) (h:attrs_sane.f k l0 a1_0 a1_1 a1_2 a1_3 a1_4 a1_5=some r):
  Calls Try.prog 26 #[.slice A0 l0.length c0,.agg #[.string a1_0,.string a1_1,.int .i64 a1_2,.int .i64 a1_3,.bool a1_4,.bool a1_5]] w (fun e w'=>e=.returned (.bool r)∧Below w.heap.size w w'):=by
 unfold attrs_sane.f at h
 have HH:=za h
 clear h
 have HF0:=zfp hs0
 have HL0:=za hc0
 clear hs0 hc0
 have HB:=za (Below.refl w.heap.size w)
 have hu26:=Try.underlying26
 go_enter Try.func26,Try.ntmps26
 go_wp2_with ((with_reducible refine gd 3 rfl ?_);refine zb 3 26 #[.string a1_0,.string a1_1,.int .i64 a1_2,.int .i64 a1_3,.bool a1_4,.bool a1_5] (h:=?_);intro g1 hg w2 BKg1 hb)
 refine zg ?_
 replace HF0:=zfe HF0.out hg hb
 replace HB:=zhb HB.out hb
 clear hg hb
 replace cBKg1:=MB.lz6 BKg1.out
 replace HH:=zd HH
 obtain⟨t9,At10,HH⟩:=HH
 go_wp2_with ((with_reducible refine gc 37 rfl ?_);refine zc 37 (some 9) Try.func37 #[.string a1_0] (h:=?_);(with_reducible refine(dn_Word.calls k  a1_0 t9 _  At10.out).mono ?_);rintro e w' ⟨rfl,⟨nd,rfl⟩⟩;refine⟨_,rfl,?_⟩)
 refine zg ?_
 by_cases c12:t9=true
 ·replace HH:=MW.hpos HH c12
  subst c12
  replace HH:=zd HH
  obtain⟨t13,At14,HH⟩:=HH
  go_wp2_with ((with_reducible refine gc 38 rfl ?_);refine zc 38 (some 16) Try.func38 #[.int .i64 a1_2,.int .i64 a1_3] (h:=?_);(with_reducible refine(attrs_has.calls  a1_2 a1_3 t13 _  At14.out).mono ?_);rintro e w' ⟨rfl,⟨nd,rfl⟩⟩;refine⟨_,rfl,?_⟩)
  refine zg ?_
  by_cases c16:t13=true
  ·replace HH:=MW.hpos HH c16
   subst c16
   replace HH:=zqe HH
   rcases HH with⟨HH,hk18,hk19⟩|⟨HH,hk20,hk21⟩
   ·obtain rfl:=Option.some.inj HH.out
    clear HH
    go_wp2
    go_ret
    exact zfi (by repeat(first|(with_reducible first|exact HB.out|apply below_alloc|apply pw_below_drewN|apply below_drew1)|exact HB.out))
   replace HH:=zd HH
   obtain⟨⟨t22,t23,t24,t25,t26,t27,t28⟩,At29,HH⟩:=HH
   dsimp only at HH
   go_wp2_with ((with_reducible refine gc 24 rfl ?_);refine zc 24 (some 26) Try.func24 #[.slice A0 l0.length c0,.string a1_1] (h:=?_);(with_reducible refine(attrs_find.calls k (fun k_=>(P_ k_∨w.heap.size≤k_)∧k_≠g1) _ _ l0 a1_1 t22 t23 t24 t25 t26 t27 t28 _ (by(with_reducible repeat(first|apply Kd.F_alloc|apply Kd.F_drewN|apply Kd.F_drew));exact HF0.out) HL0.out At29.out).mono ?_);rintro e w30 ⟨rfl,hb⟩;refine⟨_,rfl,?_⟩)
   refine zg ?_
   replace BKg1:=za (blk_below (g:=g1) (o:=.cells #[.string a1_0,.string a1_1,.int .i64 a1_2,.int .i64 a1_3,.bool a1_4,.bool a1_5] 26 (0,0)) (by(with_reducible repeat(first|refine blk_drewN ?_ _|refine blk_drew ?_|refine blk_alloc ?_ _));exact BKg1.out) hb)
   replace HB:=zhb (by repeat(first|(with_reducible first|exact HB.out|apply below_alloc|apply pw_below_drewN|apply below_drew1)|exact HB.out)) hb
   clear hb
   replace cBKg1:=MB.lz6 BKg1.out
   go_wp2_with ((with_reducible refine gd 5 rfl ?_);refine zb 5 26 #[.string (⟨#[]⟩:ByteArray),.string (⟨#[]⟩:ByteArray),.int .i64 0,.int .i64 0,.bool false,.bool false] (h:=?_);intro g37 hg w38 BKg37 hb)
   refine zg ?_
   have GEg37:=zge hg (below_size HB.out)
   have NEg1_g37:=znq hg BKg1.out
   replace BKg1:=zbb BKg1.out hb
   replace HB:=zhb HB.out hb
   clear hg hb
   replace cBKg1:=MB.lz6 BKg1.out
   replace cBKg37:=MB.lz6 BKg37.out
   go_wp2_with ((with_reducible refine gs 26 5 rfl ?_);refine zs 26 5 #[.string t22,.string t23,.int .i64 t24,.int .i64 t25,.bool t26,.bool t27] BKg37.out [.string t22,.string t23,.int .i64 t24,.int .i64 t25,.bool t26,.bool t27] (h:=?_);intro w51 hbk hg)
   refine zg ?_
   replace BKg1:=zbg BKg1.out hg NEg1_g37
   replace HB:=zhg HB.out hg (below_size HB.out) GEg37
   replace BKg37:=hbk
   clear hg hbk
   replace cBKg1:=MB.lz6 BKg1.out
   replace cBKg37:=MB.lz6 BKg37.out
   by_cases c64:t28=true
   ·replace HH:=MW.hpos HH c64
    subst c64
    obtain rfl:=Option.some.inj HH.out
    clear HH
    go_wp2
    go_ret
    exact zfi HB.out
   replace HH:=MW.hneg HH c64
   replace c64:=Bool.eq_false_iff.mpr c64
   subst c64
   obtain rfl:=Option.some.inj HH.out
   clear HH
   go_wp2
   go_ret
   exact zfi HB.out
  replace HH:=MW.hneg HH c16
  replace c16:=Bool.eq_false_iff.mpr c16
  subst c16
  obtain rfl:=Option.some.inj HH.out
  clear HH
  go_wp2
  go_ret
  exact zfi (by repeat(first|(with_reducible first|exact HB.out|apply below_alloc|apply pw_below_drewN|apply below_drew1)|exact HB.out))
 replace HH:=MW.hneg HH c12
 replace c12:=Bool.eq_false_iff.mpr c12
 subst c12
 obtain rfl:=Option.some.inj HH.out
 clear HH
 go_wp2
 go_ret
 exact zfi (by repeat(first|(with_reducible first|exact HB.out|apply below_alloc|apply pw_below_drewN|apply below_drew1)|exact HB.out))
end Go.Proofs.Ytcjafemnkhifmaa.GA

namespace Go.Proofs.Ytcjafemnkhifmaa.GA
open Go.RowKit Go.Proofs.Ytcjafemnkhifmaa Go.Proofs.Ytcjafemnkhifmaa.MW Go.Proofs.YtcjafemnkhifmaaW.PrintWords Go.Proofs.YtcjafemnkhifmaaW.PrintLast Go.Proofs.YtcjafemnkhifmaaW.PrintMore Go.Proofs.Ytcjafemnkhifmaa.MQ
attribute [local go_sem] max2_int min2_int max_two min_two
set_option linter.unusedVariables false
set_option linter.unusedSimpArgs false
mutual
def attrs_Check.l0:Nat→Int→(List (S26))→Option (Int)
 |0,_,_=>none
 |k+1,x6,l0=>if x6<(l0.length:Int) then(if 0≤(wrap64 (x6 - 1)) then(if (wrap64 (x6 - 1))<(l0.length:Int) then(if 0≤x6 then(if (Op.bytesLess (((rd_T26 l0 (wrap64 (x6 - 1))).f0).toList) (((rd_T26 l0 x6).f0).toList))=true then((attrs_Check.l0 k (wrap64 (x6+1)) l0)) else(some 190)) else(none)) else(none)) else(none)) else((attrs_Check.l1 k 0 l0))
def attrs_Check.l1:Nat→Int→(List (S26))→Option (Int)
 |0,_,_=>none
 |k+1,x32,l0=>if x32<(l0.length:Int) then(if 0≤x32 then((attrs_sane.f k l0 ((rd_T26 l0 x32).f0) ((rd_T26 l0 x32).f1) ((rd_T26 l0 x32).f2) ((rd_T26 l0 x32).f3) ((rd_T26 l0 x32).f4) ((rd_T26 l0 x32).f5)).bind fun t56=>(if t56=true then((attrs_up.seq k 0 ((rd_T26 l0 x32).f0) l0).bind fun x104=>(if (attrs_up.cnt x104.length 0)>(l0.length:Int) then(some 190) else((attrs_Check.l1 k (wrap64 (x32+1)) l0)))) else(some 190))) else(none)) else(some 0)
end
def attrs_Check.f (k:Nat) (l0:List (S26)):Option (Int):=if (l0.length:Int)>24 then(some 190) else((attrs_Check.l0 k 1 l0))
theorem attrs_Check.mono_l:∀ k,(∀ y0 y1,LeO (attrs_Check.l0 k y0 y1) (attrs_Check.l0 (k+1) y0 y1))∧(∀ y0 y1,LeO (attrs_Check.l1 k y0 y1) (attrs_Check.l1 (k+1) y0 y1))
 |0=>⟨fun _ _ r h=>by simp[attrs_Check.l0] at h,fun _ _ r h=>by simp[attrs_Check.l1] at h⟩
 |k+1=>by
  obtain⟨ih0,ih1⟩:=attrs_Check.mono_l k
  refine⟨?_,?_⟩
  ·intro y0 y1
   unfold attrs_Check.l0
   with_reducible repeat' first|exact ih0 _ _|exact ih1 _ _|exact attrs_sane.mono _ _ _ _ _ _ _ _|exact attrs_up.seq.mono _ _ _ _|exact LeO.refl _|exact LeO.none _|refine LeO.ite ?_ ?_|refine LeO.bind ?_ (fun _=>?_)
  intro y0 y1
  unfold attrs_Check.l1
  with_reducible repeat' first|exact ih0 _ _|exact ih1 _ _|exact attrs_sane.mono _ _ _ _ _ _ _ _|exact attrs_up.seq.mono _ _ _ _|exact LeO.refl _|exact LeO.none _|refine LeO.ite ?_ ?_|refine LeO.bind ?_ (fun _=>?_)
theorem attrs_Check.mono:∀ a0_ k,LeO (attrs_Check.f k a0_) (attrs_Check.f (k+1) a0_):=by
 intro a0_ k
 obtain⟨ih0,ih1⟩:=attrs_Check.mono_l k
 unfold attrs_Check.f
 with_reducible repeat' first|exact ih0 _ _|exact ih1 _ _|exact attrs_sane.mono _ _ _ _ _ _ _ _|exact attrs_up.seq.mono _ _ _ _|exact LeO.refl _|exact LeO.none _|refine LeO.ite ?_ ?_|refine LeO.bind ?_ (fun _=>?_)
set_option maxHeartbeats 8000000 in
set_option maxRecDepth 100000 in
theorem attrs_Check.calls (k:Nat) (P_:Nat→Prop) (A0:Option Addr) (c0:Nat) (l0:List (S26)) (r:Int) (w:World) (hs0:Kd.F k26 w P_ A0 l0.length l0) (hc0:l0.length≤c0) (h:attrs_Check.f k l0=some r):
  Calls Try.prog 11 #[.slice A0 l0.length c0] w (fun e w'=>e=.returned (.int .i64 r)∧Below w.heap.size w w'):=by
 unfold attrs_Check.f at h
 have HH:=za h
 clear h
 have HF0:=zfp hs0
 have HL0:=za hc0
 clear hs0 hc0
 have HB:=za (Below.refl w.heap.size w)
 have hu26:=Try.underlying26
 refine calls_marks Try.func11 rfl ?_
 simp only[Try.ntmps11,List.size_toArray,List.length_cons,List.length_nil,Nat.reduceAdd,Nat.reduceSub,Array.replicate_succ,Array.replicate_zero,List.push_toArray,List.append_toArray,List.nil_append,List.cons_append]
 replace HH:=zqK 24 HH
 rcases HH with⟨HH,hk2,hk3⟩|⟨HH,hk4,hk5⟩
 ·obtain rfl:=Option.some.inj HH.out
  clear HH
  go_wp2
  refine⟨[],rfl,List.nodup_nil,fun _ h_=>absurd h_ (by simp),fun W9 hk9=>⟨_,results_tmp rfl _ _ _,?_⟩⟩
  exact⟨rfl,Below.trans HB.out (hk9.toBelow2 (below_size HB.out) (fun k_ h_ e_=>absurd e_ (by simp)))⟩
 go_wp2
 go_loopg [3] k (fun kq u3 w'=>∃ (x6:Int),u3=.int .i64 x6∧Aside0 ((attrs_Check.l0 kq x6 l0)=some r)∧Aside0 (kq≤k)∧Aside0 (Kd.F k26 w' (fun k_=>(P_ k_∨w.heap.size≤k_)) A0 l0.length l0)∧Aside0 (Below w.heap.size w w'))
 case atStart=>exact⟨1,(by first|rfl|(simp;done)|(simp[*];done)),HH,⟨Nat.le_refl _⟩,⟨HF0.out⟩,⟨HB.out⟩⟩
 case round=>
  clear hk4
  clear hk5
  clear HH
  clear HF0 HB
  obtain⟨x6,rfl,HA,HK0,HF0,HB⟩:=hrel
  obtain⟨w8,rfl⟩:∃ wo_:World,wo_=wr:=⟨_,rfl⟩
  cases gk with
  |zero=>exact absurd HA.out (by simp[attrs_Check.l0])
  |succ k9=>
   have H:=HA.out
   clear HA
   simp only[attrs_Check.l0] at H
   have HH:=za H
   clear H
   replace HH:=zqt HH
   rcases HH with⟨HH,hk11,hk12⟩|⟨HH,hk29,hk30⟩
   ·replace HH:=zqdo HH
    obtain⟨HH,hk14⟩:=HH
    replace HH:=zqto HH
    obtain⟨HH,hk16,hk17⟩:=HH
    have p18:0≤((wrap64 (x6 - 1)):Int):=of_decide_eq_true (by first|(with_reducible assumption)|assumption)
    have q18:(wrap64 (x6 - 1))<(l0.length:Int):=of_decide_eq_true (by first|(with_reducible assumption)|assumption)
    obtain⟨ad18,e18,hx18_0,hx18_1,hx18_2,hx18_3,hx18_4,hx18_5⟩:=atF_T26 HF0.out (wrap64 (x6 - 1)) p18 q18
    cases e18
    replace p18:=eq_true p18
    replace q18:=eq_true q18
    replace HH:=zqdo HH
    obtain⟨HH,hk20⟩:=HH
    have p21:0≤(x6:Int):=of_decide_eq_true (by first|(with_reducible assumption)|assumption)
    have q21:x6<(l0.length:Int):=of_decide_eq_true (by first|(with_reducible assumption)|assumption)
    obtain⟨ad21,e21,hx21_0,hx21_1,hx21_2,hx21_3,hx21_4,hx21_5⟩:=atF_T26 HF0.out x6 p21 q21
    cases e21
    replace p21:=eq_true p21
    replace q21:=eq_true q21
    by_cases c22:(Op.bytesLess (((rd_T26 l0 (wrap64 (x6 - 1))).f0).toList) (((rd_T26 l0 x6).f0).toList))=true
    ·replace HH:=MW.hpos HH c22
     have hk23:(Op.bytesLess (((rd_T26 l0 (wrap64 (x6 - 1))).f0).toList) (((rd_T26 l0 x6).f0).toList))=true:=c22
     clear c22
     go_wp2
     go_quiet (fail)
     go_wp2
     go_roundg k9
     case measure=>have:=HK0.out;omega
     case rel=>exact⟨wrap64 (x6+1),(by first|rfl|(simp;done)|(simp[*];done)),HH,⟨by have:=HK0.out;omega⟩,⟨(by(with_reducible repeat(first|apply Kd.F_alloc|apply Kd.F_drewN|apply Kd.F_drew));exact HF0.out)⟩,⟨(by repeat(first|(with_reducible first|exact HB.out|apply below_alloc|apply pw_below_drewN|apply below_drew1)|exact HB.out))⟩⟩
    replace HH:=MW.hneg HH c22
    have hk24:(Op.bytesLess (((rd_T26 l0 (wrap64 (x6 - 1))).f0).toList) (((rd_T26 l0 x6).f0).toList))=false:=by simpa using c22
    clear c22
    obtain rfl:=Option.some.inj HH.out
    clear HH
    go_wp2
    go_quiet (fail)
    go_wp2
    refine⟨[],rfl,List.nodup_nil,fun _ h_=>absurd h_ (by simp),fun W9 hk9=>⟨_,results_tmp rfl _ _ _,?_⟩⟩
    exact⟨rfl,Below.trans (by repeat(first|(with_reducible first|exact HB.out|apply below_alloc|apply pw_below_drewN|apply below_drew1)|exact HB.out)) (hk9.toBelow2 (below_size (by repeat(first|(with_reducible first|exact HB.out|apply below_alloc|apply pw_below_drewN|apply below_drew1)|exact HB.out))) (fun k_ h_ e_=>absurd e_ (by simp)))⟩
   have DS:=za (Ds.nil w.heap.size w8)
   go_wp2
   refine wp_loop_ghost_k (fun kq a_ w'=>∃ (ds31:List Nat) (u2 u5 u6 u30 u31 u32 u33 u34 u35 u36 u37 u38 u39 u40 u41 u43 u44 u45 u46 u47 u48 u49:Value),(∃ (x32:Int),u30=.int .i64 x32∧Aside0 ((attrs_Check.l1 kq x32 l0)=some r)∧Aside0 (kq≤k9)∧Aside0 (Kd.F k26 w' (fun k_=>(P_ k_∨w.heap.size≤k_)) A0 l0.length l0)∧Aside0 (Ds w.heap.size ds31 w')∧Aside0 (Below w.heap.size w w'))∧a_=⟨[(.slice A0 l0.length c0),undef,u2,(.int .i64 x6),undef,u5,u6,(.slice A0 l0.length c0),(.int .i64 (l0.length:Int)),(.bool false),(.int .i64 x6),(.slice A0 l0.length c0),(.int .i64 (l0.length:Int)),(.bool false),u14,u15,u16,u17,u18,u19,u20,u21,u22,u23,u24,u25,u26,u27,(.slice A0 l0.length c0),(.int .i64 (l0.length:Int)),u30,u31,u32,u33,u34,u35,u36,u37,u38,u39,u40,u41,undef,u43,u44,u45,u46,u47,u48,u49].toArray,List.map markD ds31⟩) k9 ?_ ?_
   ·refine⟨([]:List Nat),?_⟩
    (repeat apply Exists.intro)
    refine⟨?_,rfl⟩
    exact⟨0,(by first|rfl|(simp;done)|(simp[*];done)),HH,⟨Nat.le_refl _⟩,⟨HF0.out⟩,DS,⟨HB.out⟩⟩
   intro gk _ wr hinv
   obtain⟨ds31,u2,u5,u6,u30,u31,u32,u33,u34,u35,u36,u37,u38,u39,u40,u41,u43,u44,u45,u46,u47,u48,u49,hrel,ha⟩:=hinv
   subst ha
   try dsimp only
   intro _ _ _ _
   clear hk29
   clear hk30
   clear HH
   clear HF0 DS HB
   obtain⟨x32,rfl,HA,HK1,HF0,DS,HB⟩:=hrel
   obtain⟨w34,rfl⟩:∃ wo_:World,wo_=wr:=⟨_,rfl⟩
   cases gk with
   |zero=>exact absurd HA.out (by simp[attrs_Check.l1])
   |succ k33=>
    have H:=HA.out
    clear HA
    simp only[attrs_Check.l1] at H
    have HH:=za H
    clear H
    replace HH:=zqt HH
    rcases HH with⟨HH,hk36,hk37⟩|⟨HH,hk119,hk120⟩
    ·replace HH:=zqdo HH
     obtain⟨HH,hk39⟩:=HH
     have p40:0≤(x32:Int):=of_decide_eq_true (by first|(with_reducible assumption)|assumption)
     have q40:x32<(l0.length:Int):=of_decide_eq_true (by first|(with_reducible assumption)|assumption)
     obtain⟨ad40,e40,hx40_0,hx40_1,hx40_2,hx40_3,hx40_4,hx40_5⟩:=atF_T26 HF0.out x32 p40 q40
     cases e40
     replace p40:=eq_true p40
     replace q40:=eq_true q40
     go_wp2_with ((with_reducible refine gd 5 rfl ?_);refine zb 5 26 #[.string (⟨#[]⟩:ByteArray),.string (⟨#[]⟩:ByteArray),.int .i64 0,.int .i64 0,.bool false,.bool false] (h:=?_);intro g41 hg w42 BKg41 hb)
     refine zg ?_
     have GEg41:=zge hg (below_size HB.out)
     replace HF0:=zfe HF0.out hg hb
     replace DS:=zdb DS hb
     replace HB:=zhb HB.out hb
     clear hg hb
     clear hx40_0 hx40_1 hx40_2 hx40_3 hx40_4 hx40_5 p40 q40
     replace cBKg41:=MB.lz6 BKg41.out
     go_wp2_with ((with_reducible refine gs 26 5 rfl ?_);refine zs 26 5 #[.string ((rd_T26 l0 x32).f0),.string ((rd_T26 l0 x32).f1),.int .i64 ((rd_T26 l0 x32).f2),.int .i64 ((rd_T26 l0 x32).f3),.bool ((rd_T26 l0 x32).f4),.bool ((rd_T26 l0 x32).f5)] BKg41.out [.string ((rd_T26 l0 x32).f0),.string ((rd_T26 l0 x32).f1),.int .i64 ((rd_T26 l0 x32).f2),.int .i64 ((rd_T26 l0 x32).f3),.bool ((rd_T26 l0 x32).f4),.bool ((rd_T26 l0 x32).f5)] (h:=?_);intro w49 hbk hg)
     refine zg ?_
     replace HF0:=zfg HF0.out hg fun k_ hk_=>hk_.2
     replace DS:=zdg DS hg BKg41.out
     replace HB:=zhg HB.out hg (below_size HB.out) GEg41
     replace BKg41:=hbk
     clear hg hbk
     replace cBKg41:=MB.lz6 BKg41.out
     replace HH:=zd HH
     obtain⟨t56,At57,HH⟩:=HH
     go_wp2_with ((with_reducible refine gc 26 rfl ?_);refine zc 26 (some 36) Try.func26 #[.slice (some ad40) l0.length c0,.agg #[.string ((rd_T26 l0 x32).f0),.string ((rd_T26 l0 x32).f1),.int .i64 ((rd_T26 l0 x32).f2),.int .i64 ((rd_T26 l0 x32).f3),.bool ((rd_T26 l0 x32).f4),.bool ((rd_T26 l0 x32).f5)]] (h:=?_);(with_reducible refine(attrs_sane.calls k33 (fun k_=>(P_ k_∨w.heap.size≤k_)∧k_≠g41) _ _ l0 ((rd_T26 l0 x32).f0) ((rd_T26 l0 x32).f1) ((rd_T26 l0 x32).f2) ((rd_T26 l0 x32).f3) ((rd_T26 l0 x32).f4) ((rd_T26 l0 x32).f5) t56 _ HF0.out HL0.out At57.out).mono ?_);rintro e w58 ⟨rfl,hb⟩;refine⟨_,rfl,?_⟩)
     refine zg ?_
     replace HF0:=zfb HF0.out hb
     replace BKg41:=zbb BKg41.out hb
     replace DS:=zdb DS hb
     replace HB:=zhb HB.out hb
     clear hb
     replace cBKg41:=MB.lz6 BKg41.out
     by_cases c65:t56=true
     ·replace HH:=MW.hpos HH c65
      subst c65
      go_wp2_with ((with_reducible refine gd 6 rfl ?_);refine zb 6 3 #[.int .i64 0] (h:=?_);intro g66 hg w67 BKg66 hb)
      refine zg ?_
      have GEg66:=zge hg (below_size HB.out)
      have NEg41_g66:=znq hg BKg41.out
      replace HF0:=zfe HF0.out hg hb
      replace BKg41:=zbb BKg41.out hb
      replace DS:=zdb DS hb
      replace HB:=zhb HB.out hb
      clear hg hb
      replace cBKg41:=MB.lz6 BKg41.out
      have j1c:=MB.lz1 BKg66.out
      go_wp2_with ((with_reducible refine gs 3 6 rfl ?_);refine zs 3 6 #[.int .i64 0] BKg66.out [.int .i64 0] (h:=?_);intro w75 hbk hg)
      refine zg ?_
      replace HF0:=zfg HF0.out hg fun k_ hk_=>hk_.2
      replace BKg41:=zbg BKg41.out hg NEg41_g66
      replace DS:=zdg DS hg BKg66.out
      replace HB:=zhg HB.out hg (below_size HB.out) GEg66
      replace BKg66:=hbk
      clear hg hbk
      clear j1c
      replace cBKg41:=MB.lz6 BKg41.out
      have j1k:=MB.lz1 BKg66.out
      go_wp2_with (((with_reducible refine gate_callee (f:=27) rfl ?_);(try(refine gate_guard (by rfl) ?_;dsimp only));refine goesL_ (some 41) rfl rfl Try.func27 (by kernel_rfl) rfl #[.slice (some ad40) l0.length c0,.string ((rd_T26 l0 x32).f0)] rfl (by(try simp only[List.map_toArray,List.map_cons,List.map_nil]);first|done|rfl) ?_);refine stop_ ?_)
      refine zg ?_
      go_enter Try.func27,Try.ntmps27
      go_wp2_with ((with_reducible refine gd 2 rfl ?_);refine zb 2 22 #[.slice (some ad40) l0.length c0] (h:=?_);intro g83 hg w84 BKg83 hb)
      refine zg ?_
      have NEg66_g83:=znq hg BKg66.out
      replace HF0:=zfe HF0.out hg hb
      replace BKg41:=zbb BKg41.out hb
      replace BKg66:=zbb BKg66.out hb
      replace DS:=zdb DS hb
      replace HB:=zhb HB.out hb
      clear hg hb
      clear j1k
      replace cBKg41:=MB.lz6 BKg41.out
      have j1t:=MB.lz1 BKg66.out
      have j1u:=MB.lz1 BKg83.out
      go_wp2_with ((with_reducible refine gd 3 rfl ?_);refine zb 3 9 #[.string ((rd_T26 l0 x32).f0)] (h:=?_);intro g93 hg w94 BKg93 hb)
      refine zg ?_
      have GEg93:=zge hg (below_size HB.out)
      have NEg41_g93:=znq hg BKg41.out
      have NEg66_g93:=znq hg BKg66.out
      have NEg83_g93:=znq hg BKg83.out
      replace HF0:=zfe HF0.out hg hb
      replace BKg41:=zbb BKg41.out hb
      replace BKg66:=zbb BKg66.out hb
      replace BKg83:=zbb BKg83.out hb
      replace DS:=zdb DS hb
      replace HB:=zhb HB.out hb
      clear hg hb
      clear j1t j1u
      replace cBKg41:=MB.lz6 BKg41.out
      have j1D:=MB.lz1 BKg66.out
      have j1E:=MB.lz1 BKg83.out
      have j1F:=MB.lz1 BKg93.out
      go_wp2
      go_ret
      refine⟨_,rfl,?_⟩
      go_wp2
      replace HH:=zd HH
      obtain⟨x104,At105,HH⟩:=HH
      refine attrs_up.count (ds:=ds31) k33 (fun k_=>((((P_ k_∨w.heap.size≤k_)∧k_≠g41)∧k_≠g66)∧k_≠g83)∧k_≠g93) g83 g93 (some ad40) c0 l0 ((rd_T26 l0 x32).f0) x104 BKg83.out BKg93.out HF0.out HL0.out g66 0 BKg66.out (fun k_ hk_=>hk_.2) (fun k_ hk_=>hk_.1.1.2) NEg83_g93 NEg66_g83 NEg66_g93 At105.out DS (below_size HB.out) rfl (by simp) ?_ ?_
      ·intro x_ n_ W_ Q_ hb_ hk_
       replace hk_:=za hk_
       have cc_:=MB.lz1 hb_.out
       go_wp2_with ((with_reducible refine gs 3 6 rfl ?_);refine zs 3 6 #[.int .i64 (wrap64 (n_+1))] hb_.out [.int .i64 (wrap64 (n_+1))] (h:=?_);intro W2_ hbk_ hg_)
       refine zg ?_
       exact wpList_nil (hk_.out _ _ hbk_ hg_)
      intro w106 ds107 hbk hkp DSn
      refine zg ?_
      replace HF0:=za (Kd.F_mono (Kd.F_step (Kd.F_bound (ok:=(fun k_=>((((P_ k_∨w.heap.size≤k_)∧k_≠g41)∧k_≠g66)∧k_≠g83)∧k_≠g93)) HF0.out) (fun k_ hk_ _=>hkp.block k_ ⟨hk_.1.1.1.2,hk_.1.2,hk_.2⟩ hk_.2)) (fun k_ hk_=>hk_.1))
      replace BKg41:=za ((hkp.block g41 ⟨NEg41_g66.out,NEg41_g93.out,blk_lt BKg41.out⟩ (blk_lt BKg41.out)).trans BKg41.out)
      replace HB:=za (Below.trans HB.out (hkp.toBelow2 HB.out.size (fun k_ h_=>⟨fun e_=>by have:=GEg66.out;omega,fun e_=>by have:=GEg93.out;omega,Nat.lt_of_lt_of_le h_ HB.out.size⟩)))
      replace BKg66:=hbk
      replace DS:=DSn
      clear hbk hkp DSn BKg83 BKg93
      clear j1D j1E j1F
      replace cBKg41:=MB.lz6 BKg41.out
      have j1Q:=MB.lz1 BKg66.out
      replace HH:=zqg HH
      rcases HH with⟨HH,hk116⟩|⟨HH,hk117⟩
      ·obtain rfl:=Option.some.inj HH.out
       clear HH
       go_wp2
       refine⟨ds107,rfl,DS.out.1,fun D_ h_=>(DS.out.2 D_ h_).2,fun W9 hk9=>⟨_,results_tmp rfl _ _ _,?_⟩⟩
       exact⟨rfl,Below.trans HB.out (hk9.toBelow2 (below_size HB.out) (fun k_ h_ e_=>by have:=(DS.out.2 k_ e_).1;omega))⟩
      go_wp2
      refine Handed.intro k33 ?measure ?_
      rotate_left
      go_step
      refine⟨ds107,?_⟩
      (repeat apply Exists.intro)
      refine⟨?rel,rfl⟩
      case measure=>have:=HK0.out;have:=HK1.out;omega
      case rel=>exact⟨wrap64 (x32+1),(by first|rfl|(simp;done)|(simp[*];done)),HH,⟨by have:=HK0.out;have:=HK1.out;omega⟩,⟨(Kd.F_mono (ok:=(fun k_=>((((P_ k_∨w.heap.size≤k_)∧k_≠g41)∧k_≠g66)∧k_≠g83)∧k_≠g93)) HF0.out (fun k_ hk_=>hk_.1.1.1.1))⟩,DS,⟨HB.out⟩⟩
     replace HH:=MW.hneg HH c65
     replace c65:=Bool.eq_false_iff.mpr c65
     subst c65
     obtain rfl:=Option.some.inj HH.out
     clear HH
     go_wp2
     refine⟨ds31,rfl,DS.out.1,fun D_ h_=>(DS.out.2 D_ h_).2,fun W9 hk9=>⟨_,results_tmp rfl _ _ _,?_⟩⟩
     exact⟨rfl,Below.trans HB.out (hk9.toBelow2 (below_size HB.out) (fun k_ h_ e_=>by have:=(DS.out.2 k_ e_).1;omega))⟩
    obtain rfl:=Option.some.inj HH.out
    clear HH
    go_wp2
    refine⟨ds31,rfl,DS.out.1,fun D_ h_=>(DS.out.2 D_ h_).2,fun W9 hk9=>⟨_,results_tmp rfl _ _ _,?_⟩⟩
    exact⟨rfl,Below.trans HB.out (hk9.toBelow2 (below_size HB.out) (fun k_ h_ e_=>by have:=(DS.out.2 k_ e_).1;omega))⟩
end Go.Proofs.Ytcjafemnkhifmaa.GA

namespace Go.Proofs.Ytcjafemnkhifmaa.GA
open Go.RowKit Go.Proofs.Ytcjafemnkhifmaa Go.Proofs.Ytcjafemnkhifmaa.MW Go.Proofs.YtcjafemnkhifmaaW.PrintWords Go.Proofs.YtcjafemnkhifmaaW.PrintLast Go.Proofs.YtcjafemnkhifmaaW.PrintMore
attribute [local go_sem] max2_int min2_int max_two min_two
set_option linter.unusedVariables false
set_option linter.unusedSimpArgs false
def toponymref17_Cmp.l0:Nat→Int→(List Int)→(List Int)→Option (Int)
 |0,_,_,_=>none
 |k+1,x1,l0,l1=>if x1<(l0.length:Int) then(if x1<(l1.length:Int) then(if 0≤x1 then(if (rd l0 x1)<(rd l1 x1) then(some (-1)) else(if (rd l0 x1)>(rd l1 x1) then(some 1) else((toponymref17_Cmp.l0 k (wrap64 (x1+1)) l0 l1)))) else(none)) else(if (l0.length:Int)<(l1.length:Int) then(some (-1)) else(if (l0.length:Int)>(l1.length:Int) then(some 1) else(some 0)))) else(if (l0.length:Int)<(l1.length:Int) then(some (-1)) else(if (l0.length:Int)>(l1.length:Int) then(some 1) else(some 0)))
def toponymref17_Cmp.f (k:Nat) (l0:List Int) (l1:List Int):Option (Int):=(toponymref17_Cmp.l0 k 0 l0 l1)
theorem toponymref17_Cmp.mono_l:∀ k,(∀ y0 y1 y2,LeO (toponymref17_Cmp.l0 k y0 y1 y2) (toponymref17_Cmp.l0 (k+1) y0 y1 y2))
 |0=>fun _ _ _ r h=>by simp[toponymref17_Cmp.l0] at h
 |k+1=>by
  have ih0:=toponymref17_Cmp.mono_l k
  ·intro y0 y1 y2
   unfold toponymref17_Cmp.l0
   with_reducible repeat' first|exact ih0 _ _ _|exact LeO.refl _|exact LeO.none _|refine LeO.ite ?_ ?_|refine LeO.bind ?_ (fun _=>?_)
theorem toponymref17_Cmp.mono:∀ a0_ a1_ k,LeO (toponymref17_Cmp.f k a0_ a1_) (toponymref17_Cmp.f (k+1) a0_ a1_):=by
 intro a0_ a1_ k
 have ih0:=toponymref17_Cmp.mono_l k
 unfold toponymref17_Cmp.f
 with_reducible repeat' first|exact ih0 _ _ _|exact LeO.refl _|exact LeO.none _|refine LeO.ite ?_ ?_|refine LeO.bind ?_ (fun _=>?_)
set_option maxHeartbeats 8000000 in
set_option maxRecDepth 100000 in
theorem toponymref17_Cmp.calls (k:Nat) (P_:Nat→Prop) (A0:Option Addr) (c0:Nat) (l0:List Int) (A1:Option Addr) (c1:Nat) (l1:List Int) (r:Int) (w:World) (hs0:Kd.F (Kd.int .i64) w P_ A0 l0.length l0) (hc0:l0.length≤c0) (hs1:Kd.F (Kd.int .i64) w P_ A1 l1.length l1) (hc1:l1.length≤c1) (h:toponymref17_Cmp.f k l0 l1=some r):
  Calls Try.prog 13 #[.slice A0 l0.length c0,.slice A1 l1.length c1] w (fun e w'=>e=.returned (.int .i64 r)∧Drawn0 w w'):=by
 unfold toponymref17_Cmp.f at h
 have HH:=za h
 clear h
 have HF0:=zfp hs0
 clear hs0 hc0
 have HF1:=zfp hs1
 clear hs1 hc1
 go_enter Try.func13,Try.ntmps13
 go_wp2
 go_loopg [5] k (fun kq u5 w'=>∃ (x1:Int),u5=.int .i64 x1∧Aside0 ((toponymref17_Cmp.l0 kq x1 l0 l1)=some r)∧Aside0 (kq≤k)∧Drawn0 w w')
 case atStart=>exact⟨0,(by first|rfl|(simp;done)|(simp[*];done)),HH,⟨Nat.le_refl _⟩,by repeat(first|exact Drawn0.refl _|apply Drawn0.step)⟩
 case round=>
  clear HH
  obtain⟨x1,rfl,HA,HK0,⟨m0_,rfl⟩⟩:=hrel
  cases gk with
  |zero=>exact absurd HA.out (by simp[toponymref17_Cmp.l0])
  |succ k2=>
   have H:=HA.out
   clear HA
   simp only[toponymref17_Cmp.l0] at H
   have HH:=za H
   clear H
   replace HH:=zqt HH
   rcases HH with⟨HH,hk5,hk6⟩|⟨HH,hk37,hk38⟩
   ·replace HH:=zqt HH
    rcases HH with⟨HH,hk8,hk9⟩|⟨HH,hk23,hk24⟩
    ·replace HH:=zqdo HH
     obtain⟨HH,hk11⟩:=HH
     have p12:0≤(x1:Int):=of_decide_eq_true (by first|(with_reducible assumption)|assumption)
     have q12:x1<(l0.length:Int):=of_decide_eq_true (by first|(with_reducible assumption)|assumption)
     obtain⟨ad12,e12,hx12_0⟩:=Kd.at_int (Kd.F_now HF0.out) x1 p12 q12
     cases e12
     replace p12:=eq_true p12
     replace q12:=eq_true q12
     have p13:0≤(x1:Int):=of_decide_eq_true (by first|(with_reducible assumption)|assumption)
     have q13:x1<(l1.length:Int):=of_decide_eq_true (by first|(with_reducible assumption)|assumption)
     obtain⟨ad13,e13,hx13_0⟩:=Kd.at_int (Kd.F_now HF1.out) x1 p13 q13
     cases e13
     replace p13:=eq_true p13
     replace q13:=eq_true q13
     replace HH:=zqt HH
     rcases HH with⟨HH,hk15,hk16⟩|⟨HH,hk17,hk18⟩
     ·obtain rfl:=Option.some.inj HH.out
      clear HH
      go_wp2
      go_quiet (fail)
      go_wp2
      go_ret
      exact⟨by first|rfl|(simp;done)|(simp[*];done),by repeat(first|exact Drawn0.refl _|apply Drawn0.step)⟩
     replace HH:=zqg HH
     rcases HH with⟨HH,hk20⟩|⟨HH,hk21⟩
     ·obtain rfl:=Option.some.inj HH.out
      clear HH
      go_wp2
      go_quiet (fail)
      go_wp2
      go_quiet (fail)
      go_wp2
      go_ret
      exact⟨by first|rfl|(simp;done)|(simp[*];done),by repeat(first|exact Drawn0.refl _|apply Drawn0.step)⟩
     go_wp2
     go_quiet (fail)
     go_wp2
     go_quiet (fail)
     go_wp2
     go_roundg k2
     case measure=>have:=HK0.out;omega
     case rel=>exact⟨wrap64 (x1+1),(by first|rfl|(simp;done)|(simp[*];done)),HH,⟨by have:=HK0.out;omega⟩,by repeat(first|exact Drawn0.refl _|apply Drawn0.step)⟩
    by_cases c25:(l0.length:Int)<(l1.length:Int)
    ·replace HH:=MW.hpos HH c25
     have hk26:((l0.length:Int)<(l1.length:Int))=True:=eq_true c25
     have hk27:decide ((l0.length:Int)<(l1.length:Int))=true:=decide_eq_true c25
     have hk28:decide (l0.length<l1.length)=true:=decide_eq_true (Int.ofNat_lt.mp c25)
     clear c25
     obtain rfl:=Option.some.inj HH.out
     clear HH
     go_wp2
     go_ret
     exact⟨by first|rfl|(simp;done)|(simp[*];done),by repeat(first|exact Drawn0.refl _|apply Drawn0.step)⟩
    replace HH:=MW.hneg HH c25
    have hk29:((l0.length:Int)<(l1.length:Int))=False:=eq_false c25
    have hk30:decide ((l0.length:Int)<(l1.length:Int))=false:=decide_eq_false c25
    have hk31:decide (l0.length<l1.length)=false:=decide_eq_false (fun h=>c25 (Int.ofNat_lt.mpr h))
    clear c25
    by_cases c32:(l0.length:Int)>(l1.length:Int)
    ·replace HH:=MW.hpos HH c32
     have hk33:decide ((l1.length:Int)<(l0.length:Int))=true:=decide_eq_true c32
     have hk34:decide (l1.length<l0.length)=true:=decide_eq_true (Int.ofNat_lt.mp c32)
     clear c32
     obtain rfl:=Option.some.inj HH.out
     clear HH
     go_wp2
     go_ret
     exact⟨by first|rfl|(simp;done)|(simp[*];done),by repeat(first|exact Drawn0.refl _|apply Drawn0.step)⟩
    replace HH:=MW.hneg HH c32
    have hk35:decide ((l1.length:Int)<(l0.length:Int))=false:=decide_eq_false c32
    have hk36:decide (l1.length<l0.length)=false:=decide_eq_false (fun h=>c32 (Int.ofNat_lt.mpr h))
    clear c32
    obtain rfl:=Option.some.inj HH.out
    clear HH
    go_wp2
    go_ret
    exact⟨by first|rfl|(simp;done)|(simp[*];done),by repeat(first|exact Drawn0.refl _|apply Drawn0.step)⟩
   by_cases c39:(l0.length:Int)<(l1.length:Int)
   ·replace HH:=MW.hpos HH c39
    have hk40:((l0.length:Int)<(l1.length:Int))=True:=eq_true c39
    have hk41:decide ((l0.length:Int)<(l1.length:Int))=true:=decide_eq_true c39
    have hk42:decide (l0.length<l1.length)=true:=decide_eq_true (Int.ofNat_lt.mp c39)
    clear c39
    obtain rfl:=Option.some.inj HH.out
    clear HH
    go_wp2
    go_ret
    exact⟨by first|rfl|(simp;done)|(simp[*];done),by repeat(first|exact Drawn0.refl _|apply Drawn0.step)⟩
   replace HH:=MW.hneg HH c39
   have hk43:((l0.length:Int)<(l1.length:Int))=False:=eq_false c39
   have hk44:decide ((l0.length:Int)<(l1.length:Int))=false:=decide_eq_false c39
   have hk45:decide (l0.length<l1.length)=false:=decide_eq_false (fun h=>c39 (Int.ofNat_lt.mpr h))
   clear c39
   by_cases c46:(l0.length:Int)>(l1.length:Int)
   ·replace HH:=MW.hpos HH c46
    have hk47:decide ((l1.length:Int)<(l0.length:Int))=true:=decide_eq_true c46
    have hk48:decide (l1.length<l0.length)=true:=decide_eq_true (Int.ofNat_lt.mp c46)
    clear c46
    obtain rfl:=Option.some.inj HH.out
    clear HH
    go_wp2
    go_ret
    exact⟨by first|rfl|(simp;done)|(simp[*];done),by repeat(first|exact Drawn0.refl _|apply Drawn0.step)⟩
   replace HH:=MW.hneg HH c46
   have hk49:decide ((l1.length:Int)<(l0.length:Int))=false:=decide_eq_false c46
   have hk50:decide (l1.length<l0.length)=false:=decide_eq_false (fun h=>c46 (Int.ofNat_lt.mpr h))
   clear c46
   obtain rfl:=Option.some.inj HH.out
   clear HH
   go_wp2
   go_ret
   exact⟨by first|rfl|(simp;done)|(simp[*];done),by repeat(first|exact Drawn0.refl _|apply Drawn0.step)⟩

def attrs_Rules.f (a0:Int):Option (List Int):=if a0=1 then(some ([0,1,2]:List Int)) else(if a0=2 then(some ([0,1,2]:List Int)) else(if a0=10 then(some ([0,10,11]:List Int)) else((syntax_Known.f a0).bind fun t25=>(if t25=true then(some ([0,a0]:List Int)) else(some ([]:List Int))))))
set_option maxHeartbeats 8000000 in
set_option maxRecDepth 100000 in
theorem attrs_Rules.calls (a0:Int) (r:List Int) (w:World) (h:attrs_Rules.f a0=some r):
  Calls Try.prog 14 #[.int .i64 a0] w (fun e w'=>∃ v0_:Value,e=.returned (v0_)∧Kd.N (Kd.int .i64) 3 w' w.heap.size (fun k_=>w.heap.size≤k_) v0_ r∧Below w.heap.size w w'):=by
 unfold attrs_Rules.f at h
 have HH:=za h
 clear h
 have HB:=za (Below.refl w.heap.size w)
 go_enter Try.func14,Try.ntmps14
 replace HH:=zqe HH
 rcases HH with⟨HH,hk2,hk3⟩|⟨HH,hk7,hk8⟩
 ·go_wp2_with (((with_reducible refine gate_dst (N:=7) rfl ?_);(try(refine gate_guard (by rfl) ?_;dsimp only));refine Kd.N_lit (Kd.int .i64) w.heap.size 3 rfl (N':=7) rfl (xs:=([0,1,2]:List Int)) (inner:=[.int .i64 0,.int .i64 1,.int .i64 2]) (ok:=(fun k_=>(w.heap.size≤k_))) (okp:=(fun k_=>(w.heap.size≤k_))) ?hr ?hp (fun _ hk_=>hk_) ?hf HB.out (below_size HB.out) (by first|simp|decide) ?_;(case hr=>first|(go_simp;done)|(go_simp;rfl));(case hp=>exact(Reps.one (fun _ _=>rfl) (Reps.one (fun _ _=>rfl) (Reps.one (fun _ _=>rfl) (Reps.none _ _)))));(case hf=>exact(show ∀ k_,w.heap.size≤k_→(fun k_=>(w.heap.size≤k_)) k_ from fun k_ h_=>(Nat.le_trans (below_size HB.out) h_)) _ (Nat.le_refl _));intro v4 w5 hn1 hb1 hg1 hat1);replace hat1:=za hat1;refine stop_ ?_)
  refine zg ?_
  replace hat1:=hat1.out
  have hbe:=MW.grown_below hg1
  have hba:=MW.base_of hat1
  replace HB:=za hb1
  have HN6:=za hn1
  clear hn1 hb1 hg1 hat1 hbe hba
  obtain rfl:=Option.some.inj HH.out
  clear HH
  go_wp2
  go_ret
  exact⟨_,by first|rfl|(simp;done)|(simp[*];done),(Kd.N_mono (ok:=(fun k_=>(w.heap.size≤k_))) HN6.out (fun k_ hk_=>hk_)),HB.out⟩
 replace HH:=zqe HH
 rcases HH with⟨HH,hk10,hk11⟩|⟨HH,hk15,hk16⟩
 ·go_wp2_with (((with_reducible refine gate_dst (N:=7) rfl ?_);(try(refine gate_guard (by rfl) ?_;dsimp only));refine Kd.N_lit (Kd.int .i64) w.heap.size 3 rfl (N':=7) rfl (xs:=([0,1,2]:List Int)) (inner:=[.int .i64 0,.int .i64 1,.int .i64 2]) (ok:=(fun k_=>(w.heap.size≤k_))) (okp:=(fun k_=>(w.heap.size≤k_))) ?hr ?hp (fun _ hk_=>hk_) ?hf HB.out (below_size HB.out) (by first|simp|decide) ?_;(case hr=>first|(go_simp;done)|(go_simp;rfl));(case hp=>exact(Reps.one (fun _ _=>rfl) (Reps.one (fun _ _=>rfl) (Reps.one (fun _ _=>rfl) (Reps.none _ _)))));(case hf=>exact(show ∀ k_,w.heap.size≤k_→(fun k_=>(w.heap.size≤k_)) k_ from fun k_ h_=>(Nat.le_trans (below_size HB.out) h_)) _ (Nat.le_refl _));intro v12 w13 hn1 hb1 hg1 hat1);replace hat1:=za hat1;refine stop_ ?_)
  refine zg ?_
  replace hat1:=hat1.out
  have hbe:=MW.grown_below hg1
  have hba:=MW.base_of hat1
  replace HB:=za hb1
  have HN14:=za hn1
  clear hn1 hb1 hg1 hat1 hbe hba
  obtain rfl:=Option.some.inj HH.out
  clear HH
  go_wp2
  go_ret
  exact⟨_,by first|rfl|(simp;done)|(simp[*];done),(Kd.N_mono (ok:=(fun k_=>(w.heap.size≤k_))) HN14.out (fun k_ hk_=>hk_)),HB.out⟩
 replace HH:=zqe HH
 rcases HH with⟨HH,hk18,hk19⟩|⟨HH,hk23,hk24⟩
 ·go_wp2_with (((with_reducible refine gate_dst (N:=10) rfl ?_);(try(refine gate_guard (by rfl) ?_;dsimp only));refine Kd.N_lit (Kd.int .i64) w.heap.size 3 rfl (N':=10) rfl (xs:=([0,10,11]:List Int)) (inner:=[.int .i64 0,.int .i64 10,.int .i64 11]) (ok:=(fun k_=>(w.heap.size≤k_))) (okp:=(fun k_=>(w.heap.size≤k_))) ?hr ?hp (fun _ hk_=>hk_) ?hf HB.out (below_size HB.out) (by first|simp|decide) ?_;(case hr=>first|(go_simp;done)|(go_simp;rfl));(case hp=>exact(Reps.one (fun _ _=>rfl) (Reps.one (fun _ _=>rfl) (Reps.one (fun _ _=>rfl) (Reps.none _ _)))));(case hf=>exact(show ∀ k_,w.heap.size≤k_→(fun k_=>(w.heap.size≤k_)) k_ from fun k_ h_=>(Nat.le_trans (below_size HB.out) h_)) _ (Nat.le_refl _));intro v20 w21 hn1 hb1 hg1 hat1);replace hat1:=za hat1;refine stop_ ?_)
  refine zg ?_
  replace hat1:=hat1.out
  have hbe:=MW.grown_below hg1
  have hba:=MW.base_of hat1
  replace HB:=za hb1
  have HN22:=za hn1
  clear hn1 hb1 hg1 hat1 hbe hba
  obtain rfl:=Option.some.inj HH.out
  clear HH
  go_wp2
  go_ret
  exact⟨_,by first|rfl|(simp;done)|(simp[*];done),(Kd.N_mono (ok:=(fun k_=>(w.heap.size≤k_))) HN22.out (fun k_ hk_=>hk_)),HB.out⟩
 replace HH:=zd HH
 obtain⟨t25,At26,HH⟩:=HH
 go_wp2_with ((with_reducible refine gc 29 rfl ?_);refine zc 29 (some 12) Try.func29 #[.int .i64 a0] (h:=?_);(with_reducible refine(syntax_Known.calls  a0 t25 _  At26.out).mono ?_);rintro e w' ⟨rfl,⟨nd,rfl⟩⟩;refine⟨_,rfl,?_⟩)
 refine zg ?_
 by_cases c28:t25=true
 ·replace HH:=MW.hpos HH c28
  subst c28
  go_wp2_with (((with_reducible refine gate_dst (N:=15) rfl ?_);(try(refine gate_guard (by rfl) ?_;dsimp only));refine Kd.N_lit (Kd.int .i64) w.heap.size 3 rfl (N':=15) rfl (xs:=([0,a0]:List Int)) (inner:=[.int .i64 0,.int .i64 a0]) (ok:=(fun k_=>(w.heap.size≤k_))) (okp:=(fun k_=>(w.heap.size≤k_))) ?hr ?hp (fun _ hk_=>hk_) ?hf (by repeat(first|(with_reducible first|exact HB.out|apply below_alloc|apply pw_below_drewN|apply below_drew1)|exact HB.out)) (below_size (by repeat(first|(with_reducible first|exact HB.out|apply below_alloc|apply pw_below_drewN|apply below_drew1)|exact HB.out))) (by first|simp|decide) ?_;(case hr=>first|(go_simp;done)|(go_simp;rfl));(case hp=>exact(Reps.one (fun _ _=>rfl) (Reps.one (fun _ _=>rfl) (Reps.none _ _))));(case hf=>exact(show ∀ k_,w.heap.size≤k_→(fun k_=>(w.heap.size≤k_)) k_ from fun k_ h_=>(Nat.le_trans (below_size (by repeat(first|(with_reducible first|exact HB.out|apply below_alloc|apply pw_below_drewN|apply below_drew1)|exact HB.out))) h_)) _ (Nat.le_refl _));intro v29 w30 hn1 hb1 hg1 hat1);replace hat1:=za hat1;refine stop_ ?_)
  refine zg ?_
  replace hat1:=hat1.out
  have hbe:=MW.grown_below hg1
  have hba:=MW.base_of hat1
  replace HB:=za hb1
  have HN31:=za hn1
  clear hn1 hb1 hg1 hat1 hbe hba
  obtain rfl:=Option.some.inj HH.out
  clear HH
  go_wp2
  go_ret
  exact⟨_,by first|rfl|(simp;done)|(simp[*];done),(Kd.N_mono (ok:=(fun k_=>(w.heap.size≤k_))) HN31.out (fun k_ hk_=>hk_)),HB.out⟩
 replace HH:=MW.hneg HH c28
 replace c28:=Bool.eq_false_iff.mpr c28
 subst c28
 obtain rfl:=Option.some.inj HH.out
 clear HH
 go_wp2
 go_ret
 exact⟨_,by first|rfl|(simp;done)|(simp[*];done),(Kd.N_nil _ _ _ _ _),(by repeat(first|(with_reducible first|exact HB.out|apply below_alloc|apply pw_below_drewN|apply below_drew1)|exact HB.out))⟩

def toponymref20_Rules.f (a0:Int):Option (List Int):=if a0=1 then(some ([0,1,2]:List Int)) else(if a0=2 then(some ([0,1,2]:List Int)) else(if a0=3 then(some ([0,3]:List Int)) else(if a0=4 then(some ([0,4]:List Int)) else(if a0=5 then(some ([0,5]:List Int)) else(if a0=6 then(some ([0,6]:List Int)) else(if a0=7 then(some ([0,7]:List Int)) else(if a0=8 then(some ([0,8]:List Int)) else(if a0=9 then(some ([0,9]:List Int)) else(if a0=10 then(some ([0,10,11]:List Int)) else(some ([]:List Int)))))))))))
set_option maxHeartbeats 8000000 in
set_option maxRecDepth 100000 in
theorem toponymref20_Rules.calls (a0:Int) (r:List Int) (w:World) (h:toponymref20_Rules.f a0=some r):
  Calls Try.prog 15 #[.int .i64 a0] w (fun e w'=>∃ v0_:Value,e=.returned (v0_)∧Kd.N (Kd.int .i64) 3 w' w.heap.size (fun k_=>w.heap.size≤k_) v0_ r∧Below w.heap.size w w'):=by
 unfold toponymref20_Rules.f at h
 have HH:=za h
 clear h
 have HB:=za (Below.refl w.heap.size w)
 go_enter Try.func15,Try.ntmps15
 replace HH:=zqe HH
 rcases HH with⟨HH,hk2,hk3⟩|⟨HH,hk7,hk8⟩
 ·go_wp2_with (((with_reducible refine gate_dst (N:=7) rfl ?_);(try(refine gate_guard (by rfl) ?_;dsimp only));refine Kd.N_lit (Kd.int .i64) w.heap.size 3 rfl (N':=7) rfl (xs:=([0,1,2]:List Int)) (inner:=[.int .i64 0,.int .i64 1,.int .i64 2]) (ok:=(fun k_=>(w.heap.size≤k_))) (okp:=(fun k_=>(w.heap.size≤k_))) ?hr ?hp (fun _ hk_=>hk_) ?hf HB.out (below_size HB.out) (by first|simp|decide) ?_;(case hr=>first|(go_simp;done)|(go_simp;rfl));(case hp=>exact(Reps.one (fun _ _=>rfl) (Reps.one (fun _ _=>rfl) (Reps.one (fun _ _=>rfl) (Reps.none _ _)))));(case hf=>exact(show ∀ k_,w.heap.size≤k_→(fun k_=>(w.heap.size≤k_)) k_ from fun k_ h_=>(Nat.le_trans (below_size HB.out) h_)) _ (Nat.le_refl _));intro v4 w5 hn1 hb1 hg1 hat1);replace hat1:=za hat1;refine stop_ ?_)
  refine zg ?_
  replace hat1:=hat1.out
  have hbe:=MW.grown_below hg1
  have hba:=MW.base_of hat1
  replace HB:=za hb1
  have HN6:=za hn1
  clear hn1 hb1 hg1 hat1 hbe hba
  obtain rfl:=Option.some.inj HH.out
  clear HH
  go_wp2
  go_ret
  exact⟨_,by first|rfl|(simp;done)|(simp[*];done),(Kd.N_mono (ok:=(fun k_=>(w.heap.size≤k_))) HN6.out (fun k_ hk_=>hk_)),HB.out⟩
 replace HH:=zqe HH
 rcases HH with⟨HH,hk10,hk11⟩|⟨HH,hk15,hk16⟩
 ·go_wp2_with (((with_reducible refine gate_dst (N:=7) rfl ?_);(try(refine gate_guard (by rfl) ?_;dsimp only));refine Kd.N_lit (Kd.int .i64) w.heap.size 3 rfl (N':=7) rfl (xs:=([0,1,2]:List Int)) (inner:=[.int .i64 0,.int .i64 1,.int .i64 2]) (ok:=(fun k_=>(w.heap.size≤k_))) (okp:=(fun k_=>(w.heap.size≤k_))) ?hr ?hp (fun _ hk_=>hk_) ?hf HB.out (below_size HB.out) (by first|simp|decide) ?_;(case hr=>first|(go_simp;done)|(go_simp;rfl));(case hp=>exact(Reps.one (fun _ _=>rfl) (Reps.one (fun _ _=>rfl) (Reps.one (fun _ _=>rfl) (Reps.none _ _)))));(case hf=>exact(show ∀ k_,w.heap.size≤k_→(fun k_=>(w.heap.size≤k_)) k_ from fun k_ h_=>(Nat.le_trans (below_size HB.out) h_)) _ (Nat.le_refl _));intro v12 w13 hn1 hb1 hg1 hat1);replace hat1:=za hat1;refine stop_ ?_)
  refine zg ?_
  replace hat1:=hat1.out
  have hbe:=MW.grown_below hg1
  have hba:=MW.base_of hat1
  replace HB:=za hb1
  have HN14:=za hn1
  clear hn1 hb1 hg1 hat1 hbe hba
  obtain rfl:=Option.some.inj HH.out
  clear HH
  go_wp2
  go_ret
  exact⟨_,by first|rfl|(simp;done)|(simp[*];done),(Kd.N_mono (ok:=(fun k_=>(w.heap.size≤k_))) HN14.out (fun k_ hk_=>hk_)),HB.out⟩
 replace HH:=zqe HH
 rcases HH with⟨HH,hk18,hk19⟩|⟨HH,hk23,hk24⟩
 ·go_wp2_with (((with_reducible refine gate_dst (N:=10) rfl ?_);(try(refine gate_guard (by rfl) ?_;dsimp only));refine Kd.N_lit (Kd.int .i64) w.heap.size 3 rfl (N':=10) rfl (xs:=([0,3]:List Int)) (inner:=[.int .i64 0,.int .i64 3]) (ok:=(fun k_=>(w.heap.size≤k_))) (okp:=(fun k_=>(w.heap.size≤k_))) ?hr ?hp (fun _ hk_=>hk_) ?hf HB.out (below_size HB.out) (by first|simp|decide) ?_;(case hr=>first|(go_simp;done)|(go_simp;rfl));(case hp=>exact(Reps.one (fun _ _=>rfl) (Reps.one (fun _ _=>rfl) (Reps.none _ _))));(case hf=>exact(show ∀ k_,w.heap.size≤k_→(fun k_=>(w.heap.size≤k_)) k_ from fun k_ h_=>(Nat.le_trans (below_size HB.out) h_)) _ (Nat.le_refl _));intro v20 w21 hn1 hb1 hg1 hat1);replace hat1:=za hat1;refine stop_ ?_)
  refine zg ?_
  replace hat1:=hat1.out
  have hbe:=MW.grown_below hg1
  have hba:=MW.base_of hat1
  replace HB:=za hb1
  have HN22:=za hn1
  clear hn1 hb1 hg1 hat1 hbe hba
  obtain rfl:=Option.some.inj HH.out
  clear HH
  go_wp2
  go_ret
  exact⟨_,by first|rfl|(simp;done)|(simp[*];done),(Kd.N_mono (ok:=(fun k_=>(w.heap.size≤k_))) HN22.out (fun k_ hk_=>hk_)),HB.out⟩
 replace HH:=zqe HH
 rcases HH with⟨HH,hk26,hk27⟩|⟨HH,hk31,hk32⟩
 ·go_wp2_with (((with_reducible refine gate_dst (N:=13) rfl ?_);(try(refine gate_guard (by rfl) ?_;dsimp only));refine Kd.N_lit (Kd.int .i64) w.heap.size 3 rfl (N':=13) rfl (xs:=([0,4]:List Int)) (inner:=[.int .i64 0,.int .i64 4]) (ok:=(fun k_=>(w.heap.size≤k_))) (okp:=(fun k_=>(w.heap.size≤k_))) ?hr ?hp (fun _ hk_=>hk_) ?hf HB.out (below_size HB.out) (by first|simp|decide) ?_;(case hr=>first|(go_simp;done)|(go_simp;rfl));(case hp=>exact(Reps.one (fun _ _=>rfl) (Reps.one (fun _ _=>rfl) (Reps.none _ _))));(case hf=>exact(show ∀ k_,w.heap.size≤k_→(fun k_=>(w.heap.size≤k_)) k_ from fun k_ h_=>(Nat.le_trans (below_size HB.out) h_)) _ (Nat.le_refl _));intro v28 w29 hn1 hb1 hg1 hat1);replace hat1:=za hat1;refine stop_ ?_)
  refine zg ?_
  replace hat1:=hat1.out
  have hbe:=MW.grown_below hg1
  have hba:=MW.base_of hat1
  replace HB:=za hb1
  have HN30:=za hn1
  clear hn1 hb1 hg1 hat1 hbe hba
  obtain rfl:=Option.some.inj HH.out
  clear HH
  go_wp2
  go_ret
  exact⟨_,by first|rfl|(simp;done)|(simp[*];done),(Kd.N_mono (ok:=(fun k_=>(w.heap.size≤k_))) HN30.out (fun k_ hk_=>hk_)),HB.out⟩
 replace HH:=zqe HH
 rcases HH with⟨HH,hk34,hk35⟩|⟨HH,hk39,hk40⟩
 ·go_wp2_with (((with_reducible refine gate_dst (N:=16) rfl ?_);(try(refine gate_guard (by rfl) ?_;dsimp only));refine Kd.N_lit (Kd.int .i64) w.heap.size 3 rfl (N':=16) rfl (xs:=([0,5]:List Int)) (inner:=[.int .i64 0,.int .i64 5]) (ok:=(fun k_=>(w.heap.size≤k_))) (okp:=(fun k_=>(w.heap.size≤k_))) ?hr ?hp (fun _ hk_=>hk_) ?hf HB.out (below_size HB.out) (by first|simp|decide) ?_;(case hr=>first|(go_simp;done)|(go_simp;rfl));(case hp=>exact(Reps.one (fun _ _=>rfl) (Reps.one (fun _ _=>rfl) (Reps.none _ _))));(case hf=>exact(show ∀ k_,w.heap.size≤k_→(fun k_=>(w.heap.size≤k_)) k_ from fun k_ h_=>(Nat.le_trans (below_size HB.out) h_)) _ (Nat.le_refl _));intro v36 w37 hn1 hb1 hg1 hat1);replace hat1:=za hat1;refine stop_ ?_)
  refine zg ?_
  replace hat1:=hat1.out
  have hbe:=MW.grown_below hg1
  have hba:=MW.base_of hat1
  replace HB:=za hb1
  have HN38:=za hn1
  clear hn1 hb1 hg1 hat1 hbe hba
  obtain rfl:=Option.some.inj HH.out
  clear HH
  go_wp2
  go_ret
  exact⟨_,by first|rfl|(simp;done)|(simp[*];done),(Kd.N_mono (ok:=(fun k_=>(w.heap.size≤k_))) HN38.out (fun k_ hk_=>hk_)),HB.out⟩
 replace HH:=zqe HH
 rcases HH with⟨HH,hk42,hk43⟩|⟨HH,hk47,hk48⟩
 ·go_wp2_with (((with_reducible refine gate_dst (N:=19) rfl ?_);(try(refine gate_guard (by rfl) ?_;dsimp only));refine Kd.N_lit (Kd.int .i64) w.heap.size 3 rfl (N':=19) rfl (xs:=([0,6]:List Int)) (inner:=[.int .i64 0,.int .i64 6]) (ok:=(fun k_=>(w.heap.size≤k_))) (okp:=(fun k_=>(w.heap.size≤k_))) ?hr ?hp (fun _ hk_=>hk_) ?hf HB.out (below_size HB.out) (by first|simp|decide) ?_;(case hr=>first|(go_simp;done)|(go_simp;rfl));(case hp=>exact(Reps.one (fun _ _=>rfl) (Reps.one (fun _ _=>rfl) (Reps.none _ _))));(case hf=>exact(show ∀ k_,w.heap.size≤k_→(fun k_=>(w.heap.size≤k_)) k_ from fun k_ h_=>(Nat.le_trans (below_size HB.out) h_)) _ (Nat.le_refl _));intro v44 w45 hn1 hb1 hg1 hat1);replace hat1:=za hat1;refine stop_ ?_)
  refine zg ?_
  replace hat1:=hat1.out
  have hbe:=MW.grown_below hg1
  have hba:=MW.base_of hat1
  replace HB:=za hb1
  have HN46:=za hn1
  clear hn1 hb1 hg1 hat1 hbe hba
  obtain rfl:=Option.some.inj HH.out
  clear HH
  go_wp2
  go_ret
  exact⟨_,by first|rfl|(simp;done)|(simp[*];done),(Kd.N_mono (ok:=(fun k_=>(w.heap.size≤k_))) HN46.out (fun k_ hk_=>hk_)),HB.out⟩
 replace HH:=zqe HH
 rcases HH with⟨HH,hk50,hk51⟩|⟨HH,hk55,hk56⟩
 ·go_wp2_with (((with_reducible refine gate_dst (N:=22) rfl ?_);(try(refine gate_guard (by rfl) ?_;dsimp only));refine Kd.N_lit (Kd.int .i64) w.heap.size 3 rfl (N':=22) rfl (xs:=([0,7]:List Int)) (inner:=[.int .i64 0,.int .i64 7]) (ok:=(fun k_=>(w.heap.size≤k_))) (okp:=(fun k_=>(w.heap.size≤k_))) ?hr ?hp (fun _ hk_=>hk_) ?hf HB.out (below_size HB.out) (by first|simp|decide) ?_;(case hr=>first|(go_simp;done)|(go_simp;rfl));(case hp=>exact(Reps.one (fun _ _=>rfl) (Reps.one (fun _ _=>rfl) (Reps.none _ _))));(case hf=>exact(show ∀ k_,w.heap.size≤k_→(fun k_=>(w.heap.size≤k_)) k_ from fun k_ h_=>(Nat.le_trans (below_size HB.out) h_)) _ (Nat.le_refl _));intro v52 w53 hn1 hb1 hg1 hat1);replace hat1:=za hat1;refine stop_ ?_)
  refine zg ?_
  replace hat1:=hat1.out
  have hbe:=MW.grown_below hg1
  have hba:=MW.base_of hat1
  replace HB:=za hb1
  have HN54:=za hn1
  clear hn1 hb1 hg1 hat1 hbe hba
  obtain rfl:=Option.some.inj HH.out
  clear HH
  go_wp2
  go_ret
  exact⟨_,by first|rfl|(simp;done)|(simp[*];done),(Kd.N_mono (ok:=(fun k_=>(w.heap.size≤k_))) HN54.out (fun k_ hk_=>hk_)),HB.out⟩
 replace HH:=zqe HH
 rcases HH with⟨HH,hk58,hk59⟩|⟨HH,hk63,hk64⟩
 ·go_wp2_with (((with_reducible refine gate_dst (N:=25) rfl ?_);(try(refine gate_guard (by rfl) ?_;dsimp only));refine Kd.N_lit (Kd.int .i64) w.heap.size 3 rfl (N':=25) rfl (xs:=([0,8]:List Int)) (inner:=[.int .i64 0,.int .i64 8]) (ok:=(fun k_=>(w.heap.size≤k_))) (okp:=(fun k_=>(w.heap.size≤k_))) ?hr ?hp (fun _ hk_=>hk_) ?hf HB.out (below_size HB.out) (by first|simp|decide) ?_;(case hr=>first|(go_simp;done)|(go_simp;rfl));(case hp=>exact(Reps.one (fun _ _=>rfl) (Reps.one (fun _ _=>rfl) (Reps.none _ _))));(case hf=>exact(show ∀ k_,w.heap.size≤k_→(fun k_=>(w.heap.size≤k_)) k_ from fun k_ h_=>(Nat.le_trans (below_size HB.out) h_)) _ (Nat.le_refl _));intro v60 w61 hn1 hb1 hg1 hat1);replace hat1:=za hat1;refine stop_ ?_)
  refine zg ?_
  replace hat1:=hat1.out
  have hbe:=MW.grown_below hg1
  have hba:=MW.base_of hat1
  replace HB:=za hb1
  have HN62:=za hn1
  clear hn1 hb1 hg1 hat1 hbe hba
  obtain rfl:=Option.some.inj HH.out
  clear HH
  go_wp2
  go_ret
  exact⟨_,by first|rfl|(simp;done)|(simp[*];done),(Kd.N_mono (ok:=(fun k_=>(w.heap.size≤k_))) HN62.out (fun k_ hk_=>hk_)),HB.out⟩
 replace HH:=zqe HH
 rcases HH with⟨HH,hk66,hk67⟩|⟨HH,hk71,hk72⟩
 ·go_wp2_with (((with_reducible refine gate_dst (N:=28) rfl ?_);(try(refine gate_guard (by rfl) ?_;dsimp only));refine Kd.N_lit (Kd.int .i64) w.heap.size 3 rfl (N':=28) rfl (xs:=([0,9]:List Int)) (inner:=[.int .i64 0,.int .i64 9]) (ok:=(fun k_=>(w.heap.size≤k_))) (okp:=(fun k_=>(w.heap.size≤k_))) ?hr ?hp (fun _ hk_=>hk_) ?hf HB.out (below_size HB.out) (by first|simp|decide) ?_;(case hr=>first|(go_simp;done)|(go_simp;rfl));(case hp=>exact(Reps.one (fun _ _=>rfl) (Reps.one (fun _ _=>rfl) (Reps.none _ _))));(case hf=>exact(show ∀ k_,w.heap.size≤k_→(fun k_=>(w.heap.size≤k_)) k_ from fun k_ h_=>(Nat.le_trans (below_size HB.out) h_)) _ (Nat.le_refl _));intro v68 w69 hn1 hb1 hg1 hat1);replace hat1:=za hat1;refine stop_ ?_)
  refine zg ?_
  replace hat1:=hat1.out
  have hbe:=MW.grown_below hg1
  have hba:=MW.base_of hat1
  replace HB:=za hb1
  have HN70:=za hn1
  clear hn1 hb1 hg1 hat1 hbe hba
  obtain rfl:=Option.some.inj HH.out
  clear HH
  go_wp2
  go_ret
  exact⟨_,by first|rfl|(simp;done)|(simp[*];done),(Kd.N_mono (ok:=(fun k_=>(w.heap.size≤k_))) HN70.out (fun k_ hk_=>hk_)),HB.out⟩
 replace HH:=zqe HH
 rcases HH with⟨HH,hk74,hk75⟩|⟨HH,hk79,hk80⟩
 ·go_wp2_with (((with_reducible refine gate_dst (N:=31) rfl ?_);(try(refine gate_guard (by rfl) ?_;dsimp only));refine Kd.N_lit (Kd.int .i64) w.heap.size 3 rfl (N':=31) rfl (xs:=([0,10,11]:List Int)) (inner:=[.int .i64 0,.int .i64 10,.int .i64 11]) (ok:=(fun k_=>(w.heap.size≤k_))) (okp:=(fun k_=>(w.heap.size≤k_))) ?hr ?hp (fun _ hk_=>hk_) ?hf HB.out (below_size HB.out) (by first|simp|decide) ?_;(case hr=>first|(go_simp;done)|(go_simp;rfl));(case hp=>exact(Reps.one (fun _ _=>rfl) (Reps.one (fun _ _=>rfl) (Reps.one (fun _ _=>rfl) (Reps.none _ _)))));(case hf=>exact(show ∀ k_,w.heap.size≤k_→(fun k_=>(w.heap.size≤k_)) k_ from fun k_ h_=>(Nat.le_trans (below_size HB.out) h_)) _ (Nat.le_refl _));intro v76 w77 hn1 hb1 hg1 hat1);replace hat1:=za hat1;refine stop_ ?_)
  refine zg ?_
  replace hat1:=hat1.out
  have hbe:=MW.grown_below hg1
  have hba:=MW.base_of hat1
  replace HB:=za hb1
  have HN78:=za hn1
  clear hn1 hb1 hg1 hat1 hbe hba
  obtain rfl:=Option.some.inj HH.out
  clear HH
  go_wp2
  go_ret
  exact⟨_,by first|rfl|(simp;done)|(simp[*];done),(Kd.N_mono (ok:=(fun k_=>(w.heap.size≤k_))) HN78.out (fun k_ hk_=>hk_)),HB.out⟩
 obtain rfl:=Option.some.inj HH.out
 clear HH
 go_wp2
 go_ret
 exact⟨_,by first|rfl|(simp;done)|(simp[*];done),(Kd.N_nil _ _ _ _ _),HB.out⟩
end Go.Proofs.Ytcjafemnkhifmaa.GA

namespace Go.Proofs.Ytcjafemnkhifmaa.GA
open Go.RowKit Go.Proofs.Ytcjafemnkhifmaa Go.Proofs.Ytcjafemnkhifmaa.MW Go.Proofs.YtcjafemnkhifmaaW.PrintWords Go.Proofs.YtcjafemnkhifmaaW.PrintLast Go.Proofs.YtcjafemnkhifmaaW.PrintMore Go.Proofs.Ytcjafemnkhifmaa.MQ
attribute [local go_sem] max2_int min2_int max_two min_two
set_option linter.unusedVariables false
set_option linter.unusedSimpArgs false
def attrs_line.f (k:Nat) (l0:List (S26)) (a1:ByteArray):Option (List ByteArray):=(attrs_up.seq k 0 a1 l0).bind fun xs=>if xs.length<8796093022208 then(some (xs.map S26.f0)) else(none)
theorem attrs_line.mono:∀ a0_ a1_ k,LeO (attrs_line.f k a0_ a1_) (attrs_line.f (k+1) a0_ a1_):=by
  intro a0_ a1_ k
  unfold attrs_line.f
  exact LeO.bind (attrs_up.seq.mono _ _ _ _) (fun _=>LeO.refl _)
set_option maxHeartbeats 8000000 in
set_option maxRecDepth 100000 in
theorem attrs_line.calls (k:Nat) (P_:Nat→Prop) (A0:Option Addr) (c0:Nat) (l0:List (S26)) (a1:ByteArray) (r:List ByteArray) (w:World) (hs0:Kd.F k26 w P_ A0 l0.length l0) (hc0:l0.length≤c0) (h:attrs_line.f k l0 a1=some r):
    Calls Try.prog 31 #[.slice A0 l0.length c0,.string a1] w (fun e w'=>∃ v0_:Value,e=.returned (v0_)∧Kd.N Kd.string 9 w' w.heap.size (fun k_=>P_ k_∨w.heap.size≤k_) v0_ r∧Below w.heap.size w w'):=by
  obtain⟨xs,hseq,h⟩:∃ xs,attrs_up.seq k 0 a1 l0=some xs∧(if xs.length<8796093022208 then(some (xs.map S26.f0)) else(none))=some r:=by
    unfold attrs_line.f at h
    cases hx:attrs_up.seq k 0 a1 l0 with
    |none=>rw[hx] at h;cases h
    |some xs=>rw[hx] at h;exact⟨xs,rfl,h⟩
  have hlen:xs.length<8796093022208:=by
    by_cases hc:xs.length<8796093022208
    · exact hc
    · rw[if_neg hc] at h;cases h
  rw[if_pos hlen] at h
  have hr:r=xs.map S26.f0:=(Option.some.inj h).symm
  subst hr
  clear h
  have HS:=za hseq
  have HLEN:=Lib.hid hlen
  have HF0:=zfp hs0
  have HL0:=za hc0
  clear hseq hlen hs0 hc0
  have HB:=za (Below.refl w.heap.size w)
  have hu26:=Try.underlying26
  refine calls_marks Try.func31 rfl ?_
  simp only[Try.ntmps31,List.size_toArray,List.length_cons,List.length_nil,Nat.reduceAdd,Nat.reduceSub,Array.replicate_succ,Array.replicate_zero,List.push_toArray,List.append_toArray,List.nil_append,List.cons_append]
  go_wp2_with ((with_reducible refine gd 5 rfl ?_);refine zb 5 36 #[.slice none 0 0] (h:=?_);intro g1 hg w2 BKg1 hb)
  refine zg ?_
  have GEg1:=zge hg (below_size HB.out)
  replace HF0:=zfe HF0.out hg hb
  replace HB:=zhb HB.out hb
  clear hg hb
  go_wp2_with (((with_reducible refine gate_callee (f:=27) rfl ?_);(try(refine gate_guard (by rfl) ?_;dsimp only));refine goesL_ (some 9) rfl rfl Try.func27 (by kernel_rfl) rfl #[.slice A0 l0.length c0,.string a1] rfl (by(try simp only[List.map_toArray,List.map_cons,List.map_nil]);first|done|rfl) ?_);refine stop_ ?_)
  refine zg ?_
  go_enter Try.func27,Try.ntmps27
  go_wp2_with ((with_reducible refine gd 2 rfl ?_);refine zb 2 22 #[.slice A0 l0.length c0] (h:=?_);intro g2 hg w3 BKg2 hb)
  refine zg ?_
  have NE1_2:=znq hg BKg1.out
  replace HF0:=zfe HF0.out hg hb
  replace BKg1:=zbb BKg1.out hb
  replace HB:=zhb HB.out hb
  clear hg hb
  go_wp2_with ((with_reducible refine gd 3 rfl ?_);refine zb 3 9 #[.string a1] (h:=?_);intro g3 hg w4 BKg3 hb)
  refine zg ?_
  have NE1_3:=znq hg BKg1.out
  have NE2_3:=znq hg BKg2.out
  have GEg3:=zge hg (below_size HB.out)
  replace HF0:=zfe HF0.out hg hb
  replace BKg1:=zbb BKg1.out hb
  replace BKg2:=zbb BKg2.out hb
  replace HB:=zhb HB.out hb
  clear hg hb
  go_wp2
  go_ret
  refine⟨_,rfl,?_⟩
  go_wp2
  have hz4:=HB.out.size
  replace hz4:=Lib.hid hz4
  refine range_law (enc:=enc26) (E₀:=fun k=>k=g3) (K:=fun k=>((P_ k∨w.heap.size≤k)∧k≠g1∧k≠g3∧k<w4.heap.size)∨k=g2) (xs:=xs) rfl (enters_ Try.func39 (by kernel_rfl) rfl)
    (attrs_up.iter k _ (fun k=>(P_ k∨w.heap.size≤k)∧k≠g1∧k≠g3∧k<w4.heap.size) g2 g3 A0 c0 l0 a1 xs w4 BKg2.out BKg3.out (Kd.F_mono (Kd.F_bound HF0.out) (fun k hk=>⟨hk.1.1.1.1,hk.1.1.1.2,hk.1.2,hk.2⟩)) HL0.out (.inr rfl) (fun k hk=>⟨.inl hk,hk.2.2.1⟩) NE2_3.out HS.out) (fun _=>rfl)
    (fun k e=>by rw[e];exact blk_lt BKg3.out) (fun k hk=>hk.elim (fun h=>h.2.2.2) (fun e=>by rw[e];exact blk_lt BKg2.out))
    (fun E pre W=>∃ v:Value,W.heap[g1]? =some (.cells #[v] 36 (0,0))∧Kd.N Kd.string 9 W w.heap.size (fun k=>w4.heap.size≤k∧ ¬ E k) v (pre.map S26.f0)∧(∀ k,E k→k≠g1∧(k<w4.heap.size→k=g3)∧k<W.heap.size)∧Kp (fun k=>k≠g1∧k≠g3∧k<w4.heap.size) w4 W)
    (fun _ _ _ _=>False) ⟨?_,?_⟩ (fun _ _ _ _ _ _ h _ _=>h) ⟨_,BKg1.out,Kd.N_nil _ _ _ _ _,fun k e=>⟨fun h=>NE1_3.out (by rw[← h,e]),fun _=>e,by rw[e];exact blk_lt BKg3.out⟩,Kp.refl _ _⟩ ?_ ?_ (fun _ _ _ _ h=>h.elim)
  · rintro E s A A' row ⟨v,h1,hN,h2,h3⟩ hg' hr
    exact⟨v,(hg'.block g1 (blk_lt h1) (fun e=>(h2 g1 (hr g1 e.symm)).1 rfl)).trans h1,Kd.N_grown hN hg' (fun k hk e=>hk.2 (hr k e.symm)),fun k hk=>⟨(h2 k hk).1,(h2 k hk).2.1,Nat.lt_of_lt_of_le (h2 k hk).2.2 hg'.size⟩,h3.trans (Kp.grown hg' (fun r e hk=>hk.2.1 ((h2 r (hr r e)).2.1 hk.2.2)))⟩
  · rintro E s A A' g' ⟨v,h1,hN,h2,h3⟩ hg' hge hlt
    have hs3:=h3.size
    have hl1:=blk_lt h1
    refine⟨v,(hg'.block g1 hl1 (by simp)).trans h1,?_,fun k hk=>hk.elim (fun h=>⟨(h2 k h).1,(h2 k h).2.1,Nat.lt_of_lt_of_le (h2 k h).2.2 hg'.size⟩) (fun e=>⟨by omega,fun h=>by omega,by omega⟩),h3.trans (Kp.grown hg' (fun r e=>by cases e))⟩
    exact Kd.N_grown (Kd.N_mono (Kd.N_bound hN) (fun k hk=>⟨hk.1.1,fun h=>h.elim hk.1.2 (fun e=>by have:=hk.2;omega)⟩)) hg' (by simp)
  · rintro l E pre x rest W hxs ⟨v,h1,hN,h2,h3⟩ hEl hlt
    refine round_region_k (fun ⟨_,_,h⟩=>h) (by simp) fun Q1 hQ1=>?_
    show wpList _ _ _ _ ⟨setAll #[10] #[.agg #[.string x.f0,.string x.f1,.int .i64 x.f2,.int .i64 x.f3,.bool x.f4,.bool x.f5]] _,[]⟩ _
    rw[setAll_one]
    have hlen:pre.length<8796093022208:=by have:=HLEN.out;rw[hxs,List.length_append] at this;simp at this;omega
    replace hlen:=Lib.hid hlen
    obtain⟨ys,hys⟩:∃ ys:List ByteArray,ys=pre.map S26.f0:=⟨_,rfl⟩
    rw[← hys] at hN
    have hyl:ys.length<8796093022208:=by rw[hys,List.length_map];exact hlen.out
    replace hlen:=Lib.hid hyl
    have HYS:=Lib.hid hys
    have H3:=Lib.hid h3
    have H2:=Lib.hid h2
    have HEl:=Lib.hid hEl
    have HLT:=Lib.hid hlt
    have BK1:=za h1
    have HN1:=za hN
    have HBW:=za (Below.refl W.heap.size W)
    have HB0:=za (HB.out.trans (h3.toBelow2 HB.out.size fun k hk=>⟨fun e=>by have:=GEg1.out;omega,fun e=>by have:=GEg3.out;omega,Nat.lt_of_lt_of_le hk HB.out.size⟩))
    clear hxs h3 h2 hEl hlt h1 hN hyl hys
    go_wp2_with ((with_reducible refine gd 6 rfl ?_);refine zb 6 26 #[.string (⟨#[]⟩:ByteArray),.string (⟨#[]⟩:ByteArray),.int .i64 0,.int .i64 0,.bool false,.bool false] (h:=?_);intro g6 hg w6 BKg6 hb)
    refine zg ?_
    have NE16:=znq hg BK1.out
    have GE6:=zge hg (Nat.le_refl _)
    replace BK1:=zbb BK1.out hb
    replace HN1:=zne HN1.out hg hb
    replace HBW:=zhb HBW.out hb
    replace HB0:=za (below_step HB0.out hb)
    clear hg hb
    go_wp2_with ((with_reducible refine gs 26 6 rfl ?_);refine zs 26 6 #[.string x.f0,.string x.f1,.int .i64 x.f2,.int .i64 x.f3,.bool x.f4,.bool x.f5] BKg6.out [.string x.f0,.string x.f1,.int .i64 x.f2,.int .i64 x.f3,.bool x.f4,.bool x.f5] (h:=?_);intro w7 hbk hg)
    refine zg ?_
    have hWw:w.heap.size≤W.heap.size:=Nat.le_trans HB.out.size H3.out.size
    have GE60:Aside0 (w.heap.size≤g6):=⟨Nat.le_trans hWw GE6.out⟩
    replace HN1:=zng HN1.out hg fun k_ hk_=>hk_.2
    replace BK1:=zbg BK1.out hg NE16
    replace HB0:=zhg HB0.out hg HB0.out.size GE60
    replace HBW:=zhg HBW.out hg HBW.out.size GE6
    replace BKg6:=hbk
    clear hg hbk
    refine wpList_nil (hQ1.out _ _ ⟨HBW.out.block l HLT.out,fun V hV=>?_⟩)
    have hl1:l≠g1:=(H2.out l HEl.out).1
    have hl6:l≠g6:=fun e=>by have:=HLT.out;have:=GE6.out;omega
    have hlw:w4.heap.size≤l∨l=g3:=by
      rcases Nat.lt_or_ge l w4.heap.size with h|h
      · exact .inr ((H2.out l HEl.out).2.1 h)
      · exact .inl h
    have hgw:w.heap.size≤l:=by
      rcases hlw with h|h
      · exact Nat.le_trans HB.out.size h
      · rw[h];exact GEg3.out
    have BK1:=za ((hV.block g1 (blk_lt BK1.out) (fun e=>hl1 (Option.some.inj e).symm)).trans BK1.out)
    have BKg6:=za ((hV.block g6 (blk_lt BKg6.out) (fun e=>hl6 (Option.some.inj e).symm)).trans BKg6.out)
    have HN1:=za (Kd.N_grown HN1.out hV (fun k hk e=>hk.1.2 (by rw[Option.some.inj e];exact HEl.out)))
    have HB0:=za (Below.grown HB0.out hV HB0.out.size (fun k e=>by rw[← Option.some.inj e];exact hgw))
    have HSV:Aside0 (W.heap.size≤V.heap.size):=⟨Nat.le_trans HBW.out.size hV.size⟩
    have HFR:Aside0 (∀ k,V.heap.size≤k→(w4.heap.size≤k∧ ¬ E k)∧k≠g6):=⟨fun k hk=>⟨⟨Nat.le_trans H3.out.size (Nat.le_trans HSV.out hk),fun hE=>by have:=(H2.out k hE).2.2;have:=HSV.out;omega⟩,fun e=>by have:=blk_lt BKg6.out;omega⟩⟩
    have HV:=Lib.hid hV
    have HL1:=Lib.hid hl1
    clear hV hl1 hl6 hlw hgw hWw
    refine wpIn_block (round_region_k (inBlock_calm roundEnd_calm) (by simp) fun Q2 hQ2=>?_)
    have cc1:=MB.lz1 BK1.out
    have cc6:=MB.lz6 BKg6.out
    obtain⟨A1,cp1,he_⟩:=Kd.N_slice HN1.out
    subst he_
    go_wp2_with (((with_reducible refine gate_dst (N:=15) rfl ?_);(try(refine gate_guard (by rfl) ?_;dsimp only));refine Kd.N_append Kd.string w.heap.size rfl _ _ 36 9 (.string ⟨#[]⟩) 16 rfl Try.underlying36 info9 rfl (by decide) (by decide) (.slice A1 ys.length cp1) ys (x.f0) [.string x.f0] (fun k=>(w4.heap.size≤k∧ ¬ E k)∧k≠g6) (fun k_=>((w4.heap.size≤k_∧ ¬ E k_)∧k_≠g6)∧some k_≠(.slice A1 ys.length cp1:Value).ownBlock) rfl rfl (fun _ _=>rfl) (fun _ hk_=>hk_) (fun k_ h_=>HFR.out k_ h_) (by(with_reducible repeat(first|apply Kd.N_alloc|apply Kd.N_drewN|apply Kd.N_drew));exact HN1.out) (by repeat(first|(with_reducible first|exact HB0.out|apply below_alloc|apply pw_below_drewN|apply below_drew1)|exact HB0.out)) (below_size (by repeat(first|(with_reducible first|exact HB0.out|apply below_alloc|apply pw_below_drewN|apply below_drew1)|exact HB0.out))) (by have:=hlen.out;omega) ?_;intro v1 w9 hn1 hb1 hg1 hat1);replace hat1:=za hat1;refine stop_ ?_)
    refine zg ?_
    replace hat1:=hat1.out
    obtain⟨A2,cp2,he_⟩:=Kd.N_slice hn1
    subst he_
    have hga:V.grownBy w9 (.slice A1 ys.length cp1:Value).ownBlock:=hg1
    have hrow:∀ r,(.slice A1 ys.length cp1:Value).ownBlock=some r→(w4.heap.size≤r∧ ¬ E r)∧r≠g6:=HN1.out.1
    have hg1lt:g1<w4.heap.size:=blk_lt BKg1.out
    have BK1:=za ((hga.block g1 (blk_lt BK1.out) (fun e=>by have:=(hrow g1 e.symm).1.1;omega)).trans BK1.out)
    have HGA:=Lib.hid hga
    have HROW:=Lib.hid hrow
    have HN2:=za hn1
    have HB1:=za hb1
    have HG1LT:=Lib.hid hg1lt
    clear hga hrow hn1 hb1 hg1 hat1 HN1 HB0 cc1 cc6 hg1lt BKg6
    have cc1:=MB.lz1 BK1.out
    go_wp2_with ((with_reducible refine gs 36 5 rfl ?_);refine zs 36 5 #[.slice A2 (ys++[x.f0]).length cp2] BK1.out [.slice A2 (ys++[x.f0]).length cp2] (h:=?_);intro w10 hbk hg)
    refine zg ?_
    refine wpList_nil (hQ2.out _ _ ?_)
    have hV:=HV.out
    have hga:=HGA.out
    have hS:∀ k,(((P_ k∨w.heap.size≤k)∧k≠g1∧k≠g3∧k<w4.heap.size)∨k=g2)∨E k→k<W.heap.size∧k≠g1∧(w4.heap.size≤k→E k):=fun k hk=>by
      have h4:=H3.out.size
      rcases hk with(h|h)|h
      · exact⟨by omega,h.2.1,fun h'=>by omega⟩
      · have:=blk_lt BKg2.out
        exact⟨by omega,by rw[h];exact fun e=>NE1_2.out e.symm,fun h'=>by omega⟩
      · exact⟨(H2.out k h).2.2,(H2.out k h).1,fun _=>h⟩
    have hk5:∀ K:Nat→Prop,(∀ k,K k→k<W.heap.size∧k≠l∧k≠g1∧(w4.heap.size≤k→E k))→Kp K W w10:=fun K hK=>
      (((Kp.below HBW.out (fun k hk=>(hK k hk).1)).trans (Kp.grown hV (fun r e hk=>(hK r hk).2.1 (Option.some.inj e).symm))).trans (Kp.grown hga (fun r e hk=>(HROW.out r e).1.2 ((hK r hk).2.2.2 (HROW.out r e).1.1)))).trans (Kp.grown hg (fun r e hk=>(hK r hk).2.2.1 (Option.some.inj e).symm))
    have hlV:l<V.heap.size:=Nat.lt_of_lt_of_le HLT.out HSV.out
    refine⟨hk5 _ fun k hk=>⟨(hS k hk.1).1,hk.2,(hS k hk.1).2⟩,?_,_,hbk.out,?_,fun k hk=>⟨(H2.out k hk).1,(H2.out k hk).2.1,?_⟩,?_⟩
    · exact(hg.block l (Nat.lt_of_lt_of_le hlV hga.size) (fun e=>HL1.out (Option.some.inj e))).trans (hga.block l hlV (fun e=>(HROW.out l e.symm).1.2 HEl.out))
    · rw[List.map_append,← HYS.out]
      exact Kd.N_mono (Kd.N_grown HN2.out hg (fun k hk e=>by have h1:=hk.1.1;have h2:=HG1LT.out;have h3:=Option.some.inj e;omega)) (fun k hk=>hk.1)
    · exact Nat.lt_of_lt_of_le (H2.out k hk).2.2 (Nat.le_trans HSV.out (Nat.le_trans hga.size hg.size))
    · have h4:=H3.out.size
      refine H3.out.trans ((((Kp.below HBW.out (fun k hk=>by omega)).trans (Kp.grown hV (fun r e hk=>?_))).trans (Kp.grown hga (fun r e hk=>by have:=(HROW.out r e).1.1;omega))).trans (Kp.grown hg (fun r e hk=>hk.1 (Option.some.inj e).symm)))
      have e':=Option.some.inj e
      subst e'
      exact hk.2.1 ((H2.out l HEl.out).2.1 hk.2.2)
  · rintro E W ⟨v,h1,hN,h2,h3⟩ hED hWD
    have HB5:=za (HB.out.trans (h3.toBelow2 HB.out.size fun k hk=>⟨fun e=>by have:=GEg1.out;omega,fun e=>by have:=GEg3.out;omega,Nat.lt_of_lt_of_le hk HB.out.size⟩))
    have hN2:Kd.N Kd.string 9 W w.heap.size (fun k=>w4.heap.size≤k∧ ¬ E k) v (List.map S26.f0 xs):=hN
    obtain⟨ys,hys⟩:∃ ys:List ByteArray,ys=xs.map S26.f0:=⟨_,rfl⟩
    rw[← hys] at hN2
    have HYS:=Lib.hid hys
    have HN5:=za hN2
    have HED:=Lib.hid hED
    have HWD:=Lib.hid hWD
    have BK1:=za h1
    clear hys hN hN2 h1 h2 h3 hED hWD HF0 BKg1 BKg2 BKg3 HB
    obtain⟨A1,cp1,he_⟩:=Kd.N_slice HN5.out
    subst he_
    have cc1:=MB.lz1 BK1.out
    go_wp2
    refine⟨[w4.heap.size],rfl,by simp,fun D hD=>by rw[List.mem_singleton.1 hD];exact HWD.out,fun W' hk=>⟨_,results_tmp rfl _ _ _,_,rfl,?_,?_⟩⟩
    · rw[← HYS.out]
      exact Kd.N_mono (Kd.N_step HN5.out (fun k hk' hlt=>hk.block k (fun e=>hk'.2 (by rw[List.mem_singleton.1 e];exact HED.out)) hlt)) (fun k hk'=>.inr (Nat.le_trans hz4.out hk'.1))
    · exact HB5.out.trans (hk.toBelow2 HB5.out.size (fun k hk' e=>by have:=hz4.out;rw[List.mem_singleton.1 e] at hk';omega))
end Go.Proofs.Ytcjafemnkhifmaa.GA

namespace Go.Proofs.Ytcjafemnkhifmaa.GA
open Go.RowKit Go.Proofs.Ytcjafemnkhifmaa Go.Proofs.Ytcjafemnkhifmaa.MW Go.Proofs.YtcjafemnkhifmaaW.PrintWords Go.Proofs.YtcjafemnkhifmaaW.PrintLast Go.Proofs.YtcjafemnkhifmaaW.PrintMore
attribute [local go_sem] max2_int min2_int max_two min_two
set_option linter.unusedVariables false
set_option linter.unusedSimpArgs false
def attrs_Line.f (k:Nat) (l0:List (S26)) (a1:ByteArray):Option (List ByteArray):=(attrs_Check.f k l0).bind fun t1=>(if t1=0 then((attrs_line.f k l0 a1).bind fun t7=>(some t7)) else(some ([]:List ByteArray)))
theorem attrs_Line.mono:∀ a0_ a1_ k,LeO (attrs_Line.f k a0_ a1_) (attrs_Line.f (k+1) a0_ a1_):=by
 intro a0_ a1_ k
 unfold attrs_Line.f
 with_reducible repeat' first|exact attrs_Check.mono _ _|exact attrs_line.mono _ _ _|exact LeO.refl _|exact LeO.none _|refine LeO.ite ?_ ?_|refine LeO.bind ?_ (fun _=>?_)
set_option maxHeartbeats 8000000 in
set_option maxRecDepth 100000 in
theorem attrs_Line.calls (k:Nat) (P_:Nat→Prop) (A0:Option Addr) (c0:Nat) (l0:List (S26)) (a1:ByteArray) (r:List ByteArray) (w:World) (hs0:Kd.F k26 w P_ A0 l0.length l0) (hc0:l0.length≤c0) (h:attrs_Line.f k l0 a1=some r):
  Calls Try.prog 19 #[.slice A0 l0.length c0,.string a1] w (fun e w'=>∃ v0_:Value,e=.returned (v0_)∧Kd.N Kd.string 9 w' w.heap.size (fun k_=>P_ k_∨w.heap.size≤k_) v0_ r∧Below w.heap.size w w'):=by
 unfold attrs_Line.f at h
 have HH:=za h
 clear h
 have HF0:=zfp hs0
 have HL0:=za hc0
 clear hs0 hc0
 have HB:=za (Below.refl w.heap.size w)
 go_enter Try.func19,Try.ntmps19
 replace HH:=zd HH
 obtain⟨t1,At2,HH⟩:=HH
 go_wp2_with ((with_reducible refine gc 11 rfl ?_);refine zc 11 (some 6) Try.func11 #[.slice A0 l0.length c0] (h:=?_);(with_reducible refine(attrs_Check.calls k (fun k_=>(P_ k_∨w.heap.size≤k_)) _ _ l0 t1 _ HF0.out HL0.out At2.out).mono ?_);rintro e w3 ⟨rfl,hb⟩;refine⟨_,rfl,?_⟩)
 refine zg ?_
 replace HF0:=zfb HF0.out hb
 replace HB:=zhb HB.out hb
 clear hb
 replace HH:=zqe HH
 rcases HH with⟨HH,hk5,hk6⟩|⟨HH,hk11,hk12⟩
 ·replace HH:=zd HH
  obtain⟨t7,At8,HH⟩:=HH
  go_wp2_with ((with_reducible refine gc 31 rfl ?_);refine zc 31 (some 10) Try.func31 #[.slice A0 l0.length c0,.string a1] (h:=?_);(with_reducible refine(attrs_line.calls k (fun k_=>(P_ k_∨w.heap.size≤k_)) _ _ l0 a1 t7 _ HF0.out HL0.out At8.out).mono ?_);rintro e w9 ⟨v10,rfl,hn10,hb⟩;refine⟨_,rfl,?_⟩)
  refine zg ?_
  have hba:=Kd.N_base hn10
  have HN10:=znl (ok2:=(fun k_=>(P_ k_∨w.heap.size≤k_))) hn10 (below_size HB.out) (fun k_ hk_=>hk_.elim (fun h_=>h_) (fun h_=>.inr (Nat.le_trans (below_size HB.out) h_)))
  replace HB:=zhb HB.out hb
  clear hn10 hba hb
  obtain rfl:=Option.some.inj HH.out
  clear HH
  go_wp2
  go_ret
  exact⟨_,by first|rfl|(simp;done)|(simp[*];done),(Kd.N_mono (ok:=(fun k_=>(P_ k_∨w.heap.size≤k_))) HN10.out (fun k_ hk_=>hk_)),HB.out⟩
 obtain rfl:=Option.some.inj HH.out
 clear HH
 go_wp2
 go_ret
 exact⟨_,by first|rfl|(simp;done)|(simp[*];done),(Kd.N_nil _ _ _ _ _),HB.out⟩

def slices_Index_string_string.l0:Nat→Int→ByteArray→(List ByteArray)→Option (Int)
 |0,_,_,_=>none
 |k+1,x1,a1,l0=>if x1<(l0.length:Int) then(if 0≤x1 then(if a1.toList=(rdOf ByteArray.empty l0 x1).toList then(some x1) else((slices_Index_string_string.l0 k (wrap64 (x1+1)) a1 l0))) else(none)) else(some (-1))
def slices_Index_string_string.f (k:Nat) (l0:List ByteArray) (a1:ByteArray):Option (Int):=(slices_Index_string_string.l0 k 0 a1 l0)
theorem slices_Index_string_string.mono_l:∀ k,(∀ y0 y1 y2,LeO (slices_Index_string_string.l0 k y0 y1 y2) (slices_Index_string_string.l0 (k+1) y0 y1 y2))
 |0=>fun _ _ _ r h=>by simp[slices_Index_string_string.l0] at h
 |k+1=>by
  have ih0:=slices_Index_string_string.mono_l k
  ·intro y0 y1 y2
   unfold slices_Index_string_string.l0
   with_reducible repeat' first|exact ih0 _ _ _|exact LeO.refl _|exact LeO.none _|refine LeO.ite ?_ ?_|refine LeO.bind ?_ (fun _=>?_)
theorem slices_Index_string_string.mono:∀ a0_ a1_ k,LeO (slices_Index_string_string.f k a0_ a1_) (slices_Index_string_string.f (k+1) a0_ a1_):=by
 intro a0_ a1_ k
 have ih0:=slices_Index_string_string.mono_l k
 unfold slices_Index_string_string.f
 with_reducible repeat' first|exact ih0 _ _ _|exact LeO.refl _|exact LeO.none _|refine LeO.ite ?_ ?_|refine LeO.bind ?_ (fun _=>?_)
set_option maxHeartbeats 8000000 in
set_option maxRecDepth 100000 in
theorem slices_Index_string_string.calls (k:Nat) (P_:Nat→Prop) (A0:Option Addr) (c0:Nat) (l0:List ByteArray) (a1:ByteArray) (r:Int) (w:World) (hs0:Kd.F Kd.string w P_ A0 l0.length l0) (hc0:l0.length≤c0) (h:slices_Index_string_string.f k l0 a1=some r):
  Calls Try.prog 42 #[.slice A0 l0.length c0,.string a1] w (fun e w'=>e=.returned (.int .i64 r)∧Drawn0 w w'):=by
 unfold slices_Index_string_string.f at h
 have HH:=za h
 clear h
 have HF0:=zfp hs0
 clear hs0 hc0
 go_enter Try.func42,Try.ntmps42
 go_wp2
 go_loopg [8] k (fun kq u8 w'=>∃ (x1:Int),u8=.int .i64 x1∧Aside0 ((slices_Index_string_string.l0 kq x1 a1 l0)=some r)∧Aside0 (kq≤k)∧Drawn0 w w')
 case atStart=>exact⟨0,(by first|rfl|(simp;done)|(simp[*];done)),HH,⟨Nat.le_refl _⟩,by repeat(first|exact Drawn0.refl _|apply Drawn0.step)⟩
 case round=>
  clear HH
  obtain⟨x1,rfl,HA,HK0,⟨m0_,rfl⟩⟩:=hrel
  cases gk with
  |zero=>exact absurd HA.out (by simp[slices_Index_string_string.l0])
  |succ k2=>
   have H:=HA.out
   clear HA
   simp only[slices_Index_string_string.l0] at H
   have HH:=za H
   clear H
   replace HH:=zqt HH
   rcases HH with⟨HH,hk5,hk6⟩|⟨HH,hk16,hk17⟩
   ·replace HH:=zqdo HH
    obtain⟨HH,hk8⟩:=HH
    have p9:0≤(x1:Int):=of_decide_eq_true (by first|(with_reducible assumption)|assumption)
    have q9:x1<(l0.length:Int):=of_decide_eq_true (by first|(with_reducible assumption)|assumption)
    obtain⟨ad9,e9,hx9_0⟩:=Kd.at_string (Kd.F_now HF0.out) x1 p9 q9
    cases e9
    replace p9:=eq_true p9
    replace q9:=eq_true q9
    replace HH:=zqe HH
    rcases HH with⟨HH,hk11,hk12⟩|⟨HH,hk13,hk14⟩
    ·obtain rfl:=Option.some.inj HH.out
     clear HH
     go_wp2
     go_ret
     exact⟨by first|rfl|(simp;done)|(simp[*];done),by repeat(first|exact Drawn0.refl _|apply Drawn0.step)⟩
    go_wp2
    go_roundg k2
    case measure=>have:=HK0.out;omega
    case rel=>exact⟨wrap64 (x1+1),(by first|rfl|(simp;done)|(simp[*];done)),HH,⟨by have:=HK0.out;omega⟩,by repeat(first|exact Drawn0.refl _|apply Drawn0.step)⟩
   obtain rfl:=Option.some.inj HH.out
   clear HH
   go_wp2
   go_ret
   exact⟨by first|rfl|(simp;done)|(simp[*];done),by repeat(first|exact Drawn0.refl _|apply Drawn0.step)⟩

def slices_Contains_string_string.f (k:Nat) (l0:List ByteArray) (a1:ByteArray):Option (Bool):=(slices_Index_string_string.f k l0 a1).bind fun t1=>(some (decide (t1≥0)))
theorem slices_Contains_string_string.mono:∀ a0_ a1_ k,LeO (slices_Contains_string_string.f k a0_ a1_) (slices_Contains_string_string.f (k+1) a0_ a1_):=by
 intro a0_ a1_ k
 unfold slices_Contains_string_string.f
 with_reducible repeat' first|exact slices_Index_string_string.mono _ _ _|exact LeO.refl _|exact LeO.none _|refine LeO.ite ?_ ?_|refine LeO.bind ?_ (fun _=>?_)
set_option maxHeartbeats 8000000 in
set_option maxRecDepth 100000 in
theorem slices_Contains_string_string.calls (k:Nat) (P_:Nat→Prop) (A0:Option Addr) (c0:Nat) (l0:List ByteArray) (a1:ByteArray) (r:Bool) (w:World) (hs0:Kd.F Kd.string w P_ A0 l0.length l0) (hc0:l0.length≤c0) (h:slices_Contains_string_string.f k l0 a1=some r):
  Calls Try.prog 30 #[.slice A0 l0.length c0,.string a1] w (fun e w'=>e=.returned (.bool r)∧Drawn0 w w'):=by
 unfold slices_Contains_string_string.f at h
 have HH:=za h
 clear h
 have HF0:=zfp hs0
 have HL0:=za hc0
 clear hs0 hc0
 go_enter Try.func30,Try.ntmps30
 replace HH:=zd HH
 obtain⟨t1,At2,HH⟩:=HH
 go_wp2_with ((with_reducible refine gc 42 rfl ?_);refine zc 42 (some 7) Try.func42 #[.slice A0 l0.length c0,.string a1] (h:=?_);(with_reducible refine(slices_Index_string_string.calls k (fun k_=>(P_ k_∨w.heap.size≤k_)) _ _ l0 a1 t1 _ HF0.out HL0.out At2.out).mono ?_);rintro e w' ⟨rfl,⟨nd,rfl⟩⟩;refine⟨_,rfl,?_⟩)
 refine zg ?_
 obtain rfl:=Option.some.inj HH.out
 clear HH
 go_wp2
 go_ret
 exact⟨by first|rfl|(simp;done)|(simp[*];done),by repeat(first|exact Drawn0.refl _|apply Drawn0.step)⟩

def attrs_Is.f (k:Nat) (l0:List (S26)) (a1:ByteArray) (a2:ByteArray):Option (Bool):=(attrs_Line.f k l0 a1).bind fun t1=>((slices_Contains_string_string.f k t1 a2).bind fun t9=>(some t9))
theorem attrs_Is.mono:∀ a0_ a1_ a2_ k,LeO (attrs_Is.f k a0_ a1_ a2_) (attrs_Is.f (k+1) a0_ a1_ a2_):=by
 intro a0_ a1_ a2_ k
 unfold attrs_Is.f
 with_reducible repeat' first|exact attrs_Line.mono _ _ _|exact slices_Contains_string_string.mono _ _ _|exact LeO.refl _|exact LeO.none _|refine LeO.ite ?_ ?_|refine LeO.bind ?_ (fun _=>?_)
set_option maxHeartbeats 8000000 in
set_option maxRecDepth 100000 in
theorem attrs_Is.calls (k:Nat) (P_:Nat→Prop) (A0:Option Addr) (c0:Nat) (l0:List (S26)) (a1:ByteArray) (a2:ByteArray) (r:Bool) (w:World) (hs0:Kd.F k26 w P_ A0 l0.length l0) (hc0:l0.length≤c0) (h:attrs_Is.f k l0 a1 a2=some r):
  Calls Try.prog 16 #[.slice A0 l0.length c0,.string a1,.string a2] w (fun e w'=>e=.returned (.bool r)∧Below w.heap.size w w'):=by
 unfold attrs_Is.f at h
 have HH:=za h
 clear h
 have HF0:=zfp hs0
 have HL0:=za hc0
 clear hs0 hc0
 have HB:=za (Below.refl w.heap.size w)
 go_enter Try.func16,Try.ntmps16
 replace HH:=zd HH
 obtain⟨t1,At2,HH⟩:=HH
 go_wp2_with ((with_reducible refine gc 19 rfl ?_);refine zc 19 (some 9) Try.func19 #[.slice A0 l0.length c0,.string a1] (h:=?_);(with_reducible refine(attrs_Line.calls k (fun k_=>(P_ k_∨w.heap.size≤k_)) _ _ l0 a1 t1 _ HF0.out HL0.out At2.out).mono ?_);rintro e w3 ⟨v4,rfl,hn4,hb⟩;refine⟨_,rfl,?_⟩)
 refine zg ?_
 have hba:=Kd.N_base hn4
 have HN4:=znl (ok2:=(fun k_=>(P_ k_∨w.heap.size≤k_))) hn4 (below_size HB.out) (fun k_ hk_=>hk_.elim (fun h_=>h_) (fun h_=>.inr (Nat.le_trans (below_size HB.out) h_)))
 replace HB:=zhb HB.out hb
 clear hn4 hba hb
 obtain⟨A5,cp6,he_⟩:=Kd.N_slice HN4.out
 subst he_
 have HL8:=za (Kd.N_reads' HN4.out).2.1
 have HF7:=za (Kd.N_F HN4.out)
 clear HN4
 replace HH:=zd HH
 obtain⟨t9,At10,HH⟩:=HH
 go_wp2_with ((with_reducible refine gc 30 rfl ?_);refine zc 30 (some 11) Try.func30 #[.slice A5 t1.length cp6,.string a2] (h:=?_);(with_reducible refine(slices_Contains_string_string.calls k (fun k_=>(P_ k_∨w.heap.size≤k_)) _ _ t1 a2 t9 _ HF7.out HL8.out At10.out).mono ?_);rintro e w' ⟨rfl,⟨nd,rfl⟩⟩;refine⟨_,rfl,?_⟩)
 refine zg ?_
 obtain rfl:=Option.some.inj HH.out
 clear HH
 go_wp2
 go_ret
 exact zfi (by repeat(first|(with_reducible first|exact HB.out|apply below_alloc|apply pw_below_drewN|apply below_drew1)|exact HB.out))

def toponymref16_SameTexts.l0:Nat→Int→(List ByteArray)→(List ByteArray)→Option (Bool)
 |0,_,_,_=>none
 |k+1,x5,l0,l1=>if x5<(l0.length:Int) then(if 0≤x5 then(if x5<(l1.length:Int) then(if (rdOf ByteArray.empty l0 x5).toList=(rdOf ByteArray.empty l1 x5).toList then((toponymref16_SameTexts.l0 k (wrap64 (x5+1)) l0 l1)) else(some false)) else(none)) else(none)) else(some true)
def toponymref16_SameTexts.f (k:Nat) (l0:List ByteArray) (l1:List ByteArray):Option (Bool):=if (l0.length:Int)=(l1.length:Int) then((toponymref16_SameTexts.l0 k 0 l0 l1)) else(some false)
theorem toponymref16_SameTexts.mono_l:∀ k,(∀ y0 y1 y2,LeO (toponymref16_SameTexts.l0 k y0 y1 y2) (toponymref16_SameTexts.l0 (k+1) y0 y1 y2))
 |0=>fun _ _ _ r h=>by simp[toponymref16_SameTexts.l0] at h
 |k+1=>by
  have ih0:=toponymref16_SameTexts.mono_l k
  ·intro y0 y1 y2
   unfold toponymref16_SameTexts.l0
   with_reducible repeat' first|exact ih0 _ _ _|exact LeO.refl _|exact LeO.none _|refine LeO.ite ?_ ?_|refine LeO.bind ?_ (fun _=>?_)
theorem toponymref16_SameTexts.mono:∀ a0_ a1_ k,LeO (toponymref16_SameTexts.f k a0_ a1_) (toponymref16_SameTexts.f (k+1) a0_ a1_):=by
 intro a0_ a1_ k
 have ih0:=toponymref16_SameTexts.mono_l k
 unfold toponymref16_SameTexts.f
 with_reducible repeat' first|exact ih0 _ _ _|exact LeO.refl _|exact LeO.none _|refine LeO.ite ?_ ?_|refine LeO.bind ?_ (fun _=>?_)
set_option maxHeartbeats 8000000 in
set_option maxRecDepth 100000 in
theorem toponymref16_SameTexts.calls (k:Nat) (P_:Nat→Prop) (A0:Option Addr) (c0:Nat) (l0:List ByteArray) (A1:Option Addr) (c1:Nat) (l1:List ByteArray) (r:Bool) (w:World) (hs0:Kd.F Kd.string w P_ A0 l0.length l0) (hc0:l0.length≤c0) (hs1:Kd.F Kd.string w P_ A1 l1.length l1) (hc1:l1.length≤c1) (h:toponymref16_SameTexts.f k l0 l1=some r):
  Calls Try.prog 18 #[.slice A0 l0.length c0,.slice A1 l1.length c1] w (fun e w'=>e=.returned (.bool r)∧Drawn0 w w'):=by
 unfold toponymref16_SameTexts.f at h
 have HH:=za h
 clear h
 have HF0:=zfp hs0
 clear hs0 hc0
 have HF1:=zfp hs1
 clear hs1 hc1
 go_enter Try.func18,Try.ntmps18
 by_cases c1:(l0.length:Int)=(l1.length:Int)
 ·replace HH:=MW.hpos HH c1
  have hk2:((l0.length:Int)==(l1.length:Int))=true:=beq_iff_eq.mpr c1
  have hk3:((l0.length:Int) != (l1.length:Int))=false:=bne_eq_false_iff_eq.mpr c1
  have hk4:(l0.length==l1.length)=true:=by first|simpa using c1|(simp at c1 ⊢;omega)
  clear c1
  go_wp2
  go_loopg [5] k (fun kq u5 w'=>∃ (x5:Int),u5=.int .i64 x5∧Aside0 ((toponymref16_SameTexts.l0 kq x5 l0 l1)=some r)∧Aside0 (kq≤k)∧Drawn0 w w')
  case atStart=>exact⟨0,(by first|rfl|(simp;done)|(simp[*];done)),HH,⟨Nat.le_refl _⟩,by repeat(first|exact Drawn0.refl _|apply Drawn0.step)⟩
  case round=>
   clear hk2
   clear hk3
   clear hk4
   clear HH
   obtain⟨x5,rfl,HA,HK0,⟨m0_,rfl⟩⟩:=hrel
   cases gk with
   |zero=>exact absurd HA.out (by simp[toponymref16_SameTexts.l0])
   |succ k6=>
    have H:=HA.out
    clear HA
    simp only[toponymref16_SameTexts.l0] at H
    have HH:=za H
    clear H
    replace HH:=zqt HH
    rcases HH with⟨HH,hk9,hk10⟩|⟨HH,hk26,hk27⟩
    ·replace HH:=zqdo HH
     obtain⟨HH,hk12⟩:=HH
     have p13:0≤(x5:Int):=of_decide_eq_true (by first|(with_reducible assumption)|assumption)
     have q13:x5<(l0.length:Int):=of_decide_eq_true (by first|(with_reducible assumption)|assumption)
     obtain⟨ad13,e13,hx13_0⟩:=Kd.at_string (Kd.F_now HF0.out) x5 p13 q13
     cases e13
     replace p13:=eq_true p13
     replace q13:=eq_true q13
     replace HH:=zqto HH
     obtain⟨HH,hk15,hk16⟩:=HH
     have p17:0≤(x5:Int):=of_decide_eq_true (by first|(with_reducible assumption)|assumption)
     have q17:x5<(l1.length:Int):=of_decide_eq_true (by first|(with_reducible assumption)|assumption)
     obtain⟨ad17,e17,hx17_0⟩:=Kd.at_string (Kd.F_now HF1.out) x5 p17 q17
     cases e17
     replace p17:=eq_true p17
     replace q17:=eq_true q17
     replace HH:=zqe HH
     rcases HH with⟨HH,hk19,hk20⟩|⟨HH,hk21,hk22⟩
     ·go_wp2
      go_quiet (fail)
      go_wp2
      go_roundg k6
      case measure=>have:=HK0.out;omega
      case rel=>exact⟨wrap64 (x5+1),(by first|rfl|(simp;done)|(simp[*];done)),HH,⟨by have:=HK0.out;omega⟩,by repeat(first|exact Drawn0.refl _|apply Drawn0.step)⟩
     obtain rfl:=Option.some.inj HH.out
     clear HH
     go_wp2
     go_quiet (fail)
     go_wp2
     go_ret
     exact⟨by first|rfl|(simp;done)|(simp[*];done),by repeat(first|exact Drawn0.refl _|apply Drawn0.step)⟩
    obtain rfl:=Option.some.inj HH.out
    clear HH
    go_wp2
    go_ret
    exact⟨by first|rfl|(simp;done)|(simp[*];done),by repeat(first|exact Drawn0.refl _|apply Drawn0.step)⟩
 replace HH:=MW.hneg HH c1
 have hk28:((l0.length:Int)==(l1.length:Int))=false:=beq_eq_false_iff_ne.mpr c1
 have hk29:((l0.length:Int) != (l1.length:Int))=true:=bne_iff_ne.mpr c1
 have hk30:(l0.length==l1.length)=false:=by first|simpa using c1|(simp at c1 ⊢;omega)
 clear c1
 obtain rfl:=Option.some.inj HH.out
 clear HH
 go_wp2
 go_ret
 exact⟨by first|rfl|(simp;done)|(simp[*];done),by repeat(first|exact Drawn0.refl _|apply Drawn0.step)⟩

def toponymlaw20_types.f  :Option ((List (S26))):=some [(⟨(⟨#[99,110]⟩:ByteArray),(⟨#[110,97,109,101]⟩:ByteArray),1,2,false,false⟩:S26),(⟨(⟨#[110,97,109,101]⟩:ByteArray),(⟨#[]⟩:ByteArray),1,2,false,false⟩:S26),(⟨(⟨#[115,110]⟩:ByteArray),(⟨#[110,97,109,101]⟩:ByteArray),1,1,false,false⟩:S26)]
set_option maxHeartbeats 8000000 in
set_option maxRecDepth 100000 in
theorem toponymlaw20_types.calls (r:List (S26)) (w:World) (h:toponymlaw20_types.f  =some r):
  Calls Try.prog 23 #[] w (fun e w'=>∃ v0_:Value,e=.returned (v0_)∧Kd.N k26 26 w' w.heap.size (fun k_=>w.heap.size≤k_) v0_ r∧Below w.heap.size w w'):=by
 unfold toponymlaw20_types.f at h
 have HH:=za h
 clear h
 have HB:=za (Below.refl w.heap.size w)
 have hu26:=Try.underlying26
 go_enter Try.func23,Try.ntmps23
 go_wp2_with (((with_reducible refine gate_dst (N:=4) rfl ?_);(try(refine gate_guard (by rfl) ?_;dsimp only));refine Kd.N_lit k26 w.heap.size 26 rfl (N':=4) rfl (xs:=[(⟨(⟨#[99,110]⟩:ByteArray),(⟨#[110,97,109,101]⟩:ByteArray),1,2,false,false⟩:S26),(⟨(⟨#[110,97,109,101]⟩:ByteArray),(⟨#[]⟩:ByteArray),1,2,false,false⟩:S26),(⟨(⟨#[115,110]⟩:ByteArray),(⟨#[110,97,109,101]⟩:ByteArray),1,1,false,false⟩:S26)]) (inner:=[.string (⟨#[99,110]⟩:ByteArray),.string (⟨#[110,97,109,101]⟩:ByteArray),.int .i64 1,.int .i64 2,.bool false,.bool false,.string (⟨#[110,97,109,101]⟩:ByteArray),.string (⟨#[]⟩:ByteArray),.int .i64 1,.int .i64 2,.bool false,.bool false,.string (⟨#[115,110]⟩:ByteArray),.string (⟨#[110,97,109,101]⟩:ByteArray),.int .i64 1,.int .i64 1,.bool false,.bool false]) (ok:=(fun k_=>(w.heap.size≤k_))) (okp:=(fun k_=>(w.heap.size≤k_))) ?hr ?hp (fun _ hk_=>hk_) ?hf HB.out (below_size HB.out) (by first|simp|decide) ?_;(case hr=>first|(go_simp;done)|(go_simp;rfl));(case hp=>exact(Reps.c6 (k26_mkF _ _ (⟨(⟨#[99,110]⟩:ByteArray),(⟨#[110,97,109,101]⟩:ByteArray),1,2,false,false⟩:S26)) (Reps.c6 (k26_mkF _ _ (⟨(⟨#[110,97,109,101]⟩:ByteArray),(⟨#[]⟩:ByteArray),1,2,false,false⟩:S26)) (Reps.c6 (k26_mkF _ _ (⟨(⟨#[115,110]⟩:ByteArray),(⟨#[110,97,109,101]⟩:ByteArray),1,1,false,false⟩:S26)) (Reps.none _ _)))));(case hf=>exact(show ∀ k_,w.heap.size≤k_→(fun k_=>(w.heap.size≤k_)) k_ from fun k_ h_=>(Nat.le_trans (below_size HB.out) h_)) _ (Nat.le_refl _));intro v1 w2 hn1 hb1 hg1 hat1);replace hat1:=za hat1;refine stop_ ?_)
 refine zg ?_
 replace hat1:=hat1.out
 have hbe:=MW.grown_below hg1
 have hba:=MW.base_of hat1
 replace HB:=za hb1
 have HN3:=za hn1
 clear hn1 hb1 hg1 hat1 hbe hba
 obtain rfl:=Option.some.inj HH.out
 clear HH
 go_wp2
 go_ret
 exact⟨_,by first|rfl|(simp;done)|(simp[*];done),(Kd.N_mono (ok:=(fun k_=>(w.heap.size≤k_))) HN3.out (fun k_ hk_=>hk_)),HB.out⟩

def toponymlaw20_Few.l0:Nat→Int→(List (S26))→Option (Bool)
 |0,_,_=>none
 |k+1,x6,l0=>if x6<(l0.length:Int) then(if 0≤x6 then(if (((rd_T26 l0 x6).f0).size:Int)>1000 then(some false) else(if (((rd_T26 l0 x6).f1).size:Int)>1000 then(some false) else((toponymlaw20_Few.l0 k (wrap64 (x6+1)) l0)))) else(none)) else(some true)
def toponymlaw20_Few.f (k:Nat) (l0:List (S26)):Option (Bool):=if (l0.length:Int)>40 then(some false) else((toponymlaw20_Few.l0 k 0 l0))
theorem toponymlaw20_Few.mono_l:∀ k,(∀ y0 y1,LeO (toponymlaw20_Few.l0 k y0 y1) (toponymlaw20_Few.l0 (k+1) y0 y1))
 |0=>fun _ _ r h=>by simp[toponymlaw20_Few.l0] at h
 |k+1=>by
  have ih0:=toponymlaw20_Few.mono_l k
  ·intro y0 y1
   unfold toponymlaw20_Few.l0
   with_reducible repeat' first|exact ih0 _ _|exact LeO.refl _|exact LeO.none _|refine LeO.ite ?_ ?_|refine LeO.bind ?_ (fun _=>?_)
theorem toponymlaw20_Few.mono:∀ a0_ k,LeO (toponymlaw20_Few.f k a0_) (toponymlaw20_Few.f (k+1) a0_):=by
 intro a0_ k
 have ih0:=toponymlaw20_Few.mono_l k
 unfold toponymlaw20_Few.f
 with_reducible repeat' first|exact ih0 _ _|exact LeO.refl _|exact LeO.none _|refine LeO.ite ?_ ?_|refine LeO.bind ?_ (fun _=>?_)
set_option maxHeartbeats 8000000 in
set_option maxRecDepth 100000 in
theorem toponymlaw20_Few.calls (k:Nat) (P_:Nat→Prop) (A0:Option Addr) (c0:Nat) (l0:List (S26)) (r:Bool) (w:World) (hs0:Kd.F k26 w P_ A0 l0.length l0) (hc0:l0.length≤c0) (h:toponymlaw20_Few.f k l0=some r):
  Calls Try.prog 7 #[.slice A0 l0.length c0] w (fun e w'=>e=.returned (.bool r)∧Drawn0 w w'):=by
 unfold toponymlaw20_Few.f at h
 have HH:=za h
 clear h
 have HF0:=zfp hs0
 clear hs0 hc0
 go_enter Try.func7,Try.ntmps7
 replace HH:=zqK 40 HH
 rcases HH with⟨HH,hk2,hk3⟩|⟨HH,hk4,hk5⟩
 ·obtain rfl:=Option.some.inj HH.out
  clear HH
  go_wp2
  go_ret
  exact⟨by first|rfl|(simp;done)|(simp[*];done),by repeat(first|exact Drawn0.refl _|apply Drawn0.step)⟩
 go_wp2
 go_loopg [3] k (fun kq u3 w'=>∃ (x6:Int),u3=.int .i64 x6∧Aside0 ((toponymlaw20_Few.l0 kq x6 l0)=some r)∧Aside0 (kq≤k)∧Drawn0 w w')
 case atStart=>exact⟨0,(by first|rfl|(simp;done)|(simp[*];done)),HH,⟨Nat.le_refl _⟩,by repeat(first|exact Drawn0.refl _|apply Drawn0.step)⟩
 case round=>
  clear hk4
  clear hk5
  clear HH
  obtain⟨x6,rfl,HA,HK0,⟨m0_,rfl⟩⟩:=hrel
  cases gk with
  |zero=>exact absurd HA.out (by simp[toponymlaw20_Few.l0])
  |succ k9=>
   have H:=HA.out
   clear HA
   simp only[toponymlaw20_Few.l0] at H
   have HH:=za H
   clear H
   replace HH:=zqt HH
   rcases HH with⟨HH,hk11,hk12⟩|⟨HH,hk27,hk28⟩
   ·replace HH:=zqdo HH
    obtain⟨HH,hk14⟩:=HH
    have p15:0≤(x6:Int):=of_decide_eq_true (by first|(with_reducible assumption)|assumption)
    have q15:x6<(l0.length:Int):=of_decide_eq_true (by first|(with_reducible assumption)|assumption)
    obtain⟨ad15,e15,hx15_0,hx15_1,hx15_2,hx15_3,hx15_4,hx15_5⟩:=atF_T26 HF0.out x6 p15 q15
    cases e15
    replace p15:=eq_true p15
    replace q15:=eq_true q15
    replace HH:=zqK 1000 HH
    rcases HH with⟨HH,hk17,hk18⟩|⟨HH,hk19,hk20⟩
    ·obtain rfl:=Option.some.inj HH.out
     clear HH
     go_wp2
     go_ret
     exact⟨by first|rfl|(simp;done)|(simp[*];done),by repeat(first|exact Drawn0.refl _|apply Drawn0.step)⟩
    replace HH:=zqK 1000 HH
    rcases HH with⟨HH,hk22,hk23⟩|⟨HH,hk24,hk25⟩
    ·obtain rfl:=Option.some.inj HH.out
     clear HH
     go_wp2
     go_ret
     exact⟨by first|rfl|(simp;done)|(simp[*];done),by repeat(first|exact Drawn0.refl _|apply Drawn0.step)⟩
    go_wp2
    go_roundg k9
    case measure=>have:=HK0.out;omega
    case rel=>exact⟨wrap64 (x6+1),(by first|rfl|(simp;done)|(simp[*];done)),HH,⟨by have:=HK0.out;omega⟩,by repeat(first|exact Drawn0.refl _|apply Drawn0.step)⟩
   obtain rfl:=Option.some.inj HH.out
   clear HH
   go_wp2
   go_ret
   exact⟨by first|rfl|(simp;done)|(simp[*];done),by repeat(first|exact Drawn0.refl _|apply Drawn0.step)⟩

def attrs_Find.f (k:Nat) (l0:List (S26)) (a1:ByteArray):Option (ByteArray × ByteArray × Int × Int × Bool × Bool × Bool):=(attrs_Check.f k l0).bind fun t9=>(if t9=0 then((attrs_find.f k l0 a1).bind fun bt21=>(some (bt21.1,bt21.2.1,bt21.2.2.1,bt21.2.2.2.1,bt21.2.2.2.2.1,bt21.2.2.2.2.2.1,bt21.2.2.2.2.2.2))) else(some ((⟨#[]⟩:ByteArray),(⟨#[]⟩:ByteArray),0,0,false,false,false)))
theorem attrs_Find.mono:∀ a0_ a1_ k,LeO (attrs_Find.f k a0_ a1_) (attrs_Find.f (k+1) a0_ a1_):=by
 intro a0_ a1_ k
 unfold attrs_Find.f
 with_reducible repeat' first|exact attrs_Check.mono _ _|exact attrs_find.mono _ _ _|exact LeO.refl _|exact LeO.none _|refine LeO.ite ?_ ?_|refine LeO.bind ?_ (fun _=>?_)
set_option maxHeartbeats 8000000 in
set_option maxRecDepth 100000 in
theorem attrs_Find.calls (k:Nat) (P_:Nat→Prop) (A0:Option Addr) (c0:Nat) (l0:List (S26)) (a1:ByteArray) (r1:ByteArray) (r2:ByteArray) (r3:Int) (r4:Int) (r5:Bool) (r6:Bool) (r7:Bool) (w:World) (hs0:Kd.F k26 w P_ A0 l0.length l0) (hc0:l0.length≤c0) (h:attrs_Find.f k l0 a1=some (r1,r2,r3,r4,r5,r6,r7)):
  Calls Try.prog 9 #[.slice A0 l0.length c0,.string a1] w (fun e w'=>e=.returned (.tuple #[.agg #[.string r1,.string r2,.int .i64 r3,.int .i64 r4,.bool r5,.bool r6],.bool r7])∧Below w.heap.size w w'):=by
 unfold attrs_Find.f at h
 have HH:=za h
 clear h
 have HF0:=zfp hs0
 have HL0:=za hc0
 clear hs0 hc0
 have HB:=za (Below.refl w.heap.size w)
 have hu26:=Try.underlying26
 go_enter Try.func9,Try.ntmps9
 go_wp2_with ((with_reducible refine gd 4 rfl ?_);refine zb 4 26 #[.string (⟨#[]⟩:ByteArray),.string (⟨#[]⟩:ByteArray),.int .i64 0,.int .i64 0,.bool false,.bool false] (h:=?_);intro g1 hg w2 BKg1 hb)
 refine zg ?_
 have GEg1:=zge hg (below_size HB.out)
 replace HF0:=zfe HF0.out hg hb
 replace HB:=zhb HB.out hb
 clear hg hb
 replace cBKg1:=MB.lz6 BKg1.out
 replace HH:=zd HH
 obtain⟨t9,At10,HH⟩:=HH
 go_wp2_with ((with_reducible refine gc 11 rfl ?_);refine zc 11 (some 7) Try.func11 #[.slice A0 l0.length c0] (h:=?_);(with_reducible refine(attrs_Check.calls k (fun k_=>(P_ k_∨w.heap.size≤k_)∧k_≠g1) _ _ l0 t9 _ HF0.out HL0.out At10.out).mono ?_);rintro e w11 ⟨rfl,hb⟩;refine⟨_,rfl,?_⟩)
 refine zg ?_
 replace HF0:=zfb HF0.out hb
 replace BKg1:=zbb BKg1.out hb
 replace HB:=zhb HB.out hb
 clear hb
 replace cBKg1:=MB.lz6 BKg1.out
 replace HH:=zqe HH
 rcases HH with⟨HH,hk19,hk20⟩|⟨HH,hk43,hk44⟩
 ·replace HH:=zd HH
  obtain⟨⟨t21,t22,t23,t24,t25,t26,t27⟩,At28,HH⟩:=HH
  dsimp only at HH
  go_wp2_with ((with_reducible refine gc 24 rfl ?_);refine zc 24 (some 12) Try.func24 #[.slice A0 l0.length c0,.string a1] (h:=?_);(with_reducible refine(attrs_find.calls k (fun k_=>(P_ k_∨w.heap.size≤k_)∧k_≠g1) _ _ l0 a1 t21 t22 t23 t24 t25 t26 t27 _ HF0.out HL0.out At28.out).mono ?_);rintro e w29 ⟨rfl,hb⟩;refine⟨_,rfl,?_⟩)
  refine zg ?_
  replace BKg1:=zbb BKg1.out hb
  replace HB:=zhb HB.out hb
  clear hb
  replace cBKg1:=MB.lz6 BKg1.out
  go_wp2_with ((with_reducible refine gs 26 4 rfl ?_);refine zs 26 4 #[.string t21,.string t22,.int .i64 t23,.int .i64 t24,.bool t25,.bool t26] BKg1.out [.string t21,.string t22,.int .i64 t23,.int .i64 t24,.bool t25,.bool t26] (h:=?_);intro w36 hbk hg)
  refine zg ?_
  replace HB:=zhg HB.out hg (below_size HB.out) GEg1
  replace BKg1:=hbk
  clear hg hbk
  replace cBKg1:=MB.lz6 BKg1.out
  have H:=HH.out
  simp only[Option.some.injEq,Prod.mk.injEq] at H
  obtain⟨rfl,rfl,rfl,rfl,rfl,rfl,rfl⟩:=H
  clear HH
  go_wp2
  refine bodyPost_ret (results_ct rfl _ _ g1 26 #[.string t21,.string t22,.int .i64 t23,.int .i64 t24,.bool t25,.bool t26] (0,0) _ rfl BKg1.out Try.underlying26 rfl (by kernel_rfl)) rfl ?_
  exact zfi HB.out
 go_wp2_with ((with_reducible refine gs 26 4 rfl ?_);refine zs 26 4 #[.string (⟨#[]⟩:ByteArray),.string (⟨#[]⟩:ByteArray),.int .i64 0,.int .i64 0,.bool false,.bool false] BKg1.out [.string (⟨#[]⟩:ByteArray),.string (⟨#[]⟩:ByteArray),.int .i64 0,.int .i64 0,.bool false,.bool false] (h:=?_);intro w45 hbk hg)
 refine zg ?_
 replace HB:=zhg HB.out hg (below_size HB.out) GEg1
 replace BKg1:=hbk
 clear hg hbk
 replace cBKg1:=MB.lz6 BKg1.out
 have H:=HH.out
 simp only[Option.some.injEq,Prod.mk.injEq] at H
 obtain⟨rfl,rfl,rfl,rfl,rfl,rfl,rfl⟩:=H
 clear HH
 go_wp2
 refine bodyPost_ret (results_ct rfl _ _ g1 26 #[.string (⟨#[]⟩:ByteArray),.string (⟨#[]⟩:ByteArray),.int .i64 0,.int .i64 0,.bool false,.bool false] (0,0) _ rfl BKg1.out Try.underlying26 rfl (by kernel_rfl)) rfl ?_
 exact zfi HB.out
end Go.Proofs.Ytcjafemnkhifmaa.GA
