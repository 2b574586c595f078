import Derived.Test.YtapinanmmhdpcaaGA0
import Derived.Test.YtapinanmmhdpcaaGAF29
import Derived.Test.YtapinanmmhdpcaaGM1
import Derived.Test.YtapinanmmhdpcaaMX
namespace Go.Proofs.Ytapinanmmhdpcaa.GA
open Go.RowKit Go.Proofs.Ytapinanmmhdpcaa Go.Proofs.Ytapinanmmhdpcaa.MW Go.Proofs.YtapinanmmhdpcaaW.PrintWords Go.Proofs.YtapinanmmhdpcaaW.PrintLast Go.Proofs.YtapinanmmhdpcaaW.PrintMore
attribute [local go_sem] max2_int min2_int max_two min_two
set_option maxHeartbeats 8000000
set_option maxRecDepth 100000
set_option linter.unusedVariables false
set_option linter.unusedSimpArgs false
mutual
def toponymref18_Show.l0:Nat→ByteArray→Int→(List (List (S53)))→Option (ByteArray × Int)
 |0,_,_,_=>none
 |k+1,x7,x8,l0=>if x8<(l0.length:Int) then(if x8>0 then(if x7.size+1≤9223372036854775807 then((toponymref18_Show.l1 k (x7++(⟨#[44]⟩:ByteArray)) 0 l0 x8)) else(none)) else((toponymref18_Show.l2 k x7 0 l0 x8))) else(some (x7,0))
def toponymref18_Show.l1:Nat→ByteArray→Int→(List (List (S53)))→Int→Option (ByteArray × Int)
 |0,_,_,_,_=>none
 |k+1,x20,x21,l0,x8=>if 0≤x8 then(if x8<(l0.length:Int) then(if x21<((rd_L2 l0 x8).length:Int) then(if x21>0 then(if x20.size+1≤9223372036854775807 then(if 0≤x21 then(if (x20++(⟨#[43]⟩:ByteArray)).size+((rd_T53 (rd_L2 l0 x8) x21).f0).size≤9223372036854775807 then(if ((x20++(⟨#[43]⟩:ByteArray))++((rd_T53 (rd_L2 l0 x8) x21).f0)).size+1≤9223372036854775807 then((toponymref18_Value.f k ((rd_T53 (rd_L2 l0 x8) x21).f1)).bind fun t58=>(if (((x20++(⟨#[43]⟩:ByteArray))++((rd_T53 (rd_L2 l0 x8) x21).f0))++(⟨#[61]⟩:ByteArray)).size+t58.size≤9223372036854775807 then((toponymref18_Show.l1 k ((((x20++(⟨#[43]⟩:ByteArray))++((rd_T53 (rd_L2 l0 x8) x21).f0))++(⟨#[61]⟩:ByteArray))++t58) (wrap64 (x21+1)) l0 x8)) else(none))) else(none)) else(none)) else(none)) else(none)) else(if 0≤x21 then(if x20.size+((rd_T53 (rd_L2 l0 x8) x21).f0).size≤9223372036854775807 then(if (x20++((rd_T53 (rd_L2 l0 x8) x21).f0)).size+1≤9223372036854775807 then((toponymref18_Value.f k ((rd_T53 (rd_L2 l0 x8) x21).f1)).bind fun t90=>(if ((x20++((rd_T53 (rd_L2 l0 x8) x21).f0))++(⟨#[61]⟩:ByteArray)).size+t90.size≤9223372036854775807 then((toponymref18_Show.l1 k (((x20++((rd_T53 (rd_L2 l0 x8) x21).f0))++(⟨#[61]⟩:ByteArray))++t90) (wrap64 (x21+1)) l0 x8)) else(none))) else(none)) else(none)) else(none))) else((toponymref18_Show.l0 k x20 (wrap64 (x8+1)) l0))) else(none)) else(none)
def toponymref18_Show.l2:Nat→ByteArray→Int→(List (List (S53)))→Int→Option (ByteArray × Int)
 |0,_,_,_,_=>none
 |k+1,x111,x112,l0,x8=>if 0≤x8 then(if x8<(l0.length:Int) then(if x112<((rd_L2 l0 x8).length:Int) then(if x112>0 then(if x111.size+1≤9223372036854775807 then(if 0≤x112 then(if (x111++(⟨#[43]⟩:ByteArray)).size+((rd_T53 (rd_L2 l0 x8) x112).f0).size≤9223372036854775807 then(if ((x111++(⟨#[43]⟩:ByteArray))++((rd_T53 (rd_L2 l0 x8) x112).f0)).size+1≤9223372036854775807 then((toponymref18_Value.f k ((rd_T53 (rd_L2 l0 x8) x112).f1)).bind fun t149=>(if (((x111++(⟨#[43]⟩:ByteArray))++((rd_T53 (rd_L2 l0 x8) x112).f0))++(⟨#[61]⟩:ByteArray)).size+t149.size≤9223372036854775807 then((toponymref18_Show.l2 k ((((x111++(⟨#[43]⟩:ByteArray))++((rd_T53 (rd_L2 l0 x8) x112).f0))++(⟨#[61]⟩:ByteArray))++t149) (wrap64 (x112+1)) l0 x8)) else(none))) else(none)) else(none)) else(none)) else(none)) else(if 0≤x112 then(if x111.size+((rd_T53 (rd_L2 l0 x8) x112).f0).size≤9223372036854775807 then(if (x111++((rd_T53 (rd_L2 l0 x8) x112).f0)).size+1≤9223372036854775807 then((toponymref18_Value.f k ((rd_T53 (rd_L2 l0 x8) x112).f1)).bind fun t181=>(if ((x111++((rd_T53 (rd_L2 l0 x8) x112).f0))++(⟨#[61]⟩:ByteArray)).size+t181.size≤9223372036854775807 then((toponymref18_Show.l2 k (((x111++((rd_T53 (rd_L2 l0 x8) x112).f0))++(⟨#[61]⟩:ByteArray))++t181) (wrap64 (x112+1)) l0 x8)) else(none))) else(none)) else(none)) else(none))) else((toponymref18_Show.l0 k x111 (wrap64 (x8+1)) l0))) else(none)) else(none)
end
def toponymref18_Show.f (k:Nat) (l0:List (List (S53))):Option (ByteArray × Int):=(toponymref18_Check.f k l0).bind fun t1=>(if t1=0 then((toponymref18_Show.l0 k (⟨#[]⟩:ByteArray) 0 l0)) else(some ((⟨#[]⟩:ByteArray),220)))
theorem toponymref18_Show.mono_l:∀ k,(∀ y0 y1 y2,LeO (toponymref18_Show.l0 k y0 y1 y2) (toponymref18_Show.l0 (k+1) y0 y1 y2))∧(∀ y0 y1 y2 y3,LeO (toponymref18_Show.l1 k y0 y1 y2 y3) (toponymref18_Show.l1 (k+1) y0 y1 y2 y3))∧(∀ y0 y1 y2 y3,LeO (toponymref18_Show.l2 k y0 y1 y2 y3) (toponymref18_Show.l2 (k+1) y0 y1 y2 y3))
 |0=>⟨fun _ _ _ r h=>by simp[toponymref18_Show.l0] at h,fun _ _ _ _ r h=>by simp[toponymref18_Show.l1] at h,fun _ _ _ _ r h=>by simp[toponymref18_Show.l2] at h⟩
 |k+1=>by
  obtain⟨ih0,ih1,ih2⟩:=toponymref18_Show.mono_l k
  refine⟨?_,?_,?_⟩
  ·intro y0 y1 y2
   unfold toponymref18_Show.l0
   with_reducible repeat' first|exact ih0 _ _ _|exact ih1 _ _ _ _|exact ih2 _ _ _ _|exact toponymref18_Check.mono _ _|exact toponymref18_Value.mono _ _|exact LeO.refl _|exact LeO.none _|refine LeO.ite ?_ ?_|refine LeO.bind ?_ (fun _=>?_)
  ·intro y0 y1 y2 y3
   unfold toponymref18_Show.l1
   with_reducible repeat' first|exact ih0 _ _ _|exact ih1 _ _ _ _|exact ih2 _ _ _ _|exact toponymref18_Check.mono _ _|exact toponymref18_Value.mono _ _|exact LeO.refl _|exact LeO.none _|refine LeO.ite ?_ ?_|refine LeO.bind ?_ (fun _=>?_)
  intro y0 y1 y2 y3
  unfold toponymref18_Show.l2
  with_reducible repeat' first|exact ih0 _ _ _|exact ih1 _ _ _ _|exact ih2 _ _ _ _|exact toponymref18_Check.mono _ _|exact toponymref18_Value.mono _ _|exact LeO.refl _|exact LeO.none _|refine LeO.ite ?_ ?_|refine LeO.bind ?_ (fun _=>?_)
theorem toponymref18_Show.mono:∀ a0_ k,LeO (toponymref18_Show.f k a0_) (toponymref18_Show.f (k+1) a0_):=by
 intro a0_ k
 obtain⟨ih0,ih1,ih2⟩:=toponymref18_Show.mono_l k
 unfold toponymref18_Show.f
 with_reducible repeat' first|exact ih0 _ _ _|exact ih1 _ _ _ _|exact ih2 _ _ _ _|exact toponymref18_Check.mono _ _|exact toponymref18_Value.mono _ _|exact LeO.refl _|exact LeO.none _|refine LeO.ite ?_ ?_|refine LeO.bind ?_ (fun _=>?_)
theorem toponymref18_Show.calls (k:Nat) (P_:Nat→Prop) (A0:Option Addr) (c0:Nat) (l0:List (List (S53))) (r1:ByteArray) (r2:Int) (w:World) (hs0:Kd.F (Kd.slice 53 k53) w P_ A0 l0.length l0) (hc0:l0.length≤c0) (h:toponymref18_Show.f k l0=some (r1,r2)):
  Calls Try.prog 12 #[.slice A0 l0.length c0] w (fun e w'=>e=.returned (.tuple #[.string r1,.int .i64 r2])∧Below w.heap.size w w'):=by
 unfold toponymref18_Show.f at h
 have HH:=za h
 clear h
 have HF0:=zfp hs0
 have HL0:=za hc0
 clear hs0 hc0
 have HB:=za (Below.refl w.heap.size w)
 go_enter Try.func12,Try.ntmps12
 replace HH:=zd HH
 obtain⟨t1,At2,HH⟩:=HH
 go_wp2_with ((with_reducible refine gc 14 rfl ?_);refine zc 14 (some 8) Try.func14 #[.slice A0 l0.length c0] (h:=?_);(with_reducible refine(toponymref18_Check.calls k (fun k_=>(P_ k_∨w.heap.size≤k_)) _ _ l0 t1 _ HF0.out HL0.out At2.out).mono ?_);rintro e w' ⟨rfl,⟨nd,rfl⟩⟩;refine⟨_,rfl,?_⟩)
 refine zg ?_
 replace HH:=zqe HH
 rcases HH with⟨HH,hk5,hk6⟩|⟨HH,hk202,hk203⟩
 ·go_wp2
  go_loopg [4,5] k (fun kq u4 u5 w'=>∃ (x7:ByteArray) (x8:Int),u4=.string x7∧u5=.int .i64 x8∧Aside0 ((toponymref18_Show.l0 kq x7 x8 l0)=some (r1,r2))∧Aside0 (kq≤k)∧Aside0 (Kd.F (Kd.slice 53 k53) w' (fun k_=>(P_ k_∨w.heap.size≤k_)) A0 l0.length l0)∧Aside0 (Below w.heap.size w w'))
  case atStart=>exact⟨(⟨#[]⟩:ByteArray),0,(by first|rfl|(simp;done)|(simp[*];done)),(by first|rfl|(simp;done)|(simp[*];done)),HH,⟨Nat.le_refl _⟩,⟨(by(with_reducible repeat(first|apply Kd.F_alloc|apply Kd.F_drewN|apply Kd.F_drew));exact HF0.out)⟩,⟨(by repeat(first|(with_reducible first|exact HB.out|apply below_alloc|apply pw_below_drewN|apply below_drew1)|exact HB.out))⟩⟩
  case round=>
   clear hk5
   clear hk6
   clear HH
   clear HF0 HB
   obtain⟨x7,x8,rfl,rfl,HA,HK0,HF0,HB⟩:=hrel
   obtain⟨w10,rfl⟩:∃ wo_:World,wo_=wr:=⟨_,rfl⟩
   cases gk with
   |zero=>exact absurd HA.out (by simp[toponymref18_Show.l0])
   |succ k9=>
    have H:=HA.out
    clear HA
    simp only[toponymref18_Show.l0] at H
    have HH:=za H
    clear H
    replace HH:=zqt HH
    rcases HH with⟨HH,hk12,hk13⟩|⟨HH,hk200,hk201⟩
    ·replace HH:=zqg HH
     rcases HH with⟨HH,hk15⟩|⟨HH,hk110⟩
     ·by_cases c16:x7.size+1≤9223372036854775807
      ·replace HH:=MW.hpos HH c16
       have hk17:(9223372036854775807<x7.size+1)=False:=eq_false (Nat.not_lt.2 c16)
       have hk18:(x7.size+1≤9223372036854775807)=True:=eq_true c16
       have hk19:decide (x7.size+1≤9223372036854775807)=true:=decide_eq_true c16
       clear c16
       go_wp2
       go_loopg [4,6] k9 (fun kq u4 u6 w'=>∃ (x20:ByteArray) (x21:Int),u4=.string x20∧u6=.int .i64 x21∧Aside0 ((toponymref18_Show.l1 kq x20 x21 l0 x8)=some (r1,r2))∧Aside0 (kq≤k9)∧Aside0 (Kd.F (Kd.slice 53 k53) w' (fun k_=>(P_ k_∨w.heap.size≤k_)) A0 l0.length l0)∧Aside0 (Below w.heap.size w w'))
       case atStart=>exact⟨x7++(⟨#[44]⟩:ByteArray),0,(by first|rfl|(simp;done)|(simp[*];done)),(by first|rfl|(simp;done)|(simp[*];done)),HH,⟨Nat.le_refl _⟩,⟨HF0.out⟩,⟨HB.out⟩⟩
       case round=>
        clear hk12
        clear hk13
        clear hk15
        clear hk17
        clear hk18
        clear hk19
        clear HH
        clear HF0 HB
        obtain⟨x20,x21,rfl,rfl,HA,HK1,HF0,HB⟩:=hrel
        obtain⟨w23,rfl⟩:∃ wo_:World,wo_=wr:=⟨_,rfl⟩
        cases gk with
        |zero=>exact absurd HA.out (by simp[toponymref18_Show.l1])
        |succ k22=>
         have H:=HA.out
         clear HA
         simp only[toponymref18_Show.l1] at H
         have HH:=za H
         clear H
         replace HH:=zqdo HH
         obtain⟨HH,hk25⟩:=HH
         replace HH:=zqto HH
         obtain⟨HH,hk27,hk28⟩:=HH
         have p29:0≤(x8:Int):=of_decide_eq_true (by first|(with_reducible assumption)|assumption)
         have q29:x8<(l0.length:Int):=of_decide_eq_true (by first|(with_reducible assumption)|assumption)
         obtain⟨ad29,A29_0,c29_0,e29,hx29_0,hl29_0,hi29_0⟩:=atF_L2 HF0.out x8 p29 q29
         cases e29
         clear hi29_0 hl29_0
         replace p29:=eq_true p29
         replace q29:=eq_true q29
         replace HH:=zqt HH
         rcases HH with⟨HH,hk31,hk32⟩|⟨HH,hk104,hk105⟩
         ·replace HH:=zqg HH
          rcases HH with⟨HH,hk34⟩|⟨HH,hk73⟩
          ·by_cases c35:x20.size+1≤9223372036854775807
           ·replace HH:=MW.hpos HH c35
            have hk36:(9223372036854775807<x20.size+1)=False:=eq_false (Nat.not_lt.2 c35)
            have hk37:(x20.size+1≤9223372036854775807)=True:=eq_true c35
            have hk38:decide (x20.size+1≤9223372036854775807)=true:=decide_eq_true c35
            clear c35
            go_wp2
            have hwr_:∀ n_:Int,IntKind.i64.wrap n_=wrap64 n_:=fun n_=>IntWalk.i64_left n_
            refine wp_region_any (by kernel_rfl) ?_
            change wpAny _ _ _ _ 22 #[false,false,false,false,false,false,false,false,false,false,false,false,false,false,false,false,false,false,false,false,false,false] _ w23.drew
            obtain⟨w39,hw_⟩:∃ w_:World,w_=w23.drew:=⟨_,rfl⟩
            rw[← hw_]
            have hb:Below w23.heap.size w23 w39:=by rw[hw_];exact below_drew1 (Below.refl _ _)
            clear hw_
            replace HF0:=zfb HF0.out hb
            replace HB:=zhb HB.out hb
            clear hb
            clear hx29_0 p29 q29
            have p40:0≤(x8:Int):=of_decide_eq_true (by first|(with_reducible assumption)|assumption)
            have q40:x8<(l0.length:Int):=of_decide_eq_true (by first|(with_reducible assumption)|assumption)
            obtain⟨ad40,A40_0,c40_0,e40,hx40_0,hl40_0,hi40_0⟩:=atF_L2 HF0.out x8 p40 q40
            cases e40
            have HF40_0:=za hi40_0
            clear hi40_0 hl40_0
            replace p40:=eq_true p40
            replace q40:=eq_true q40
            replace HH:=zqdo HH
            obtain⟨HH,hk42⟩:=HH
            have p43:0≤(x21:Int):=of_decide_eq_true (by first|(with_reducible assumption)|assumption)
            have q43:x21<((rd_L2 l0 x8).length:Int):=of_decide_eq_true (by first|(with_reducible assumption)|assumption)
            obtain⟨ad43,e43,hx43_0,hx43_1⟩:=atF_T53 HF40_0.out x21 p43 q43
            cases e43
            replace p43:=eq_true p43
            replace q43:=eq_true q43
            refine MW.last_in (ds:=[]) (zk hx40_0 (zk hx43_0 (zk hx43_1 z0))) ?_
            refine zlp 0 (.string (x20++(⟨#[43]⟩:ByteArray))) #[_,_,_,_,_,_,_,_,_,_,_,_,_,_,_,_,_,_,_,_,_,_] ⟨[_,_,_,_,_,_,_,_,_,_,_,_,_,_,_,_,_,_,_,_,_,_,_,_,_,_,_,_,_,_,_,_,_,_,_,_,_,_,_,_,_,_,_,_,_,_,_,_,_,_,_,_,_,_,_].toArray,[]⟩ (h:=?_)
            refine zlp 1 (.slice (some ad29) l0.length c0) #[_,_,_,_,_,_,_,_,_,_,_,_,_,_,_,_,_,_,_,_,_,_] ⟨[_,_,_,_,_,_,_,_,_,_,_,_,_,_,_,_,_,_,_,_,_,_,_,_,_,_,_,_,_,_,_,_,_,_,_,_,_,_,_,_,_,_,_,_,_,_,_,_,_,_,_,_,_,_,_].toArray,[]⟩ (h:=?_)
            refine zlp 2 (.int .i64 x8) #[_,_,_,_,_,_,_,_,_,_,_,_,_,_,_,_,_,_,_,_,_,_] ⟨[_,_,_,_,_,_,_,_,_,_,_,_,_,_,_,_,_,_,_,_,_,_,_,_,_,_,_,_,_,_,_,_,_,_,_,_,_,_,_,_,_,_,_,_,_,_,_,_,_,_,_,_,_,_,_].toArray,[]⟩ (h:=?_)
            refine zlp 3 (.pointer (some (ad29.add (x8.toNat)))) #[_,_,_,_,_,_,_,_,_,_,_,_,_,_,_,_,_,_,_,_,_,_] ⟨[_,_,_,_,_,_,_,_,_,_,_,_,_,_,_,_,_,_,_,_,_,_,_,_,_,_,_,_,_,_,_,_,_,_,_,_,_,_,_,_,_,_,_,_,_,_,_,_,_,_,_,_,_,_,_].toArray,[]⟩ (h:=?_)
            refine zlp 5 (.int .i64 x21) #[_,_,_,_,_,_,_,_,_,_,_,_,_,_,_,_,_,_,_,_,_,_] ⟨[_,_,_,_,_,_,_,_,_,_,_,_,_,_,_,_,_,_,_,_,_,_,_,_,_,_,_,_,_,_,_,_,_,_,_,_,_,_,_,_,_,_,_,_,_,_,_,_,_,_,_,_,_,_,_].toArray,[]⟩ (h:=?_)
            refine zlp 11 (.slice (some ad29) l0.length c0) #[_,_,_,_,_,_,_,_,_,_,_,_,_,_,_,_,_,_,_,_,_,_] ⟨[_,_,_,_,_,_,_,_,_,_,_,_,_,_,_,_,_,_,_,_,_,_,_,_,_,_,_,_,_,_,_,_,_,_,_,_,_,_,_,_,_,_,_,_,_,_,_,_,_,_,_,_,_,_,_].toArray,[]⟩ (h:=?_)
            refine zlp 12 (.int .i64 x8) #[_,_,_,_,_,_,_,_,_,_,_,_,_,_,_,_,_,_,_,_,_,_] ⟨[_,_,_,_,_,_,_,_,_,_,_,_,_,_,_,_,_,_,_,_,_,_,_,_,_,_,_,_,_,_,_,_,_,_,_,_,_,_,_,_,_,_,_,_,_,_,_,_,_,_,_,_,_,_,_].toArray,[]⟩ (h:=?_)
            refine zlp 13 (.pointer (some (ad29.add (x8.toNat)))) #[_,_,_,_,_,_,_,_,_,_,_,_,_,_,_,_,_,_,_,_,_,_] ⟨[_,_,_,_,_,_,_,_,_,_,_,_,_,_,_,_,_,_,_,_,_,_,_,_,_,_,_,_,_,_,_,_,_,_,_,_,_,_,_,_,_,_,_,_,_,_,_,_,_,_,_,_,_,_,_].toArray,[]⟩ (h:=?_)
            refine zlp 15 (.int .i64 x21) #[_,_,_,_,_,_,_,_,_,_,_,_,_,_,_,_,_,_,_,_,_,_] ⟨[_,_,_,_,_,_,_,_,_,_,_,_,_,_,_,_,_,_,_,_,_,_,_,_,_,_,_,_,_,_,_,_,_,_,_,_,_,_,_,_,_,_,_,_,_,_,_,_,_,_,_,_,_,_,_].toArray,[]⟩ (h:=?_)
            refine MW.last_take (i:=4) (v:=.slice (some ad43) (rd_L2 l0 x8).length c40_0) (listed':= #[_,_,_,_,_,_,_,_,_,_,_,_,_,_,_,_,_,_,_,_,_,_]) (a':=⟨[_,_,_,_,_,_,_,_,_,_,_,_,_,_,_,_,_,_,_,_,_,_,_,_,_,_,_,_,_,_,_,_,_,_,_,_,_,_,_,_,_,_,_,_,_,_,_,_,_,_,_,_,_,_,_].toArray,[]⟩) rfl (by kernel_rfl) (by kernel_rfl) (by kernel_rfl) (by kernel_rfl) (by kernel_rfl) (fun _ _ _ h_=>h_) (by kernel_rfl) (fun w_ hS_=>?go) (zk hx40_0 (zk hx43_0 (zk hx43_1 z0))) rfl rfl ?_
            case go=>obtain⟨hs0_,_,_,_⟩:=hS_;first|(go_simp;done)|(go_simp;rfl)
            refine zlp 6 (.pointer (some (ad43.add (x21.toNat*2)))) #[_,_,_,_,_,_,_,_,_,_,_,_,_,_,_,_,_,_,_,_,_,_] ⟨[_,_,_,_,_,_,_,_,_,_,_,_,_,_,_,_,_,_,_,_,_,_,_,_,_,_,_,_,_,_,_,_,_,_,_,_,_,_,_,_,_,_,_,_,_,_,_,_,_,_,_,_,_,_,_].toArray,[]⟩ (h:=?_)
            refine zlp 7 (.pointer (some (ad43.add (x21.toNat*2)))) #[_,_,_,_,_,_,_,_,_,_,_,_,_,_,_,_,_,_,_,_,_,_] ⟨[_,_,_,_,_,_,_,_,_,_,_,_,_,_,_,_,_,_,_,_,_,_,_,_,_,_,_,_,_,_,_,_,_,_,_,_,_,_,_,_,_,_,_,_,_,_,_,_,_,_,_,_,_,_,_].toArray,[]⟩ (h:=?_)
            refine MW.last_take (i:=8) (v:=.string ((rd_T53 (rd_L2 l0 x8) x21).f0)) (listed':= #[_,_,_,_,_,_,_,_,_,_,_,_,_,_,_,_,_,_,_,_,_,_]) (a':=⟨[_,_,_,_,_,_,_,_,_,_,_,_,_,_,_,_,_,_,_,_,_,_,_,_,_,_,_,_,_,_,_,_,_,_,_,_,_,_,_,_,_,_,_,_,_,_,_,_,_,_,_,_,_,_,_].toArray,[]⟩) rfl (by kernel_rfl) (by kernel_rfl) (by kernel_rfl) (by kernel_rfl) (by kernel_rfl) (fun _ _ _ h_=>h_) (by kernel_rfl) (fun w_ hS_=>?go) (zk hx40_0 (zk hx43_0 (zk hx43_1 z0))) rfl rfl ?_
            case go=>obtain⟨_,hs1_,_,_⟩:=hS_;first|(go_simp;done)|(go_simp;rfl)
            by_cases c44:(x20++(⟨#[43]⟩:ByteArray)).size+((rd_T53 (rd_L2 l0 x8) x21).f0).size≤9223372036854775807
            ·replace HH:=MW.hpos HH c44
             have hk45:(9223372036854775807<(x20++(⟨#[43]⟩:ByteArray)).size+((rd_T53 (rd_L2 l0 x8) x21).f0).size)=False:=eq_false (Nat.not_lt.2 c44)
             (try simp only[hk45,Bool.not_true,Bool.not_false])
             have hk46:((x20++(⟨#[43]⟩:ByteArray)).size+((rd_T53 (rd_L2 l0 x8) x21).f0).size≤9223372036854775807)=True:=eq_true c44
             (try simp only[hk46,Bool.not_true,Bool.not_false])
             have hk47:decide ((x20++(⟨#[43]⟩:ByteArray)).size+((rd_T53 (rd_L2 l0 x8) x21).f0).size≤9223372036854775807)=true:=decide_eq_true c44
             (try simp only[hk47,Bool.not_true,Bool.not_false])
             try have hk48:(9223372036854775807<(x20.size+1)+((rd_T53 (rd_L2 l0 x8) x21).f0).size)=False:=eq_false (Nat.not_lt.2 (show(x20.size+1)+((rd_T53 (rd_L2 l0 x8) x21).f0).size≤9223372036854775807 from by have h_:=c44;simp only[ByteArray.size_append] at h_;exact h_))
             try have hk49:((x20.size+1)+((rd_T53 (rd_L2 l0 x8) x21).f0).size≤9223372036854775807)=True:=eq_true (show(x20.size+1)+((rd_T53 (rd_L2 l0 x8) x21).f0).size≤9223372036854775807 from by have h_:=c44;simp only[ByteArray.size_append] at h_;exact h_)
             try have hk50:decide ((x20.size+1)+((rd_T53 (rd_L2 l0 x8) x21).f0).size≤9223372036854775807)=true:=decide_eq_true (show(x20.size+1)+((rd_T53 (rd_L2 l0 x8) x21).f0).size≤9223372036854775807 from by have h_:=c44;simp only[ByteArray.size_append] at h_;exact h_)
             clear c44
             refine zlp 9 (.string ((x20++(⟨#[43]⟩:ByteArray))++((rd_T53 (rd_L2 l0 x8) x21).f0))) #[_,_,_,_,_,_,_,_,_,_,_,_,_,_,_,_,_,_,_,_,_,_] ⟨[_,_,_,_,_,_,_,_,_,_,_,_,_,_,_,_,_,_,_,_,_,_,_,_,_,_,_,_,_,_,_,_,_,_,_,_,_,_,_,_,_,_,_,_,_,_,_,_,_,_,_,_,_,_,_].toArray,[]⟩ (h:=?_)
             by_cases c51:((x20++(⟨#[43]⟩:ByteArray))++((rd_T53 (rd_L2 l0 x8) x21).f0)).size+1≤9223372036854775807
             ·replace HH:=MW.hpos HH c51
              have hk52:(9223372036854775807<((x20++(⟨#[43]⟩:ByteArray))++((rd_T53 (rd_L2 l0 x8) x21).f0)).size+1)=False:=eq_false (Nat.not_lt.2 c51)
              (try simp only[hk52,Bool.not_true,Bool.not_false])
              have hk53:(((x20++(⟨#[43]⟩:ByteArray))++((rd_T53 (rd_L2 l0 x8) x21).f0)).size+1≤9223372036854775807)=True:=eq_true c51
              (try simp only[hk53,Bool.not_true,Bool.not_false])
              have hk54:decide (((x20++(⟨#[43]⟩:ByteArray))++((rd_T53 (rd_L2 l0 x8) x21).f0)).size+1≤9223372036854775807)=true:=decide_eq_true c51
              (try simp only[hk54,Bool.not_true,Bool.not_false])
              try have hk55:(9223372036854775807<((x20.size+1)+((rd_T53 (rd_L2 l0 x8) x21).f0).size)+1)=False:=eq_false (Nat.not_lt.2 (show((x20.size+1)+((rd_T53 (rd_L2 l0 x8) x21).f0).size)+1≤9223372036854775807 from by have h_:=c51;simp only[ByteArray.size_append] at h_;exact h_))
              try have hk56:(((x20.size+1)+((rd_T53 (rd_L2 l0 x8) x21).f0).size)+1≤9223372036854775807)=True:=eq_true (show((x20.size+1)+((rd_T53 (rd_L2 l0 x8) x21).f0).size)+1≤9223372036854775807 from by have h_:=c51;simp only[ByteArray.size_append] at h_;exact h_)
              try have hk57:decide (((x20.size+1)+((rd_T53 (rd_L2 l0 x8) x21).f0).size)+1≤9223372036854775807)=true:=decide_eq_true (show((x20.size+1)+((rd_T53 (rd_L2 l0 x8) x21).f0).size)+1≤9223372036854775807 from by have h_:=c51;simp only[ByteArray.size_append] at h_;exact h_)
              clear c51
              refine zlp 10 (.string (((x20++(⟨#[43]⟩:ByteArray))++((rd_T53 (rd_L2 l0 x8) x21).f0))++(⟨#[61]⟩:ByteArray))) #[_,_,_,_,_,_,_,_,_,_,_,_,_,_,_,_,_,_,_,_,_,_] ⟨[_,_,_,_,_,_,_,_,_,_,_,_,_,_,_,_,_,_,_,_,_,_,_,_,_,_,_,_,_,_,_,_,_,_,_,_,_,_,_,_,_,_,_,_,_,_,_,_,_,_,_,_,_,_,_].toArray,[]⟩ (h:=?_)
              refine MW.last_take (i:=14) (v:=.slice (some ad43) (rd_L2 l0 x8).length c40_0) (listed':= #[_,_,_,_,_,_,_,_,_,_,_,_,_,_,_,_,_,_,_,_,_,_]) (a':=⟨[_,_,_,_,_,_,_,_,_,_,_,_,_,_,_,_,_,_,_,_,_,_,_,_,_,_,_,_,_,_,_,_,_,_,_,_,_,_,_,_,_,_,_,_,_,_,_,_,_,_,_,_,_,_,_].toArray,[]⟩) rfl (by kernel_rfl) (by kernel_rfl) (by kernel_rfl) (by kernel_rfl) (by kernel_rfl) (fun _ _ _ h_=>h_) (by kernel_rfl) (fun w_ hS_=>?go) (zk hx40_0 (zk hx43_0 (zk hx43_1 z0))) rfl rfl ?_
              case go=>obtain⟨hs0_,_,_,_⟩:=hS_;first|(go_simp;done)|(go_simp;rfl)
              refine zlp 16 (.pointer (some (ad43.add (x21.toNat*2)))) #[_,_,_,_,_,_,_,_,_,_,_,_,_,_,_,_,_,_,_,_,_,_] ⟨[_,_,_,_,_,_,_,_,_,_,_,_,_,_,_,_,_,_,_,_,_,_,_,_,_,_,_,_,_,_,_,_,_,_,_,_,_,_,_,_,_,_,_,_,_,_,_,_,_,_,_,_,_,_,_].toArray,[]⟩ (h:=?_)
              refine zlp 17 (.pointer (some ⟨(ad43.add (x21.toNat*2)).block,(ad43.add (x21.toNat*2)).off+1,none⟩)) #[_,_,_,_,_,_,_,_,_,_,_,_,_,_,_,_,_,_,_,_,_,_] ⟨[_,_,_,_,_,_,_,_,_,_,_,_,_,_,_,_,_,_,_,_,_,_,_,_,_,_,_,_,_,_,_,_,_,_,_,_,_,_,_,_,_,_,_,_,_,_,_,_,_,_,_,_,_,_,_].toArray,[]⟩ (h:=?_)
              refine MW.last_take (i:=18) (v:=.string ((rd_T53 (rd_L2 l0 x8) x21).f1)) (listed':= #[_,_,_,_,_,_,_,_,_,_,_,_,_,_,_,_,_,_,_,_,_,_]) (a':=⟨[_,_,_,_,_,_,_,_,_,_,_,_,_,_,_,_,_,_,_,_,_,_,_,_,_,_,_,_,_,_,_,_,_,_,_,_,_,_,_,_,_,_,_,_,_,_,_,_,_,_,_,_,_,_,_].toArray,[]⟩) rfl (by kernel_rfl) (by kernel_rfl) (by kernel_rfl) (by kernel_rfl) (by kernel_rfl) (fun _ _ _ h_=>h_) (by kernel_rfl) (fun w_ hS_=>?go) (zk hx40_0 (zk hx43_0 (zk hx43_1 z0))) rfl rfl ?_
              case go=>obtain⟨_,_,hs2_,_⟩:=hS_;first|(go_simp;done)|(go_simp;rfl)
              refine MW.last_act (i:=19) (listed':= #[true,true,true,true,true,true,true,true,true,true,true,true,true,true,true,true,true,true,true,true,false,false]) rfl (by kernel_rfl) (by kernel_rfl) (by decide) ?_
              replace HH:=zd HH
              obtain⟨t58,At59,HH⟩:=HH
              go_wp2_with ((with_reducible refine gc 29 rfl ?_);refine zc 29 (some 52) Try.func29 #[.string ((rd_T53 (rd_L2 l0 x8) x21).f1)] (h:=?_);(with_reducible refine(toponymref18_Value.calls k22  ((rd_T53 (rd_L2 l0 x8) x21).f1) t58 _  At59.out).mono ?_);rintro e w60 ⟨rfl,hb⟩;refine⟨_,rfl,?_⟩)
              refine zg ?_
              replace HF0:=zfb HF0.out hb
              replace hx40_0:=zcl hx40_0 hb
              replace hx43_0:=zcl hx43_0 hb
              replace hx43_1:=zcl hx43_1 hb
              replace HB:=zhb HB.out hb
              clear hb
              clear p40 q40 p43 q43
              refine wpList_nil ?_
              change MW.Cells _ _∧wpAnyLast _ _ _ _ _ _ 2 #[true,true,true,true,true,true,true,true,true,true,true,true,true,true,true,true,true,true,true,true,false,false] ⟨[_,_,_,_,_,_,_,_,_,_,_,_,_,_,_,_,_,_,_,_,_,_,_,_,_,_,_,_,_,_,_,_,_,_,_,_,_,_,_,_,_,_,_,_,_,_,_,_,_,_,_,_,_,_,_].toArray,[]⟩ _
              refine⟨(zk hx40_0 (zk hx43_0 (zk hx43_1 z0))),?_⟩
              by_cases c61:(((x20++(⟨#[43]⟩:ByteArray))++((rd_T53 (rd_L2 l0 x8) x21).f0))++(⟨#[61]⟩:ByteArray)).size+t58.size≤9223372036854775807
              ·replace HH:=MW.hpos HH c61
               have hk62:(9223372036854775807<(((x20++(⟨#[43]⟩:ByteArray))++((rd_T53 (rd_L2 l0 x8) x21).f0))++(⟨#[61]⟩:ByteArray)).size+t58.size)=False:=eq_false (Nat.not_lt.2 c61)
               (try simp only[hk62,Bool.not_true,Bool.not_false])
               have hk63:((((x20++(⟨#[43]⟩:ByteArray))++((rd_T53 (rd_L2 l0 x8) x21).f0))++(⟨#[61]⟩:ByteArray)).size+t58.size≤9223372036854775807)=True:=eq_true c61
               (try simp only[hk63,Bool.not_true,Bool.not_false])
               have hk64:decide ((((x20++(⟨#[43]⟩:ByteArray))++((rd_T53 (rd_L2 l0 x8) x21).f0))++(⟨#[61]⟩:ByteArray)).size+t58.size≤9223372036854775807)=true:=decide_eq_true c61
               (try simp only[hk64,Bool.not_true,Bool.not_false])
               try have hk65:(9223372036854775807<(((x20.size+1)+((rd_T53 (rd_L2 l0 x8) x21).f0).size)+1)+t58.size)=False:=eq_false (Nat.not_lt.2 (show(((x20.size+1)+((rd_T53 (rd_L2 l0 x8) x21).f0).size)+1)+t58.size≤9223372036854775807 from by have h_:=c61;simp only[ByteArray.size_append] at h_;exact h_))
               try have hk66:((((x20.size+1)+((rd_T53 (rd_L2 l0 x8) x21).f0).size)+1)+t58.size≤9223372036854775807)=True:=eq_true (show(((x20.size+1)+((rd_T53 (rd_L2 l0 x8) x21).f0).size)+1)+t58.size≤9223372036854775807 from by have h_:=c61;simp only[ByteArray.size_append] at h_;exact h_)
               try have hk67:decide ((((x20.size+1)+((rd_T53 (rd_L2 l0 x8) x21).f0).size)+1)+t58.size≤9223372036854775807)=true:=decide_eq_true (show(((x20.size+1)+((rd_T53 (rd_L2 l0 x8) x21).f0).size)+1)+t58.size≤9223372036854775807 from by have h_:=c61;simp only[ByteArray.size_append] at h_;exact h_)
               clear c61
               refine zlp 20 (.string ((((x20++(⟨#[43]⟩:ByteArray))++((rd_T53 (rd_L2 l0 x8) x21).f0))++(⟨#[61]⟩:ByteArray))++t58)) #[_,_,_,_,_,_,_,_,_,_,_,_,_,_,_,_,_,_,_,_,_,_] ⟨[_,_,_,_,_,_,_,_,_,_,_,_,_,_,_,_,_,_,_,_,_,_,_,_,_,_,_,_,_,_,_,_,_,_,_,_,_,_,_,_,_,_,_,_,_,_,_,_,_,_,_,_,_,_,_].toArray,[]⟩ (h:=?_)
               refine zlp 21 (.string ((((x20++(⟨#[43]⟩:ByteArray))++((rd_T53 (rd_L2 l0 x8) x21).f0))++(⟨#[61]⟩:ByteArray))++t58)) #[_,_,_,_,_,_,_,_,_,_,_,_,_,_,_,_,_,_,_,_,_,_] ⟨[_,_,_,_,_,_,_,_,_,_,_,_,_,_,_,_,_,_,_,_,_,_,_,_,_,_,_,_,_,_,_,_,_,_,_,_,_,_,_,_,_,_,_,_,_,_,_,_,_,_,_,_,_,_,_].toArray,[]⟩ (h:=?_)
               refine MW.last_done (by kernel_rfl) ?_ _
               clear hwr_
               go_wp2
               go_roundg k22
               case measure=>have:=HK0.out;have:=HK1.out;omega
               case rel=>exact⟨(((x20++(⟨#[43]⟩:ByteArray))++((rd_T53 (rd_L2 l0 x8) x21).f0))++(⟨#[61]⟩:ByteArray))++t58,wrap64 (x21+1),(by first|rfl|(simp;done)|(simp[*];done)),(by first|rfl|(simp;done)|(simp[*];done)),HH,⟨by have:=HK0.out;have:=HK1.out;omega⟩,⟨HF0.out⟩,⟨HB.out⟩⟩
              exact absurd HH.out (by rw[if_neg c61];simp)
             exact absurd HH.out (by rw[if_neg c51];simp)
            exact absurd HH.out (by rw[if_neg c44];simp)
           exact absurd HH.out (by rw[if_neg c35];simp)
          go_wp2
          have hwr_:∀ n_:Int,IntKind.i64.wrap n_=wrap64 n_:=fun n_=>IntWalk.i64_left n_
          refine wp_region_any (by kernel_rfl) ?_
          change wpAny _ _ _ _ 22 #[false,false,false,false,false,false,false,false,false,false,false,false,false,false,false,false,false,false,false,false,false,false] _ w23.drew
          obtain⟨w74,hw_⟩:∃ w_:World,w_=w23.drew:=⟨_,rfl⟩
          rw[← hw_]
          have hb:Below w23.heap.size w23 w74:=by rw[hw_];exact below_drew1 (Below.refl _ _)
          clear hw_
          replace HF0:=zfb HF0.out hb
          replace HB:=zhb HB.out hb
          clear hb
          clear hx29_0 p29 q29
          have p75:0≤(x8:Int):=of_decide_eq_true (by first|(with_reducible assumption)|assumption)
          have q75:x8<(l0.length:Int):=of_decide_eq_true (by first|(with_reducible assumption)|assumption)
          obtain⟨ad75,A75_0,c75_0,e75,hx75_0,hl75_0,hi75_0⟩:=atF_L2 HF0.out x8 p75 q75
          cases e75
          have HF75_0:=za hi75_0
          clear hi75_0 hl75_0
          replace p75:=eq_true p75
          replace q75:=eq_true q75
          replace HH:=zqdo HH
          obtain⟨HH,hk77⟩:=HH
          have p78:0≤(x21:Int):=of_decide_eq_true (by first|(with_reducible assumption)|assumption)
          have q78:x21<((rd_L2 l0 x8).length:Int):=of_decide_eq_true (by first|(with_reducible assumption)|assumption)
          obtain⟨ad78,e78,hx78_0,hx78_1⟩:=atF_T53 HF75_0.out x21 p78 q78
          cases e78
          replace p78:=eq_true p78
          replace q78:=eq_true q78
          refine MW.last_in (ds:=[]) (zk hx75_0 (zk hx78_0 (zk hx78_1 z0))) ?_
          refine zlp 0 (.string x20) #[_,_,_,_,_,_,_,_,_,_,_,_,_,_,_,_,_,_,_,_,_,_] ⟨[_,_,_,_,_,_,_,_,_,_,_,_,_,_,_,_,_,_,_,_,_,_,_,_,_,_,_,_,_,_,_,_,_,_,_,_,_,_,_,_,_,_,_,_,_,_,_,_,_,_,_,_,_,_,_].toArray,[]⟩ (h:=?_)
          refine zlp 1 (.slice (some ad29) l0.length c0) #[_,_,_,_,_,_,_,_,_,_,_,_,_,_,_,_,_,_,_,_,_,_] ⟨[_,_,_,_,_,_,_,_,_,_,_,_,_,_,_,_,_,_,_,_,_,_,_,_,_,_,_,_,_,_,_,_,_,_,_,_,_,_,_,_,_,_,_,_,_,_,_,_,_,_,_,_,_,_,_].toArray,[]⟩ (h:=?_)
          refine zlp 2 (.int .i64 x8) #[_,_,_,_,_,_,_,_,_,_,_,_,_,_,_,_,_,_,_,_,_,_] ⟨[_,_,_,_,_,_,_,_,_,_,_,_,_,_,_,_,_,_,_,_,_,_,_,_,_,_,_,_,_,_,_,_,_,_,_,_,_,_,_,_,_,_,_,_,_,_,_,_,_,_,_,_,_,_,_].toArray,[]⟩ (h:=?_)
          refine zlp 3 (.pointer (some (ad29.add (x8.toNat)))) #[_,_,_,_,_,_,_,_,_,_,_,_,_,_,_,_,_,_,_,_,_,_] ⟨[_,_,_,_,_,_,_,_,_,_,_,_,_,_,_,_,_,_,_,_,_,_,_,_,_,_,_,_,_,_,_,_,_,_,_,_,_,_,_,_,_,_,_,_,_,_,_,_,_,_,_,_,_,_,_].toArray,[]⟩ (h:=?_)
          refine zlp 5 (.int .i64 x21) #[_,_,_,_,_,_,_,_,_,_,_,_,_,_,_,_,_,_,_,_,_,_] ⟨[_,_,_,_,_,_,_,_,_,_,_,_,_,_,_,_,_,_,_,_,_,_,_,_,_,_,_,_,_,_,_,_,_,_,_,_,_,_,_,_,_,_,_,_,_,_,_,_,_,_,_,_,_,_,_].toArray,[]⟩ (h:=?_)
          refine zlp 11 (.slice (some ad29) l0.length c0) #[_,_,_,_,_,_,_,_,_,_,_,_,_,_,_,_,_,_,_,_,_,_] ⟨[_,_,_,_,_,_,_,_,_,_,_,_,_,_,_,_,_,_,_,_,_,_,_,_,_,_,_,_,_,_,_,_,_,_,_,_,_,_,_,_,_,_,_,_,_,_,_,_,_,_,_,_,_,_,_].toArray,[]⟩ (h:=?_)
          refine zlp 12 (.int .i64 x8) #[_,_,_,_,_,_,_,_,_,_,_,_,_,_,_,_,_,_,_,_,_,_] ⟨[_,_,_,_,_,_,_,_,_,_,_,_,_,_,_,_,_,_,_,_,_,_,_,_,_,_,_,_,_,_,_,_,_,_,_,_,_,_,_,_,_,_,_,_,_,_,_,_,_,_,_,_,_,_,_].toArray,[]⟩ (h:=?_)
          refine zlp 13 (.pointer (some (ad29.add (x8.toNat)))) #[_,_,_,_,_,_,_,_,_,_,_,_,_,_,_,_,_,_,_,_,_,_] ⟨[_,_,_,_,_,_,_,_,_,_,_,_,_,_,_,_,_,_,_,_,_,_,_,_,_,_,_,_,_,_,_,_,_,_,_,_,_,_,_,_,_,_,_,_,_,_,_,_,_,_,_,_,_,_,_].toArray,[]⟩ (h:=?_)
          refine zlp 15 (.int .i64 x21) #[_,_,_,_,_,_,_,_,_,_,_,_,_,_,_,_,_,_,_,_,_,_] ⟨[_,_,_,_,_,_,_,_,_,_,_,_,_,_,_,_,_,_,_,_,_,_,_,_,_,_,_,_,_,_,_,_,_,_,_,_,_,_,_,_,_,_,_,_,_,_,_,_,_,_,_,_,_,_,_].toArray,[]⟩ (h:=?_)
          refine MW.last_take (i:=4) (v:=.slice (some ad78) (rd_L2 l0 x8).length c75_0) (listed':= #[_,_,_,_,_,_,_,_,_,_,_,_,_,_,_,_,_,_,_,_,_,_]) (a':=⟨[_,_,_,_,_,_,_,_,_,_,_,_,_,_,_,_,_,_,_,_,_,_,_,_,_,_,_,_,_,_,_,_,_,_,_,_,_,_,_,_,_,_,_,_,_,_,_,_,_,_,_,_,_,_,_].toArray,[]⟩) rfl (by kernel_rfl) (by kernel_rfl) (by kernel_rfl) (by kernel_rfl) (by kernel_rfl) (fun _ _ _ h_=>h_) (by kernel_rfl) (fun w_ hS_=>?go) (zk hx75_0 (zk hx78_0 (zk hx78_1 z0))) rfl rfl ?_
          case go=>obtain⟨hs0_,_,_,_⟩:=hS_;first|(go_simp;done)|(go_simp;rfl)
          refine zlp 6 (.pointer (some (ad78.add (x21.toNat*2)))) #[_,_,_,_,_,_,_,_,_,_,_,_,_,_,_,_,_,_,_,_,_,_] ⟨[_,_,_,_,_,_,_,_,_,_,_,_,_,_,_,_,_,_,_,_,_,_,_,_,_,_,_,_,_,_,_,_,_,_,_,_,_,_,_,_,_,_,_,_,_,_,_,_,_,_,_,_,_,_,_].toArray,[]⟩ (h:=?_)
          refine zlp 7 (.pointer (some (ad78.add (x21.toNat*2)))) #[_,_,_,_,_,_,_,_,_,_,_,_,_,_,_,_,_,_,_,_,_,_] ⟨[_,_,_,_,_,_,_,_,_,_,_,_,_,_,_,_,_,_,_,_,_,_,_,_,_,_,_,_,_,_,_,_,_,_,_,_,_,_,_,_,_,_,_,_,_,_,_,_,_,_,_,_,_,_,_].toArray,[]⟩ (h:=?_)
          refine MW.last_take (i:=8) (v:=.string ((rd_T53 (rd_L2 l0 x8) x21).f0)) (listed':= #[_,_,_,_,_,_,_,_,_,_,_,_,_,_,_,_,_,_,_,_,_,_]) (a':=⟨[_,_,_,_,_,_,_,_,_,_,_,_,_,_,_,_,_,_,_,_,_,_,_,_,_,_,_,_,_,_,_,_,_,_,_,_,_,_,_,_,_,_,_,_,_,_,_,_,_,_,_,_,_,_,_].toArray,[]⟩) rfl (by kernel_rfl) (by kernel_rfl) (by kernel_rfl) (by kernel_rfl) (by kernel_rfl) (fun _ _ _ h_=>h_) (by kernel_rfl) (fun w_ hS_=>?go) (zk hx75_0 (zk hx78_0 (zk hx78_1 z0))) rfl rfl ?_
          case go=>obtain⟨_,hs1_,_,_⟩:=hS_;first|(go_simp;done)|(go_simp;rfl)
          by_cases c79:x20.size+((rd_T53 (rd_L2 l0 x8) x21).f0).size≤9223372036854775807
          ·replace HH:=MW.hpos HH c79
           have hk80:(9223372036854775807<x20.size+((rd_T53 (rd_L2 l0 x8) x21).f0).size)=False:=eq_false (Nat.not_lt.2 c79)
           (try simp only[hk80,Bool.not_true,Bool.not_false])
           have hk81:(x20.size+((rd_T53 (rd_L2 l0 x8) x21).f0).size≤9223372036854775807)=True:=eq_true c79
           (try simp only[hk81,Bool.not_true,Bool.not_false])
           have hk82:decide (x20.size+((rd_T53 (rd_L2 l0 x8) x21).f0).size≤9223372036854775807)=true:=decide_eq_true c79
           (try simp only[hk82,Bool.not_true,Bool.not_false])
           clear c79
           refine zlp 9 (.string (x20++((rd_T53 (rd_L2 l0 x8) x21).f0))) #[_,_,_,_,_,_,_,_,_,_,_,_,_,_,_,_,_,_,_,_,_,_] ⟨[_,_,_,_,_,_,_,_,_,_,_,_,_,_,_,_,_,_,_,_,_,_,_,_,_,_,_,_,_,_,_,_,_,_,_,_,_,_,_,_,_,_,_,_,_,_,_,_,_,_,_,_,_,_,_].toArray,[]⟩ (h:=?_)
           by_cases c83:(x20++((rd_T53 (rd_L2 l0 x8) x21).f0)).size+1≤9223372036854775807
           ·replace HH:=MW.hpos HH c83
            have hk84:(9223372036854775807<(x20++((rd_T53 (rd_L2 l0 x8) x21).f0)).size+1)=False:=eq_false (Nat.not_lt.2 c83)
            (try simp only[hk84,Bool.not_true,Bool.not_false])
            have hk85:((x20++((rd_T53 (rd_L2 l0 x8) x21).f0)).size+1≤9223372036854775807)=True:=eq_true c83
            (try simp only[hk85,Bool.not_true,Bool.not_false])
            have hk86:decide ((x20++((rd_T53 (rd_L2 l0 x8) x21).f0)).size+1≤9223372036854775807)=true:=decide_eq_true c83
            (try simp only[hk86,Bool.not_true,Bool.not_false])
            try have hk87:(9223372036854775807<(x20.size+((rd_T53 (rd_L2 l0 x8) x21).f0).size)+1)=False:=eq_false (Nat.not_lt.2 (show(x20.size+((rd_T53 (rd_L2 l0 x8) x21).f0).size)+1≤9223372036854775807 from by have h_:=c83;simp only[ByteArray.size_append] at h_;exact h_))
            try have hk88:((x20.size+((rd_T53 (rd_L2 l0 x8) x21).f0).size)+1≤9223372036854775807)=True:=eq_true (show(x20.size+((rd_T53 (rd_L2 l0 x8) x21).f0).size)+1≤9223372036854775807 from by have h_:=c83;simp only[ByteArray.size_append] at h_;exact h_)
            try have hk89:decide ((x20.size+((rd_T53 (rd_L2 l0 x8) x21).f0).size)+1≤9223372036854775807)=true:=decide_eq_true (show(x20.size+((rd_T53 (rd_L2 l0 x8) x21).f0).size)+1≤9223372036854775807 from by have h_:=c83;simp only[ByteArray.size_append] at h_;exact h_)
            clear c83
            refine zlp 10 (.string ((x20++((rd_T53 (rd_L2 l0 x8) x21).f0))++(⟨#[61]⟩:ByteArray))) #[_,_,_,_,_,_,_,_,_,_,_,_,_,_,_,_,_,_,_,_,_,_] ⟨[_,_,_,_,_,_,_,_,_,_,_,_,_,_,_,_,_,_,_,_,_,_,_,_,_,_,_,_,_,_,_,_,_,_,_,_,_,_,_,_,_,_,_,_,_,_,_,_,_,_,_,_,_,_,_].toArray,[]⟩ (h:=?_)
            refine MW.last_take (i:=14) (v:=.slice (some ad78) (rd_L2 l0 x8).length c75_0) (listed':= #[_,_,_,_,_,_,_,_,_,_,_,_,_,_,_,_,_,_,_,_,_,_]) (a':=⟨[_,_,_,_,_,_,_,_,_,_,_,_,_,_,_,_,_,_,_,_,_,_,_,_,_,_,_,_,_,_,_,_,_,_,_,_,_,_,_,_,_,_,_,_,_,_,_,_,_,_,_,_,_,_,_].toArray,[]⟩) rfl (by kernel_rfl) (by kernel_rfl) (by kernel_rfl) (by kernel_rfl) (by kernel_rfl) (fun _ _ _ h_=>h_) (by kernel_rfl) (fun w_ hS_=>?go) (zk hx75_0 (zk hx78_0 (zk hx78_1 z0))) rfl rfl ?_
            case go=>obtain⟨hs0_,_,_,_⟩:=hS_;first|(go_simp;done)|(go_simp;rfl)
            refine zlp 16 (.pointer (some (ad78.add (x21.toNat*2)))) #[_,_,_,_,_,_,_,_,_,_,_,_,_,_,_,_,_,_,_,_,_,_] ⟨[_,_,_,_,_,_,_,_,_,_,_,_,_,_,_,_,_,_,_,_,_,_,_,_,_,_,_,_,_,_,_,_,_,_,_,_,_,_,_,_,_,_,_,_,_,_,_,_,_,_,_,_,_,_,_].toArray,[]⟩ (h:=?_)
            refine zlp 17 (.pointer (some ⟨(ad78.add (x21.toNat*2)).block,(ad78.add (x21.toNat*2)).off+1,none⟩)) #[_,_,_,_,_,_,_,_,_,_,_,_,_,_,_,_,_,_,_,_,_,_] ⟨[_,_,_,_,_,_,_,_,_,_,_,_,_,_,_,_,_,_,_,_,_,_,_,_,_,_,_,_,_,_,_,_,_,_,_,_,_,_,_,_,_,_,_,_,_,_,_,_,_,_,_,_,_,_,_].toArray,[]⟩ (h:=?_)
            refine MW.last_take (i:=18) (v:=.string ((rd_T53 (rd_L2 l0 x8) x21).f1)) (listed':= #[_,_,_,_,_,_,_,_,_,_,_,_,_,_,_,_,_,_,_,_,_,_]) (a':=⟨[_,_,_,_,_,_,_,_,_,_,_,_,_,_,_,_,_,_,_,_,_,_,_,_,_,_,_,_,_,_,_,_,_,_,_,_,_,_,_,_,_,_,_,_,_,_,_,_,_,_,_,_,_,_,_].toArray,[]⟩) rfl (by kernel_rfl) (by kernel_rfl) (by kernel_rfl) (by kernel_rfl) (by kernel_rfl) (fun _ _ _ h_=>h_) (by kernel_rfl) (fun w_ hS_=>?go) (zk hx75_0 (zk hx78_0 (zk hx78_1 z0))) rfl rfl ?_
            case go=>obtain⟨_,_,hs2_,_⟩:=hS_;first|(go_simp;done)|(go_simp;rfl)
            refine MW.last_act (i:=19) (listed':= #[true,true,true,true,true,true,true,true,true,true,true,true,true,true,true,true,true,true,true,true,false,false]) rfl (by kernel_rfl) (by kernel_rfl) (by decide) ?_
            replace HH:=zd HH
            obtain⟨t90,At91,HH⟩:=HH
            go_wp2_with ((with_reducible refine gc 29 rfl ?_);refine zc 29 (some 52) Try.func29 #[.string ((rd_T53 (rd_L2 l0 x8) x21).f1)] (h:=?_);(with_reducible refine(toponymref18_Value.calls k22  ((rd_T53 (rd_L2 l0 x8) x21).f1) t90 _  At91.out).mono ?_);rintro e w92 ⟨rfl,hb⟩;refine⟨_,rfl,?_⟩)
            refine zg ?_
            replace HF0:=zfb HF0.out hb
            replace hx75_0:=zcl hx75_0 hb
            replace hx78_0:=zcl hx78_0 hb
            replace hx78_1:=zcl hx78_1 hb
            replace HB:=zhb HB.out hb
            clear hb
            clear p75 q75 p78 q78
            refine wpList_nil ?_
            change MW.Cells _ _∧wpAnyLast _ _ _ _ _ _ 2 #[true,true,true,true,true,true,true,true,true,true,true,true,true,true,true,true,true,true,true,true,false,false] ⟨[_,_,_,_,_,_,_,_,_,_,_,_,_,_,_,_,_,_,_,_,_,_,_,_,_,_,_,_,_,_,_,_,_,_,_,_,_,_,_,_,_,_,_,_,_,_,_,_,_,_,_,_,_,_,_].toArray,[]⟩ _
            refine⟨(zk hx75_0 (zk hx78_0 (zk hx78_1 z0))),?_⟩
            by_cases c93:((x20++((rd_T53 (rd_L2 l0 x8) x21).f0))++(⟨#[61]⟩:ByteArray)).size+t90.size≤9223372036854775807
            ·replace HH:=MW.hpos HH c93
             have hk94:(9223372036854775807<((x20++((rd_T53 (rd_L2 l0 x8) x21).f0))++(⟨#[61]⟩:ByteArray)).size+t90.size)=False:=eq_false (Nat.not_lt.2 c93)
             (try simp only[hk94,Bool.not_true,Bool.not_false])
             have hk95:(((x20++((rd_T53 (rd_L2 l0 x8) x21).f0))++(⟨#[61]⟩:ByteArray)).size+t90.size≤9223372036854775807)=True:=eq_true c93
             (try simp only[hk95,Bool.not_true,Bool.not_false])
             have hk96:decide (((x20++((rd_T53 (rd_L2 l0 x8) x21).f0))++(⟨#[61]⟩:ByteArray)).size+t90.size≤9223372036854775807)=true:=decide_eq_true c93
             (try simp only[hk96,Bool.not_true,Bool.not_false])
             try have hk97:(9223372036854775807<((x20.size+((rd_T53 (rd_L2 l0 x8) x21).f0).size)+1)+t90.size)=False:=eq_false (Nat.not_lt.2 (show((x20.size+((rd_T53 (rd_L2 l0 x8) x21).f0).size)+1)+t90.size≤9223372036854775807 from by have h_:=c93;simp only[ByteArray.size_append] at h_;exact h_))
             try have hk98:(((x20.size+((rd_T53 (rd_L2 l0 x8) x21).f0).size)+1)+t90.size≤9223372036854775807)=True:=eq_true (show((x20.size+((rd_T53 (rd_L2 l0 x8) x21).f0).size)+1)+t90.size≤9223372036854775807 from by have h_:=c93;simp only[ByteArray.size_append] at h_;exact h_)
             try have hk99:decide (((x20.size+((rd_T53 (rd_L2 l0 x8) x21).f0).size)+1)+t90.size≤9223372036854775807)=true:=decide_eq_true (show((x20.size+((rd_T53 (rd_L2 l0 x8) x21).f0).size)+1)+t90.size≤9223372036854775807 from by have h_:=c93;simp only[ByteArray.size_append] at h_;exact h_)
             clear c93
             refine zlp 20 (.string (((x20++((rd_T53 (rd_L2 l0 x8) x21).f0))++(⟨#[61]⟩:ByteArray))++t90)) #[_,_,_,_,_,_,_,_,_,_,_,_,_,_,_,_,_,_,_,_,_,_] ⟨[_,_,_,_,_,_,_,_,_,_,_,_,_,_,_,_,_,_,_,_,_,_,_,_,_,_,_,_,_,_,_,_,_,_,_,_,_,_,_,_,_,_,_,_,_,_,_,_,_,_,_,_,_,_,_].toArray,[]⟩ (h:=?_)
             refine zlp 21 (.string (((x20++((rd_T53 (rd_L2 l0 x8) x21).f0))++(⟨#[61]⟩:ByteArray))++t90)) #[_,_,_,_,_,_,_,_,_,_,_,_,_,_,_,_,_,_,_,_,_,_] ⟨[_,_,_,_,_,_,_,_,_,_,_,_,_,_,_,_,_,_,_,_,_,_,_,_,_,_,_,_,_,_,_,_,_,_,_,_,_,_,_,_,_,_,_,_,_,_,_,_,_,_,_,_,_,_,_].toArray,[]⟩ (h:=?_)
             refine MW.last_done (by kernel_rfl) ?_ _
             clear hwr_
             go_wp2
             go_roundg k22
             case measure=>have:=HK0.out;have:=HK1.out;omega
             case rel=>exact⟨((x20++((rd_T53 (rd_L2 l0 x8) x21).f0))++(⟨#[61]⟩:ByteArray))++t90,wrap64 (x21+1),(by first|rfl|(simp;done)|(simp[*];done)),(by first|rfl|(simp;done)|(simp[*];done)),HH,⟨by have:=HK0.out;have:=HK1.out;omega⟩,⟨HF0.out⟩,⟨HB.out⟩⟩
            exact absurd HH.out (by rw[if_neg c93];simp)
           exact absurd HH.out (by rw[if_neg c83];simp)
          exact absurd HH.out (by rw[if_neg c79];simp)
         go_wp2
         go_roundg k22
         case measure=>have:=HK0.out;have:=HK1.out;omega
         case rel=>exact⟨x20,wrap64 (x8+1),(by first|rfl|(simp;done)|(simp[*];done)),(by first|rfl|(simp;done)|(simp[*];done)),HH,⟨by have:=HK0.out;have:=HK1.out;omega⟩,⟨HF0.out⟩,⟨HB.out⟩⟩
      exact absurd HH.out (by rw[if_neg c16];simp)
     go_wp2
     go_loopg [4,6] k9 (fun kq u4 u6 w'=>∃ (x111:ByteArray) (x112:Int),u4=.string x111∧u6=.int .i64 x112∧Aside0 ((toponymref18_Show.l2 kq x111 x112 l0 x8)=some (r1,r2))∧Aside0 (kq≤k9)∧Aside0 (Kd.F (Kd.slice 53 k53) w' (fun k_=>(P_ k_∨w.heap.size≤k_)) A0 l0.length l0)∧Aside0 (Below w.heap.size w w'))
     case atStart=>exact⟨x7,0,(by first|rfl|(simp;done)|(simp[*];done)),(by first|rfl|(simp;done)|(simp[*];done)),HH,⟨Nat.le_refl _⟩,⟨HF0.out⟩,⟨HB.out⟩⟩
     case round=>
      clear hk12
      clear hk13
      clear hk110
      clear HH
      clear HF0 HB
      obtain⟨x111,x112,rfl,rfl,HA,HK2,HF0,HB⟩:=hrel
      obtain⟨w114,rfl⟩:∃ wo_:World,wo_=wr:=⟨_,rfl⟩
      cases gk with
      |zero=>exact absurd HA.out (by simp[toponymref18_Show.l2])
      |succ k113=>
       have H:=HA.out
       clear HA
       simp only[toponymref18_Show.l2] at H
       have HH:=za H
       clear H
       replace HH:=zqdo HH
       obtain⟨HH,hk116⟩:=HH
       replace HH:=zqto HH
       obtain⟨HH,hk118,hk119⟩:=HH
       have p120:0≤(x8:Int):=of_decide_eq_true (by first|(with_reducible assumption)|assumption)
       have q120:x8<(l0.length:Int):=of_decide_eq_true (by first|(with_reducible assumption)|assumption)
       obtain⟨ad120,A120_0,c120_0,e120,hx120_0,hl120_0,hi120_0⟩:=atF_L2 HF0.out x8 p120 q120
       cases e120
       clear hi120_0 hl120_0
       replace p120:=eq_true p120
       replace q120:=eq_true q120
       replace HH:=zqt HH
       rcases HH with⟨HH,hk122,hk123⟩|⟨HH,hk195,hk196⟩
       ·replace HH:=zqg HH
        rcases HH with⟨HH,hk125⟩|⟨HH,hk164⟩
        ·by_cases c126:x111.size+1≤9223372036854775807
         ·replace HH:=MW.hpos HH c126
          have hk127:(9223372036854775807<x111.size+1)=False:=eq_false (Nat.not_lt.2 c126)
          have hk128:(x111.size+1≤9223372036854775807)=True:=eq_true c126
          have hk129:decide (x111.size+1≤9223372036854775807)=true:=decide_eq_true c126
          clear c126
          go_wp2
          have hwr_:∀ n_:Int,IntKind.i64.wrap n_=wrap64 n_:=fun n_=>IntWalk.i64_left n_
          refine wp_region_any (by kernel_rfl) ?_
          change wpAny _ _ _ _ 22 #[false,false,false,false,false,false,false,false,false,false,false,false,false,false,false,false,false,false,false,false,false,false] _ w114.drew
          obtain⟨w130,hw_⟩:∃ w_:World,w_=w114.drew:=⟨_,rfl⟩
          rw[← hw_]
          have hb:Below w114.heap.size w114 w130:=by rw[hw_];exact below_drew1 (Below.refl _ _)
          clear hw_
          replace HF0:=zfb HF0.out hb
          replace HB:=zhb HB.out hb
          clear hb
          clear hx120_0 p120 q120
          have p131:0≤(x8:Int):=of_decide_eq_true (by first|(with_reducible assumption)|assumption)
          have q131:x8<(l0.length:Int):=of_decide_eq_true (by first|(with_reducible assumption)|assumption)
          obtain⟨ad131,A131_0,c131_0,e131,hx131_0,hl131_0,hi131_0⟩:=atF_L2 HF0.out x8 p131 q131
          cases e131
          have HF131_0:=za hi131_0
          clear hi131_0 hl131_0
          replace p131:=eq_true p131
          replace q131:=eq_true q131
          replace HH:=zqdo HH
          obtain⟨HH,hk133⟩:=HH
          have p134:0≤(x112:Int):=of_decide_eq_true (by first|(with_reducible assumption)|assumption)
          have q134:x112<((rd_L2 l0 x8).length:Int):=of_decide_eq_true (by first|(with_reducible assumption)|assumption)
          obtain⟨ad134,e134,hx134_0,hx134_1⟩:=atF_T53 HF131_0.out x112 p134 q134
          cases e134
          replace p134:=eq_true p134
          replace q134:=eq_true q134
          refine MW.last_in (ds:=[]) (zk hx131_0 (zk hx134_0 (zk hx134_1 z0))) ?_
          refine zlp 0 (.string (x111++(⟨#[43]⟩:ByteArray))) #[_,_,_,_,_,_,_,_,_,_,_,_,_,_,_,_,_,_,_,_,_,_] ⟨[_,_,_,_,_,_,_,_,_,_,_,_,_,_,_,_,_,_,_,_,_,_,_,_,_,_,_,_,_,_,_,_,_,_,_,_,_,_,_,_,_,_,_,_,_,_,_,_,_,_,_,_,_,_,_].toArray,[]⟩ (h:=?_)
          refine zlp 1 (.slice (some ad120) l0.length c0) #[_,_,_,_,_,_,_,_,_,_,_,_,_,_,_,_,_,_,_,_,_,_] ⟨[_,_,_,_,_,_,_,_,_,_,_,_,_,_,_,_,_,_,_,_,_,_,_,_,_,_,_,_,_,_,_,_,_,_,_,_,_,_,_,_,_,_,_,_,_,_,_,_,_,_,_,_,_,_,_].toArray,[]⟩ (h:=?_)
          refine zlp 2 (.int .i64 x8) #[_,_,_,_,_,_,_,_,_,_,_,_,_,_,_,_,_,_,_,_,_,_] ⟨[_,_,_,_,_,_,_,_,_,_,_,_,_,_,_,_,_,_,_,_,_,_,_,_,_,_,_,_,_,_,_,_,_,_,_,_,_,_,_,_,_,_,_,_,_,_,_,_,_,_,_,_,_,_,_].toArray,[]⟩ (h:=?_)
          refine zlp 3 (.pointer (some (ad120.add (x8.toNat)))) #[_,_,_,_,_,_,_,_,_,_,_,_,_,_,_,_,_,_,_,_,_,_] ⟨[_,_,_,_,_,_,_,_,_,_,_,_,_,_,_,_,_,_,_,_,_,_,_,_,_,_,_,_,_,_,_,_,_,_,_,_,_,_,_,_,_,_,_,_,_,_,_,_,_,_,_,_,_,_,_].toArray,[]⟩ (h:=?_)
          refine zlp 5 (.int .i64 x112) #[_,_,_,_,_,_,_,_,_,_,_,_,_,_,_,_,_,_,_,_,_,_] ⟨[_,_,_,_,_,_,_,_,_,_,_,_,_,_,_,_,_,_,_,_,_,_,_,_,_,_,_,_,_,_,_,_,_,_,_,_,_,_,_,_,_,_,_,_,_,_,_,_,_,_,_,_,_,_,_].toArray,[]⟩ (h:=?_)
          refine zlp 11 (.slice (some ad120) l0.length c0) #[_,_,_,_,_,_,_,_,_,_,_,_,_,_,_,_,_,_,_,_,_,_] ⟨[_,_,_,_,_,_,_,_,_,_,_,_,_,_,_,_,_,_,_,_,_,_,_,_,_,_,_,_,_,_,_,_,_,_,_,_,_,_,_,_,_,_,_,_,_,_,_,_,_,_,_,_,_,_,_].toArray,[]⟩ (h:=?_)
          refine zlp 12 (.int .i64 x8) #[_,_,_,_,_,_,_,_,_,_,_,_,_,_,_,_,_,_,_,_,_,_] ⟨[_,_,_,_,_,_,_,_,_,_,_,_,_,_,_,_,_,_,_,_,_,_,_,_,_,_,_,_,_,_,_,_,_,_,_,_,_,_,_,_,_,_,_,_,_,_,_,_,_,_,_,_,_,_,_].toArray,[]⟩ (h:=?_)
          refine zlp 13 (.pointer (some (ad120.add (x8.toNat)))) #[_,_,_,_,_,_,_,_,_,_,_,_,_,_,_,_,_,_,_,_,_,_] ⟨[_,_,_,_,_,_,_,_,_,_,_,_,_,_,_,_,_,_,_,_,_,_,_,_,_,_,_,_,_,_,_,_,_,_,_,_,_,_,_,_,_,_,_,_,_,_,_,_,_,_,_,_,_,_,_].toArray,[]⟩ (h:=?_)
          refine zlp 15 (.int .i64 x112) #[_,_,_,_,_,_,_,_,_,_,_,_,_,_,_,_,_,_,_,_,_,_] ⟨[_,_,_,_,_,_,_,_,_,_,_,_,_,_,_,_,_,_,_,_,_,_,_,_,_,_,_,_,_,_,_,_,_,_,_,_,_,_,_,_,_,_,_,_,_,_,_,_,_,_,_,_,_,_,_].toArray,[]⟩ (h:=?_)
          refine MW.last_take (i:=4) (v:=.slice (some ad134) (rd_L2 l0 x8).length c131_0) (listed':= #[_,_,_,_,_,_,_,_,_,_,_,_,_,_,_,_,_,_,_,_,_,_]) (a':=⟨[_,_,_,_,_,_,_,_,_,_,_,_,_,_,_,_,_,_,_,_,_,_,_,_,_,_,_,_,_,_,_,_,_,_,_,_,_,_,_,_,_,_,_,_,_,_,_,_,_,_,_,_,_,_,_].toArray,[]⟩) rfl (by kernel_rfl) (by kernel_rfl) (by kernel_rfl) (by kernel_rfl) (by kernel_rfl) (fun _ _ _ h_=>h_) (by kernel_rfl) (fun w_ hS_=>?go) (zk hx131_0 (zk hx134_0 (zk hx134_1 z0))) rfl rfl ?_
          case go=>obtain⟨hs0_,_,_,_⟩:=hS_;first|(go_simp;done)|(go_simp;rfl)
          refine zlp 6 (.pointer (some (ad134.add (x112.toNat*2)))) #[_,_,_,_,_,_,_,_,_,_,_,_,_,_,_,_,_,_,_,_,_,_] ⟨[_,_,_,_,_,_,_,_,_,_,_,_,_,_,_,_,_,_,_,_,_,_,_,_,_,_,_,_,_,_,_,_,_,_,_,_,_,_,_,_,_,_,_,_,_,_,_,_,_,_,_,_,_,_,_].toArray,[]⟩ (h:=?_)
          refine zlp 7 (.pointer (some (ad134.add (x112.toNat*2)))) #[_,_,_,_,_,_,_,_,_,_,_,_,_,_,_,_,_,_,_,_,_,_] ⟨[_,_,_,_,_,_,_,_,_,_,_,_,_,_,_,_,_,_,_,_,_,_,_,_,_,_,_,_,_,_,_,_,_,_,_,_,_,_,_,_,_,_,_,_,_,_,_,_,_,_,_,_,_,_,_].toArray,[]⟩ (h:=?_)
          refine MW.last_take (i:=8) (v:=.string ((rd_T53 (rd_L2 l0 x8) x112).f0)) (listed':= #[_,_,_,_,_,_,_,_,_,_,_,_,_,_,_,_,_,_,_,_,_,_]) (a':=⟨[_,_,_,_,_,_,_,_,_,_,_,_,_,_,_,_,_,_,_,_,_,_,_,_,_,_,_,_,_,_,_,_,_,_,_,_,_,_,_,_,_,_,_,_,_,_,_,_,_,_,_,_,_,_,_].toArray,[]⟩) rfl (by kernel_rfl) (by kernel_rfl) (by kernel_rfl) (by kernel_rfl) (by kernel_rfl) (fun _ _ _ h_=>h_) (by kernel_rfl) (fun w_ hS_=>?go) (zk hx131_0 (zk hx134_0 (zk hx134_1 z0))) rfl rfl ?_
          case go=>obtain⟨_,hs1_,_,_⟩:=hS_;first|(go_simp;done)|(go_simp;rfl)
          by_cases c135:(x111++(⟨#[43]⟩:ByteArray)).size+((rd_T53 (rd_L2 l0 x8) x112).f0).size≤9223372036854775807
          ·replace HH:=MW.hpos HH c135
           have hk136:(9223372036854775807<(x111++(⟨#[43]⟩:ByteArray)).size+((rd_T53 (rd_L2 l0 x8) x112).f0).size)=False:=eq_false (Nat.not_lt.2 c135)
           (try simp only[hk136,Bool.not_true,Bool.not_false])
           have hk137:((x111++(⟨#[43]⟩:ByteArray)).size+((rd_T53 (rd_L2 l0 x8) x112).f0).size≤9223372036854775807)=True:=eq_true c135
           (try simp only[hk137,Bool.not_true,Bool.not_false])
           have hk138:decide ((x111++(⟨#[43]⟩:ByteArray)).size+((rd_T53 (rd_L2 l0 x8) x112).f0).size≤9223372036854775807)=true:=decide_eq_true c135
           (try simp only[hk138,Bool.not_true,Bool.not_false])
           try have hk139:(9223372036854775807<(x111.size+1)+((rd_T53 (rd_L2 l0 x8) x112).f0).size)=False:=eq_false (Nat.not_lt.2 (show(x111.size+1)+((rd_T53 (rd_L2 l0 x8) x112).f0).size≤9223372036854775807 from by have h_:=c135;simp only[ByteArray.size_append] at h_;exact h_))
           try have hk140:((x111.size+1)+((rd_T53 (rd_L2 l0 x8) x112).f0).size≤9223372036854775807)=True:=eq_true (show(x111.size+1)+((rd_T53 (rd_L2 l0 x8) x112).f0).size≤9223372036854775807 from by have h_:=c135;simp only[ByteArray.size_append] at h_;exact h_)
           try have hk141:decide ((x111.size+1)+((rd_T53 (rd_L2 l0 x8) x112).f0).size≤9223372036854775807)=true:=decide_eq_true (show(x111.size+1)+((rd_T53 (rd_L2 l0 x8) x112).f0).size≤9223372036854775807 from by have h_:=c135;simp only[ByteArray.size_append] at h_;exact h_)
           clear c135
           refine zlp 9 (.string ((x111++(⟨#[43]⟩:ByteArray))++((rd_T53 (rd_L2 l0 x8) x112).f0))) #[_,_,_,_,_,_,_,_,_,_,_,_,_,_,_,_,_,_,_,_,_,_] ⟨[_,_,_,_,_,_,_,_,_,_,_,_,_,_,_,_,_,_,_,_,_,_,_,_,_,_,_,_,_,_,_,_,_,_,_,_,_,_,_,_,_,_,_,_,_,_,_,_,_,_,_,_,_,_,_].toArray,[]⟩ (h:=?_)
           by_cases c142:((x111++(⟨#[43]⟩:ByteArray))++((rd_T53 (rd_L2 l0 x8) x112).f0)).size+1≤9223372036854775807
           ·replace HH:=MW.hpos HH c142
            have hk143:(9223372036854775807<((x111++(⟨#[43]⟩:ByteArray))++((rd_T53 (rd_L2 l0 x8) x112).f0)).size+1)=False:=eq_false (Nat.not_lt.2 c142)
            (try simp only[hk143,Bool.not_true,Bool.not_false])
            have hk144:(((x111++(⟨#[43]⟩:ByteArray))++((rd_T53 (rd_L2 l0 x8) x112).f0)).size+1≤9223372036854775807)=True:=eq_true c142
            (try simp only[hk144,Bool.not_true,Bool.not_false])
            have hk145:decide (((x111++(⟨#[43]⟩:ByteArray))++((rd_T53 (rd_L2 l0 x8) x112).f0)).size+1≤9223372036854775807)=true:=decide_eq_true c142
            (try simp only[hk145,Bool.not_true,Bool.not_false])
            try have hk146:(9223372036854775807<((x111.size+1)+((rd_T53 (rd_L2 l0 x8) x112).f0).size)+1)=False:=eq_false (Nat.not_lt.2 (show((x111.size+1)+((rd_T53 (rd_L2 l0 x8) x112).f0).size)+1≤9223372036854775807 from by have h_:=c142;simp only[ByteArray.size_append] at h_;exact h_))
            try have hk147:(((x111.size+1)+((rd_T53 (rd_L2 l0 x8) x112).f0).size)+1≤9223372036854775807)=True:=eq_true (show((x111.size+1)+((rd_T53 (rd_L2 l0 x8) x112).f0).size)+1≤9223372036854775807 from by have h_:=c142;simp only[ByteArray.size_append] at h_;exact h_)
            try have hk148:decide (((x111.size+1)+((rd_T53 (rd_L2 l0 x8) x112).f0).size)+1≤9223372036854775807)=true:=decide_eq_true (show((x111.size+1)+((rd_T53 (rd_L2 l0 x8) x112).f0).size)+1≤9223372036854775807 from by have h_:=c142;simp only[ByteArray.size_append] at h_;exact h_)
            clear c142
            refine zlp 10 (.string (((x111++(⟨#[43]⟩:ByteArray))++((rd_T53 (rd_L2 l0 x8) x112).f0))++(⟨#[61]⟩:ByteArray))) #[_,_,_,_,_,_,_,_,_,_,_,_,_,_,_,_,_,_,_,_,_,_] ⟨[_,_,_,_,_,_,_,_,_,_,_,_,_,_,_,_,_,_,_,_,_,_,_,_,_,_,_,_,_,_,_,_,_,_,_,_,_,_,_,_,_,_,_,_,_,_,_,_,_,_,_,_,_,_,_].toArray,[]⟩ (h:=?_)
            refine MW.last_take (i:=14) (v:=.slice (some ad134) (rd_L2 l0 x8).length c131_0) (listed':= #[_,_,_,_,_,_,_,_,_,_,_,_,_,_,_,_,_,_,_,_,_,_]) (a':=⟨[_,_,_,_,_,_,_,_,_,_,_,_,_,_,_,_,_,_,_,_,_,_,_,_,_,_,_,_,_,_,_,_,_,_,_,_,_,_,_,_,_,_,_,_,_,_,_,_,_,_,_,_,_,_,_].toArray,[]⟩) rfl (by kernel_rfl) (by kernel_rfl) (by kernel_rfl) (by kernel_rfl) (by kernel_rfl) (fun _ _ _ h_=>h_) (by kernel_rfl) (fun w_ hS_=>?go) (zk hx131_0 (zk hx134_0 (zk hx134_1 z0))) rfl rfl ?_
            case go=>obtain⟨hs0_,_,_,_⟩:=hS_;first|(go_simp;done)|(go_simp;rfl)
            refine zlp 16 (.pointer (some (ad134.add (x112.toNat*2)))) #[_,_,_,_,_,_,_,_,_,_,_,_,_,_,_,_,_,_,_,_,_,_] ⟨[_,_,_,_,_,_,_,_,_,_,_,_,_,_,_,_,_,_,_,_,_,_,_,_,_,_,_,_,_,_,_,_,_,_,_,_,_,_,_,_,_,_,_,_,_,_,_,_,_,_,_,_,_,_,_].toArray,[]⟩ (h:=?_)
            refine zlp 17 (.pointer (some ⟨(ad134.add (x112.toNat*2)).block,(ad134.add (x112.toNat*2)).off+1,none⟩)) #[_,_,_,_,_,_,_,_,_,_,_,_,_,_,_,_,_,_,_,_,_,_] ⟨[_,_,_,_,_,_,_,_,_,_,_,_,_,_,_,_,_,_,_,_,_,_,_,_,_,_,_,_,_,_,_,_,_,_,_,_,_,_,_,_,_,_,_,_,_,_,_,_,_,_,_,_,_,_,_].toArray,[]⟩ (h:=?_)
            refine MW.last_take (i:=18) (v:=.string ((rd_T53 (rd_L2 l0 x8) x112).f1)) (listed':= #[_,_,_,_,_,_,_,_,_,_,_,_,_,_,_,_,_,_,_,_,_,_]) (a':=⟨[_,_,_,_,_,_,_,_,_,_,_,_,_,_,_,_,_,_,_,_,_,_,_,_,_,_,_,_,_,_,_,_,_,_,_,_,_,_,_,_,_,_,_,_,_,_,_,_,_,_,_,_,_,_,_].toArray,[]⟩) rfl (by kernel_rfl) (by kernel_rfl) (by kernel_rfl) (by kernel_rfl) (by kernel_rfl) (fun _ _ _ h_=>h_) (by kernel_rfl) (fun w_ hS_=>?go) (zk hx131_0 (zk hx134_0 (zk hx134_1 z0))) rfl rfl ?_
            case go=>obtain⟨_,_,hs2_,_⟩:=hS_;first|(go_simp;done)|(go_simp;rfl)
            refine MW.last_act (i:=19) (listed':= #[true,true,true,true,true,true,true,true,true,true,true,true,true,true,true,true,true,true,true,true,false,false]) rfl (by kernel_rfl) (by kernel_rfl) (by decide) ?_
            replace HH:=zd HH
            obtain⟨t149,At150,HH⟩:=HH
            go_wp2_with ((with_reducible refine gc 29 rfl ?_);refine zc 29 (some 52) Try.func29 #[.string ((rd_T53 (rd_L2 l0 x8) x112).f1)] (h:=?_);(with_reducible refine(toponymref18_Value.calls k113  ((rd_T53 (rd_L2 l0 x8) x112).f1) t149 _  At150.out).mono ?_);rintro e w151 ⟨rfl,hb⟩;refine⟨_,rfl,?_⟩)
            refine zg ?_
            replace HF0:=zfb HF0.out hb
            replace hx131_0:=zcl hx131_0 hb
            replace hx134_0:=zcl hx134_0 hb
            replace hx134_1:=zcl hx134_1 hb
            replace HB:=zhb HB.out hb
            clear hb
            clear p131 q131 p134 q134
            refine wpList_nil ?_
            change MW.Cells _ _∧wpAnyLast _ _ _ _ _ _ 2 #[true,true,true,true,true,true,true,true,true,true,true,true,true,true,true,true,true,true,true,true,false,false] ⟨[_,_,_,_,_,_,_,_,_,_,_,_,_,_,_,_,_,_,_,_,_,_,_,_,_,_,_,_,_,_,_,_,_,_,_,_,_,_,_,_,_,_,_,_,_,_,_,_,_,_,_,_,_,_,_].toArray,[]⟩ _
            refine⟨(zk hx131_0 (zk hx134_0 (zk hx134_1 z0))),?_⟩
            by_cases c152:(((x111++(⟨#[43]⟩:ByteArray))++((rd_T53 (rd_L2 l0 x8) x112).f0))++(⟨#[61]⟩:ByteArray)).size+t149.size≤9223372036854775807
            ·replace HH:=MW.hpos HH c152
             have hk153:(9223372036854775807<(((x111++(⟨#[43]⟩:ByteArray))++((rd_T53 (rd_L2 l0 x8) x112).f0))++(⟨#[61]⟩:ByteArray)).size+t149.size)=False:=eq_false (Nat.not_lt.2 c152)
             (try simp only[hk153,Bool.not_true,Bool.not_false])
             have hk154:((((x111++(⟨#[43]⟩:ByteArray))++((rd_T53 (rd_L2 l0 x8) x112).f0))++(⟨#[61]⟩:ByteArray)).size+t149.size≤9223372036854775807)=True:=eq_true c152
             (try simp only[hk154,Bool.not_true,Bool.not_false])
             have hk155:decide ((((x111++(⟨#[43]⟩:ByteArray))++((rd_T53 (rd_L2 l0 x8) x112).f0))++(⟨#[61]⟩:ByteArray)).size+t149.size≤9223372036854775807)=true:=decide_eq_true c152
             (try simp only[hk155,Bool.not_true,Bool.not_false])
             try have hk156:(9223372036854775807<(((x111.size+1)+((rd_T53 (rd_L2 l0 x8) x112).f0).size)+1)+t149.size)=False:=eq_false (Nat.not_lt.2 (show(((x111.size+1)+((rd_T53 (rd_L2 l0 x8) x112).f0).size)+1)+t149.size≤9223372036854775807 from by have h_:=c152;simp only[ByteArray.size_append] at h_;exact h_))
             try have hk157:((((x111.size+1)+((rd_T53 (rd_L2 l0 x8) x112).f0).size)+1)+t149.size≤9223372036854775807)=True:=eq_true (show(((x111.size+1)+((rd_T53 (rd_L2 l0 x8) x112).f0).size)+1)+t149.size≤9223372036854775807 from by have h_:=c152;simp only[ByteArray.size_append] at h_;exact h_)
             try have hk158:decide ((((x111.size+1)+((rd_T53 (rd_L2 l0 x8) x112).f0).size)+1)+t149.size≤9223372036854775807)=true:=decide_eq_true (show(((x111.size+1)+((rd_T53 (rd_L2 l0 x8) x112).f0).size)+1)+t149.size≤9223372036854775807 from by have h_:=c152;simp only[ByteArray.size_append] at h_;exact h_)
             clear c152
             refine zlp 20 (.string ((((x111++(⟨#[43]⟩:ByteArray))++((rd_T53 (rd_L2 l0 x8) x112).f0))++(⟨#[61]⟩:ByteArray))++t149)) #[_,_,_,_,_,_,_,_,_,_,_,_,_,_,_,_,_,_,_,_,_,_] ⟨[_,_,_,_,_,_,_,_,_,_,_,_,_,_,_,_,_,_,_,_,_,_,_,_,_,_,_,_,_,_,_,_,_,_,_,_,_,_,_,_,_,_,_,_,_,_,_,_,_,_,_,_,_,_,_].toArray,[]⟩ (h:=?_)
             refine zlp 21 (.string ((((x111++(⟨#[43]⟩:ByteArray))++((rd_T53 (rd_L2 l0 x8) x112).f0))++(⟨#[61]⟩:ByteArray))++t149)) #[_,_,_,_,_,_,_,_,_,_,_,_,_,_,_,_,_,_,_,_,_,_] ⟨[_,_,_,_,_,_,_,_,_,_,_,_,_,_,_,_,_,_,_,_,_,_,_,_,_,_,_,_,_,_,_,_,_,_,_,_,_,_,_,_,_,_,_,_,_,_,_,_,_,_,_,_,_,_,_].toArray,[]⟩ (h:=?_)
             refine MW.last_done (by kernel_rfl) ?_ _
             clear hwr_
             go_wp2
             go_roundg k113
             case measure=>have:=HK0.out;have:=HK2.out;omega
             case rel=>exact⟨(((x111++(⟨#[43]⟩:ByteArray))++((rd_T53 (rd_L2 l0 x8) x112).f0))++(⟨#[61]⟩:ByteArray))++t149,wrap64 (x112+1),(by first|rfl|(simp;done)|(simp[*];done)),(by first|rfl|(simp;done)|(simp[*];done)),HH,⟨by have:=HK0.out;have:=HK2.out;omega⟩,⟨HF0.out⟩,⟨HB.out⟩⟩
            exact absurd HH.out (by rw[if_neg c152];simp)
           exact absurd HH.out (by rw[if_neg c142];simp)
          exact absurd HH.out (by rw[if_neg c135];simp)
         exact absurd HH.out (by rw[if_neg c126];simp)
        go_wp2
        have hwr_:∀ n_:Int,IntKind.i64.wrap n_=wrap64 n_:=fun n_=>IntWalk.i64_left n_
        refine wp_region_any (by kernel_rfl) ?_
        change wpAny _ _ _ _ 22 #[false,false,false,false,false,false,false,false,false,false,false,false,false,false,false,false,false,false,false,false,false,false] _ w114.drew
        obtain⟨w165,hw_⟩:∃ w_:World,w_=w114.drew:=⟨_,rfl⟩
        rw[← hw_]
        have hb:Below w114.heap.size w114 w165:=by rw[hw_];exact below_drew1 (Below.refl _ _)
        clear hw_
        replace HF0:=zfb HF0.out hb
        replace HB:=zhb HB.out hb
        clear hb
        clear hx120_0 p120 q120
        have p166:0≤(x8:Int):=of_decide_eq_true (by first|(with_reducible assumption)|assumption)
        have q166:x8<(l0.length:Int):=of_decide_eq_true (by first|(with_reducible assumption)|assumption)
        obtain⟨ad166,A166_0,c166_0,e166,hx166_0,hl166_0,hi166_0⟩:=atF_L2 HF0.out x8 p166 q166
        cases e166
        have HF166_0:=za hi166_0
        clear hi166_0 hl166_0
        replace p166:=eq_true p166
        replace q166:=eq_true q166
        replace HH:=zqdo HH
        obtain⟨HH,hk168⟩:=HH
        have p169:0≤(x112:Int):=of_decide_eq_true (by first|(with_reducible assumption)|assumption)
        have q169:x112<((rd_L2 l0 x8).length:Int):=of_decide_eq_true (by first|(with_reducible assumption)|assumption)
        obtain⟨ad169,e169,hx169_0,hx169_1⟩:=atF_T53 HF166_0.out x112 p169 q169
        cases e169
        replace p169:=eq_true p169
        replace q169:=eq_true q169
        refine MW.last_in (ds:=[]) (zk hx166_0 (zk hx169_0 (zk hx169_1 z0))) ?_
        refine zlp 0 (.string x111) #[_,_,_,_,_,_,_,_,_,_,_,_,_,_,_,_,_,_,_,_,_,_] ⟨[_,_,_,_,_,_,_,_,_,_,_,_,_,_,_,_,_,_,_,_,_,_,_,_,_,_,_,_,_,_,_,_,_,_,_,_,_,_,_,_,_,_,_,_,_,_,_,_,_,_,_,_,_,_,_].toArray,[]⟩ (h:=?_)
        refine zlp 1 (.slice (some ad120) l0.length c0) #[_,_,_,_,_,_,_,_,_,_,_,_,_,_,_,_,_,_,_,_,_,_] ⟨[_,_,_,_,_,_,_,_,_,_,_,_,_,_,_,_,_,_,_,_,_,_,_,_,_,_,_,_,_,_,_,_,_,_,_,_,_,_,_,_,_,_,_,_,_,_,_,_,_,_,_,_,_,_,_].toArray,[]⟩ (h:=?_)
        refine zlp 2 (.int .i64 x8) #[_,_,_,_,_,_,_,_,_,_,_,_,_,_,_,_,_,_,_,_,_,_] ⟨[_,_,_,_,_,_,_,_,_,_,_,_,_,_,_,_,_,_,_,_,_,_,_,_,_,_,_,_,_,_,_,_,_,_,_,_,_,_,_,_,_,_,_,_,_,_,_,_,_,_,_,_,_,_,_].toArray,[]⟩ (h:=?_)
        refine zlp 3 (.pointer (some (ad120.add (x8.toNat)))) #[_,_,_,_,_,_,_,_,_,_,_,_,_,_,_,_,_,_,_,_,_,_] ⟨[_,_,_,_,_,_,_,_,_,_,_,_,_,_,_,_,_,_,_,_,_,_,_,_,_,_,_,_,_,_,_,_,_,_,_,_,_,_,_,_,_,_,_,_,_,_,_,_,_,_,_,_,_,_,_].toArray,[]⟩ (h:=?_)
        refine zlp 5 (.int .i64 x112) #[_,_,_,_,_,_,_,_,_,_,_,_,_,_,_,_,_,_,_,_,_,_] ⟨[_,_,_,_,_,_,_,_,_,_,_,_,_,_,_,_,_,_,_,_,_,_,_,_,_,_,_,_,_,_,_,_,_,_,_,_,_,_,_,_,_,_,_,_,_,_,_,_,_,_,_,_,_,_,_].toArray,[]⟩ (h:=?_)
        refine zlp 11 (.slice (some ad120) l0.length c0) #[_,_,_,_,_,_,_,_,_,_,_,_,_,_,_,_,_,_,_,_,_,_] ⟨[_,_,_,_,_,_,_,_,_,_,_,_,_,_,_,_,_,_,_,_,_,_,_,_,_,_,_,_,_,_,_,_,_,_,_,_,_,_,_,_,_,_,_,_,_,_,_,_,_,_,_,_,_,_,_].toArray,[]⟩ (h:=?_)
        refine zlp 12 (.int .i64 x8) #[_,_,_,_,_,_,_,_,_,_,_,_,_,_,_,_,_,_,_,_,_,_] ⟨[_,_,_,_,_,_,_,_,_,_,_,_,_,_,_,_,_,_,_,_,_,_,_,_,_,_,_,_,_,_,_,_,_,_,_,_,_,_,_,_,_,_,_,_,_,_,_,_,_,_,_,_,_,_,_].toArray,[]⟩ (h:=?_)
        refine zlp 13 (.pointer (some (ad120.add (x8.toNat)))) #[_,_,_,_,_,_,_,_,_,_,_,_,_,_,_,_,_,_,_,_,_,_] ⟨[_,_,_,_,_,_,_,_,_,_,_,_,_,_,_,_,_,_,_,_,_,_,_,_,_,_,_,_,_,_,_,_,_,_,_,_,_,_,_,_,_,_,_,_,_,_,_,_,_,_,_,_,_,_,_].toArray,[]⟩ (h:=?_)
        refine zlp 15 (.int .i64 x112) #[_,_,_,_,_,_,_,_,_,_,_,_,_,_,_,_,_,_,_,_,_,_] ⟨[_,_,_,_,_,_,_,_,_,_,_,_,_,_,_,_,_,_,_,_,_,_,_,_,_,_,_,_,_,_,_,_,_,_,_,_,_,_,_,_,_,_,_,_,_,_,_,_,_,_,_,_,_,_,_].toArray,[]⟩ (h:=?_)
        refine MW.last_take (i:=4) (v:=.slice (some ad169) (rd_L2 l0 x8).length c166_0) (listed':= #[_,_,_,_,_,_,_,_,_,_,_,_,_,_,_,_,_,_,_,_,_,_]) (a':=⟨[_,_,_,_,_,_,_,_,_,_,_,_,_,_,_,_,_,_,_,_,_,_,_,_,_,_,_,_,_,_,_,_,_,_,_,_,_,_,_,_,_,_,_,_,_,_,_,_,_,_,_,_,_,_,_].toArray,[]⟩) rfl (by kernel_rfl) (by kernel_rfl) (by kernel_rfl) (by kernel_rfl) (by kernel_rfl) (fun _ _ _ h_=>h_) (by kernel_rfl) (fun w_ hS_=>?go) (zk hx166_0 (zk hx169_0 (zk hx169_1 z0))) rfl rfl ?_
        case go=>obtain⟨hs0_,_,_,_⟩:=hS_;first|(go_simp;done)|(go_simp;rfl)
        refine zlp 6 (.pointer (some (ad169.add (x112.toNat*2)))) #[_,_,_,_,_,_,_,_,_,_,_,_,_,_,_,_,_,_,_,_,_,_] ⟨[_,_,_,_,_,_,_,_,_,_,_,_,_,_,_,_,_,_,_,_,_,_,_,_,_,_,_,_,_,_,_,_,_,_,_,_,_,_,_,_,_,_,_,_,_,_,_,_,_,_,_,_,_,_,_].toArray,[]⟩ (h:=?_)
        refine zlp 7 (.pointer (some (ad169.add (x112.toNat*2)))) #[_,_,_,_,_,_,_,_,_,_,_,_,_,_,_,_,_,_,_,_,_,_] ⟨[_,_,_,_,_,_,_,_,_,_,_,_,_,_,_,_,_,_,_,_,_,_,_,_,_,_,_,_,_,_,_,_,_,_,_,_,_,_,_,_,_,_,_,_,_,_,_,_,_,_,_,_,_,_,_].toArray,[]⟩ (h:=?_)
        refine MW.last_take (i:=8) (v:=.string ((rd_T53 (rd_L2 l0 x8) x112).f0)) (listed':= #[_,_,_,_,_,_,_,_,_,_,_,_,_,_,_,_,_,_,_,_,_,_]) (a':=⟨[_,_,_,_,_,_,_,_,_,_,_,_,_,_,_,_,_,_,_,_,_,_,_,_,_,_,_,_,_,_,_,_,_,_,_,_,_,_,_,_,_,_,_,_,_,_,_,_,_,_,_,_,_,_,_].toArray,[]⟩) rfl (by kernel_rfl) (by kernel_rfl) (by kernel_rfl) (by kernel_rfl) (by kernel_rfl) (fun _ _ _ h_=>h_) (by kernel_rfl) (fun w_ hS_=>?go) (zk hx166_0 (zk hx169_0 (zk hx169_1 z0))) rfl rfl ?_
        case go=>obtain⟨_,hs1_,_,_⟩:=hS_;first|(go_simp;done)|(go_simp;rfl)
        by_cases c170:x111.size+((rd_T53 (rd_L2 l0 x8) x112).f0).size≤9223372036854775807
        ·replace HH:=MW.hpos HH c170
         have hk171:(9223372036854775807<x111.size+((rd_T53 (rd_L2 l0 x8) x112).f0).size)=False:=eq_false (Nat.not_lt.2 c170)
         (try simp only[hk171,Bool.not_true,Bool.not_false])
         have hk172:(x111.size+((rd_T53 (rd_L2 l0 x8) x112).f0).size≤9223372036854775807)=True:=eq_true c170
         (try simp only[hk172,Bool.not_true,Bool.not_false])
         have hk173:decide (x111.size+((rd_T53 (rd_L2 l0 x8) x112).f0).size≤9223372036854775807)=true:=decide_eq_true c170
         (try simp only[hk173,Bool.not_true,Bool.not_false])
         clear c170
         refine zlp 9 (.string (x111++((rd_T53 (rd_L2 l0 x8) x112).f0))) #[_,_,_,_,_,_,_,_,_,_,_,_,_,_,_,_,_,_,_,_,_,_] ⟨[_,_,_,_,_,_,_,_,_,_,_,_,_,_,_,_,_,_,_,_,_,_,_,_,_,_,_,_,_,_,_,_,_,_,_,_,_,_,_,_,_,_,_,_,_,_,_,_,_,_,_,_,_,_,_].toArray,[]⟩ (h:=?_)
         by_cases c174:(x111++((rd_T53 (rd_L2 l0 x8) x112).f0)).size+1≤9223372036854775807
         ·replace HH:=MW.hpos HH c174
          have hk175:(9223372036854775807<(x111++((rd_T53 (rd_L2 l0 x8) x112).f0)).size+1)=False:=eq_false (Nat.not_lt.2 c174)
          (try simp only[hk175,Bool.not_true,Bool.not_false])
          have hk176:((x111++((rd_T53 (rd_L2 l0 x8) x112).f0)).size+1≤9223372036854775807)=True:=eq_true c174
          (try simp only[hk176,Bool.not_true,Bool.not_false])
          have hk177:decide ((x111++((rd_T53 (rd_L2 l0 x8) x112).f0)).size+1≤9223372036854775807)=true:=decide_eq_true c174
          (try simp only[hk177,Bool.not_true,Bool.not_false])
          try have hk178:(9223372036854775807<(x111.size+((rd_T53 (rd_L2 l0 x8) x112).f0).size)+1)=False:=eq_false (Nat.not_lt.2 (show(x111.size+((rd_T53 (rd_L2 l0 x8) x112).f0).size)+1≤9223372036854775807 from by have h_:=c174;simp only[ByteArray.size_append] at h_;exact h_))
          try have hk179:((x111.size+((rd_T53 (rd_L2 l0 x8) x112).f0).size)+1≤9223372036854775807)=True:=eq_true (show(x111.size+((rd_T53 (rd_L2 l0 x8) x112).f0).size)+1≤9223372036854775807 from by have h_:=c174;simp only[ByteArray.size_append] at h_;exact h_)
          try have hk180:decide ((x111.size+((rd_T53 (rd_L2 l0 x8) x112).f0).size)+1≤9223372036854775807)=true:=decide_eq_true (show(x111.size+((rd_T53 (rd_L2 l0 x8) x112).f0).size)+1≤9223372036854775807 from by have h_:=c174;simp only[ByteArray.size_append] at h_;exact h_)
          clear c174
          refine zlp 10 (.string ((x111++((rd_T53 (rd_L2 l0 x8) x112).f0))++(⟨#[61]⟩:ByteArray))) #[_,_,_,_,_,_,_,_,_,_,_,_,_,_,_,_,_,_,_,_,_,_] ⟨[_,_,_,_,_,_,_,_,_,_,_,_,_,_,_,_,_,_,_,_,_,_,_,_,_,_,_,_,_,_,_,_,_,_,_,_,_,_,_,_,_,_,_,_,_,_,_,_,_,_,_,_,_,_,_].toArray,[]⟩ (h:=?_)
          refine MW.last_take (i:=14) (v:=.slice (some ad169) (rd_L2 l0 x8).length c166_0) (listed':= #[_,_,_,_,_,_,_,_,_,_,_,_,_,_,_,_,_,_,_,_,_,_]) (a':=⟨[_,_,_,_,_,_,_,_,_,_,_,_,_,_,_,_,_,_,_,_,_,_,_,_,_,_,_,_,_,_,_,_,_,_,_,_,_,_,_,_,_,_,_,_,_,_,_,_,_,_,_,_,_,_,_].toArray,[]⟩) rfl (by kernel_rfl) (by kernel_rfl) (by kernel_rfl) (by kernel_rfl) (by kernel_rfl) (fun _ _ _ h_=>h_) (by kernel_rfl) (fun w_ hS_=>?go) (zk hx166_0 (zk hx169_0 (zk hx169_1 z0))) rfl rfl ?_
          case go=>obtain⟨hs0_,_,_,_⟩:=hS_;first|(go_simp;done)|(go_simp;rfl)
          refine zlp 16 (.pointer (some (ad169.add (x112.toNat*2)))) #[_,_,_,_,_,_,_,_,_,_,_,_,_,_,_,_,_,_,_,_,_,_] ⟨[_,_,_,_,_,_,_,_,_,_,_,_,_,_,_,_,_,_,_,_,_,_,_,_,_,_,_,_,_,_,_,_,_,_,_,_,_,_,_,_,_,_,_,_,_,_,_,_,_,_,_,_,_,_,_].toArray,[]⟩ (h:=?_)
          refine zlp 17 (.pointer (some ⟨(ad169.add (x112.toNat*2)).block,(ad169.add (x112.toNat*2)).off+1,none⟩)) #[_,_,_,_,_,_,_,_,_,_,_,_,_,_,_,_,_,_,_,_,_,_] ⟨[_,_,_,_,_,_,_,_,_,_,_,_,_,_,_,_,_,_,_,_,_,_,_,_,_,_,_,_,_,_,_,_,_,_,_,_,_,_,_,_,_,_,_,_,_,_,_,_,_,_,_,_,_,_,_].toArray,[]⟩ (h:=?_)
          refine MW.last_take (i:=18) (v:=.string ((rd_T53 (rd_L2 l0 x8) x112).f1)) (listed':= #[_,_,_,_,_,_,_,_,_,_,_,_,_,_,_,_,_,_,_,_,_,_]) (a':=⟨[_,_,_,_,_,_,_,_,_,_,_,_,_,_,_,_,_,_,_,_,_,_,_,_,_,_,_,_,_,_,_,_,_,_,_,_,_,_,_,_,_,_,_,_,_,_,_,_,_,_,_,_,_,_,_].toArray,[]⟩) rfl (by kernel_rfl) (by kernel_rfl) (by kernel_rfl) (by kernel_rfl) (by kernel_rfl) (fun _ _ _ h_=>h_) (by kernel_rfl) (fun w_ hS_=>?go) (zk hx166_0 (zk hx169_0 (zk hx169_1 z0))) rfl rfl ?_
          case go=>obtain⟨_,_,hs2_,_⟩:=hS_;first|(go_simp;done)|(go_simp;rfl)
          refine MW.last_act (i:=19) (listed':= #[true,true,true,true,true,true,true,true,true,true,true,true,true,true,true,true,true,true,true,true,false,false]) rfl (by kernel_rfl) (by kernel_rfl) (by decide) ?_
          replace HH:=zd HH
          obtain⟨t181,At182,HH⟩:=HH
          go_wp2_with ((with_reducible refine gc 29 rfl ?_);refine zc 29 (some 52) Try.func29 #[.string ((rd_T53 (rd_L2 l0 x8) x112).f1)] (h:=?_);(with_reducible refine(toponymref18_Value.calls k113  ((rd_T53 (rd_L2 l0 x8) x112).f1) t181 _  At182.out).mono ?_);rintro e w183 ⟨rfl,hb⟩;refine⟨_,rfl,?_⟩)
          refine zg ?_
          replace HF0:=zfb HF0.out hb
          replace hx166_0:=zcl hx166_0 hb
          replace hx169_0:=zcl hx169_0 hb
          replace hx169_1:=zcl hx169_1 hb
          replace HB:=zhb HB.out hb
          clear hb
          clear p166 q166 p169 q169
          refine wpList_nil ?_
          change MW.Cells _ _∧wpAnyLast _ _ _ _ _ _ 2 #[true,true,true,true,true,true,true,true,true,true,true,true,true,true,true,true,true,true,true,true,false,false] ⟨[_,_,_,_,_,_,_,_,_,_,_,_,_,_,_,_,_,_,_,_,_,_,_,_,_,_,_,_,_,_,_,_,_,_,_,_,_,_,_,_,_,_,_,_,_,_,_,_,_,_,_,_,_,_,_].toArray,[]⟩ _
          refine⟨(zk hx166_0 (zk hx169_0 (zk hx169_1 z0))),?_⟩
          by_cases c184:((x111++((rd_T53 (rd_L2 l0 x8) x112).f0))++(⟨#[61]⟩:ByteArray)).size+t181.size≤9223372036854775807
          ·replace HH:=MW.hpos HH c184
           have hk185:(9223372036854775807<((x111++((rd_T53 (rd_L2 l0 x8) x112).f0))++(⟨#[61]⟩:ByteArray)).size+t181.size)=False:=eq_false (Nat.not_lt.2 c184)
           (try simp only[hk185,Bool.not_true,Bool.not_false])
           have hk186:(((x111++((rd_T53 (rd_L2 l0 x8) x112).f0))++(⟨#[61]⟩:ByteArray)).size+t181.size≤9223372036854775807)=True:=eq_true c184
           (try simp only[hk186,Bool.not_true,Bool.not_false])
           have hk187:decide (((x111++((rd_T53 (rd_L2 l0 x8) x112).f0))++(⟨#[61]⟩:ByteArray)).size+t181.size≤9223372036854775807)=true:=decide_eq_true c184
           (try simp only[hk187,Bool.not_true,Bool.not_false])
           try have hk188:(9223372036854775807<((x111.size+((rd_T53 (rd_L2 l0 x8) x112).f0).size)+1)+t181.size)=False:=eq_false (Nat.not_lt.2 (show((x111.size+((rd_T53 (rd_L2 l0 x8) x112).f0).size)+1)+t181.size≤9223372036854775807 from by have h_:=c184;simp only[ByteArray.size_append] at h_;exact h_))
           try have hk189:(((x111.size+((rd_T53 (rd_L2 l0 x8) x112).f0).size)+1)+t181.size≤9223372036854775807)=True:=eq_true (show((x111.size+((rd_T53 (rd_L2 l0 x8) x112).f0).size)+1)+t181.size≤9223372036854775807 from by have h_:=c184;simp only[ByteArray.size_append] at h_;exact h_)
           try have hk190:decide (((x111.size+((rd_T53 (rd_L2 l0 x8) x112).f0).size)+1)+t181.size≤9223372036854775807)=true:=decide_eq_true (show((x111.size+((rd_T53 (rd_L2 l0 x8) x112).f0).size)+1)+t181.size≤9223372036854775807 from by have h_:=c184;simp only[ByteArray.size_append] at h_;exact h_)
           clear c184
           refine zlp 20 (.string (((x111++((rd_T53 (rd_L2 l0 x8) x112).f0))++(⟨#[61]⟩:ByteArray))++t181)) #[_,_,_,_,_,_,_,_,_,_,_,_,_,_,_,_,_,_,_,_,_,_] ⟨[_,_,_,_,_,_,_,_,_,_,_,_,_,_,_,_,_,_,_,_,_,_,_,_,_,_,_,_,_,_,_,_,_,_,_,_,_,_,_,_,_,_,_,_,_,_,_,_,_,_,_,_,_,_,_].toArray,[]⟩ (h:=?_)
           refine zlp 21 (.string (((x111++((rd_T53 (rd_L2 l0 x8) x112).f0))++(⟨#[61]⟩:ByteArray))++t181)) #[_,_,_,_,_,_,_,_,_,_,_,_,_,_,_,_,_,_,_,_,_,_] ⟨[_,_,_,_,_,_,_,_,_,_,_,_,_,_,_,_,_,_,_,_,_,_,_,_,_,_,_,_,_,_,_,_,_,_,_,_,_,_,_,_,_,_,_,_,_,_,_,_,_,_,_,_,_,_,_].toArray,[]⟩ (h:=?_)
           refine MW.last_done (by kernel_rfl) ?_ _
           clear hwr_
           go_wp2
           go_roundg k113
           case measure=>have:=HK0.out;have:=HK2.out;omega
           case rel=>exact⟨((x111++((rd_T53 (rd_L2 l0 x8) x112).f0))++(⟨#[61]⟩:ByteArray))++t181,wrap64 (x112+1),(by first|rfl|(simp;done)|(simp[*];done)),(by first|rfl|(simp;done)|(simp[*];done)),HH,⟨by have:=HK0.out;have:=HK2.out;omega⟩,⟨HF0.out⟩,⟨HB.out⟩⟩
          exact absurd HH.out (by rw[if_neg c184];simp)
         exact absurd HH.out (by rw[if_neg c174];simp)
        exact absurd HH.out (by rw[if_neg c170];simp)
       go_wp2
       go_roundg k113
       case measure=>have:=HK0.out;have:=HK2.out;omega
       case rel=>exact⟨x111,wrap64 (x8+1),(by first|rfl|(simp;done)|(simp[*];done)),(by first|rfl|(simp;done)|(simp[*];done)),HH,⟨by have:=HK0.out;have:=HK2.out;omega⟩,⟨HF0.out⟩,⟨HB.out⟩⟩
    have H:=HH.out
    simp only[Option.some.injEq,Prod.mk.injEq] at H
    obtain⟨rfl,rfl⟩:=H
    clear HH
    go_wp2
    go_ret2
    exact zfi HB.out
 have H:=HH.out
 simp only[Option.some.injEq,Prod.mk.injEq] at H
 obtain⟨rfl,rfl⟩:=H
 clear HH
 go_wp2
 go_ret2
 exact zfi (by repeat(first|(with_reducible first|exact HB.out|apply below_alloc|apply pw_below_drewN|apply below_drew1)|exact HB.out))
end Go.Proofs.Ytapinanmmhdpcaa.GA
