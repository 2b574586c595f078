import Derived.Test.YtdjkemhmhkpmkaaGA0
import Derived.Test.YtdjkemhmhkpmkaaGAF25
import Derived.Test.YtdjkemhmhkpmkaaGAF28
import Derived.Test.YtdjkemhmhkpmkaaGAF53
import Derived.Test.YtdjkemhmhkpmkaaGM1
import Derived.Test.YtdjkemhmhkpmkaaGM2
namespace Go.Proofs.Ytdjkemhmhkpmkaa.GA
open Go.RowKit Go.Proofs.Ytdjkemhmhkpmkaa Go.Proofs.Ytdjkemhmhkpmkaa.MW Go.Proofs.YtdjkemhmhkpmkaaW.PrintWords Go.Proofs.YtdjkemhmhkpmkaaW.PrintLast Go.Proofs.YtdjkemhmhkpmkaaW.PrintMore
attribute [local go_sem] max2_int min2_int max_two min_two
set_option maxHeartbeats 8000000
set_option maxRecDepth 100000
set_option linter.unusedVariables false
set_option linter.unusedSimpArgs false
def reply_Encode.l0:Nat→(List ByteArray)→Int→(List (S27))→Option (List ByteArray × Int)
 |0,_,_,_=>none
 |k+1,x1,x4,l0=>if x4<(l0.length:Int) then(if 0≤x4 then((reply_Check.f k ((rd_T27 l0 x4).f0) ((rd_T27 l0 x4).f1) ((rd_T27 l0 x4).f2) ((rd_T27 l0 x4).f3) ((rd_T27 l0 x4).f4) ((rd_T27 l0 x4).f5) ((rd_T27 l0 x4).f6) ((rd_T27 l0 x4).f7)).bind fun t32=>(if t32=0 then((reply_laid.f k ((rd_T27 l0 x4).f0) ((rd_T27 l0 x4).f1) ((rd_T27 l0 x4).f2) ((rd_T27 l0 x4).f3) ((rd_T27 l0 x4).f4) ((rd_T27 l0 x4).f5) ((rd_T27 l0 x4).f6) ((rd_T27 l0 x4).f7)).bind fun bt46=>(if bt46.2=0 then(if x1.length<8796093022208 then((some (x1++[bt46.1]:List ByteArray)).bind fun y62=>((reply_Encode.l0 k y62 (wrap64 (x4+1)) l0))) else(none)) else(some (([]:List ByteArray),bt46.2)))) else(some (([]:List ByteArray),t32)))) else(none)) else(some (x1,0))
def reply_Encode.f (k:Nat) (l0:List (S27)):Option (List ByteArray × Int):=(reply_Encode.l0 k ([]:List ByteArray) 0 l0)
theorem reply_Encode.mono_l:∀ k,(∀ y0 y1 y2,LeO (reply_Encode.l0 k y0 y1 y2) (reply_Encode.l0 (k+1) y0 y1 y2))
 |0=>fun _ _ _ r h=>by simp[reply_Encode.l0] at h
 |k+1=>by
  have ih0:=reply_Encode.mono_l k
  ·intro y0 y1 y2
   unfold reply_Encode.l0
   with_reducible repeat' first|exact ih0 _ _ _|exact reply_Check.mono _ _ _ _ _ _ _ _ _|exact reply_laid.mono _ _ _ _ _ _ _ _ _|exact LeO.refl _|exact LeO.none _|refine LeO.ite ?_ ?_|refine LeO.bind ?_ (fun _=>?_)
theorem reply_Encode.mono:∀ a0_ k,LeO (reply_Encode.f k a0_) (reply_Encode.f (k+1) a0_):=by
 intro a0_ k
 have ih0:=reply_Encode.mono_l k
 unfold reply_Encode.f
 with_reducible repeat' first|exact ih0 _ _ _|exact reply_Check.mono _ _ _ _ _ _ _ _ _|exact reply_laid.mono _ _ _ _ _ _ _ _ _|exact LeO.refl _|exact LeO.none _|refine LeO.ite ?_ ?_|refine LeO.bind ?_ (fun _=>?_)
theorem reply_Encode.calls (k:Nat) (P_:Nat→Prop) (A0:Option Addr) (c0:Nat) (l0:List (S27)) (r1:List ByteArray) (r2:Int) (w:World) (hs0:Kd.F k27 w P_ A0 l0.length l0) (hc0:l0.length≤c0) (h:reply_Encode.f k l0=some (r1,r2)):
  Calls Try.prog 12 #[.slice A0 l0.length c0] w (fun e w'=>∃ v0_:Value,e=.returned (.tuple #[v0_,.int .i64 r2])∧Kd.N Kd.string 9 w' w.heap.size (fun k_=>P_ k_∨w.heap.size≤k_) v0_ r1∧Below w.heap.size w w'):=by
 unfold reply_Encode.f at h
 have HH:=za h
 clear h
 have HF0:=zfp hs0
 clear hs0 hc0
 have HB:=za (Below.refl w.heap.size w)
 have hu27:=Try.underlying27
 go_enter Try.func12,Try.ntmps12
 go_wp2
 go_loopg [4,12] k (fun kq u4 u12 w'=>∃ (x1:List ByteArray) (x4:Int),u12=.int .i64 x4∧Aside0 ((reply_Encode.l0 kq x1 x4 l0)=some (r1,r2))∧Aside0 (kq≤k)∧Aside0 (Kd.F k27 w' (fun k_=>(P_ k_∨w.heap.size≤k_)∧some k_≠(u4:Value).ownBlock) A0 l0.length l0)∧Aside0 (Kd.N Kd.string 9 w' w.heap.size (fun k_=>(P_ k_∨w.heap.size≤k_)) u4 x1)∧Aside0 (Below w.heap.size w w'))
 case atStart=>exact⟨([]:List ByteArray),0,(by first|rfl|(simp;done)|(simp[*];done)),HH,⟨Nat.le_refl _⟩,⟨(Kd.F_mono (ok:=(fun k_=>(P_ k_∨w.heap.size≤k_))) HF0.out (fun k_ hk_=>⟨hk_,(by simp[Value.ownBlock])⟩))⟩,⟨Kd.N_nil _ _ _ _ _⟩,⟨HB.out⟩⟩
 case round=>
  clear HH
  clear HF0 HB
  obtain⟨x1,x4,rfl,HA,HK0,HF0,HN3,HB⟩:=hrel
  obtain⟨v2,rfl⟩:∃ z_:Value,z_=u4:=⟨_,rfl⟩
  obtain⟨w6,rfl⟩:∃ wo_:World,wo_=wr:=⟨_,rfl⟩
  cases gk with
  |zero=>exact absurd HA.out (by simp[reply_Encode.l0])
  |succ k5=>
   have H:=HA.out
   clear HA
   simp only[reply_Encode.l0] at H
   have HH:=za H
   clear H
   replace HH:=zqt HH
   rcases HH with⟨HH,hk8,hk9⟩|⟨HH,hk79,hk80⟩
   ·replace HH:=zqdo HH
    obtain⟨HH,hk11⟩:=HH
    have p12:0≤(x4:Int):=of_decide_eq_true (by first|(with_reducible assumption)|assumption)
    have q12:x4<(l0.length:Int):=of_decide_eq_true (by first|(with_reducible assumption)|assumption)
    obtain⟨ad12,A12_7,c12_7,e12,hx12_0,hx12_1,hx12_2,hx12_3,hx12_4,hx12_5,hx12_6,hx12_7,hl12_7,hi12_7⟩:=atF_T27 HF0.out x4 p12 q12
    cases e12
    have HF12_7:=za hi12_7
    have HL12_7:=za hl12_7
    clear hi12_7 hl12_7
    replace p12:=eq_true p12
    replace q12:=eq_true q12
    go_wp2_with ((with_reducible refine gd 6 rfl ?_);refine zb 6 27 #[.int .i64 0,.int .i64 0,.bool false,.int .i64 0,.string (⟨#[]⟩:ByteArray),.string (⟨#[]⟩:ByteArray),.string (⟨#[]⟩:ByteArray),.slice none 0 0] (h:=?_);intro g13 hg w14 BKg13 hb)
    refine zg ?_
    have GEg13:=zge hg (below_size HB.out)
    replace HF0:=zfe HF0.out hg hb
    replace HF12_7:=zfe HF12_7.out hg hb
    replace HN3:=zne HN3.out hg hb
    replace HB:=zhb HB.out hb
    clear hg hb
    clear hx12_0 hx12_1 hx12_2 hx12_3 hx12_4 hx12_5 hx12_6 hx12_7 p12 q12
    replace cBKg13:=MB.lz8 BKg13.out
    go_wp2_with ((with_reducible refine gs 27 6 rfl ?_);refine zs 27 6 #[.int .i64 ((rd_T27 l0 x4).f0),.int .i64 ((rd_T27 l0 x4).f1),.bool ((rd_T27 l0 x4).f2),.int .i64 ((rd_T27 l0 x4).f3),.string ((rd_T27 l0 x4).f4),.string ((rd_T27 l0 x4).f5),.string ((rd_T27 l0 x4).f6),.slice A12_7 ((rd_T27 l0 x4).f7).length c12_7] BKg13.out [.int .i64 ((rd_T27 l0 x4).f0),.int .i64 ((rd_T27 l0 x4).f1),.bool ((rd_T27 l0 x4).f2),.int .i64 ((rd_T27 l0 x4).f3),.string ((rd_T27 l0 x4).f4),.string ((rd_T27 l0 x4).f5),.string ((rd_T27 l0 x4).f6),.slice A12_7 ((rd_T27 l0 x4).f7).length c12_7] (h:=?_);intro w23 hbk hg)
    refine zg ?_
    replace HF0:=zfg HF0.out hg fun k_ hk_=>hk_.2
    replace HF12_7:=zfg HF12_7.out hg fun k_ hk_=>hk_.2
    replace HN3:=zng HN3.out hg fun k_ hk_=>hk_.2
    replace HB:=zhg HB.out hg (below_size HB.out) GEg13
    replace BKg13:=hbk
    clear hg hbk
    replace cBKg13:=MB.lz8 BKg13.out
    replace HH:=zd HH
    obtain⟨t32,At33,HH⟩:=HH
    go_wp2_with ((with_reducible refine gc 10 rfl ?_);refine zc 10 (some 17) Try.func10 #[.agg #[.int .i64 ((rd_T27 l0 x4).f0),.int .i64 ((rd_T27 l0 x4).f1),.bool ((rd_T27 l0 x4).f2),.int .i64 ((rd_T27 l0 x4).f3),.string ((rd_T27 l0 x4).f4),.string ((rd_T27 l0 x4).f5),.string ((rd_T27 l0 x4).f6),.slice A12_7 ((rd_T27 l0 x4).f7).length c12_7]] (h:=?_);(with_reducible refine(reply_Check.calls k5 (fun k_=>((P_ k_∨w.heap.size≤k_)∧some k_≠(v2:Value).ownBlock)∧k_≠g13) ((rd_T27 l0 x4).f0) ((rd_T27 l0 x4).f1) ((rd_T27 l0 x4).f2) ((rd_T27 l0 x4).f3) ((rd_T27 l0 x4).f4) ((rd_T27 l0 x4).f5) ((rd_T27 l0 x4).f6) _ _ ((rd_T27 l0 x4).f7) t32 _ HF12_7.out HL12_7.out At33.out).mono ?_);rintro e w34 ⟨rfl,hb⟩;refine⟨_,rfl,?_⟩)
    refine zg ?_
    replace HF0:=zfb HF0.out hb
    replace HF12_7:=zfb HF12_7.out hb
    replace HN3:=znb HN3.out hb
    replace BKg13:=zbb BKg13.out hb
    replace HB:=zhb HB.out hb
    clear hb
    replace cBKg13:=MB.lz8 BKg13.out
    replace HH:=zqe HH
    rcases HH with⟨HH,hk44,hk45⟩|⟨HH,hk76,hk77⟩
    ·replace HH:=zd HH
     obtain⟨⟨t46,t47⟩,At48,HH⟩:=HH
     dsimp only at HH
     go_wp2_with ((with_reducible refine gc 25 rfl ?_);refine zc 25 (some 23) Try.func25 #[.agg #[.int .i64 ((rd_T27 l0 x4).f0),.int .i64 ((rd_T27 l0 x4).f1),.bool ((rd_T27 l0 x4).f2),.int .i64 ((rd_T27 l0 x4).f3),.string ((rd_T27 l0 x4).f4),.string ((rd_T27 l0 x4).f5),.string ((rd_T27 l0 x4).f6),.slice A12_7 ((rd_T27 l0 x4).f7).length c12_7]] (h:=?_);(with_reducible refine(reply_laid.calls k5 (fun k_=>((P_ k_∨w.heap.size≤k_)∧some k_≠(v2:Value).ownBlock)∧k_≠g13) ((rd_T27 l0 x4).f0) ((rd_T27 l0 x4).f1) ((rd_T27 l0 x4).f2) ((rd_T27 l0 x4).f3) ((rd_T27 l0 x4).f4) ((rd_T27 l0 x4).f5) ((rd_T27 l0 x4).f6) _ _ ((rd_T27 l0 x4).f7) t46 t47 _ HF12_7.out HL12_7.out At48.out).mono ?_);rintro e w49 ⟨rfl,hb⟩;refine⟨_,rfl,?_⟩)
     refine zg ?_
     replace HF0:=zfb HF0.out hb
     replace HN3:=znb HN3.out hb
     replace BKg13:=zbb BKg13.out hb
     replace HB:=zhb HB.out hb
     clear hb
     replace cBKg13:=MB.lz8 BKg13.out
     replace HH:=zqe HH
     rcases HH with⟨HH,hk59,hk60⟩|⟨HH,hk74,hk75⟩
     ·obtain⟨HH,LMc61⟩:=zlm HH
      obtain⟨y62,hy62⟩:∃ y_:List ByteArray,y_=(x1++[t46]):=⟨_,rfl⟩
      have H:((reply_Encode.l0 k5 y62 (wrap64 (x4+1)) l0))=some (r1,r2):=by rw[hy62];exact HH.out
      replace HH:=za H
      clear H
      have NYy62:=za hy62
      clear hy62
      go_wp2_with (((with_reducible refine gate_dst (N:=32) rfl ?_);(try(refine gate_guard (by rfl) ?_;dsimp only));refine Kd.N_append Kd.string w.heap.size rfl _ _ 31 9 (.string ⟨#[]⟩) 16 rfl Try.underlying31 info9 rfl (by decide) (by decide) (v2) x1 t46 [.string t46] (fun k_=>(P_ k_∨w.heap.size≤k_)∧k_≠g13) (fun k_=>(fun k_=>(P_ k_∨w.heap.size≤k_)∧k_≠g13) k_∧some k_≠(v2:Value).ownBlock) rfl rfl (fun _ _=>rfl) (fun _ hk_=>hk_) (fun k_ h_=>⟨.inr (Nat.le_trans (below_size (by repeat(first|(with_reducible first|exact HB.out|apply below_alloc|apply pw_below_drewN|apply below_drew1)|exact HB.out))) h_),Kd.freshB (g:=g13) (o:=.cells #[.int .i64 ((rd_T27 l0 x4).f0),.int .i64 ((rd_T27 l0 x4).f1),.bool ((rd_T27 l0 x4).f2),.int .i64 ((rd_T27 l0 x4).f3),.string ((rd_T27 l0 x4).f4),.string ((rd_T27 l0 x4).f5),.string ((rd_T27 l0 x4).f6),.slice A12_7 ((rd_T27 l0 x4).f7).length c12_7] 27 (0,0)) (by(with_reducible repeat(first|refine blk_drewN ?_ _|refine blk_drew ?_|refine blk_alloc ?_ _));exact BKg13.out) k_ h_⟩) (by(with_reducible repeat(first|apply Kd.N_alloc|apply Kd.N_drewN|apply Kd.N_drew));exact HN3.out) (by repeat(first|(with_reducible first|exact HB.out|apply below_alloc|apply pw_below_drewN|apply below_drew1)|exact HB.out)) (below_size (by repeat(first|(with_reducible first|exact HB.out|apply below_alloc|apply pw_below_drewN|apply below_drew1)|exact HB.out))) (by first|(have:=LMc61.out;omega)|(have:=LMc61.out;simp at *;omega)) ?_;intro v63 w64 hn1 hb1 hg1 hat1);replace hat1:=za hat1;refine stop_ ?_)
      refine zg ?_
      replace hat1:=hat1.out
      replace HF0:=za (Kd.F_mono (Kd.F_after (v:=v2) (ok:=(fun k_=>(P_ k_∨w.heap.size≤k_)∧k_≠g13)) (Kd.F_mono (ok:=(fun k_=>((P_ k_∨w.heap.size≤k_)∧some k_≠(v2:Value).ownBlock)∧k_≠g13)) (by(with_reducible repeat(first|apply Kd.F_alloc|apply Kd.F_drewN|apply Kd.F_drew));exact HF0.out) (fun k_ hk_=>⟨⟨hk_.1.1,hk_.2⟩,hk_.1.2⟩)) hg1 hat1) (fun k_ hk_=>hk_):Kd.F k27 _ (fun k_=>((P_ k_∨w.heap.size≤k_)∧k_≠g13)∧some k_≠(v63:Value).ownBlock) _ _ _)
      replace BKg13:=za (blk_grown (g:=g13) (o:=.cells #[.int .i64 ((rd_T27 l0 x4).f0),.int .i64 ((rd_T27 l0 x4).f1),.bool ((rd_T27 l0 x4).f2),.int .i64 ((rd_T27 l0 x4).f3),.string ((rd_T27 l0 x4).f4),.string ((rd_T27 l0 x4).f5),.string ((rd_T27 l0 x4).f6),.slice A12_7 ((rd_T27 l0 x4).f7).length c12_7] 27 (0,0)) (by(with_reducible repeat(first|refine blk_drewN ?_ _|refine blk_drew ?_|refine blk_alloc ?_ _));exact BKg13.out) hg1 (Kd.N_away (ok:=(fun k_=>(P_ k_∨w.heap.size≤k_)∧k_≠g13)) HN3.out (fun k_ hk_=>hk_.2)))
      replace HB:=za hb1
      clear HN3
      have HN65:=za hn1
      clear hn1 hb1 hg1 hat1
      replace HN65:=za (by rw[NYy62.out];exact HN65.out:Kd.N Kd.string 9 w64 w.heap.size (fun k_=>(P_ k_∨w.heap.size≤k_)∧k_≠g13) v63 y62)
      replace cBKg13:=MB.lz8 BKg13.out
      go_wp2
      go_roundg k5
      case measure=>have:=HK0.out;omega
      case rel=>exact⟨y62,wrap64 (x4+1),(by first|rfl|(simp;done)|(simp[*];done)),HH,⟨by have:=HK0.out;omega⟩,⟨(Kd.F_mono (ok:=(fun k_=>((P_ k_∨w.heap.size≤k_)∧k_≠g13)∧some k_≠(v63:Value).ownBlock)) HF0.out (fun k_ hk_=>⟨hk_.1.1,hk_.2⟩))⟩,⟨(Kd.N_mono (ok:=(fun k_=>(P_ k_∨w.heap.size≤k_)∧k_≠g13)) HN65.out (fun k_ hk_=>hk_.1))⟩,⟨HB.out⟩⟩
     have H:=HH.out
     simp only[Option.some.injEq,Prod.mk.injEq] at H
     obtain⟨rfl,rfl⟩:=H
     clear HH
     go_wp2
     go_ret2
     exact⟨_,by first|rfl|(simp;done)|(simp[*];done),(Kd.N_nil _ _ _ _ _),HB.out⟩
    have H:=HH.out
    simp only[Option.some.injEq,Prod.mk.injEq] at H
    obtain⟨rfl,rfl⟩:=H
    clear HH
    go_wp2
    go_ret2
    exact⟨_,by first|rfl|(simp;done)|(simp[*];done),(Kd.N_nil _ _ _ _ _),HB.out⟩
   have H:=HH.out
   simp only[Option.some.injEq,Prod.mk.injEq] at H
   obtain⟨rfl,rfl⟩:=H
   clear HH
   go_wp2
   go_ret2
   exact⟨_,by first|rfl|(simp;done)|(simp[*];done),(Kd.N_mono (ok:=(fun k_=>(P_ k_∨w.heap.size≤k_))) HN3.out (fun k_ hk_=>hk_)),HB.out⟩

def reply_Decode.f (k:Nat) (a0:ByteArray):Option (Int × Int × Bool × Int × ByteArray × ByteArray × ByteArray × (List (S46)) × Int):=if (a0.size:Int)>4000 then(some (0,0,false,0,(⟨#[]⟩:ByteArray),(⟨#[]⟩:ByteArray),(⟨#[]⟩:ByteArray),([]:List (S46)),3)) else((ber_Decode.f k a0 0).bind fun bt25=>(if bt25.2.2.2.2.2.2=0 then(if bt25.2.2.2.2.2.1=(a0.size:Int) then((reply_read.f k bt25.1 bt25.2.1 bt25.2.2.1 bt25.2.2.2.1 bt25.2.2.2.2.1).bind fun bt84=>(if bt84.2.2.2.2.2.2.2.2=true then((reply_Check.f k bt84.1 bt84.2.1 bt84.2.2.1 bt84.2.2.2.1 bt84.2.2.2.2.1 bt84.2.2.2.2.2.1 bt84.2.2.2.2.2.2.1 bt84.2.2.2.2.2.2.2.1).bind fun t161=>(if t161=0 then((reply_laid.f k bt84.1 bt84.2.1 bt84.2.2.1 bt84.2.2.2.1 bt84.2.2.2.2.1 bt84.2.2.2.2.2.1 bt84.2.2.2.2.2.2.1 bt84.2.2.2.2.2.2.2.1).bind fun bt188=>(if bt188.2=0 then(if bt188.1.toList=a0.toList then(some (bt84.1,bt84.2.1,bt84.2.2.1,bt84.2.2.2.1,bt84.2.2.2.2.1,bt84.2.2.2.2.2.1,bt84.2.2.2.2.2.2.1,bt84.2.2.2.2.2.2.2.1,0)) else(some (0,0,false,0,(⟨#[]⟩:ByteArray),(⟨#[]⟩:ByteArray),(⟨#[]⟩:ByteArray),([]:List (S46)),270))) else(some (0,0,false,0,(⟨#[]⟩:ByteArray),(⟨#[]⟩:ByteArray),(⟨#[]⟩:ByteArray),([]:List (S46)),270)))) else(some (0,0,false,0,(⟨#[]⟩:ByteArray),(⟨#[]⟩:ByteArray),(⟨#[]⟩:ByteArray),([]:List (S46)),270)))) else(some (0,0,false,0,(⟨#[]⟩:ByteArray),(⟨#[]⟩:ByteArray),(⟨#[]⟩:ByteArray),([]:List (S46)),270)))) else(some (0,0,false,0,(⟨#[]⟩:ByteArray),(⟨#[]⟩:ByteArray),(⟨#[]⟩:ByteArray),([]:List (S46)),270))) else(some (0,0,false,0,(⟨#[]⟩:ByteArray),(⟨#[]⟩:ByteArray),(⟨#[]⟩:ByteArray),([]:List (S46)),270))))
theorem reply_Decode.mono:∀ a0_ k,LeO (reply_Decode.f k a0_) (reply_Decode.f (k+1) a0_):=by
 intro a0_ k
 unfold reply_Decode.f
 with_reducible repeat' first|exact ber_Decode.mono _ _ _|exact reply_Check.mono _ _ _ _ _ _ _ _ _|exact reply_laid.mono _ _ _ _ _ _ _ _ _|exact reply_read.mono _ _ _ _ _ _|exact LeO.refl _|exact LeO.none _|refine LeO.ite ?_ ?_|refine LeO.bind ?_ (fun _=>?_)
theorem reply_Decode.calls (k:Nat) (a0:ByteArray) (r1:Int) (r2:Int) (r3:Bool) (r4:Int) (r5:ByteArray) (r6:ByteArray) (r7:ByteArray) (r8:List (S46)) (r9:Int) (w:World) (h:reply_Decode.f k a0=some (r1,r2,r3,r4,r5,r6,r7,r8,r9)):
  Calls Try.prog 15 #[.string a0] w (fun e w'=>∃ (A7_:Option Addr) (c7_:Nat),e=.returned (.tuple #[.agg #[.int .i64 r1,.int .i64 r2,.bool r3,.int .i64 r4,.string r5,.string r6,.string r7,.slice A7_ r8.length c7_],.int .i64 r9])∧r8.length≤c7_∧Kd.F k46 w' (fun k_=>w.heap.size≤k_) A7_ r8.length r8∧Below w.heap.size w w'):=by
 unfold reply_Decode.f at h
 have HH:=za h
 clear h
 have HB:=za (Below.refl w.heap.size w)
 have hu27:=Try.underlying27
 have hu57:=Try.underlying57
 go_enter Try.func15,Try.ntmps15
 go_wp2_with ((with_reducible refine gd 2 rfl ?_);refine zb 2 27 #[.int .i64 0,.int .i64 0,.bool false,.int .i64 0,.string (⟨#[]⟩:ByteArray),.string (⟨#[]⟩:ByteArray),.string (⟨#[]⟩:ByteArray),.slice none 0 0] (h:=?_);intro g1 hg w2 BKg1 hb)
 refine zg ?_
 have GEg1:=zge hg (below_size HB.out)
 replace HB:=zhb HB.out hb
 clear hg hb
 replace cBKg1:=MB.lz8 BKg1.out
 replace HH:=zqK 4000 HH
 rcases HH with⟨HH,hk12,hk13⟩|⟨HH,hk23,hk24⟩
 ·go_wp2_with ((with_reducible refine gs 27 2 rfl ?_);refine zs 27 2 #[.int .i64 0,.int .i64 0,.bool false,.int .i64 0,.string (⟨#[]⟩:ByteArray),.string (⟨#[]⟩:ByteArray),.string (⟨#[]⟩:ByteArray),.slice none 0 0] BKg1.out [.int .i64 0,.int .i64 0,.bool false,.int .i64 0,.string (⟨#[]⟩:ByteArray),.string (⟨#[]⟩:ByteArray),.string (⟨#[]⟩:ByteArray),.slice none 0 0] (h:=?_);intro w14 hbk hg)
  refine zg ?_
  replace HB:=zhg HB.out hg (below_size HB.out) GEg1
  replace BKg1:=hbk
  clear hg hbk
  replace cBKg1:=MB.lz8 BKg1.out
  have H:=HH.out
  simp only[Option.some.injEq,Prod.mk.injEq] at H
  obtain⟨rfl,rfl,rfl,rfl,rfl,rfl,rfl,rfl,rfl⟩:=H
  clear HH
  go_wp2
  refine bodyPost_ret (results_ct rfl _ _ g1 27 #[.int .i64 0,.int .i64 0,.bool false,.int .i64 0,.string (⟨#[]⟩:ByteArray),.string (⟨#[]⟩:ByteArray),.string (⟨#[]⟩:ByteArray),.slice none 0 0] (0,0) _ rfl BKg1.out Try.underlying27 rfl (by kernel_rfl)) rfl ?_
  exact⟨none,0,by first|rfl|(simp;done)|(simp[*];done),(Nat.le_refl _),(Kd.F_nil _ _ _),HB.out⟩
 replace HH:=zd HH
 obtain⟨⟨t25,t26,t27,t28,t29,t30,t31⟩,At32,HH⟩:=HH
 dsimp only at HH
 go_wp2_with ((with_reducible refine gc 27 rfl ?_);refine zc 27 (some 17) Try.func27 #[.string a0,.int .i64 0] (h:=?_);(with_reducible refine(ber_Decode.calls k  a0 0 t25 t26 t27 t28 t29 t30 t31 _  At32.out).mono ?_);rintro e w33 ⟨v34,rfl,hn34,hb⟩;refine⟨_,rfl,?_⟩)
 refine zg ?_
 have hba:=Kd.N_base hn34
 have HN34:=znl (ok2:=(fun k_=>(w.heap.size≤k_)∧k_≠g1)) hn34 (below_size HB.out) (fun k_ h_=>⟨(Nat.le_trans (below_size HB.out) h_),Kd.freshB (g:=g1) BKg1.out k_ h_⟩)
 replace BKg1:=zbb BKg1.out hb
 replace HB:=zhb HB.out hb
 clear hn34 hba hb
 replace cBKg1:=MB.lz8 BKg1.out
 go_wp2_with ((with_reducible refine gd 4 rfl ?_);refine zb 4 57 #[.int .i64 0,.bool false,.int .i64 0,.string (⟨#[]⟩:ByteArray),.slice none 0 0] (h:=?_);intro g43 hg w44 BKg43 hb)
 refine zg ?_
 have GEg43:=zge hg (below_size HB.out)
 have NEg1_g43:=znq hg BKg1.out
 have NEg43_g1:=zsy NEg1_g43
 replace HN34:=zne HN34.out hg hb
 replace BKg1:=zbb BKg1.out hb
 replace HB:=zhb HB.out hb
 clear hg hb
 replace cBKg1:=MB.lz8 BKg1.out
 replace cBKg43:=MB.lz5 BKg43.out
 obtain⟨A59,cp60,he_⟩:=Kd.N_slice HN34.out
 subst he_
 go_wp2_with ((with_reducible refine gs 57 4 rfl ?_);refine zs 57 4 #[.int .i64 t25,.bool t26,.int .i64 t27,.string t28,(.slice A59 t29.length cp60)] BKg43.out [.int .i64 t25,.bool t26,.int .i64 t27,.string t28,(.slice A59 t29.length cp60)] (h:=?_);intro w58 hbk hg)
 refine zg ?_
 replace HN34:=zng HN34.out hg fun k_ hk_=>hk_.2
 replace BKg1:=zbg BKg1.out hg NEg1_g43
 replace HB:=zhg HB.out hg (below_size HB.out) GEg43
 replace BKg43:=hbk
 clear hg hbk
 replace cBKg1:=MB.lz8 BKg1.out
 replace cBKg43:=MB.lz5 BKg43.out
 replace HH:=zqe HH
 rcases HH with⟨HH,hk75,hk76⟩|⟨HH,hk351,hk352⟩
 ·replace HH:=zqe HH
  rcases HH with⟨HH,hk78,hk79⟩|⟨HH,hk335,hk336⟩
  ·have HL83:=za (Kd.N_reads' HN34.out).2.1
   have HF82:=za (Kd.N_F HN34.out)
   clear HN34
   replace HH:=zd HH
   obtain⟨⟨t84,t85,t86,t87,t88,t89,t90,t91,t92⟩,At93,HH⟩:=HH
   dsimp only at HH
   go_wp2_with ((with_reducible refine gc 28 rfl ?_);refine zc 28 (some 32) Try.func28 #[.agg #[.int .i64 t25,.bool t26,.int .i64 t27,.string t28,.slice A59 t29.length cp60]] (h:=?_);(with_reducible refine(reply_read.calls k (fun k_=>((w.heap.size≤k_)∧k_≠g1)∧k_≠g43) t25 t26 t27 t28 _ _ t29 t84 t85 t86 t87 t88 t89 t90 t91 t92 _ HF82.out HL83.out At93.out).mono ?_);rintro e w94 ⟨v95,rfl,hn95,hb⟩;refine⟨_,rfl,?_⟩)
   refine zg ?_
   have hba:=Kd.N_base hn95
   have HN95:=znl (ok2:=(fun k_=>((w.heap.size≤k_)∧k_≠g1)∧k_≠g43)) hn95 (below_size HB.out) (fun k_ hk_=>hk_.elim (fun h_=>h_) (fun h_=>⟨⟨(Nat.le_trans (below_size HB.out) h_),Kd.freshB (g:=g1) BKg1.out k_ h_⟩,Kd.freshB (g:=g43) BKg43.out k_ h_⟩))
   replace BKg1:=zbb BKg1.out hb
   replace BKg43:=zbb BKg43.out hb
   replace HB:=zhb HB.out hb
   clear hn95 hba hb
   replace cBKg1:=MB.lz8 BKg1.out
   replace cBKg43:=MB.lz5 BKg43.out
   go_wp2_with ((with_reducible refine gd 7 rfl ?_);refine zb 7 27 #[.int .i64 0,.int .i64 0,.bool false,.int .i64 0,.string (⟨#[]⟩:ByteArray),.string (⟨#[]⟩:ByteArray),.string (⟨#[]⟩:ByteArray),.slice none 0 0] (h:=?_);intro g109 hg w110 BKg109 hb)
   refine zg ?_
   have GEg109:=zge hg (below_size HB.out)
   have NEg1_g109:=znq hg BKg1.out
   have NEg109_g1:=zsy NEg1_g109
   have NEg43_g109:=znq hg BKg43.out
   replace HN95:=zne HN95.out hg hb
   replace BKg1:=zbb BKg1.out hb
   replace BKg43:=zbb BKg43.out hb
   replace HB:=zhb HB.out hb
   clear hg hb
   replace cBKg1:=MB.lz8 BKg1.out
   replace cBKg43:=MB.lz5 BKg43.out
   replace cBKg109:=MB.lz8 BKg109.out
   obtain⟨A133,cp134,he_⟩:=Kd.N_slice HN95.out
   subst he_
   go_wp2_with ((with_reducible refine gs 27 7 rfl ?_);refine zs 27 7 #[.int .i64 t84,.int .i64 t85,.bool t86,.int .i64 t87,.string t88,.string t89,.string t90,(.slice A133 t91.length cp134)] BKg109.out [.int .i64 t84,.int .i64 t85,.bool t86,.int .i64 t87,.string t88,.string t89,.string t90,(.slice A133 t91.length cp134)] (h:=?_);intro w132 hbk hg)
   refine zg ?_
   replace HN95:=zng HN95.out hg fun k_ hk_=>hk_.2
   replace BKg1:=zbg BKg1.out hg NEg1_g109
   replace BKg43:=zbg BKg43.out hg NEg43_g109
   replace HB:=zhg HB.out hg (below_size HB.out) GEg109
   replace BKg109:=hbk
   clear hg hbk
   replace cBKg1:=MB.lz8 BKg1.out
   replace cBKg43:=MB.lz5 BKg43.out
   replace cBKg109:=MB.lz8 BKg109.out
   by_cases c156:t92=true
   ·replace HH:=MW.hpos HH c156
    subst c156
    have HL160:=za (Kd.N_reads' HN95.out).2.1
    have HF159:=za (Kd.N_F HN95.out)
    clear HN95
    replace HH:=zd HH
    obtain⟨t161,At162,HH⟩:=HH
    go_wp2_with ((with_reducible refine gc 10 rfl ?_);refine zc 10 (some 39) Try.func10 #[.agg #[.int .i64 t84,.int .i64 t85,.bool t86,.int .i64 t87,.string t88,.string t89,.string t90,.slice A133 t91.length cp134]] (h:=?_);(with_reducible refine(reply_Check.calls k (fun k_=>(((w.heap.size≤k_)∧k_≠g1)∧k_≠g43)∧k_≠g109) t84 t85 t86 t87 t88 t89 t90 _ _ t91 t161 _ HF159.out HL160.out At162.out).mono ?_);rintro e w163 ⟨rfl,hb⟩;refine⟨_,rfl,?_⟩)
    refine zg ?_
    replace HF159:=zfb HF159.out hb
    replace BKg1:=zbb BKg1.out hb
    replace BKg43:=zbb BKg43.out hb
    replace BKg109:=zbb BKg109.out hb
    replace HB:=zhb HB.out hb
    clear hb
    replace cBKg1:=MB.lz8 BKg1.out
    replace cBKg43:=MB.lz5 BKg43.out
    replace cBKg109:=MB.lz8 BKg109.out
    replace HH:=zqe HH
    rcases HH with⟨HH,hk186,hk187⟩|⟨HH,hk289,hk290⟩
    ·replace HH:=zd HH
     obtain⟨⟨t188,t189⟩,At190,HH⟩:=HH
     dsimp only at HH
     go_wp2_with ((with_reducible refine gc 25 rfl ?_);refine zc 25 (some 45) Try.func25 #[.agg #[.int .i64 t84,.int .i64 t85,.bool t86,.int .i64 t87,.string t88,.string t89,.string t90,.slice A133 t91.length cp134]] (h:=?_);(with_reducible refine(reply_laid.calls k (fun k_=>(((w.heap.size≤k_)∧k_≠g1)∧k_≠g43)∧k_≠g109) t84 t85 t86 t87 t88 t89 t90 _ _ t91 t188 t189 _ HF159.out HL160.out At190.out).mono ?_);rintro e w191 ⟨rfl,hb⟩;refine⟨_,rfl,?_⟩)
     refine zg ?_
     replace HF159:=zfb HF159.out hb
     replace BKg1:=zbb BKg1.out hb
     replace BKg43:=zbb BKg43.out hb
     replace BKg109:=zbb BKg109.out hb
     replace HB:=zhb HB.out hb
     clear hb
     replace cBKg1:=MB.lz8 BKg1.out
     replace cBKg43:=MB.lz5 BKg43.out
     replace cBKg109:=MB.lz8 BKg109.out
     replace HH:=zqe HH
     rcases HH with⟨HH,hk214,hk215⟩|⟨HH,hk265,hk266⟩
     ·replace HH:=zqe HH
      rcases HH with⟨HH,hk217,hk218⟩|⟨HH,hk241,hk242⟩
      ·go_wp2_with ((with_reducible refine gs 27 2 rfl ?_);refine zs 27 2 #[.int .i64 t84,.int .i64 t85,.bool t86,.int .i64 t87,.string t88,.string t89,.string t90,.slice A133 t91.length cp134] BKg1.out [.int .i64 t84,.int .i64 t85,.bool t86,.int .i64 t87,.string t88,.string t89,.string t90,.slice A133 t91.length cp134] (h:=?_);intro w219 hbk hg)
       refine zg ?_
       replace HF159:=zfg HF159.out hg fun k_ hk_=>hk_.1.1.2
       replace BKg43:=zbg BKg43.out hg NEg43_g1
       replace BKg109:=zbg BKg109.out hg NEg109_g1
       replace HB:=zhg HB.out hg (below_size HB.out) GEg1
       replace BKg1:=hbk
       clear hg hbk
       replace cBKg1:=MB.lz8 BKg1.out
       replace cBKg43:=MB.lz5 BKg43.out
       replace cBKg109:=MB.lz8 BKg109.out
       have H:=HH.out
       simp only[Option.some.injEq,Prod.mk.injEq] at H
       obtain⟨rfl,rfl,rfl,rfl,rfl,rfl,rfl,rfl,rfl⟩:=H
       clear HH
       go_wp2
       refine bodyPost_ret (results_ct rfl _ _ g1 27 #[.int .i64 t84,.int .i64 t85,.bool t86,.int .i64 t87,.string t88,.string t89,.string t90,.slice A133 t91.length cp134] (0,0) _ rfl BKg1.out Try.underlying27 rfl (by kernel_rfl)) rfl ?_
       exact⟨_,_,by first|rfl|(simp;done)|(simp[*];done),HL160.out,(Kd.F_mono (ok:=(fun k_=>(((w.heap.size≤k_)∧k_≠g1)∧k_≠g43)∧k_≠g109)) HF159.out (fun k_ hk_=>hk_.1.1.1)),HB.out⟩
      go_wp2_with ((with_reducible refine gs 27 2 rfl ?_);refine zs 27 2 #[.int .i64 0,.int .i64 0,.bool false,.int .i64 0,.string (⟨#[]⟩:ByteArray),.string (⟨#[]⟩:ByteArray),.string (⟨#[]⟩:ByteArray),.slice none 0 0] BKg1.out [.int .i64 0,.int .i64 0,.bool false,.int .i64 0,.string (⟨#[]⟩:ByteArray),.string (⟨#[]⟩:ByteArray),.string (⟨#[]⟩:ByteArray),.slice none 0 0] (h:=?_);intro w243 hbk hg)
      refine zg ?_
      replace BKg43:=zbg BKg43.out hg NEg43_g1
      replace BKg109:=zbg BKg109.out hg NEg109_g1
      replace HB:=zhg HB.out hg (below_size HB.out) GEg1
      replace BKg1:=hbk
      clear hg hbk
      replace cBKg1:=MB.lz8 BKg1.out
      replace cBKg43:=MB.lz5 BKg43.out
      replace cBKg109:=MB.lz8 BKg109.out
      have H:=HH.out
      simp only[Option.some.injEq,Prod.mk.injEq] at H
      obtain⟨rfl,rfl,rfl,rfl,rfl,rfl,rfl,rfl,rfl⟩:=H
      clear HH
      go_wp2
      refine bodyPost_ret (results_ct rfl _ _ g1 27 #[.int .i64 0,.int .i64 0,.bool false,.int .i64 0,.string (⟨#[]⟩:ByteArray),.string (⟨#[]⟩:ByteArray),.string (⟨#[]⟩:ByteArray),.slice none 0 0] (0,0) _ rfl BKg1.out Try.underlying27 rfl (by kernel_rfl)) rfl ?_
      exact⟨none,0,by first|rfl|(simp;done)|(simp[*];done),(Nat.le_refl _),(Kd.F_nil _ _ _),HB.out⟩
     go_wp2_with ((with_reducible refine gs 27 2 rfl ?_);refine zs 27 2 #[.int .i64 0,.int .i64 0,.bool false,.int .i64 0,.string (⟨#[]⟩:ByteArray),.string (⟨#[]⟩:ByteArray),.string (⟨#[]⟩:ByteArray),.slice none 0 0] BKg1.out [.int .i64 0,.int .i64 0,.bool false,.int .i64 0,.string (⟨#[]⟩:ByteArray),.string (⟨#[]⟩:ByteArray),.string (⟨#[]⟩:ByteArray),.slice none 0 0] (h:=?_);intro w267 hbk hg)
     refine zg ?_
     replace BKg43:=zbg BKg43.out hg NEg43_g1
     replace BKg109:=zbg BKg109.out hg NEg109_g1
     replace HB:=zhg HB.out hg (below_size HB.out) GEg1
     replace BKg1:=hbk
     clear hg hbk
     replace cBKg1:=MB.lz8 BKg1.out
     replace cBKg43:=MB.lz5 BKg43.out
     replace cBKg109:=MB.lz8 BKg109.out
     have H:=HH.out
     simp only[Option.some.injEq,Prod.mk.injEq] at H
     obtain⟨rfl,rfl,rfl,rfl,rfl,rfl,rfl,rfl,rfl⟩:=H
     clear HH
     go_wp2
     refine bodyPost_ret (results_ct rfl _ _ g1 27 #[.int .i64 0,.int .i64 0,.bool false,.int .i64 0,.string (⟨#[]⟩:ByteArray),.string (⟨#[]⟩:ByteArray),.string (⟨#[]⟩:ByteArray),.slice none 0 0] (0,0) _ rfl BKg1.out Try.underlying27 rfl (by kernel_rfl)) rfl ?_
     exact⟨none,0,by first|rfl|(simp;done)|(simp[*];done),(Nat.le_refl _),(Kd.F_nil _ _ _),HB.out⟩
    go_wp2_with ((with_reducible refine gs 27 2 rfl ?_);refine zs 27 2 #[.int .i64 0,.int .i64 0,.bool false,.int .i64 0,.string (⟨#[]⟩:ByteArray),.string (⟨#[]⟩:ByteArray),.string (⟨#[]⟩:ByteArray),.slice none 0 0] BKg1.out [.int .i64 0,.int .i64 0,.bool false,.int .i64 0,.string (⟨#[]⟩:ByteArray),.string (⟨#[]⟩:ByteArray),.string (⟨#[]⟩:ByteArray),.slice none 0 0] (h:=?_);intro w291 hbk hg)
    refine zg ?_
    replace BKg43:=zbg BKg43.out hg NEg43_g1
    replace BKg109:=zbg BKg109.out hg NEg109_g1
    replace HB:=zhg HB.out hg (below_size HB.out) GEg1
    replace BKg1:=hbk
    clear hg hbk
    replace cBKg1:=MB.lz8 BKg1.out
    replace cBKg43:=MB.lz5 BKg43.out
    replace cBKg109:=MB.lz8 BKg109.out
    have H:=HH.out
    simp only[Option.some.injEq,Prod.mk.injEq] at H
    obtain⟨rfl,rfl,rfl,rfl,rfl,rfl,rfl,rfl,rfl⟩:=H
    clear HH
    go_wp2
    refine bodyPost_ret (results_ct rfl _ _ g1 27 #[.int .i64 0,.int .i64 0,.bool false,.int .i64 0,.string (⟨#[]⟩:ByteArray),.string (⟨#[]⟩:ByteArray),.string (⟨#[]⟩:ByteArray),.slice none 0 0] (0,0) _ rfl BKg1.out Try.underlying27 rfl (by kernel_rfl)) rfl ?_
    exact⟨none,0,by first|rfl|(simp;done)|(simp[*];done),(Nat.le_refl _),(Kd.F_nil _ _ _),HB.out⟩
   replace HH:=MW.hneg HH c156
   replace c156:=Bool.eq_false_iff.mpr c156
   subst c156
   go_wp2_with ((with_reducible refine gs 27 2 rfl ?_);refine zs 27 2 #[.int .i64 0,.int .i64 0,.bool false,.int .i64 0,.string (⟨#[]⟩:ByteArray),.string (⟨#[]⟩:ByteArray),.string (⟨#[]⟩:ByteArray),.slice none 0 0] BKg1.out [.int .i64 0,.int .i64 0,.bool false,.int .i64 0,.string (⟨#[]⟩:ByteArray),.string (⟨#[]⟩:ByteArray),.string (⟨#[]⟩:ByteArray),.slice none 0 0] (h:=?_);intro w313 hbk hg)
   refine zg ?_
   replace BKg43:=zbg BKg43.out hg NEg43_g1
   replace BKg109:=zbg BKg109.out hg NEg109_g1
   replace HB:=zhg HB.out hg (below_size HB.out) GEg1
   replace BKg1:=hbk
   clear hg hbk
   replace cBKg1:=MB.lz8 BKg1.out
   replace cBKg43:=MB.lz5 BKg43.out
   replace cBKg109:=MB.lz8 BKg109.out
   have H:=HH.out
   simp only[Option.some.injEq,Prod.mk.injEq] at H
   obtain⟨rfl,rfl,rfl,rfl,rfl,rfl,rfl,rfl,rfl⟩:=H
   clear HH
   go_wp2
   refine bodyPost_ret (results_ct rfl _ _ g1 27 #[.int .i64 0,.int .i64 0,.bool false,.int .i64 0,.string (⟨#[]⟩:ByteArray),.string (⟨#[]⟩:ByteArray),.string (⟨#[]⟩:ByteArray),.slice none 0 0] (0,0) _ rfl BKg1.out Try.underlying27 rfl (by kernel_rfl)) rfl ?_
   exact⟨none,0,by first|rfl|(simp;done)|(simp[*];done),(Nat.le_refl _),(Kd.F_nil _ _ _),HB.out⟩
  go_wp2_with ((with_reducible refine gs 27 2 rfl ?_);refine zs 27 2 #[.int .i64 0,.int .i64 0,.bool false,.int .i64 0,.string (⟨#[]⟩:ByteArray),.string (⟨#[]⟩:ByteArray),.string (⟨#[]⟩:ByteArray),.slice none 0 0] BKg1.out [.int .i64 0,.int .i64 0,.bool false,.int .i64 0,.string (⟨#[]⟩:ByteArray),.string (⟨#[]⟩:ByteArray),.string (⟨#[]⟩:ByteArray),.slice none 0 0] (h:=?_);intro w337 hbk hg)
  refine zg ?_
  replace BKg43:=zbg BKg43.out hg NEg43_g1
  replace HB:=zhg HB.out hg (below_size HB.out) GEg1
  replace BKg1:=hbk
  clear hg hbk
  replace cBKg1:=MB.lz8 BKg1.out
  replace cBKg43:=MB.lz5 BKg43.out
  have H:=HH.out
  simp only[Option.some.injEq,Prod.mk.injEq] at H
  obtain⟨rfl,rfl,rfl,rfl,rfl,rfl,rfl,rfl,rfl⟩:=H
  clear HH
  go_wp2
  refine bodyPost_ret (results_ct rfl _ _ g1 27 #[.int .i64 0,.int .i64 0,.bool false,.int .i64 0,.string (⟨#[]⟩:ByteArray),.string (⟨#[]⟩:ByteArray),.string (⟨#[]⟩:ByteArray),.slice none 0 0] (0,0) _ rfl BKg1.out Try.underlying27 rfl (by kernel_rfl)) rfl ?_
  exact⟨none,0,by first|rfl|(simp;done)|(simp[*];done),(Nat.le_refl _),(Kd.F_nil _ _ _),HB.out⟩
 go_wp2_with ((with_reducible refine gs 27 2 rfl ?_);refine zs 27 2 #[.int .i64 0,.int .i64 0,.bool false,.int .i64 0,.string (⟨#[]⟩:ByteArray),.string (⟨#[]⟩:ByteArray),.string (⟨#[]⟩:ByteArray),.slice none 0 0] BKg1.out [.int .i64 0,.int .i64 0,.bool false,.int .i64 0,.string (⟨#[]⟩:ByteArray),.string (⟨#[]⟩:ByteArray),.string (⟨#[]⟩:ByteArray),.slice none 0 0] (h:=?_);intro w353 hbk hg)
 refine zg ?_
 replace BKg43:=zbg BKg43.out hg NEg43_g1
 replace HB:=zhg HB.out hg (below_size HB.out) GEg1
 replace BKg1:=hbk
 clear hg hbk
 replace cBKg1:=MB.lz8 BKg1.out
 replace cBKg43:=MB.lz5 BKg43.out
 have H:=HH.out
 simp only[Option.some.injEq,Prod.mk.injEq] at H
 obtain⟨rfl,rfl,rfl,rfl,rfl,rfl,rfl,rfl,rfl⟩:=H
 clear HH
 go_wp2
 refine bodyPost_ret (results_ct rfl _ _ g1 27 #[.int .i64 0,.int .i64 0,.bool false,.int .i64 0,.string (⟨#[]⟩:ByteArray),.string (⟨#[]⟩:ByteArray),.string (⟨#[]⟩:ByteArray),.slice none 0 0] (0,0) _ rfl BKg1.out Try.underlying27 rfl (by kernel_rfl)) rfl ?_
 exact⟨none,0,by first|rfl|(simp;done)|(simp[*];done),(Nat.le_refl _),(Kd.F_nil _ _ _),HB.out⟩

def toponymref15_Decode.f (k:Nat) (a0:ByteArray) (a1:Int):Option (Int × Bool × Int × ByteArray × (List (S57)) × Int × Int):=if a1<0 then(some (0,false,0,(⟨#[]⟩:ByteArray),([]:List (S57)),0,2)) else(if a1>(a0.size:Int) then(some (0,false,0,(⟨#[]⟩:ByteArray),([]:List (S57)),0,2)) else((toponymref15_take.f k a0 a1 1).bind fun bt28=>(some (bt28.1,bt28.2.1,bt28.2.2.1,bt28.2.2.2.1,bt28.2.2.2.2.1,bt28.2.2.2.2.2.1,bt28.2.2.2.2.2.2))))
theorem toponymref15_Decode.mono:∀ a0_ a1_ k,LeO (toponymref15_Decode.f k a0_ a1_) (toponymref15_Decode.f (k+1) a0_ a1_):=by
 intro a0_ a1_ k
 unfold toponymref15_Decode.f
 with_reducible repeat' first|exact toponymref15_take.mono _ _ _ _|exact LeO.refl _|exact LeO.none _|refine LeO.ite ?_ ?_|refine LeO.bind ?_ (fun _=>?_)
theorem toponymref15_Decode.calls (k:Nat) (a0:ByteArray) (a1:Int) (r1:Int) (r2:Bool) (r3:Int) (r4:ByteArray) (r5:List (S57)) (r6:Int) (r7:Int) (w:World) (h:toponymref15_Decode.f k a0 a1=some (r1,r2,r3,r4,r5,r6,r7)):
  Calls Try.prog 29 #[.string a0,.int .i64 a1] w (fun e w'=>∃ v4_:Value,e=.returned (.tuple #[.agg #[.int .i64 r1,.bool r2,.int .i64 r3,.string r4,v4_],.int .i64 r6,.int .i64 r7])∧Kd.N k57 57 w' w.heap.size (fun k_=>w.heap.size≤k_) v4_ r5∧Below w.heap.size w w'):=by
 unfold toponymref15_Decode.f at h
 have HH:=za h
 clear h
 have HB:=za (Below.refl w.heap.size w)
 have hu57:=Try.underlying57
 go_enter Try.func29,Try.ntmps29
 go_wp2_with ((with_reducible refine gd 4 rfl ?_);refine zb 4 57 #[.int .i64 0,.bool false,.int .i64 0,.string (⟨#[]⟩:ByteArray),.slice none 0 0] (h:=?_);intro g1 hg w2 BKg1 hb)
 refine zg ?_
 have GEg1:=zge hg (below_size HB.out)
 replace HB:=zhb HB.out hb
 clear hg hb
 replace cBKg1:=MB.lz5 BKg1.out
 replace HH:=zqt HH
 rcases HH with⟨HH,hk9,hk10⟩|⟨HH,hk17,hk18⟩
 ·go_wp2_with ((with_reducible refine gs 57 4 rfl ?_);refine zs 57 4 #[.int .i64 0,.bool false,.int .i64 0,.string (⟨#[]⟩:ByteArray),.slice none 0 0] BKg1.out [.int .i64 0,.bool false,.int .i64 0,.string (⟨#[]⟩:ByteArray),.slice none 0 0] (h:=?_);intro w11 hbk hg)
  refine zg ?_
  replace HB:=zhg HB.out hg (below_size HB.out) GEg1
  replace BKg1:=hbk
  clear hg hbk
  replace cBKg1:=MB.lz5 BKg1.out
  have H:=HH.out
  simp only[Option.some.injEq,Prod.mk.injEq] at H
  obtain⟨rfl,rfl,rfl,rfl,rfl,rfl,rfl⟩:=H
  clear HH
  go_wp2
  refine bodyPost_ret (results_ctt rfl _ _ g1 57 #[.int .i64 0,.bool false,.int .i64 0,.string (⟨#[]⟩:ByteArray),.slice none 0 0] (0,0) _ rfl BKg1.out Try.underlying57 rfl (by kernel_rfl)) rfl ?_
  exact⟨_,by first|rfl|(simp;done)|(simp[*];done),(Kd.N_nil _ _ _ _ _),HB.out⟩
 replace HH:=zqg HH
 rcases HH with⟨HH,hk20⟩|⟨HH,hk27⟩
 ·go_wp2_with ((with_reducible refine gs 57 4 rfl ?_);refine zs 57 4 #[.int .i64 0,.bool false,.int .i64 0,.string (⟨#[]⟩:ByteArray),.slice none 0 0] BKg1.out [.int .i64 0,.bool false,.int .i64 0,.string (⟨#[]⟩:ByteArray),.slice none 0 0] (h:=?_);intro w21 hbk hg)
  refine zg ?_
  replace HB:=zhg HB.out hg (below_size HB.out) GEg1
  replace BKg1:=hbk
  clear hg hbk
  replace cBKg1:=MB.lz5 BKg1.out
  have H:=HH.out
  simp only[Option.some.injEq,Prod.mk.injEq] at H
  obtain⟨rfl,rfl,rfl,rfl,rfl,rfl,rfl⟩:=H
  clear HH
  go_wp2
  refine bodyPost_ret (results_ctt rfl _ _ g1 57 #[.int .i64 0,.bool false,.int .i64 0,.string (⟨#[]⟩:ByteArray),.slice none 0 0] (0,0) _ rfl BKg1.out Try.underlying57 rfl (by kernel_rfl)) rfl ?_
  exact⟨_,by first|rfl|(simp;done)|(simp[*];done),(Kd.N_nil _ _ _ _ _),HB.out⟩
 replace HH:=zd HH
 obtain⟨⟨t28,t29,t30,t31,t32,t33,t34⟩,At35,HH⟩:=HH
 dsimp only at HH
 go_wp2_with ((with_reducible refine gc 53 rfl ?_);refine zc 53 (some 18) Try.func53 #[.string a0,.int .i64 a1,.int .i64 1] (h:=?_);(with_reducible refine(toponymref15_take.calls k  a0 a1 1 t28 t29 t30 t31 t32 t33 t34 _  At35.out).mono ?_);rintro e w36 ⟨v37,rfl,hn37,hb⟩;refine⟨_,rfl,?_⟩)
 refine zg ?_
 have hba:=Kd.N_base hn37
 have HN37:=znl (ok2:=(fun k_=>(w.heap.size≤k_)∧k_≠g1)) hn37 (below_size HB.out) (fun k_ h_=>⟨(Nat.le_trans (below_size HB.out) h_),Kd.freshB (g:=g1) BKg1.out k_ h_⟩)
 replace BKg1:=zbb BKg1.out hb
 replace HB:=zhb HB.out hb
 clear hn37 hba hb
 replace cBKg1:=MB.lz5 BKg1.out
 obtain⟨A44,cp45,he_⟩:=Kd.N_slice HN37.out
 subst he_
 go_wp2_with ((with_reducible refine gs 57 4 rfl ?_);refine zs 57 4 #[.int .i64 t28,.bool t29,.int .i64 t30,.string t31,(.slice A44 t32.length cp45)] BKg1.out [.int .i64 t28,.bool t29,.int .i64 t30,.string t31,(.slice A44 t32.length cp45)] (h:=?_);intro w43 hbk hg)
 refine zg ?_
 replace HN37:=zng HN37.out hg fun k_ hk_=>hk_.2
 replace HB:=zhg HB.out hg (below_size HB.out) GEg1
 replace BKg1:=hbk
 clear hg hbk
 replace cBKg1:=MB.lz5 BKg1.out
 have H:=HH.out
 simp only[Option.some.injEq,Prod.mk.injEq] at H
 obtain⟨rfl,rfl,rfl,rfl,rfl,rfl,rfl⟩:=H
 clear HH
 go_wp2
 refine bodyPost_ret (results_ctt rfl _ _ g1 57 #[.int .i64 t28,.bool t29,.int .i64 t30,.string t31,(.slice A44 t32.length cp45)] (0,0) _ rfl BKg1.out Try.underlying57 rfl (by kernel_rfl)) rfl ?_
 exact⟨_,by first|rfl|(simp;done)|(simp[*];done),(Kd.N_mono (ok:=(fun k_=>(w.heap.size≤k_)∧k_≠g1)) HN37.out (fun k_ hk_=>hk_.1)),HB.out⟩

def toponymlaw27_awake.f (k:Nat)  :Option (Bool):=(reply_Result.f 1 3 0 (⟨#[]⟩:ByteArray)).bind fun bt1=>((reply_Encode.f k [(⟨bt1.1,bt1.2.1,bt1.2.2.1,bt1.2.2.2.1,bt1.2.2.2.2.1,bt1.2.2.2.2.2.1,bt1.2.2.2.2.2.2.1,bt1.2.2.2.2.2.2.2⟩:S27)]).bind fun bt23=>((reply_Decode.f k (⟨#[48,12,2,1,1,101,7,10,1,0,4,0,4,0]⟩:ByteArray)).bind fun bt28=>((reply_Decode.f k (⟨#[48,0]⟩:ByteArray)).bind fun bt59=>(if (bt23.1.length:Int)=1 then(if 0<(bt23.1.length:Int) then(if (rdOf ByteArray.empty bt23.1 (0:Int)).toList=([48,12,2,1,1,101,7,10,1,0,4,0,4,0]:List UInt8) then(if bt23.2=0 then(if bt28.1=1 then(if bt28.2.1=3 then(if bt28.2.2.2.2.2.2.2.2=0 then(if bt59.2.2.2.2.2.2.2.2=270 then((reply_Check.f k 0 0 false 0 (⟨#[]⟩:ByteArray) (⟨#[]⟩:ByteArray) (⟨#[]⟩:ByteArray) ([]:List (S46))).bind fun t143=>(if t143=270 then((reply_Same.f k bt28.1 bt28.2.1 bt28.2.2.1 bt28.2.2.2.1 bt28.2.2.2.2.1 bt28.2.2.2.2.2.1 bt28.2.2.2.2.2.2.1 bt28.2.2.2.2.2.2.2.1 bt28.1 bt28.2.1 bt28.2.2.1 bt28.2.2.2.1 bt28.2.2.2.2.1 bt28.2.2.2.2.2.1 bt28.2.2.2.2.2.2.1 bt28.2.2.2.2.2.2.2.1).bind fun t165=>(some t165)) else(some false))) else(some false)) else(some false)) else(some false)) else(some false)) else(some false)) else(some false)) else(none)) else(some false)))))
theorem toponymlaw27_awake.mono:∀ k,LeO (toponymlaw27_awake.f k) (toponymlaw27_awake.f (k+1)):=by
 intro  k
 unfold toponymlaw27_awake.f
 with_reducible repeat' first|exact reply_Check.mono _ _ _ _ _ _ _ _ _|exact reply_Decode.mono _ _|exact reply_Encode.mono _ _|exact reply_Same.mono _ _ _ _ _ _ _ _ _ _ _ _ _ _ _ _ _|exact LeO.refl _|exact LeO.none _|refine LeO.ite ?_ ?_|refine LeO.bind ?_ (fun _=>?_)
theorem toponymlaw27_awake.calls (k:Nat) (r:Bool) (w:World) (h:toponymlaw27_awake.f k  =some r):
  Calls Try.prog 8 #[] w (fun e w'=>e=.returned (.bool r)∧Below w.heap.size w w'):=by
 unfold toponymlaw27_awake.f at h
 have HH:=za h
 clear h
 have HB:=za (Below.refl w.heap.size w)
 have hu27:=Try.underlying27
 go_enter Try.func8,Try.ntmps8
 replace HH:=zd HH
 obtain⟨⟨t1,t2,t3,t4,t5,t6,t7,t8⟩,At9,HH⟩:=HH
 dsimp only at HH
 go_wp2_with ((with_reducible refine gc 19 rfl ?_);refine zc 19 (some 8) Try.func19 #[.int .i64 1,.int .i64 3,.int .i64 0,.string (⟨#[]⟩:ByteArray)] (h:=?_);(with_reducible refine(reply_Result.calls  1 3 0 (⟨#[]⟩:ByteArray) t1 t2 t3 t4 t5 t6 t7 t8 _  At9.out).mono ?_);rintro e w10 ⟨v11,rfl,hn11,hb⟩;refine⟨_,rfl,?_⟩)
 refine zg ?_
 have hba:=Kd.N_base hn11
 have HN11:=znl (ok2:=(fun k_=>(w.heap.size≤k_))) hn11 (below_size HB.out) (fun k_ h_=>(Nat.le_trans (below_size HB.out) h_))
 replace HB:=zhb HB.out hb
 clear hn11 hba hb
 obtain⟨A12,cp13,he_⟩:=Kd.N_slice HN11.out
 subst he_
 have HL15:=za (Kd.N_reads' HN11.out).2.1
 have HF14:=za (Kd.N_F HN11.out)
 clear HN11
 go_wp2_with (((with_reducible refine gate_dst (N:=9) rfl ?_);(try(refine gate_guard (by rfl) ?_;dsimp only));refine Kd.N_lit k27 w.heap.size 27 rfl (N':=9) rfl (xs:=[(⟨t1,t2,t3,t4,t5,t6,t7,t8⟩:S27)]) (inner:=[.int .i64 t1,.int .i64 t2,.bool t3,.int .i64 t4,.string t5,.string t6,.string t7,.slice A12 t8.length cp13]) (ok:=(fun k_=>(w.heap.size≤k_))) (okp:=(fun k_=>(w.heap.size≤k_))) ?hr ?hp (fun _ hk_=>hk_) ?hf HB.out (below_size HB.out) (by first|simp|decide) ?_;(case hr=>first|(go_simp;done)|(go_simp;rfl));(case hp=>exact(Reps.c8 (k27_mkF _ _ (⟨t1,t2,t3,t4,t5,t6,t7,t8⟩:S27) HL15.out HF14.out) (Reps.none _ _)));(case hf=>exact(show ∀ k_,w10.heap.size≤k_→(fun k_=>(w.heap.size≤k_)) k_ from fun k_ h_=>(Nat.le_trans (below_size HB.out) h_)) _ (Nat.le_refl _));intro v16 w17 hn1 hb1 hg1 hat1);replace hat1:=za hat1;refine stop_ ?_)
 refine zg ?_
 replace hat1:=hat1.out
 have hbe:=MW.grown_below hg1
 have hba:=MW.base_of hat1
 replace HB:=za hb1
 have HN18:=za hn1
 clear hn1 hb1 hg1 hat1 hbe hba
 obtain⟨A19,cp20,he_⟩:=Kd.N_slice HN18.out
 subst he_
 have HL22:=za (Kd.N_reads' HN18.out).2.1
 have HF21:=za (Kd.N_F HN18.out)
 clear HN18
 replace HH:=zd HH
 obtain⟨⟨t23,t24⟩,At25,HH⟩:=HH
 dsimp only at HH
 go_wp2_with ((with_reducible refine gc 12 rfl ?_);refine zc 12 (some 10) Try.func12 #[.slice A19 [(⟨t1,t2,t3,t4,t5,t6,t7,t8⟩:S27)].length cp20] (h:=?_);(with_reducible refine(reply_Encode.calls k (fun k_=>(w.heap.size≤k_)) _ _ [(⟨t1,t2,t3,t4,t5,t6,t7,t8⟩:S27)] t23 t24 _ HF21.out HL22.out At25.out).mono ?_);rintro e w26 ⟨v27,rfl,hn27,hb⟩;refine⟨_,rfl,?_⟩)
 refine zg ?_
 have hba:=Kd.N_base hn27
 have HN27:=znl (ok2:=(fun k_=>(w.heap.size≤k_))) hn27 (below_size HB.out) (fun k_ hk_=>hk_.elim (fun h_=>h_) (fun h_=>(Nat.le_trans (below_size HB.out) h_)))
 replace HB:=zhb HB.out hb
 clear hn27 hba hb
 replace HH:=zd HH
 obtain⟨⟨t28,t29,t30,t31,t32,t33,t34,t35,t36⟩,At37,HH⟩:=HH
 dsimp only at HH
 go_wp2_with ((with_reducible refine gc 15 rfl ?_);refine zc 15 (some 14) Try.func15 #[.string (⟨#[48,12,2,1,1,101,7,10,1,0,4,0,4,0]⟩:ByteArray)] (h:=?_);(with_reducible refine(reply_Decode.calls k  (⟨#[48,12,2,1,1,101,7,10,1,0,4,0,4,0]⟩:ByteArray) t28 t29 t30 t31 t32 t33 t34 t35 t36 _  At37.out).mono ?_);rintro e w38 ⟨A39,cp39,rfl,hl39,hn39,hb⟩;refine⟨_,rfl,?_⟩)
 refine zg ?_
 have HL39:=za hl39
 have HF39:=za (Kd.F_mono hn39 (fun k_ h_=>⟨(Nat.le_trans (below_size HB.out) h_),Kd.fresh' (Kd.N_lt HN27.out) k_ h_⟩):Kd.F k46 _ (fun k_=>(w.heap.size≤k_)∧some k_≠(v27:Value).ownBlock) _ _ _)
 clear hn39 hl39
 replace HN27:=znb HN27.out hb
 replace HB:=zhb HB.out hb
 clear hb
 go_wp2_with ((with_reducible refine gd 3 rfl ?_);refine zb 3 27 #[.int .i64 0,.int .i64 0,.bool false,.int .i64 0,.string (⟨#[]⟩:ByteArray),.string (⟨#[]⟩:ByteArray),.string (⟨#[]⟩:ByteArray),.slice none 0 0] (h:=?_);intro g40 hg w41 BKg40 hb)
 refine zg ?_
 have GEg40:=zge hg (below_size HB.out)
 replace HF39:=zfe HF39.out hg hb
 replace HN27:=zne HN27.out hg hb
 replace HB:=zhb HB.out hb
 clear hg hb
 replace cBKg40:=MB.lz8 BKg40.out
 go_wp2_with ((with_reducible refine gs 27 3 rfl ?_);refine zs 27 3 #[.int .i64 t28,.int .i64 t29,.bool t30,.int .i64 t31,.string t32,.string t33,.string t34,.slice A39 t35.length cp39] BKg40.out [.int .i64 t28,.int .i64 t29,.bool t30,.int .i64 t31,.string t32,.string t33,.string t34,.slice A39 t35.length cp39] (h:=?_);intro w50 hbk hg)
 refine zg ?_
 replace HF39:=zfg HF39.out hg fun k_ hk_=>hk_.2
 replace HN27:=zng HN27.out hg fun k_ hk_=>hk_.2
 replace HB:=zhg HB.out hg (below_size HB.out) GEg40
 replace BKg40:=hbk
 clear hg hbk
 replace cBKg40:=MB.lz8 BKg40.out
 replace HH:=zd HH
 obtain⟨⟨t59,t60,t61,t62,t63,t64,t65,t66,t67⟩,At68,HH⟩:=HH
 dsimp only at HH
 go_wp2_with ((with_reducible refine gc 15 rfl ?_);refine zc 15 (some 18) Try.func15 #[.string (⟨#[48,0]⟩:ByteArray)] (h:=?_);(with_reducible refine(reply_Decode.calls k  (⟨#[48,0]⟩:ByteArray) t59 t60 t61 t62 t63 t64 t65 t66 t67 _  At68.out).mono ?_);rintro e w69 ⟨A70,cp70,rfl,hl70,hn70,hb⟩;refine⟨_,rfl,?_⟩)
 refine zg ?_
 clear hn70 hl70
 replace HF39:=zfb HF39.out hb
 replace HN27:=znb HN27.out hb
 replace BKg40:=zbb BKg40.out hb
 replace HB:=zhb HB.out hb
 clear hb
 replace cBKg40:=MB.lz8 BKg40.out
 go_wp2_with ((with_reducible refine gd 5 rfl ?_);refine zb 5 27 #[.int .i64 0,.int .i64 0,.bool false,.int .i64 0,.string (⟨#[]⟩:ByteArray),.string (⟨#[]⟩:ByteArray),.string (⟨#[]⟩:ByteArray),.slice none 0 0] (h:=?_);intro g79 hg w80 BKg79 hb)
 refine zg ?_
 have GEg79:=zge hg (below_size HB.out)
 have NEg40_g79:=znq hg BKg40.out
 replace HF39:=zfe HF39.out hg hb
 replace HN27:=zne HN27.out hg hb
 replace BKg40:=zbb BKg40.out hb
 replace HB:=zhb HB.out hb
 clear hg hb
 replace cBKg40:=MB.lz8 BKg40.out
 replace cBKg79:=MB.lz8 BKg79.out
 go_wp2_with ((with_reducible refine gs 27 5 rfl ?_);refine zs 27 5 #[.int .i64 t59,.int .i64 t60,.bool t61,.int .i64 t62,.string t63,.string t64,.string t65,.slice A70 t66.length cp70] BKg79.out [.int .i64 t59,.int .i64 t60,.bool t61,.int .i64 t62,.string t63,.string t64,.string t65,.slice A70 t66.length cp70] (h:=?_);intro w97 hbk hg)
 refine zg ?_
 replace HF39:=zfg HF39.out hg fun k_ hk_=>hk_.2
 replace HN27:=zng HN27.out hg fun k_ hk_=>hk_.2
 replace BKg40:=zbg BKg40.out hg NEg40_g79
 replace HB:=zhg HB.out hg (below_size HB.out) GEg79
 replace BKg79:=hbk
 clear hg hbk
 replace cBKg40:=MB.lz8 BKg40.out
 replace cBKg79:=MB.lz8 BKg79.out
 obtain⟨A114,cp115,he_⟩:=Kd.N_slice HN27.out
 subst he_
 replace HH:=zqe HH
 rcases HH with⟨HH,hk117,hk118⟩|⟨HH,hk202,hk203⟩
 ·replace HH:=zqno 0 HH
  obtain⟨HH,hk120,hk121,hk122,hk123⟩:=HH
  have p124:0≤(0:Int):=by decide
  have q124:(0:Int)<(t23.length:Int):=of_decide_eq_true (by first|(with_reducible assumption)|assumption)
  obtain⟨ad124,e124,hx124_0⟩:=Kd.at_string (Kd.F_now (Kd.N_F HN27.out)) (0:Int) p124 q124
  cases e124
  (try simp only[show((0:Int)).toNat=0 from rfl] at hx124_0)
  (try rw[Addr.add_zero'] at hx124_0)
  replace p124:=eq_true p124
  replace q124:=eq_true q124
  replace HH:=zqe HH
  rcases HH with⟨HH,hk126,hk127⟩|⟨HH,hk196,hk197⟩
  ·replace HH:=zqe HH
   rcases HH with⟨HH,hk129,hk130⟩|⟨HH,hk194,hk195⟩
   ·replace HH:=zqe HH
    rcases HH with⟨HH,hk132,hk133⟩|⟨HH,hk192,hk193⟩
    ·replace HH:=zqe HH
     rcases HH with⟨HH,hk135,hk136⟩|⟨HH,hk190,hk191⟩
     ·replace HH:=zqe HH
      rcases HH with⟨HH,hk138,hk139⟩|⟨HH,hk188,hk189⟩
      ·replace HH:=zqe HH
       rcases HH with⟨HH,hk141,hk142⟩|⟨HH,hk186,hk187⟩
       ·replace HH:=zd HH
        obtain⟨t143,At144,HH⟩:=HH
        go_wp2_with ((with_reducible refine gc 10 rfl ?_);refine zc 10 (some 54) Try.func10 #[.agg #[.int .i64 0,.int .i64 0,.bool false,.int .i64 0,.string (⟨#[]⟩:ByteArray),.string (⟨#[]⟩:ByteArray),.string (⟨#[]⟩:ByteArray),.slice none 0 0]] (h:=?_);(refine(reply_Check.calls k (fun k_=>(((w.heap.size≤k_)∧some k_≠((.slice (some ad124) t23.length cp115):Value).ownBlock)∧k_≠g40)∧k_≠g79) 0 0 false 0 (⟨#[]⟩:ByteArray) (⟨#[]⟩:ByteArray) (⟨#[]⟩:ByteArray) _ _ ([]:List (S46)) t143 _ (Kd.F_nil _ _ _) (Nat.le_refl _) At144.out).mono ?_);rintro e w145 ⟨rfl,hb⟩;refine⟨_,rfl,?_⟩)
        refine zg ?_
        replace HF39:=zfb HF39.out hb
        replace BKg40:=zbb BKg40.out hb
        replace BKg79:=zbb BKg79.out hb
        replace HB:=zhb HB.out hb
        clear hb
        clear hx124_0 p124 q124
        replace cBKg40:=MB.lz8 BKg40.out
        replace cBKg79:=MB.lz8 BKg79.out
        replace HH:=zqe HH
        rcases HH with⟨HH,hk163,hk164⟩|⟨HH,hk184,hk185⟩
        ·replace HH:=zd HH
         obtain⟨t165,At166,HH⟩:=HH
         go_wp2_with ((with_reducible refine gc 18 rfl ?_);refine zc 18 (some 60) Try.func18 #[.agg #[.int .i64 t28,.int .i64 t29,.bool t30,.int .i64 t31,.string t32,.string t33,.string t34,.slice A39 t35.length cp39],.agg #[.int .i64 t28,.int .i64 t29,.bool t30,.int .i64 t31,.string t32,.string t33,.string t34,.slice A39 t35.length cp39]] (h:=?_);(with_reducible refine(reply_Same.calls k (fun k_=>(((w.heap.size≤k_)∧some k_≠((.slice (some ad124) t23.length cp115):Value).ownBlock)∧k_≠g40)∧k_≠g79) t28 t29 t30 t31 t32 t33 t34 _ _ t35 t28 t29 t30 t31 t32 t33 t34 _ _ t35 t165 _ HF39.out HL39.out HF39.out HL39.out At166.out).mono ?_);rintro e w167 ⟨rfl,hb⟩;refine⟨_,rfl,?_⟩)
         refine zg ?_
         replace BKg40:=zbb BKg40.out hb
         replace BKg79:=zbb BKg79.out hb
         replace HB:=zhb HB.out hb
         clear hb
         replace cBKg40:=MB.lz8 BKg40.out
         replace cBKg79:=MB.lz8 BKg79.out
         obtain rfl:=Option.some.inj HH.out
         clear HH
         go_wp2
         go_ret
         exact zfi HB.out
        obtain rfl:=Option.some.inj HH.out
        clear HH
        go_wp2
        go_ret
        exact zfi HB.out
       obtain rfl:=Option.some.inj HH.out
       clear HH
       go_wp2
       go_ret
       exact zfi HB.out
      obtain rfl:=Option.some.inj HH.out
      clear HH
      go_wp2
      go_ret
      exact zfi HB.out
     obtain rfl:=Option.some.inj HH.out
     clear HH
     go_wp2
     go_ret
     exact zfi HB.out
    obtain rfl:=Option.some.inj HH.out
    clear HH
    go_wp2
    go_ret
    exact zfi HB.out
   obtain rfl:=Option.some.inj HH.out
   clear HH
   go_wp2
   go_ret
   exact zfi HB.out
  obtain rfl:=Option.some.inj HH.out
  clear HH
  go_wp2
  go_ret
  exact zfi HB.out
 obtain rfl:=Option.some.inj HH.out
 clear HH
 go_wp2
 go_ret
 exact zfi HB.out
end Go.Proofs.Ytdjkemhmhkpmkaa.GA
