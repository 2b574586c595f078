import Derived.Test.YtapinanmmhdpcaaGA0
import Derived.Test.YtapinanmmhdpcaaGAF49
import Derived.Test.YtapinanmmhdpcaaMC
namespace Go.Proofs.Ytapinanmmhdpcaa.GA
open Go.RowKit Go.Proofs.Ytapinanmmhdpcaa Go.Proofs.Ytapinanmmhdpcaa.MW Go.Proofs.YtapinanmmhdpcaaW.PrintWords Go.Proofs.YtapinanmmhdpcaaW.PrintLast Go.Proofs.YtapinanmmhdpcaaW.PrintMore
attribute [local go_sem] max2_int min2_int max_two min_two
set_option maxHeartbeats 8000000
set_option maxRecDepth 100000
set_option linter.unusedVariables false
set_option linter.unusedSimpArgs false
mutual
def toponymref18_pair.l0:Nat→Int→ByteArray→Option (ByteArray × ByteArray × Bool)
 |0,_,_=>none
 |k+1,x5,a0=>if x5<(a0.size:Int) then(if 0≤x5 then(if (bt a0 x5)=61 then(if x5≥(a0.size:Int) then(some ((⟨#[]⟩:ByteArray),(⟨#[]⟩:ByteArray),false)) else(if x5≤(a0.size:Int) then((some (a0.extract 0 x5.toNat)).bind fun y28=>(if y28.size<140737488355328 then((toponymref18_pair.l1 k 0 (MB.numsOf y28) a0 x5)) else(none))) else(none))) else((toponymref18_pair.l0 k (wrap64 (x5+1)) a0))) else(none)) else(if x5≥(a0.size:Int) then(some ((⟨#[]⟩:ByteArray),(⟨#[]⟩:ByteArray),false)) else(if 0≤x5 then(if x5≤(a0.size:Int) then((some (a0.extract 0 x5.toNat)).bind fun y98=>(if y98.size<140737488355328 then((toponymref18_pair.l2 k 0 (MB.numsOf y98) a0 x5)) else(none))) else(none)) else(none)))
def toponymref18_pair.l1:Nat→Int→(List Int)→ByteArray→Int→Option (ByteArray × ByteArray × Bool)
 |0,_,_,_,_=>none
 |k+1,x35,x36,a0,x5=>if x35<(x36.length:Int) then(if 0≤x35 then(if (rd x36 x35)≥65 then(if (rd x36 x35)≤90 then((some (List.set x36 x35.toNat (((rd x36 x35)+32) % 256):List Int)).bind fun y53=>((toponymref18_pair.l1 k (wrap64 (x35+1)) y53 a0 x5))) else((toponymref18_pair.l1 k (wrap64 (x35+1)) x36 a0 x5))) else((toponymref18_pair.l1 k (wrap64 (x35+1)) x36 a0 x5))) else(none)) else(if 0≤(wrap64 (x5+1)) then(if (wrap64 (x5+1))≤(a0.size:Int) then((toponymref18_value.f k (a0.extract (wrap64 (x5+1)).toNat a0.size)).bind fun bt68=>(some (strOfNums x36,bt68.1,bt68.2))) else(none)) else(none))
def toponymref18_pair.l2:Nat→Int→(List Int)→ByteArray→Int→Option (ByteArray × ByteArray × Bool)
 |0,_,_,_,_=>none
 |k+1,x105,x106,a0,x5=>if x105<(x106.length:Int) then(if 0≤x105 then(if (rd x106 x105)≥65 then(if (rd x106 x105)≤90 then((some (List.set x106 x105.toNat (((rd x106 x105)+32) % 256):List Int)).bind fun y123=>((toponymref18_pair.l2 k (wrap64 (x105+1)) y123 a0 x5))) else((toponymref18_pair.l2 k (wrap64 (x105+1)) x106 a0 x5))) else((toponymref18_pair.l2 k (wrap64 (x105+1)) x106 a0 x5))) else(none)) else(if 0≤(wrap64 (x5+1)) then(if (wrap64 (x5+1))≤(a0.size:Int) then((toponymref18_value.f k (a0.extract (wrap64 (x5+1)).toNat a0.size)).bind fun bt138=>(some (strOfNums x106,bt138.1,bt138.2))) else(none)) else(none))
end
def toponymref18_pair.f (k:Nat) (a0:ByteArray):Option (ByteArray × ByteArray × Bool):=(toponymref18_pair.l0 k 0 a0)
theorem toponymref18_pair.mono_l:∀ k,(∀ y0 y1,LeO (toponymref18_pair.l0 k y0 y1) (toponymref18_pair.l0 (k+1) y0 y1))∧(∀ y0 y1 y2 y3,LeO (toponymref18_pair.l1 k y0 y1 y2 y3) (toponymref18_pair.l1 (k+1) y0 y1 y2 y3))∧(∀ y0 y1 y2 y3,LeO (toponymref18_pair.l2 k y0 y1 y2 y3) (toponymref18_pair.l2 (k+1) y0 y1 y2 y3))
 |0=>⟨fun _ _ r h=>by simp[toponymref18_pair.l0] at h,fun _ _ _ _ r h=>by simp[toponymref18_pair.l1] at h,fun _ _ _ _ r h=>by simp[toponymref18_pair.l2] at h⟩
 |k+1=>by
  obtain⟨ih0,ih1,ih2⟩:=toponymref18_pair.mono_l k
  refine⟨?_,?_,?_⟩
  ·intro y0 y1
   unfold toponymref18_pair.l0
   with_reducible repeat' first|exact ih0 _ _|exact ih1 _ _ _ _|exact ih2 _ _ _ _|exact toponymref18_value.mono _ _|exact LeO.refl _|exact LeO.none _|refine LeO.ite ?_ ?_|refine LeO.bind ?_ (fun _=>?_)
  ·intro y0 y1 y2 y3
   unfold toponymref18_pair.l1
   with_reducible repeat' first|exact ih0 _ _|exact ih1 _ _ _ _|exact ih2 _ _ _ _|exact toponymref18_value.mono _ _|exact LeO.refl _|exact LeO.none _|refine LeO.ite ?_ ?_|refine LeO.bind ?_ (fun _=>?_)
  intro y0 y1 y2 y3
  unfold toponymref18_pair.l2
  with_reducible repeat' first|exact ih0 _ _|exact ih1 _ _ _ _|exact ih2 _ _ _ _|exact toponymref18_value.mono _ _|exact LeO.refl _|exact LeO.none _|refine LeO.ite ?_ ?_|refine LeO.bind ?_ (fun _=>?_)
theorem toponymref18_pair.mono:∀ a0_ k,LeO (toponymref18_pair.f k a0_) (toponymref18_pair.f (k+1) a0_):=by
 intro a0_ k
 obtain⟨ih0,ih1,ih2⟩:=toponymref18_pair.mono_l k
 unfold toponymref18_pair.f
 with_reducible repeat' first|exact ih0 _ _|exact ih1 _ _ _ _|exact ih2 _ _ _ _|exact toponymref18_value.mono _ _|exact LeO.refl _|exact LeO.none _|refine LeO.ite ?_ ?_|refine LeO.bind ?_ (fun _=>?_)
theorem toponymref18_pair.calls (k:Nat) (a0:ByteArray) (r1:ByteArray) (r2:ByteArray) (r3:Bool) (w:World) (h:toponymref18_pair.f k a0=some (r1,r2,r3)):
  Calls Try.prog 36 #[.string a0] w (fun e w'=>e=.returned (.tuple #[.agg #[.string r1,.string r2],.bool r3])∧Below w.heap.size w w'):=by
 unfold toponymref18_pair.f at h
 have HH:=za h
 clear h
 have HB:=za (Below.refl w.heap.size w)
 have hu53:=Try.underlying53
 go_enter Try.func36,Try.ntmps36
 go_wp2_with ((with_reducible refine gd 2 rfl ?_);refine zb 2 53 #[.string (⟨#[]⟩:ByteArray),.string (⟨#[]⟩:ByteArray)] (h:=?_);intro g1 hg w2 BKg1 hb)
 refine zg ?_
 have GEg1:=zge hg (below_size HB.out)
 replace HB:=zhb HB.out hb
 clear hg hb
 replace cBKg1:=MB.lz2 BKg1.out
 go_wp2
 go_loopg [4] k (fun kq u4 w'=>∃ (x5:Int),u4=.int .i64 x5∧Aside0 ((toponymref18_pair.l0 kq x5 a0)=some (r1,r2,r3))∧Aside0 (kq≤k)∧Aside0 (w'.heap[g1]? =some (.cells #[.string (⟨#[]⟩:ByteArray),.string (⟨#[]⟩:ByteArray)] 53 (0,0)))∧Aside0 (Below w.heap.size w w'))
 case atStart=>exact⟨0,(by first|rfl|(simp;done)|(simp[*];done)),HH,⟨Nat.le_refl _⟩,⟨BKg1.out⟩,⟨HB.out⟩⟩
 case round=>
  clear HH
  clear BKg1 HB
  obtain⟨x5,rfl,HA,HK0,BKg1,HB⟩:=hrel
  obtain⟨w7,rfl⟩:∃ wo_:World,wo_=wr:=⟨_,rfl⟩
  cases gk with
  |zero=>exact absurd HA.out (by simp[toponymref18_pair.l0])
  |succ k6=>
   have H:=HA.out
   clear HA
   simp only[toponymref18_pair.l0] at H
   have HH:=za H
   clear H
   replace cBKg1:=MB.lz2 BKg1.out
   replace HH:=zqt HH
   rcases HH with⟨HH,hk11,hk12⟩|⟨HH,hk85,hk86⟩
   ·replace HH:=zqdo HH
    obtain⟨HH,hk14⟩:=HH
    have p15:0≤(x5:Int):=of_decide_eq_true (by first|(with_reducible assumption)|assumption)
    have q15:x5<(a0.size:Int):=of_decide_eq_true (by first|(with_reducible assumption)|assumption)
    have hx15:=MW.bt_at' a0 x5
    replace p15:=eq_true p15
    replace q15:=eq_true q15
    replace HH:=zqe HH
    rcases HH with⟨HH,hk17,hk18⟩|⟨HH,hk82,hk83⟩
    ·replace HH:=zqG HH
     rcases HH with⟨HH,hk20⟩|⟨HH,hk24⟩
     ·go_wp2_with ((with_reducible refine gs 53 2 rfl ?_);refine zs 53 2 #[.string (⟨#[]⟩:ByteArray),.string (⟨#[]⟩:ByteArray)] BKg1.out [.string (⟨#[]⟩:ByteArray),.string (⟨#[]⟩:ByteArray)] (h:=?_);intro w21 hbk hg)
      refine zg ?_
      replace HB:=zhg HB.out hg (below_size HB.out) GEg1
      replace BKg1:=hbk
      clear hg hbk
      replace cBKg1:=MB.lz2 BKg1.out
      have H:=HH.out
      simp only[Option.some.injEq,Prod.mk.injEq] at H
      obtain⟨rfl,rfl,rfl⟩:=H
      clear HH
      go_wp2
      refine bodyPost_ret (results_ct rfl _ _ g1 53 #[.string (⟨#[]⟩:ByteArray),.string (⟨#[]⟩:ByteArray)] (0,0) _ rfl BKg1.out Try.underlying53 rfl (by kernel_rfl)) rfl ?_
      exact zfi HB.out
     replace HH:=zqdo HH
     obtain⟨HH,hk26⟩:=HH
     obtain⟨y28,hy28⟩:∃ y_:ByteArray,y_=(a0.extract 0 x5.toNat):=⟨_,rfl⟩
     have H:(if y28.size<140737488355328 then((toponymref18_pair.l1 k6 0 (MB.numsOf y28) a0 x5)) else(none))=some (r1,r2,r3):=by rw[hy28];exact HH.out
     replace HH:=za H
     clear H
     have hcty28:a0.extract 0 x5.toNat=y28:=hy28.symm
     have NYy28:=za hy28
     clear hy28
     have hmx27:max (x5:Int) 0=(x5:Int):=Int.max_eq_left (Int.le_trans (show(0:Int)≤(0:Int) by decide) (by first|exact Int.le_refl _|exact(of_decide_eq_true (by first|(with_reducible assumption)|assumption|(simp;done)):(0:Int)≤(x5:Int))))
     have hh027:(0≤(x5:Int))=True:=eq_true (Int.le_trans (show(0:Int)≤(0:Int) by decide) (by first|exact Int.le_refl _|exact(of_decide_eq_true (by first|(with_reducible assumption)|assumption|(simp;done)):(0:Int)≤(x5:Int))))
     have hh127:((0:Int)≤(x5:Int))=True:=eq_true (by first|exact Int.le_refl _|exact(of_decide_eq_true (by first|(with_reducible assumption)|assumption|(simp;done)):(0:Int)≤(x5:Int)))
     have hh227:(0≤(0:Int))=True:=eq_true (show(0:Int)≤(0:Int) by decide)
     have hh327:((x5:Int)≤(a0.size:Int))=True:=eq_true (of_decide_eq_true (by first|(with_reducible assumption)|assumption|(simp;done)):(x5:Int)≤(a0.size:Int))
     obtain⟨HH,LMc29⟩:=zlm HH
     go_wp2_with (((with_reducible refine gate_dst (N:=29) rfl ?_);(try(refine gate_guard (by rfl) ?_;dsimp only));refine MC.ev_conv w.heap.size 5 rfl 9 72 _ rfl Try.underlying9 Try.underlying72 Try.underlying5 y28 (fun k_=>(w.heap.size≤k_)∧k_≠g1) rfl (fun k_ h_=>⟨(Nat.le_trans (below_size HB.out) h_),Kd.freshB (g:=g1) BKg1.out k_ h_⟩) HB.out (below_size HB.out) LMc29.out ?_;intro v30 w31 hn1 hb1 hg1 hat1);replace hat1:=za hat1;refine stop_ ?_)
     refine zg ?_
     replace hat1:=hat1.out
     have hbe:=MW.grown_below hg1
     have hba:=MW.base_of hat1
     replace BKg1:=za (blk_below (g:=g1) BKg1.out hbe)
     replace HB:=za hb1
     have HN32:=za hn1
     clear hn1 hb1 hg1 hat1 hbe hba
     clear hmx27 hh027 hh127 hh227 hh327 hcty28
     replace cBKg1:=MB.lz2 BKg1.out
     go_wp2
     go_loopg [6] k6 (fun kq u6 w'=>∃ (x35:Int) (x36:List Int),u6=.int .i64 x35∧Aside0 ((toponymref18_pair.l1 kq x35 x36 a0 x5)=some (r1,r2,r3))∧Aside0 (kq≤k6)∧Aside0 (MC.KB 5 w' w.heap.size (fun k_=>(w.heap.size≤k_)∧k_≠g1) v30 x36)∧Aside0 (w'.heap[g1]? =some (.cells #[.string (⟨#[]⟩:ByteArray),.string (⟨#[]⟩:ByteArray)] 53 (0,0)))∧Aside0 (Below w.heap.size w w'))
     case atStart=>exact⟨0,MB.numsOf y28,(by first|rfl|(simp;done)|(simp[*];done)),HH,⟨Nat.le_refl _⟩,⟨(MC.KB_mono (ok:=(fun k_=>(w.heap.size≤k_)∧k_≠g1)) HN32.out (fun k_ hk_=>hk_))⟩,⟨BKg1.out⟩,⟨HB.out⟩⟩
     case round=>
      clear hk11
      clear hk12
      clear hk14
      clear p15
      clear q15
      clear hx15
      clear hk17
      clear hk18
      clear hk24
      clear hk26
      clear HH
      clear HN32 BKg1 HB
      obtain⟨x35,x36,rfl,HA,HK1,HN32,BKg1,HB⟩:=hrel
      obtain⟨w38,rfl⟩:∃ wo_:World,wo_=wr:=⟨_,rfl⟩
      cases gk with
      |zero=>exact absurd HA.out (by simp[toponymref18_pair.l1])
      |succ k37=>
       have H:=HA.out
       clear HA
       simp only[toponymref18_pair.l1] at H
       have HH:=za H
       clear H
       replace cBKg1:=MB.lz2 BKg1.out
       obtain⟨A41,cp42,he_⟩:=MC.KB_slice HN32.out
       subst he_
       replace HH:=zqt HH
       rcases HH with⟨HH,hk44,hk45⟩|⟨HH,hk61,hk62⟩
       ·replace HH:=zqdo HH
        obtain⟨HH,hk47⟩:=HH
        have p48:0≤(x35:Int):=of_decide_eq_true (by first|(with_reducible assumption)|assumption)
        have q48:x35<(x36.length:Int):=of_decide_eq_true (by first|(with_reducible assumption)|assumption)
        obtain⟨ad48,e48,hx48_0⟩:=Kd.at_int (Kd.F_now (MC.KB_F HN32.out)) x35 p48 q48
        cases e48
        replace p48:=eq_true p48
        replace q48:=eq_true q48
        replace HH:=zqG HH
        rcases HH with⟨HH,hk50⟩|⟨HH,hk59⟩
        ·replace HH:=zqd HH
         rcases HH with⟨HH,hk52⟩|⟨HH,hk58⟩
         ·obtain⟨y53,hy53⟩:∃ y_:List Int,y_=(List.set x36 x35.toNat (((rd x36 x35)+32) % 256)):=⟨_,rfl⟩
          have H:((toponymref18_pair.l1 k37 (wrap64 (x35+1)) y53 a0 x5))=some (r1,r2,r3):=by rw[hy53];exact HH.out
          replace HH:=za H
          clear H
          have NYy53:=za hy53
          clear hy53
          go_wp2_with (((with_reducible refine gate_store (t:=5) (p:=55) rfl ?_);(try(refine gate_guard (by rfl) ?_;dsimp only));refine MC.ev_setB (n:=x36.length) w.heap.size 5 rfl rfl _ _ _ rfl x35 x36 (((rd x36 x35)+32) % 256) (fun k_=>(w.heap.size≤k_)∧k_≠g1) (by rfl) (by rfl) (by kernel_rfl) HN32.out (of_decide_eq_true (by first|(with_reducible assumption)|assumption)) (of_decide_eq_true (by first|(with_reducible assumption)|assumption)) HB.out ?_;intro w54 hn1 hb1 hg1);refine stop_ ?_)
          refine zg ?_
          replace BKg1:=za (blk_grown (g:=g1) BKg1.out hg1 (MC.KB_away (ok:=(fun k_=>(w.heap.size≤k_)∧k_≠g1)) HN32.out (fun k_ hk_=>hk_.2)))
          replace HB:=za hb1
          clear HN32
          have HN55:=za (by rw[NYy53.out];exact hn1:MC.KB 5 w54 w.heap.size (fun k_=>(w.heap.size≤k_)∧k_≠g1) (.slice (some ad48) x36.length cp42) y53)
          clear hn1 hb1 hg1
          clear hx48_0 p48 q48
          replace cBKg1:=MB.lz2 BKg1.out
          go_wp2
          go_roundg k37
          case measure=>have:=HK0.out;have:=HK1.out;omega
          case rel=>exact⟨wrap64 (x35+1),y53,(by first|rfl|(simp;done)|(simp[*];done)),HH,⟨by have:=HK0.out;have:=HK1.out;omega⟩,⟨(MC.KB_mono (ok:=(fun k_=>(w.heap.size≤k_)∧k_≠g1)) HN55.out (fun k_ hk_=>hk_))⟩,⟨BKg1.out⟩,⟨HB.out⟩⟩
         go_wp2
         go_roundg k37
         case measure=>have:=HK0.out;have:=HK1.out;omega
         case rel=>exact⟨wrap64 (x35+1),x36,(by first|rfl|(simp;done)|(simp[*];done)),HH,⟨by have:=HK0.out;have:=HK1.out;omega⟩,⟨(MC.KB_mono (ok:=(fun k_=>(w.heap.size≤k_)∧k_≠g1)) HN32.out (fun k_ hk_=>hk_))⟩,⟨BKg1.out⟩,⟨HB.out⟩⟩
        go_wp2
        go_roundg k37
        case measure=>have:=HK0.out;have:=HK1.out;omega
        case rel=>exact⟨wrap64 (x35+1),x36,(by first|rfl|(simp;done)|(simp[*];done)),HH,⟨by have:=HK0.out;have:=HK1.out;omega⟩,⟨(MC.KB_mono (ok:=(fun k_=>(w.heap.size≤k_)∧k_≠g1)) HN32.out (fun k_ hk_=>hk_))⟩,⟨BKg1.out⟩,⟨HB.out⟩⟩
       replace HH:=zqdo HH
       obtain⟨HH,hk64⟩:=HH
       replace HH:=zqdo HH
       obtain⟨HH,hk66⟩:=HH
       have hh067:(0≤((wrap64 (x5+1)):Int))=True:=eq_true (by first|exact Int.natCast_nonneg _|exact(of_decide_eq_true (by first|(with_reducible assumption)|assumption|(simp;done)):0≤((wrap64 (x5+1)):Int)))
       have hh167:(((wrap64 (x5+1)):Int)≤((a0.size:Int):Int))=True:=eq_true (by first|exact Int.le_refl _|exact(of_decide_eq_true (by first|(with_reducible assumption)|assumption|(simp;done)):((wrap64 (x5+1)):Int)≤((a0.size:Int):Int)))
       replace HH:=zd HH
       obtain⟨⟨t68,t69⟩,At70,HH⟩:=HH
       dsimp only at HH
       go_wp2_with ((with_reducible refine gc 49 rfl ?_);refine zc 49 (some 61) Try.func49 #[.string (a0.extract (wrap64 (x5+1)).toNat a0.size)] (h:=?_);(with_reducible refine(toponymref18_value.calls k37  (a0.extract (wrap64 (x5+1)).toNat a0.size) t68 t69 _  At70.out).mono ?_);rintro e w71 ⟨rfl,hb⟩;refine⟨_,rfl,?_⟩)
       refine zg ?_
       replace HN32:=MC.KB_znb HN32.out hb
       replace BKg1:=zbb BKg1.out hb
       replace HB:=zhb HB.out hb
       clear hb
       clear hh067 hh167
       replace cBKg1:=MB.lz2 BKg1.out
       have hcv74:=MC.KB_string (P:=Try.prog) Try.underlying72 Try.underlying5 Try.underlying9 HN32.out
       have hcv75:=fun m_:Nat=>MC.KB_string (P:=Try.prog) Try.underlying72 Try.underlying5 Try.underlying9 (MC.KB_drewN HN32.out m_)
       go_wp2_with ((with_reducible refine gs 53 2 rfl ?_);refine zs 53 2 #[.string (strOfNums x36),.string t68] BKg1.out [.string (strOfNums x36),.string t68] (h:=?_);intro w76 hbk hg)
       refine zg ?_
       replace HB:=zhg HB.out hg (below_size HB.out) GEg1
       replace BKg1:=hbk
       clear hg hbk
       clear hcv74 hcv75
       replace cBKg1:=MB.lz2 BKg1.out
       have H:=HH.out
       simp only[Option.some.injEq,Prod.mk.injEq] at H
       obtain⟨rfl,rfl,rfl⟩:=H
       clear HH
       go_wp2
       refine bodyPost_ret (results_ct rfl _ _ g1 53 #[.string (strOfNums x36),.string t68] (0,0) _ rfl BKg1.out Try.underlying53 rfl (by kernel_rfl)) rfl ?_
       exact zfi HB.out
    go_wp2
    go_roundg k6
    case measure=>have:=HK0.out;omega
    case rel=>exact⟨wrap64 (x5+1),(by first|rfl|(simp;done)|(simp[*];done)),HH,⟨by have:=HK0.out;omega⟩,⟨BKg1.out⟩,⟨HB.out⟩⟩
   replace HH:=zqG HH
   rcases HH with⟨HH,hk88⟩|⟨HH,hk92⟩
   ·go_wp2_with ((with_reducible refine gs 53 2 rfl ?_);refine zs 53 2 #[.string (⟨#[]⟩:ByteArray),.string (⟨#[]⟩:ByteArray)] BKg1.out [.string (⟨#[]⟩:ByteArray),.string (⟨#[]⟩:ByteArray)] (h:=?_);intro w89 hbk hg)
    refine zg ?_
    replace HB:=zhg HB.out hg (below_size HB.out) GEg1
    replace BKg1:=hbk
    clear hg hbk
    replace cBKg1:=MB.lz2 BKg1.out
    have H:=HH.out
    simp only[Option.some.injEq,Prod.mk.injEq] at H
    obtain⟨rfl,rfl,rfl⟩:=H
    clear HH
    go_wp2
    refine bodyPost_ret (results_ct rfl _ _ g1 53 #[.string (⟨#[]⟩:ByteArray),.string (⟨#[]⟩:ByteArray)] (0,0) _ rfl BKg1.out Try.underlying53 rfl (by kernel_rfl)) rfl ?_
    exact zfi HB.out
   replace HH:=zqdo HH
   obtain⟨HH,hk94⟩:=HH
   replace HH:=zqdo HH
   obtain⟨HH,hk96⟩:=HH
   obtain⟨y98,hy98⟩:∃ y_:ByteArray,y_=(a0.extract 0 x5.toNat):=⟨_,rfl⟩
   have H:(if y98.size<140737488355328 then((toponymref18_pair.l2 k6 0 (MB.numsOf y98) a0 x5)) else(none))=some (r1,r2,r3):=by rw[hy98];exact HH.out
   replace HH:=za H
   clear H
   have hcty98:a0.extract 0 x5.toNat=y98:=hy98.symm
   have NYy98:=za hy98
   clear hy98
   have hmx97:max (x5:Int) 0=(x5:Int):=Int.max_eq_left (Int.le_trans (show(0:Int)≤(0:Int) by decide) (by first|exact Int.le_refl _|exact(of_decide_eq_true (by first|(with_reducible assumption)|assumption|(simp;done)):(0:Int)≤(x5:Int))))
   have hh097:(0≤(x5:Int))=True:=eq_true (Int.le_trans (show(0:Int)≤(0:Int) by decide) (by first|exact Int.le_refl _|exact(of_decide_eq_true (by first|(with_reducible assumption)|assumption|(simp;done)):(0:Int)≤(x5:Int))))
   have hh197:((0:Int)≤(x5:Int))=True:=eq_true (by first|exact Int.le_refl _|exact(of_decide_eq_true (by first|(with_reducible assumption)|assumption|(simp;done)):(0:Int)≤(x5:Int)))
   have hh297:(0≤(0:Int))=True:=eq_true (show(0:Int)≤(0:Int) by decide)
   have hh397:((x5:Int)≤(a0.size:Int))=True:=eq_true (of_decide_eq_true (by first|(with_reducible assumption)|assumption|(simp;done)):(x5:Int)≤(a0.size:Int))
   obtain⟨HH,LMc99⟩:=zlm HH
   go_wp2_with (((with_reducible refine gate_dst (N:=29) rfl ?_);(try(refine gate_guard (by rfl) ?_;dsimp only));refine MC.ev_conv w.heap.size 5 rfl 9 72 _ rfl Try.underlying9 Try.underlying72 Try.underlying5 y98 (fun k_=>(w.heap.size≤k_)∧k_≠g1) rfl (fun k_ h_=>⟨(Nat.le_trans (below_size HB.out) h_),Kd.freshB (g:=g1) BKg1.out k_ h_⟩) HB.out (below_size HB.out) LMc99.out ?_;intro v100 w101 hn1 hb1 hg1 hat1);replace hat1:=za hat1;refine stop_ ?_)
   refine zg ?_
   replace hat1:=hat1.out
   have hbe:=MW.grown_below hg1
   have hba:=MW.base_of hat1
   replace BKg1:=za (blk_below (g:=g1) BKg1.out hbe)
   replace HB:=za hb1
   have HN102:=za hn1
   clear hn1 hb1 hg1 hat1 hbe hba
   clear hmx97 hh097 hh197 hh297 hh397 hcty98
   replace cBKg1:=MB.lz2 BKg1.out
   go_wp2
   go_loopg [6] k6 (fun kq u6 w'=>∃ (x105:Int) (x106:List Int),u6=.int .i64 x105∧Aside0 ((toponymref18_pair.l2 kq x105 x106 a0 x5)=some (r1,r2,r3))∧Aside0 (kq≤k6)∧Aside0 (MC.KB 5 w' w.heap.size (fun k_=>(w.heap.size≤k_)∧k_≠g1) v100 x106)∧Aside0 (w'.heap[g1]? =some (.cells #[.string (⟨#[]⟩:ByteArray),.string (⟨#[]⟩:ByteArray)] 53 (0,0)))∧Aside0 (Below w.heap.size w w'))
   case atStart=>exact⟨0,MB.numsOf y98,(by first|rfl|(simp;done)|(simp[*];done)),HH,⟨Nat.le_refl _⟩,⟨(MC.KB_mono (ok:=(fun k_=>(w.heap.size≤k_)∧k_≠g1)) HN102.out (fun k_ hk_=>hk_))⟩,⟨BKg1.out⟩,⟨HB.out⟩⟩
   case round=>
    clear hk85
    clear hk86
    clear hk92
    clear hk94
    clear hk96
    clear HH
    clear HN102 BKg1 HB
    obtain⟨x105,x106,rfl,HA,HK2,HN102,BKg1,HB⟩:=hrel
    obtain⟨w108,rfl⟩:∃ wo_:World,wo_=wr:=⟨_,rfl⟩
    cases gk with
    |zero=>exact absurd HA.out (by simp[toponymref18_pair.l2])
    |succ k107=>
     have H:=HA.out
     clear HA
     simp only[toponymref18_pair.l2] at H
     have HH:=za H
     clear H
     replace cBKg1:=MB.lz2 BKg1.out
     obtain⟨A111,cp112,he_⟩:=MC.KB_slice HN102.out
     subst he_
     replace HH:=zqt HH
     rcases HH with⟨HH,hk114,hk115⟩|⟨HH,hk131,hk132⟩
     ·replace HH:=zqdo HH
      obtain⟨HH,hk117⟩:=HH
      have p118:0≤(x105:Int):=of_decide_eq_true (by first|(with_reducible assumption)|assumption)
      have q118:x105<(x106.length:Int):=of_decide_eq_true (by first|(with_reducible assumption)|assumption)
      obtain⟨ad118,e118,hx118_0⟩:=Kd.at_int (Kd.F_now (MC.KB_F HN102.out)) x105 p118 q118
      cases e118
      replace p118:=eq_true p118
      replace q118:=eq_true q118
      replace HH:=zqG HH
      rcases HH with⟨HH,hk120⟩|⟨HH,hk129⟩
      ·replace HH:=zqd HH
       rcases HH with⟨HH,hk122⟩|⟨HH,hk128⟩
       ·obtain⟨y123,hy123⟩:∃ y_:List Int,y_=(List.set x106 x105.toNat (((rd x106 x105)+32) % 256)):=⟨_,rfl⟩
        have H:((toponymref18_pair.l2 k107 (wrap64 (x105+1)) y123 a0 x5))=some (r1,r2,r3):=by rw[hy123];exact HH.out
        replace HH:=za H
        clear H
        have NYy123:=za hy123
        clear hy123
        go_wp2_with (((with_reducible refine gate_store (t:=5) (p:=55) rfl ?_);(try(refine gate_guard (by rfl) ?_;dsimp only));refine MC.ev_setB (n:=x106.length) w.heap.size 5 rfl rfl _ _ _ rfl x105 x106 (((rd x106 x105)+32) % 256) (fun k_=>(w.heap.size≤k_)∧k_≠g1) (by rfl) (by rfl) (by kernel_rfl) HN102.out (of_decide_eq_true (by first|(with_reducible assumption)|assumption)) (of_decide_eq_true (by first|(with_reducible assumption)|assumption)) HB.out ?_;intro w124 hn1 hb1 hg1);refine stop_ ?_)
        refine zg ?_
        replace BKg1:=za (blk_grown (g:=g1) BKg1.out hg1 (MC.KB_away (ok:=(fun k_=>(w.heap.size≤k_)∧k_≠g1)) HN102.out (fun k_ hk_=>hk_.2)))
        replace HB:=za hb1
        clear HN102
        have HN125:=za (by rw[NYy123.out];exact hn1:MC.KB 5 w124 w.heap.size (fun k_=>(w.heap.size≤k_)∧k_≠g1) (.slice (some ad118) x106.length cp112) y123)
        clear hn1 hb1 hg1
        clear hx118_0 p118 q118
        replace cBKg1:=MB.lz2 BKg1.out
        go_wp2
        go_roundg k107
        case measure=>have:=HK0.out;have:=HK2.out;omega
        case rel=>exact⟨wrap64 (x105+1),y123,(by first|rfl|(simp;done)|(simp[*];done)),HH,⟨by have:=HK0.out;have:=HK2.out;omega⟩,⟨(MC.KB_mono (ok:=(fun k_=>(w.heap.size≤k_)∧k_≠g1)) HN125.out (fun k_ hk_=>hk_))⟩,⟨BKg1.out⟩,⟨HB.out⟩⟩
       go_wp2
       go_roundg k107
       case measure=>have:=HK0.out;have:=HK2.out;omega
       case rel=>exact⟨wrap64 (x105+1),x106,(by first|rfl|(simp;done)|(simp[*];done)),HH,⟨by have:=HK0.out;have:=HK2.out;omega⟩,⟨(MC.KB_mono (ok:=(fun k_=>(w.heap.size≤k_)∧k_≠g1)) HN102.out (fun k_ hk_=>hk_))⟩,⟨BKg1.out⟩,⟨HB.out⟩⟩
      go_wp2
      go_roundg k107
      case measure=>have:=HK0.out;have:=HK2.out;omega
      case rel=>exact⟨wrap64 (x105+1),x106,(by first|rfl|(simp;done)|(simp[*];done)),HH,⟨by have:=HK0.out;have:=HK2.out;omega⟩,⟨(MC.KB_mono (ok:=(fun k_=>(w.heap.size≤k_)∧k_≠g1)) HN102.out (fun k_ hk_=>hk_))⟩,⟨BKg1.out⟩,⟨HB.out⟩⟩
     replace HH:=zqdo HH
     obtain⟨HH,hk134⟩:=HH
     replace HH:=zqdo HH
     obtain⟨HH,hk136⟩:=HH
     have hh0137:(0≤((wrap64 (x5+1)):Int))=True:=eq_true (by first|exact Int.natCast_nonneg _|exact(of_decide_eq_true (by first|(with_reducible assumption)|assumption|(simp;done)):0≤((wrap64 (x5+1)):Int)))
     have hh1137:(((wrap64 (x5+1)):Int)≤((a0.size:Int):Int))=True:=eq_true (by first|exact Int.le_refl _|exact(of_decide_eq_true (by first|(with_reducible assumption)|assumption|(simp;done)):((wrap64 (x5+1)):Int)≤((a0.size:Int):Int)))
     replace HH:=zd HH
     obtain⟨⟨t138,t139⟩,At140,HH⟩:=HH
     dsimp only at HH
     go_wp2_with ((with_reducible refine gc 49 rfl ?_);refine zc 49 (some 61) Try.func49 #[.string (a0.extract (wrap64 (x5+1)).toNat a0.size)] (h:=?_);(with_reducible refine(toponymref18_value.calls k107  (a0.extract (wrap64 (x5+1)).toNat a0.size) t138 t139 _  At140.out).mono ?_);rintro e w141 ⟨rfl,hb⟩;refine⟨_,rfl,?_⟩)
     refine zg ?_
     replace HN102:=MC.KB_znb HN102.out hb
     replace BKg1:=zbb BKg1.out hb
     replace HB:=zhb HB.out hb
     clear hb
     clear hh0137 hh1137
     replace cBKg1:=MB.lz2 BKg1.out
     have hcv144:=MC.KB_string (P:=Try.prog) Try.underlying72 Try.underlying5 Try.underlying9 HN102.out
     have hcv145:=fun m_:Nat=>MC.KB_string (P:=Try.prog) Try.underlying72 Try.underlying5 Try.underlying9 (MC.KB_drewN HN102.out m_)
     go_wp2_with ((with_reducible refine gs 53 2 rfl ?_);refine zs 53 2 #[.string (strOfNums x106),.string t138] BKg1.out [.string (strOfNums x106),.string t138] (h:=?_);intro w146 hbk hg)
     refine zg ?_
     replace HB:=zhg HB.out hg (below_size HB.out) GEg1
     replace BKg1:=hbk
     clear hg hbk
     clear hcv144 hcv145
     replace cBKg1:=MB.lz2 BKg1.out
     have H:=HH.out
     simp only[Option.some.injEq,Prod.mk.injEq] at H
     obtain⟨rfl,rfl,rfl⟩:=H
     clear HH
     go_wp2
     refine bodyPost_ret (results_ct rfl _ _ g1 53 #[.string (strOfNums x106),.string t138] (0,0) _ rfl BKg1.out Try.underlying53 rfl (by kernel_rfl)) rfl ?_
     exact zfi HB.out
end Go.Proofs.Ytapinanmmhdpcaa.GA
