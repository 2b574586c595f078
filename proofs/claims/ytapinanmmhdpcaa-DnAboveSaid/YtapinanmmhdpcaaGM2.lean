import Derived.Test.YtapinanmmhdpcaaGA0
import Derived.Test.YtapinanmmhdpcaaGAF12
import Derived.Test.YtapinanmmhdpcaaGAF21
import Derived.Test.YtapinanmmhdpcaaGAF32
import Derived.Test.YtapinanmmhdpcaaGAF40
import Derived.Test.YtapinanmmhdpcaaGM1
import Derived.Test.YtapinanmmhdpcaaMC
import Derived.Test.YtapinanmmhdpcaaMX
namespace Go.Proofs.Ytapinanmmhdpcaa.GA
open Go.RowKit Go.Proofs.Ytapinanmmhdpcaa Go.Proofs.Ytapinanmmhdpcaa.MW Go.Proofs.YtapinanmmhdpcaaW.PrintWords Go.Proofs.YtapinanmmhdpcaaW.PrintLast Go.Proofs.YtapinanmmhdpcaaW.PrintMore
attribute [local go_sem] max2_int min2_int max_two min_two
set_option maxHeartbeats 8000000
set_option maxRecDepth 100000
set_option linter.unusedVariables false
set_option linter.unusedSimpArgs false
def dn_part.l0:Nat→(List ByteArray)→Int→(List (S53))→Option (ByteArray)
 |0,_,_,_=>none
 |k+1,x1,x4,l0=>if x4<(l0.length:Int) then(if 0≤x4 then(if ((rd_T53 l0 x4).f0).size+1≤9223372036854775807 then((dn_value.f k ((rd_T53 l0 x4).f1)).bind fun t27=>(if (((rd_T53 l0 x4).f0)++(⟨#[61]⟩:ByteArray)).size+t27.size≤9223372036854775807 then(if x1.length+([(((rd_T53 l0 x4).f0)++(⟨#[61]⟩:ByteArray))++t27]:List ByteArray).length<8796093022208 then((some (x1++([(((rd_T53 l0 x4).f0)++(⟨#[61]⟩:ByteArray))++t27]:List ByteArray):List ByteArray)).bind fun y49=>((dn_part.l0 k y49 (wrap64 (x4+1)) l0))) else(none)) else(none))) else(none)) else(none)) else((strings_Join.f x1 (⟨#[43]⟩:ByteArray)).bind fun t64=>(some t64))
def dn_part.f (k:Nat) (l0:List (S53)):Option (ByteArray):=(dn_part.l0 k ([]:List ByteArray) 0 l0)
theorem dn_part.mono_l:∀ k,(∀ y0 y1 y2,LeO (dn_part.l0 k y0 y1 y2) (dn_part.l0 (k+1) y0 y1 y2))
 |0=>fun _ _ _ r h=>by simp[dn_part.l0] at h
 |k+1=>by
  have ih0:=dn_part.mono_l k
  ·intro y0 y1 y2
   unfold dn_part.l0
   with_reducible repeat' first|exact ih0 _ _ _|exact dn_value.mono _ _|exact LeO.refl _|exact LeO.none _|refine LeO.ite ?_ ?_|refine LeO.bind ?_ (fun _=>?_)
theorem dn_part.mono:∀ a0_ k,LeO (dn_part.f k a0_) (dn_part.f (k+1) a0_):=by
 intro a0_ k
 have ih0:=dn_part.mono_l k
 unfold dn_part.f
 with_reducible repeat' first|exact ih0 _ _ _|exact dn_value.mono _ _|exact LeO.refl _|exact LeO.none _|refine LeO.ite ?_ ?_|refine LeO.bind ?_ (fun _=>?_)
theorem dn_part.calls (k:Nat) (P_:Nat→Prop) (A0:Option Addr) (c0:Nat) (l0:List (S53)) (r:ByteArray) (w:World) (hs0:Kd.F k53 w P_ A0 l0.length l0) (hc0:l0.length≤c0) (h:dn_part.f k l0=some r):
  Calls Try.prog 27 #[.slice A0 l0.length c0] w (fun e w'=>e=.returned (.string r)∧Below w.heap.size w w'):=by
 unfold dn_part.f at h
 have HH:=za h
 clear h
 have HF0:=zfp hs0
 clear hs0 hc0
 have HB:=za (Below.refl w.heap.size w)
 have hu53:=Try.underlying53
 go_enter Try.func27,Try.ntmps27
 go_wp2
 go_loopg [3,8] k (fun kq u3 u8 w'=>∃ (x1:List ByteArray) (x4:Int),u8=.int .i64 x4∧Aside0 ((dn_part.l0 kq x1 x4 l0)=some r)∧Aside0 (kq≤k)∧Aside0 (Kd.F k53 w' (fun k_=>(P_ k_∨w.heap.size≤k_)∧some k_≠(u3:Value).ownBlock) A0 l0.length l0)∧Aside0 (Kd.N Kd.string 9 w' w.heap.size (fun k_=>(P_ k_∨w.heap.size≤k_)) u3 x1)∧Aside0 (Below w.heap.size w w'))
 case atStart=>exact⟨([]:List ByteArray),0,(by first|rfl|(simp;done)|(simp[*];done)),HH,⟨Nat.le_refl _⟩,⟨(Kd.F_mono (ok:=(fun k_=>(P_ k_∨w.heap.size≤k_))) HF0.out (fun k_ hk_=>⟨hk_,(by simp[Value.ownBlock])⟩))⟩,⟨Kd.N_nil _ _ _ _ _⟩,⟨HB.out⟩⟩
 case round=>
  clear HH
  clear HF0 HB
  obtain⟨x1,x4,rfl,HA,HK0,HF0,HN3,HB⟩:=hrel
  obtain⟨v2,rfl⟩:∃ z_:Value,z_=u3:=⟨_,rfl⟩
  obtain⟨w6,rfl⟩:∃ wo_:World,wo_=wr:=⟨_,rfl⟩
  cases gk with
  |zero=>exact absurd HA.out (by simp[dn_part.l0])
  |succ k5=>
   have H:=HA.out
   clear HA
   simp only[dn_part.l0] at H
   have HH:=za H
   clear H
   replace HH:=zqt HH
   rcases HH with⟨HH,hk8,hk9⟩|⟨HH,hk58,hk59⟩
   ·replace HH:=zqdo HH
    obtain⟨HH,hk11⟩:=HH
    have p12:0≤(x4:Int):=of_decide_eq_true (by first|(with_reducible assumption)|assumption)
    have q12:x4<(l0.length:Int):=of_decide_eq_true (by first|(with_reducible assumption)|assumption)
    obtain⟨ad12,e12,hx12_0,hx12_1⟩:=atF_T53 HF0.out x4 p12 q12
    cases e12
    replace p12:=eq_true p12
    replace q12:=eq_true q12
    go_wp2_with ((with_reducible refine gd 5 rfl ?_);refine zb 5 53 #[.string (⟨#[]⟩:ByteArray),.string (⟨#[]⟩:ByteArray)] (h:=?_);intro g13 hg w14 BKg13 hb)
    refine zg ?_
    have GEg13:=zge hg (below_size HB.out)
    replace HF0:=zfe HF0.out hg hb
    replace HN3:=zne HN3.out hg hb
    replace HB:=zhb HB.out hb
    clear hg hb
    clear hx12_0 hx12_1 p12 q12
    replace cBKg13:=MB.lz2 BKg13.out
    go_wp2_with ((with_reducible refine gs 53 5 rfl ?_);refine zs 53 5 #[.string ((rd_T53 l0 x4).f0),.string ((rd_T53 l0 x4).f1)] BKg13.out [.string ((rd_T53 l0 x4).f0),.string ((rd_T53 l0 x4).f1)] (h:=?_);intro w17 hbk hg)
    refine zg ?_
    replace HF0:=zfg HF0.out hg fun k_ hk_=>hk_.2
    replace HN3:=zng HN3.out hg fun k_ hk_=>hk_.2
    replace HB:=zhg HB.out hg (below_size HB.out) GEg13
    replace BKg13:=hbk
    clear hg hbk
    replace cBKg13:=MB.lz2 BKg13.out
    go_wp2
    have hwr_:∀ n_:Int,IntKind.i64.wrap n_=wrap64 n_:=fun n_=>IntWalk.i64_left n_
    refine wp_region_any (by kernel_rfl) ?_
    change wpAny _ _ _ _ 11 #[false,false,false,false,false,false,false,false,false,false,false] _ w17.drew
    obtain⟨w20,hw_⟩:∃ w_:World,w_=w17.drew:=⟨_,rfl⟩
    rw[← hw_]
    have hb:Below w17.heap.size w17 w20:=by rw[hw_];exact below_drew1 (Below.refl _ _)
    clear hw_
    replace HF0:=zfb HF0.out hb
    replace HN3:=znb HN3.out hb
    replace BKg13:=zbb BKg13.out hb
    replace HB:=zhb HB.out hb
    clear hb
    obtain⟨jl,jm⟩:=MB.lz2 BKg13.out
    refine MW.last_in (ds:=[8,9]) (zk jl (zk jm z0)) ?_
    refine zlp 0 (v2) #[_,_,_,_,_,_,_,_,_,_,_] ⟨[_,_,_,_,_,_,_,_,_,_,_,_,_,_,_,_,_,_,_,_,_,_,_,_,_].toArray,[]⟩ (h:=?_)
    refine zlp 1 (.pointer (some ⟨g13,0,none⟩)) #[_,_,_,_,_,_,_,_,_,_,_] ⟨[_,_,_,_,_,_,_,_,_,_,_,_,_,_,_,_,_,_,_,_,_,_,_,_,_].toArray,[]⟩ (h:=?_)
    refine zlp 4 (.pointer (some ⟨g13,1,none⟩)) #[_,_,_,_,_,_,_,_,_,_,_] ⟨[_,_,_,_,_,_,_,_,_,_,_,_,_,_,_,_,_,_,_,_,_,_,_,_,_].toArray,[]⟩ (h:=?_)
    refine MW.last_take (i:=2) (v:=.string ((rd_T53 l0 x4).f0)) (listed':= #[_,_,_,_,_,_,_,_,_,_,_]) (a':=⟨[_,_,_,_,_,_,_,_,_,_,_,_,_,_,_,_,_,_,_,_,_,_,_,_,_].toArray,[]⟩) rfl (by kernel_rfl) (by kernel_rfl) (by kernel_rfl) (by kernel_rfl) (by kernel_rfl) (fun _ _ _ h_=>h_) (by kernel_rfl) (fun w_ hS_=>?go) (zk jl (zk jm z0)) rfl rfl ?_
    case go=>obtain⟨hs0_,_,_⟩:=hS_;first|(go_simp;done)|(go_simp;rfl)
    by_cases c23:((rd_T53 l0 x4).f0).size+1≤9223372036854775807
    ·replace HH:=MW.hpos HH c23
     have hk24:(9223372036854775807<((rd_T53 l0 x4).f0).size+1)=False:=eq_false (Nat.not_lt.2 c23)
     (try simp only[hk24,Bool.not_true,Bool.not_false])
     have hk25:(((rd_T53 l0 x4).f0).size+1≤9223372036854775807)=True:=eq_true c23
     (try simp only[hk25,Bool.not_true,Bool.not_false])
     have hk26:decide (((rd_T53 l0 x4).f0).size+1≤9223372036854775807)=true:=decide_eq_true c23
     (try simp only[hk26,Bool.not_true,Bool.not_false])
     clear c23
     refine zlp 3 (.string (((rd_T53 l0 x4).f0)++(⟨#[61]⟩:ByteArray))) #[_,_,_,_,_,_,_,_,_,_,_] ⟨[_,_,_,_,_,_,_,_,_,_,_,_,_,_,_,_,_,_,_,_,_,_,_,_,_].toArray,[]⟩ (h:=?_)
     refine MW.last_take (i:=5) (v:=.string ((rd_T53 l0 x4).f1)) (listed':= #[_,_,_,_,_,_,_,_,_,_,_]) (a':=⟨[_,_,_,_,_,_,_,_,_,_,_,_,_,_,_,_,_,_,_,_,_,_,_,_,_].toArray,[]⟩) rfl (by kernel_rfl) (by kernel_rfl) (by kernel_rfl) (by kernel_rfl) (by kernel_rfl) (fun _ _ _ h_=>h_) (by kernel_rfl) (fun w_ hS_=>?go) (zk jl (zk jm z0)) rfl rfl ?_
     case go=>obtain⟨_,hs1_,_⟩:=hS_;first|(go_simp;done)|(go_simp;rfl)
     refine MW.last_act (i:=6) (listed':= #[true,true,true,true,true,true,true,false,false,false,false]) rfl (by kernel_rfl) (by kernel_rfl) (by decide) ?_
     replace HH:=zd HH
     obtain⟨t27,At28,HH⟩:=HH
     go_wp2_with ((with_reducible refine gc 40 rfl ?_);refine zc 40 (some 18) Try.func40 #[.string ((rd_T53 l0 x4).f1)] (h:=?_);(with_reducible refine(dn_value.calls k5  ((rd_T53 l0 x4).f1) t27 _  At28.out).mono ?_);rintro e w29 ⟨rfl,hb⟩;refine⟨_,rfl,?_⟩)
     refine zg ?_
     replace HF0:=zfb HF0.out hb
     replace HN3:=znb HN3.out hb
     replace BKg13:=zbb BKg13.out hb
     replace HB:=zhb HB.out hb
     clear hb
     clear jl jm
     obtain⟨ju,jv⟩:=MB.lz2 BKg13.out
     refine wpList_nil ?_
     change MW.Cells _ _∧wpAnyLast _ _ _ _ _ _ 4 #[true,true,true,true,true,true,true,false,false,false,false] ⟨[_,_,_,_,_,_,_,_,_,_,_,_,_,_,_,_,_,_,_,_,_,_,_,_,_].toArray,[]⟩ _
     refine⟨(zk ju (zk jv z0)),?_⟩
     by_cases c32:(((rd_T53 l0 x4).f0)++(⟨#[61]⟩:ByteArray)).size+t27.size≤9223372036854775807
     ·replace HH:=MW.hpos HH c32
      have hk33:(9223372036854775807<(((rd_T53 l0 x4).f0)++(⟨#[61]⟩:ByteArray)).size+t27.size)=False:=eq_false (Nat.not_lt.2 c32)
      (try simp only[hk33,Bool.not_true,Bool.not_false])
      have hk34:((((rd_T53 l0 x4).f0)++(⟨#[61]⟩:ByteArray)).size+t27.size≤9223372036854775807)=True:=eq_true c32
      (try simp only[hk34,Bool.not_true,Bool.not_false])
      have hk35:decide ((((rd_T53 l0 x4).f0)++(⟨#[61]⟩:ByteArray)).size+t27.size≤9223372036854775807)=true:=decide_eq_true c32
      (try simp only[hk35,Bool.not_true,Bool.not_false])
      try have hk36:(9223372036854775807<(((rd_T53 l0 x4).f0).size+1)+t27.size)=False:=eq_false (Nat.not_lt.2 (show(((rd_T53 l0 x4).f0).size+1)+t27.size≤9223372036854775807 from by have h_:=c32;simp only[ByteArray.size_append] at h_;exact h_))
      try have hk37:((((rd_T53 l0 x4).f0).size+1)+t27.size≤9223372036854775807)=True:=eq_true (show(((rd_T53 l0 x4).f0).size+1)+t27.size≤9223372036854775807 from by have h_:=c32;simp only[ByteArray.size_append] at h_;exact h_)
      try have hk38:decide ((((rd_T53 l0 x4).f0).size+1)+t27.size≤9223372036854775807)=true:=decide_eq_true (show(((rd_T53 l0 x4).f0).size+1)+t27.size≤9223372036854775807 from by have h_:=c32;simp only[ByteArray.size_append] at h_;exact h_)
      clear c32
      refine zlp 7 (.string ((((rd_T53 l0 x4).f0)++(⟨#[61]⟩:ByteArray))++t27)) #[_,_,_,_,_,_,_,_,_,_,_] ⟨[_,_,_,_,_,_,_,_,_,_,_,_,_,_,_,_,_,_,_,_,_,_,_,_,_].toArray,[]⟩ (h:=?_)
      refine MW.last_fin (i:=8) (listed':= #[true,true,true,true,true,true,true,true,true,false,false]) rfl (by kernel_rfl) (by kernel_rfl) (by kernel_rfl) ?_
      go_wp2_with (((with_reducible refine gate_dst (N:=20) rfl ?_);(try(refine gate_guard (by rfl) ?_;dsimp only));refine Kd.N_lit Kd.string w.heap.size 9 rfl (N':=20) rfl (xs:=([(((rd_T53 l0 x4).f0)++(⟨#[61]⟩:ByteArray))++t27]:List ByteArray)) (inner:=[.string ((((rd_T53 l0 x4).f0)++(⟨#[61]⟩:ByteArray))++t27)]) (ok:=(fun k_=>((P_ k_∨w.heap.size≤k_)∧some k_≠(v2:Value).ownBlock)∧k_≠g13)) (okp:=(fun k_=>((P_ k_∨w.heap.size≤k_)∧some k_≠(v2:Value).ownBlock)∧k_≠g13)) ?hr ?hp (fun _ hk_=>hk_) ?hf HB.out (below_size HB.out) (by first|simp|decide) ?_;(case hr=>first|(go_simp;done)|(go_simp;rfl));(case hp=>exact(Reps.one (fun _ _=>rfl) (Reps.none _ _)));(case hf=>exact(show ∀ k_,w29.heap.size≤k_→(fun k_=>((P_ k_∨w.heap.size≤k_)∧some k_≠(v2:Value).ownBlock)∧k_≠g13) k_ from fun k_ h_=>⟨⟨.inr (Nat.le_trans (below_size HB.out) h_),Kd.fresh' (Kd.N_lt HN3.out) k_ h_⟩,Kd.freshB (g:=g13) BKg13.out k_ h_⟩) _ (Nat.le_refl _));intro v39 w40 hn1 hb1 hg1 hat1);replace hat1:=za hat1;refine stop_ ?_)
      refine zg ?_
      replace hat1:=hat1.out
      have hbe:=MW.grown_below hg1
      have hba:=MW.base_of hat1
      replace HF0:=za (Kd.F_mono (Kd.F_elder' (ok:=(fun k_=>((P_ k_∨w.heap.size≤k_)∧some k_≠(v2:Value).ownBlock)∧k_≠g13)) HF0.out hba hbe) (fun k_ hk_=>hk_):Kd.F k53 _ (fun k_=>(((P_ k_∨w.heap.size≤k_)∧some k_≠(v2:Value).ownBlock)∧k_≠g13)∧some k_≠(v39:Value).ownBlock) _ _ _)
      replace HN3:=za (Kd.N_mono (Kd.N_elder' (ok:=(fun k_=>(P_ k_∨w.heap.size≤k_)∧k_≠g13)) HN3.out hba hbe) (fun k_ hk_=>hk_):Kd.N Kd.string _ _ _ (fun k_=>((P_ k_∨w.heap.size≤k_)∧k_≠g13)∧some k_≠(v39:Value).ownBlock) _ _)
      replace BKg13:=za (blk_below (g:=g13) BKg13.out hbe)
      replace HB:=za hb1
      have HN41:=za hn1
      clear hn1 hb1 hg1 hat1 hbe hba
      clear ju jv
      replace cBKg13:=MB.lz2 BKg13.out
      refine wpList_nil ?_
      change wpAnyLast _ _ _ _ _ _ 2 #[true,true,true,true,true,true,true,true,true,false,false] ⟨[_,_,_,_,_,_,_,_,_,_,_,_,_,_,_,_,_,_,_,_,_,_,_,_,_].toArray,[]⟩ _
      refine MW.last_fin (i:=9) (listed':= #[true,true,true,true,true,true,true,true,true,true,false]) rfl (by kernel_rfl) (by kernel_rfl) (by kernel_rfl) ?_
      obtain⟨A44,cp45,he_⟩:=Kd.N_slice HN41.out
      subst he_
      have HF46:=za (Kd.N_F HN41.out)
      clear HN41
      replace HF0:=za (Kd.F_mono (ok:=(fun k_=>(((P_ k_∨w.heap.size≤k_)∧some k_≠(v2:Value).ownBlock)∧k_≠g13)∧some k_≠((.slice A44 ([(((rd_T53 l0 x4).f0)++(⟨#[61]⟩:ByteArray))++t27]:List ByteArray).length cp45):Value).ownBlock)) HF0.out (fun k_ hk_=>hk_.1):Kd.F k53 _ (fun k_=>((P_ k_∨w.heap.size≤k_)∧some k_≠(v2:Value).ownBlock)∧k_≠g13) _ _ _)
      replace HN3:=za (Kd.N_mono (ok:=(fun k_=>((P_ k_∨w.heap.size≤k_)∧k_≠g13)∧some k_≠((.slice A44 ([(((rd_T53 l0 x4).f0)++(⟨#[61]⟩:ByteArray))++t27]:List ByteArray).length cp45):Value).ownBlock)) HN3.out (fun k_ hk_=>hk_.1):Kd.N Kd.string _ _ _ (fun k_=>(P_ k_∨w.heap.size≤k_)∧k_≠g13) _ _)
      obtain⟨HH,LMc48⟩:=zlm HH
      obtain⟨y49,hy49⟩:∃ y_:List ByteArray,y_=(x1++([(((rd_T53 l0 x4).f0)++(⟨#[61]⟩:ByteArray))++t27]:List ByteArray)):=⟨_,rfl⟩
      have H:((dn_part.l0 k5 y49 (wrap64 (x4+1)) l0))=some r:=by rw[hy49];exact HH.out
      replace HH:=za H
      clear H
      have NYy49:=za hy49
      clear hy49
      go_wp2_with (((with_reducible refine gate_dst (N:=21) rfl ?_);(try(refine gate_guard (by rfl) ?_;dsimp only));refine Kd.N_append_rows Kd.string w.heap.size rfl _ _ 54 9 (.string ⟨#[]⟩) 16 rfl Try.underlying54 info9 rfl (by decide) (by decide) (v2) x1 ([(((rd_T53 l0 x4).f0)++(⟨#[61]⟩:ByteArray))++t27]:List ByteArray) _ _ _ (fun k_=>(P_ k_∨w.heap.size≤k_)∧k_≠g13) (fun k_=>(fun k_=>(P_ k_∨w.heap.size≤k_)∧k_≠g13) k_∧some k_≠(v2:Value).ownBlock) rfl rfl HN3.out (Kd.F_mono (ok:=(fun k_=>((P_ k_∨w.heap.size≤k_)∧some k_≠(v2:Value).ownBlock)∧k_≠g13)) HF46.out (fun k_ hk_=>⟨⟨hk_.1.1,hk_.2⟩,hk_.1.2⟩)) (fun _ hk_=>hk_) (fun k_ h_=>⟨.inr (Nat.le_trans (below_size HB.out) h_),Kd.freshB (g:=g13) BKg13.out k_ h_⟩) HB.out (below_size HB.out) (by first|(have:=LMc48.out;simp only[List.length_nil] at *;omega)|(have:=LMc48.out;simp at *;omega)) ?_;intro v50 w51 hn1 hb1 hg1 hat1);replace hat1:=za hat1;refine stop_ ?_)
      refine zg ?_
      replace hat1:=hat1.out
      replace HF0:=za (Kd.F_mono (Kd.F_after (v:=v2) (ok:=(fun k_=>(P_ k_∨w.heap.size≤k_)∧k_≠g13)) (Kd.F_mono (ok:=(fun k_=>((P_ k_∨w.heap.size≤k_)∧some k_≠(v2:Value).ownBlock)∧k_≠g13)) HF0.out (fun k_ hk_=>⟨⟨hk_.1.1,hk_.2⟩,hk_.1.2⟩)) hg1 hat1) (fun k_ hk_=>hk_):Kd.F k53 _ (fun k_=>((P_ k_∨w.heap.size≤k_)∧k_≠g13)∧some k_≠(v50:Value).ownBlock) _ _ _)
      replace BKg13:=za (blk_grown (g:=g13) BKg13.out hg1 (Kd.N_away (ok:=(fun k_=>(P_ k_∨w.heap.size≤k_)∧k_≠g13)) HN3.out (fun k_ hk_=>hk_.2)))
      replace HB:=za hb1
      clear HN3
      have HN52:=za hn1
      clear hn1 hb1 hg1 hat1
      replace HN52:=za (by rw[NYy49.out];exact HN52.out:Kd.N Kd.string 9 w51 w.heap.size (fun k_=>(P_ k_∨w.heap.size≤k_)∧k_≠g13) v50 y49)
      replace cBKg13:=MB.lz2 BKg13.out
      refine wpList_nil ?_
      change wpAnyLast _ _ _ _ _ _ 1 #[true,true,true,true,true,true,true,true,true,true,false] ⟨[_,_,_,_,_,_,_,_,_,_,_,_,_,_,_,_,_,_,_,_,_,_,_,_,_].toArray,[]⟩ _
      refine zlp 10 (v50) #[_,_,_,_,_,_,_,_,_,_,_] ⟨[_,_,_,_,_,_,_,_,_,_,_,_,_,_,_,_,_,_,_,_,_,_,_,_,_].toArray,[]⟩ (h:=?_)
      refine MW.last_done (by kernel_rfl) ?_ _
      clear hwr_
      go_wp2
      go_roundg k5
      case measure=>have:=HK0.out;omega
      case rel=>exact⟨y49,wrap64 (x4+1),(by first|rfl|(simp;done)|(simp[*];done)),HH,⟨by have:=HK0.out;omega⟩,⟨(Kd.F_mono (ok:=(fun k_=>((P_ k_∨w.heap.size≤k_)∧k_≠g13)∧some k_≠(v50:Value).ownBlock)) HF0.out (fun k_ hk_=>⟨hk_.1.1,hk_.2⟩))⟩,⟨(Kd.N_mono (ok:=(fun k_=>(P_ k_∨w.heap.size≤k_)∧k_≠g13)) HN52.out (fun k_ hk_=>hk_.1))⟩,⟨HB.out⟩⟩
     exact absurd HH.out (by rw[if_neg c32];simp)
    exact absurd HH.out (by rw[if_neg c23];simp)
   obtain⟨A60,cp61,he_⟩:=Kd.N_slice HN3.out
   subst he_
   have HL63:=za (Kd.N_reads' HN3.out).2.1
   have HF62:=za (Kd.N_F HN3.out)
   clear HN3
   replace HH:=zd HH
   obtain⟨t64,At65,HH⟩:=HH
   go_wp2_with ((with_reducible refine gc 28 rfl ?_);refine zc 28 (some 24) Try.func28 #[.slice A60 x1.length cp61,.string (⟨#[43]⟩:ByteArray)] (h:=?_);(with_reducible refine(strings_Join.calls (fun k_=>(P_ k_∨w.heap.size≤k_)) _ _ x1 (⟨#[43]⟩:ByteArray) t64 _ HF62.out HL63.out At65.out).mono ?_);rintro e w66 ⟨rfl,hb⟩;refine⟨_,rfl,?_⟩)
   refine zg ?_
   replace HB:=zhb HB.out hb
   clear hb
   obtain rfl:=Option.some.inj HH.out
   clear HH
   go_wp2
   go_ret
   exact zfi HB.out

def dn_Show.l0:Nat→(List ByteArray)→Int→(List (List (S53)))→Option (ByteArray × Int)
 |0,_,_,_=>none
 |k+1,x7,x10,l0=>if x10<(l0.length:Int) then(if 0≤x10 then((dn_part.f k (rd_L2 l0 x10)).bind fun t19=>(if x7.length<8796093022208 then((some (x7++[t19]:List ByteArray)).bind fun y23=>((dn_Show.l0 k y23 (wrap64 (x10+1)) l0))) else(none))) else(none)) else((strings_Join.f x7 (⟨#[44]⟩:ByteArray)).bind fun t34=>(some (t34,0)))
def dn_Show.f (k:Nat) (l0:List (List (S53))):Option (ByteArray × Int):=(dn_Check.f k l0).bind fun t1=>(if t1=0 then((dn_Show.l0 k ([]:List ByteArray) 0 l0)) else(some ((⟨#[]⟩:ByteArray),t1)))
theorem dn_Show.mono_l:∀ k,(∀ y0 y1 y2,LeO (dn_Show.l0 k y0 y1 y2) (dn_Show.l0 (k+1) y0 y1 y2))
 |0=>fun _ _ _ r h=>by simp[dn_Show.l0] at h
 |k+1=>by
  have ih0:=dn_Show.mono_l k
  ·intro y0 y1 y2
   unfold dn_Show.l0
   with_reducible repeat' first|exact ih0 _ _ _|exact dn_Check.mono _ _|exact dn_part.mono _ _|exact LeO.refl _|exact LeO.none _|refine LeO.ite ?_ ?_|refine LeO.bind ?_ (fun _=>?_)
theorem dn_Show.mono:∀ a0_ k,LeO (dn_Show.f k a0_) (dn_Show.f (k+1) a0_):=by
 intro a0_ k
 have ih0:=dn_Show.mono_l k
 unfold dn_Show.f
 with_reducible repeat' first|exact ih0 _ _ _|exact dn_Check.mono _ _|exact dn_part.mono _ _|exact LeO.refl _|exact LeO.none _|refine LeO.ite ?_ ?_|refine LeO.bind ?_ (fun _=>?_)
theorem dn_Show.calls (k:Nat) (P_:Nat→Prop) (A0:Option Addr) (c0:Nat) (l0:List (List (S53))) (r1:ByteArray) (r2:Int) (w:World) (hs0:Kd.F (Kd.slice 53 k53) w P_ A0 l0.length l0) (hc0:l0.length≤c0) (h:dn_Show.f k l0=some (r1,r2)):
  Calls Try.prog 11 #[.slice A0 l0.length c0] w (fun e w'=>e=.returned (.tuple #[.string r1,.int .i64 r2])∧Below w.heap.size w w'):=by
 unfold dn_Show.f at h
 have HH:=za h
 clear h
 have HF0:=zfp hs0
 have HL0:=za hc0
 clear hs0 hc0
 have HB:=za (Below.refl w.heap.size w)
 go_enter Try.func11,Try.ntmps11
 replace HH:=zd HH
 obtain⟨t1,At2,HH⟩:=HH
 go_wp2_with ((with_reducible refine gc 13 rfl ?_);refine zc 13 (some 9) Try.func13 #[.slice A0 l0.length c0] (h:=?_);(with_reducible refine(dn_Check.calls k (fun k_=>(P_ k_∨w.heap.size≤k_)) _ _ l0 t1 _ HF0.out HL0.out At2.out).mono ?_);rintro e w3 ⟨rfl,hb⟩;refine⟨_,rfl,?_⟩)
 refine zg ?_
 replace HF0:=zfb HF0.out hb
 replace HB:=zhb HB.out hb
 clear hb
 replace HH:=zqe HH
 rcases HH with⟨HH,hk5,hk6⟩|⟨HH,hk37,hk38⟩
 ·go_wp2
  go_loopg [5,15] k (fun kq u5 u15 w'=>∃ (x7:List ByteArray) (x10:Int),u15=.int .i64 x10∧Aside0 ((dn_Show.l0 kq x7 x10 l0)=some (r1,r2))∧Aside0 (kq≤k)∧Aside0 (Kd.F (Kd.slice 53 k53) w' (fun k_=>(P_ k_∨w.heap.size≤k_)∧some k_≠(u5:Value).ownBlock) A0 l0.length l0)∧Aside0 (Kd.N Kd.string 9 w' w.heap.size (fun k_=>(P_ k_∨w.heap.size≤k_)) u5 x7)∧Aside0 (Below w.heap.size w w'))
  case atStart=>exact⟨([]:List ByteArray),0,(by first|rfl|(simp;done)|(simp[*];done)),HH,⟨Nat.le_refl _⟩,⟨(Kd.F_mono (ok:=(fun k_=>(P_ k_∨w.heap.size≤k_))) HF0.out (fun k_ hk_=>⟨hk_,(by simp[Value.ownBlock])⟩))⟩,⟨Kd.N_nil _ _ _ _ _⟩,⟨HB.out⟩⟩
  case round=>
   clear hk5
   clear hk6
   clear HH
   clear HF0 HB
   obtain⟨x7,x10,rfl,HA,HK0,HF0,HN9,HB⟩:=hrel
   obtain⟨v8,rfl⟩:∃ z_:Value,z_=u5:=⟨_,rfl⟩
   obtain⟨w12,rfl⟩:∃ wo_:World,wo_=wr:=⟨_,rfl⟩
   cases gk with
   |zero=>exact absurd HA.out (by simp[dn_Show.l0])
   |succ k11=>
    have H:=HA.out
    clear HA
    simp only[dn_Show.l0] at H
    have HH:=za H
    clear H
    replace HH:=zqt HH
    rcases HH with⟨HH,hk14,hk15⟩|⟨HH,hk28,hk29⟩
    ·replace HH:=zqdo HH
     obtain⟨HH,hk17⟩:=HH
     have p18:0≤(x10:Int):=of_decide_eq_true (by first|(with_reducible assumption)|assumption)
     have q18:x10<(l0.length:Int):=of_decide_eq_true (by first|(with_reducible assumption)|assumption)
     obtain⟨ad18,A18_0,c18_0,e18,hx18_0,hl18_0,hi18_0⟩:=atF_L2 HF0.out x10 p18 q18
     cases e18
     have HF18_0:=za hi18_0
     have HL18_0:=za hl18_0
     clear hi18_0 hl18_0
     replace p18:=eq_true p18
     replace q18:=eq_true q18
     replace HH:=zd HH
     obtain⟨t19,At20,HH⟩:=HH
     go_wp2_with ((with_reducible refine gc 27 rfl ?_);refine zc 27 (some 21) Try.func27 #[.slice A18_0 (rd_L2 l0 x10).length c18_0] (h:=?_);(with_reducible refine(dn_part.calls k11 (fun k_=>(P_ k_∨w.heap.size≤k_)∧some k_≠(v8:Value).ownBlock) _ _ (rd_L2 l0 x10) t19 _ HF18_0.out HL18_0.out At20.out).mono ?_);rintro e w21 ⟨rfl,hb⟩;refine⟨_,rfl,?_⟩)
     refine zg ?_
     replace HF0:=zfb HF0.out hb
     replace HN9:=znb HN9.out hb
     replace HB:=zhb HB.out hb
     clear hb
     clear hx18_0 p18 q18
     obtain⟨HH,LMc22⟩:=zlm HH
     obtain⟨y23,hy23⟩:∃ y_:List ByteArray,y_=(x7++[t19]):=⟨_,rfl⟩
     have H:((dn_Show.l0 k11 y23 (wrap64 (x10+1)) l0))=some (r1,r2):=by rw[hy23];exact HH.out
     replace HH:=za H
     clear H
     have NYy23:=za hy23
     clear hy23
     go_wp2_with (((with_reducible refine gate_dst (N:=23) rfl ?_);(try(refine gate_guard (by rfl) ?_;dsimp only));refine Kd.N_append Kd.string w.heap.size rfl _ _ 54 9 (.string ⟨#[]⟩) 16 rfl Try.underlying54 info9 rfl (by decide) (by decide) (v8) x7 t19 [.string t19] (fun k_=>(P_ k_∨w.heap.size≤k_)) (fun k_=>(fun k_=>(P_ k_∨w.heap.size≤k_)) k_∧some k_≠(v8:Value).ownBlock) rfl rfl (fun _ _=>rfl) (fun _ hk_=>hk_) (fun k_ h_=>.inr (Nat.le_trans (below_size (by repeat(first|(with_reducible first|exact HB.out|apply below_alloc|apply pw_below_drewN|apply below_drew1)|exact HB.out))) h_)) (by(with_reducible repeat(first|apply Kd.N_alloc|apply Kd.N_drewN|apply Kd.N_drew));exact HN9.out) (by repeat(first|(with_reducible first|exact HB.out|apply below_alloc|apply pw_below_drewN|apply below_drew1)|exact HB.out)) (below_size (by repeat(first|(with_reducible first|exact HB.out|apply below_alloc|apply pw_below_drewN|apply below_drew1)|exact HB.out))) (by first|(have:=LMc22.out;omega)|(have:=LMc22.out;simp at *;omega)) ?_;intro v24 w25 hn1 hb1 hg1 hat1);replace hat1:=za hat1;refine stop_ ?_)
     refine zg ?_
     replace hat1:=hat1.out
     replace HF0:=za (Kd.F_mono (Kd.F_after (v:=v8) (ok:=(fun k_=>(P_ k_∨w.heap.size≤k_))) (Kd.F_mono (ok:=(fun k_=>(P_ k_∨w.heap.size≤k_)∧some k_≠(v8:Value).ownBlock)) (by(with_reducible repeat(first|apply Kd.F_alloc|apply Kd.F_drewN|apply Kd.F_drew));exact HF0.out) (fun k_ hk_=>⟨hk_.1,hk_.2⟩)) hg1 hat1) (fun k_ hk_=>hk_):Kd.F (Kd.slice 53 k53) _ (fun k_=>(P_ k_∨w.heap.size≤k_)∧some k_≠(v24:Value).ownBlock) _ _ _)
     replace HB:=za hb1
     clear HN9
     have HN26:=za hn1
     clear hn1 hb1 hg1 hat1
     replace HN26:=za (by rw[NYy23.out];exact HN26.out:Kd.N Kd.string 9 w25 w.heap.size (fun k_=>(P_ k_∨w.heap.size≤k_)) v24 y23)
     go_wp2
     go_roundg k11
     case measure=>have:=HK0.out;omega
     case rel=>exact⟨y23,wrap64 (x10+1),(by first|rfl|(simp;done)|(simp[*];done)),HH,⟨by have:=HK0.out;omega⟩,⟨HF0.out⟩,⟨(Kd.N_mono (ok:=(fun k_=>(P_ k_∨w.heap.size≤k_))) HN26.out (fun k_ hk_=>hk_))⟩,⟨HB.out⟩⟩
    obtain⟨A30,cp31,he_⟩:=Kd.N_slice HN9.out
    subst he_
    have HL33:=za (Kd.N_reads' HN9.out).2.1
    have HF32:=za (Kd.N_F HN9.out)
    clear HN9
    replace HH:=zd HH
    obtain⟨t34,At35,HH⟩:=HH
    go_wp2_with ((with_reducible refine gc 28 rfl ?_);refine zc 28 (some 26) Try.func28 #[.slice A30 x7.length cp31,.string (⟨#[44]⟩:ByteArray)] (h:=?_);(with_reducible refine(strings_Join.calls (fun k_=>(P_ k_∨w.heap.size≤k_)) _ _ x7 (⟨#[44]⟩:ByteArray) t34 _ HF32.out HL33.out At35.out).mono ?_);rintro e w36 ⟨rfl,hb⟩;refine⟨_,rfl,?_⟩)
    refine zg ?_
    replace HB:=zhb HB.out hb
    clear hb
    have H:=HH.out
    simp only[Option.some.injEq,Prod.mk.injEq] at H
    obtain⟨rfl,rfl⟩:=H
    clear HH
    go_wp2
    go_ret2
    exact zfi HB.out
 have H:=HH.out
 simp only[Option.some.injEq,Prod.mk.injEq] at H
 obtain⟨rfl,rfl⟩:=H
 clear HH
 go_wp2
 go_ret2
 exact zfi HB.out

def dn_Parse.l0:Nat→(List (List (S53)))→ByteArray→Int→ByteArray→Option ((List (List (S53))) × Int)
 |0,_,_,_,_=>none
 |k+1,x20,x23,x24,a0=>(dn_reader_name.f k x23 x24).bind fun bt29=>(if bt29.2.1=true then((dn_reader_value.f k bt29.2.2.1 bt29.2.2.2).bind fun bt38=>(if bt38.2.1=true then(if 0≤(wrap64 ((x20.length:Int) - 1)) then(if (wrap64 ((x20.length:Int) - 1))<(x20.length:Int) then(if (wrap64 ((x20.length:Int) - 1))=(x20.length:Int) - 1 then(if (rd_L2 x20 (wrap64 ((x20.length:Int) - 1))).length<4398046511104 then((some (List.set x20 (wrap64 ((x20.length:Int) - 1)).toNat (rd_L2 x20 (wrap64 ((x20.length:Int) - 1))++[(⟨bt29.1,bt38.1⟩:S53)]):List (List (S53)))).bind fun y57=>(if bt38.2.2.2=(a0.size:Int) then((dn_Check.f k y57).bind fun t75=>(if t75=0 then(some (y57,0)) else(some (([]:List (List (S53))),t75)))) else(if 0≤(wrap64 ((wrap64 (bt38.2.2.2+1)) - 1)) then(if (wrap64 ((wrap64 (bt38.2.2.2+1)) - 1))<(a0.size:Int) then(if (bt a0 (wrap64 ((wrap64 (bt38.2.2.2+1)) - 1)))=44 then(if y57.length<5864062014805 then((some (y57++[[]]:List (List (S53)))).bind fun y100=>((dn_Parse.l0 k y100 bt38.2.2.1 (wrap64 (bt38.2.2.2+1)) a0))) else(none)) else((dn_Parse.l0 k y57 bt38.2.2.1 (wrap64 (bt38.2.2.2+1)) a0))) else(none)) else(none)))) else(none)) else(none)) else(none)) else(none)) else(some (([]:List (List (S53))),220)))) else(some (([]:List (List (S53))),220)))
def dn_Parse.f (k:Nat) (a0:ByteArray):Option ((List (List (S53))) × Int):=if (a0.size:Int)>3000 then(some (([]:List (List (S53))),3)) else(if a0.toList=([]:List UInt8) then(some (([]:List (List (S53))),0)) else((dn_Parse.l0 k ([([]:List (S53))]:List (List (S53))) a0 0 a0)))
theorem dn_Parse.mono_l:∀ k,(∀ y0 y1 y2 y3,LeO (dn_Parse.l0 k y0 y1 y2 y3) (dn_Parse.l0 (k+1) y0 y1 y2 y3))
 |0=>fun _ _ _ _ r h=>by simp[dn_Parse.l0] at h
 |k+1=>by
  have ih0:=dn_Parse.mono_l k
  ·intro y0 y1 y2 y3
   unfold dn_Parse.l0
   with_reducible repeat' first|exact ih0 _ _ _ _|exact dn_Check.mono _ _|exact dn_reader_name.mono _ _ _|exact dn_reader_value.mono _ _ _|exact LeO.refl _|exact LeO.none _|refine LeO.ite ?_ ?_|refine LeO.bind ?_ (fun _=>?_)
theorem dn_Parse.mono:∀ a0_ k,LeO (dn_Parse.f k a0_) (dn_Parse.f (k+1) a0_):=by
 intro a0_ k
 have ih0:=dn_Parse.mono_l k
 unfold dn_Parse.f
 with_reducible repeat' first|exact ih0 _ _ _ _|exact dn_Check.mono _ _|exact dn_reader_name.mono _ _ _|exact dn_reader_value.mono _ _ _|exact LeO.refl _|exact LeO.none _|refine LeO.ite ?_ ?_|refine LeO.bind ?_ (fun _=>?_)
theorem dn_Parse.calls (k:Nat) (a0:ByteArray) (r1:List (List (S53))) (r2:Int) (w:World) (h:dn_Parse.f k a0=some (r1,r2)):
  Calls Try.prog 17 #[.string a0] w (fun e w'=>∃ (A0_:Option Addr) (c0_:Nat),e=.returned (.tuple #[.slice A0_ r1.length c0_,.int .i64 r2])∧r1.length≤c0_∧Kd.F (Kd.slice 53 k53) w' (fun k_=>w.heap.size≤k_) A0_ r1.length r1∧Below w.heap.size w w'):=by
 unfold dn_Parse.f at h
 have HH:=za h
 clear h
 have HB:=za (Below.refl w.heap.size w)
 have hu53:=Try.underlying53
 have hu61:=Try.underlying61
 go_enter Try.func17,Try.ntmps17
 replace HH:=zqK 3000 HH
 rcases HH with⟨HH,hk2,hk3⟩|⟨HH,hk4,hk5⟩
 ·have H:=HH.out
  simp only[Option.some.injEq,Prod.mk.injEq] at H
  obtain⟨rfl,rfl⟩:=H
  clear HH
  (try go_wp2)
  refine MW.scope_labs ?_
  go_wp2
  (try simp only[MW.backTo_ret,MW.labs_ret])
  go_ret2
  exact⟨none,0,by first|rfl|(simp;done)|(simp[*];done),(Nat.le_refl _),(Kd.F_nil _ _ _),HB.out⟩
 replace HH:=zqe HH
 rcases HH with⟨HH,hk7,hk8⟩|⟨HH,hk9,hk10⟩
 ·have H:=HH.out
  simp only[Option.some.injEq,Prod.mk.injEq] at H
  obtain⟨rfl,rfl⟩:=H
  clear HH
  (try go_wp2)
  refine MW.scope_labs ?_
  go_wp2
  (try simp only[MW.backTo_ret,MW.labs_ret])
  go_ret2
  exact⟨none,0,by first|rfl|(simp;done)|(simp[*];done),(Nat.le_refl _),(Kd.F_nil _ _ _),HB.out⟩
 (try go_wp2)
 refine MW.scope_labs ?_
 go_wp2_with ((with_reducible refine gd 20 rfl ?_);refine zb 20 61 #[.string a0,.int .i64 0] (h:=?_);intro g11 hg w12 BKg11 hb)
 refine zg ?_
 have GEg11:=zge hg (below_size HB.out)
 replace HB:=zhb HB.out hb
 clear hg hb
 replace cBKg11:=MB.lz2 BKg11.out
 go_wp2_with (((with_reducible refine gate_dst (N:=21) rfl ?_);(try(refine gate_guard (by rfl) ?_;dsimp only));refine Kd.N_lit MC.KV w.heap.size 39 rfl (N':=21) rfl (xs:=[MC.nilRV]) (inner:=[.slice none 0 0]) (ok:=(fun k_=>(w.heap.size≤k_)∧k_≠g11)) (okp:=(fun k_=>(w.heap.size≤k_)∧k_≠g11)) ?hr ?hp (fun _ hk_=>hk_) ?hf HB.out (below_size HB.out) (by first|simp|decide) ?_;(case hr=>first|(go_simp;done)|(go_simp;rfl));(case hp=>exact(Reps.one (fun _ _=>rfl) (Reps.none _ _)));(case hf=>exact(show ∀ k_,w12.heap.size≤k_→(fun k_=>(w.heap.size≤k_)∧k_≠g11) k_ from fun k_ h_=>⟨(Nat.le_trans (below_size HB.out) h_),Kd.freshB (g:=g11) BKg11.out k_ h_⟩) _ (Nat.le_refl _));intro v15 w16 hn1 hb1 hg1 hat1);replace hat1:=za hat1;refine stop_ ?_)
 refine zg ?_
 replace hat1:=hat1.out
 have hbe:=MW.grown_below hg1
 have hba:=MW.base_of hat1
 replace BKg11:=za (blk_below (g:=g11) BKg11.out hbe)
 replace HB:=za hb1
 have HN17:=za (MC.NP_init (d:=k53) (e2:=53) hn1)
 clear hn1 hb1 hg1 hat1 hbe hba
 replace cBKg11:=MB.lz2 BKg11.out
 go_wp2
 apply wp_label
 go_wp2
 go_loopg [5] k (fun kq u5 w'=>∃ (x20:List (List (S53))) (x23:ByteArray) (x24:Int),Aside0 ((dn_Parse.l0 kq x20 x23 x24 a0)=some (r1,r2))∧Aside0 (kq≤k)∧Aside0 (MC.NP k53 53 39 w' w.heap.size (fun k_=>(w.heap.size≤k_)∧k_≠g11) u5 x20)∧Aside0 (w'.heap[g11]? =some (.cells #[.string x23,.int .i64 x24] 61 (0,0)))∧Aside0 (Below w.heap.size w w'))
 case atStart=>exact⟨([([]:List (S53))]:List (List (S53))),a0,0,HH,⟨Nat.le_refl _⟩,⟨(MC.NP_mono (ok:=(fun k_=>(w.heap.size≤k_)∧k_≠g11)) HN17.out (fun k_ hk_=>hk_))⟩,⟨BKg11.out⟩,⟨HB.out⟩⟩
 case round=>
  clear hk4
  clear hk5
  clear hk9
  clear hk10
  clear HH
  clear HN17 BKg11 HB
  obtain⟨x20,x23,x24,HA,HK0,HN22,BKg11,HB⟩:=hrel
  obtain⟨v21,rfl⟩:∃ z_:Value,z_=u5:=⟨_,rfl⟩
  obtain⟨w26,rfl⟩:∃ wo_:World,wo_=wr:=⟨_,rfl⟩
  cases gk with
  |zero=>exact absurd HA.out (by simp[dn_Parse.l0])
  |succ k25=>
   have H:=HA.out
   clear HA
   simp only[dn_Parse.l0] at H
   have HH:=za H
   clear H
   replace cBKg11:=MB.lz2 BKg11.out
   replace HH:=zd HH
   obtain⟨⟨t29,t30,t31,t32⟩,At33,HH⟩:=HH
   dsimp only at HH
   go_wp2_with (((with_reducible refine gc 31 rfl ?_);refine zc 31 (some 24) Try.func31 #[.pointer (some ⟨g11,0,none⟩)] (h:=?_);refine(dn_reader_name.calls k25 w.heap.size g11 x23 x24 t29 t30 t31 t32 _ (below_size HB.out) BKg11.out GEg11.out At33.out).mono ?_;rintro e w34 ⟨rfl,hbk,hfr,hb⟩;refine⟨_,rfl,?_⟩);replace hbk:=za hbk;replace hfr:=za hfr)
   refine zg ?_
   replace hbk:=hbk.out
   replace hfr:=hfr.out
   replace HN22:=za (MC.NP_step (ok:=(fun k_=>(w.heap.size≤k_)∧k_≠g11)) HN22.out (fun k_ hk_ hlt_=>hfr k_ (hk_.2) hlt_))
   replace HB:=za (Below.trans HB.out hb)
   replace BKg11:=za hbk
   clear hbk hfr hb
   replace cBKg11:=MB.lz2 BKg11.out
   by_cases c37:t30=true
   ·replace HH:=MW.hpos HH c37
    subst c37
    replace HH:=zd HH
    obtain⟨⟨t38,t39,t40,t41⟩,At42,HH⟩:=HH
    dsimp only at HH
    go_wp2_with (((with_reducible refine gc 32 rfl ?_);refine zc 32 (some 31) Try.func32 #[.pointer (some ⟨g11,0,none⟩)] (h:=?_);refine(dn_reader_value.calls k25 w.heap.size g11 t31 t32 t38 t39 t40 t41 _ (below_size HB.out) BKg11.out GEg11.out At42.out).mono ?_;rintro e w43 ⟨rfl,hbk,hfr,hb⟩;refine⟨_,rfl,?_⟩);replace hbk:=za hbk;replace hfr:=za hfr)
    refine zg ?_
    replace hbk:=hbk.out
    replace hfr:=hfr.out
    replace HN22:=za (MC.NP_step (ok:=(fun k_=>(w.heap.size≤k_)∧k_≠g11)) HN22.out (fun k_ hk_ hlt_=>hfr k_ (hk_.2) hlt_))
    replace HB:=za (Below.trans HB.out hb)
    replace BKg11:=za hbk
    clear hbk hfr hb
    replace cBKg11:=MB.lz2 BKg11.out
    by_cases c46:t39=true
    ·replace HH:=MW.hpos HH c46
     subst c46
     obtain⟨A47,cp48,he_⟩:=MC.NP_slice HN22.out
     subst he_
     replace HH:=zqdo HH
     obtain⟨HH,hk50⟩:=HH
     replace HH:=zqto HH
     obtain⟨HH,hk52,hk53⟩:=HH
     obtain⟨HH,LMc54⟩:=zlm HH
     obtain⟨HH,LMc55⟩:=zlm HH
     obtain⟨y57,hy57⟩:∃ y_:List (List (S53)),y_=(List.set x20 (wrap64 ((x20.length:Int) - 1)).toNat (rd_L2 x20 (wrap64 ((x20.length:Int) - 1))++[(⟨t29,t38⟩:S53)])):=⟨_,rfl⟩
     have H:(if t41=(a0.size:Int) then((dn_Check.f k25 y57).bind fun t75=>(if t75=0 then(some (y57,0)) else(some (([]:List (List (S53))),t75)))) else(if 0≤(wrap64 ((wrap64 (t41+1)) - 1)) then(if (wrap64 ((wrap64 (t41+1)) - 1))<(a0.size:Int) then(if (bt a0 (wrap64 ((wrap64 (t41+1)) - 1)))=44 then(if y57.length<5864062014805 then((some (y57++[[]]:List (List (S53)))).bind fun y100=>((dn_Parse.l0 k25 y100 t40 (wrap64 (t41+1)) a0))) else(none)) else((dn_Parse.l0 k25 y57 t40 (wrap64 (t41+1)) a0))) else(none)) else(none)))=some (r1,r2):=by rw[hy57];exact HH.out
     replace HH:=za H
     clear H
     have NYy57:=za hy57
     clear hy57
     have p56:0≤((wrap64 ((x20.length:Int) - 1)):Int):=of_decide_eq_true (by first|(with_reducible assumption)|assumption)
     have q56:(wrap64 ((x20.length:Int) - 1))<(x20.length:Int):=of_decide_eq_true (by first|(with_reducible assumption)|assumption)
     obtain⟨ad56,hs56,vl56,hA_,_,hi_,hl_,hno_,hnl_,hfi_,hcl56⟩:=MC.NP_open HN22.out (wrap64 ((x20.length:Int) - 1)) LMc54.out
     subst hA_
     have HO56:=za hno_
     have HL56:Aside0 (Kd.N k53 53 w43 w.heap.size (fun k_=>(fun k_=>(w.heap.size≤k_)∧k_≠g11) k_∧some k_≠((.slice (some ad56) x20.length cp48):Value).ownBlock) vl56.1 (rd_L2 x20 (wrap64 ((x20.length:Int) - 1)))):=⟨hnl_⟩
     have HI56:=za hfi_
     have Hi56:=za hi_
     have Hl56:=za hl_
     clear hno_ hnl_ hfi_ hi_ hl_ HN22
     have p56_:=eq_true p56
     have q56_:=eq_true q56
     go_wp2_with (((with_reducible refine gate_dst (N:=49) rfl ?_);(try(refine gate_guard (by rfl) ?_;dsimp only));refine Kd.N_append k53 w.heap.size rfl _ _ 39 53 (.agg #[(.string ⟨#[]⟩),(.string ⟨#[]⟩)]) 32 rfl Try.underlying39 info53 rfl (by decide) (by decide) (vl56.1) (rd_L2 x20 (wrap64 ((x20.length:Int) - 1))) (⟨t29,t38⟩:S53) [.string t29,.string t38] (fun k_=>(fun k_=>(w.heap.size≤k_)∧k_≠g11) k_∧some k_≠((.slice (some ad56) x20.length cp48):Value).ownBlock) (fun k_=>(fun k_=>(fun k_=>(w.heap.size≤k_)∧k_≠g11) k_∧some k_≠((.slice (some ad56) x20.length cp48):Value).ownBlock) k_∧some k_≠vl56.1.ownBlock) rfl rfl (k53_mkF _ _ (⟨t29,t38⟩:S53)) (fun _ hk_=>hk_) (fun k_ h_=>⟨⟨(Nat.le_trans (below_size (by repeat(first|(with_reducible first|exact HB.out|apply below_alloc|apply pw_below_drewN|apply below_drew1)|exact HB.out))) h_),Kd.freshB (g:=g11) (o:=.cells #[.string t40,.int .i64 t41] 61 (0,0)) (by(with_reducible repeat(first|refine blk_drewN ?_ _|refine blk_drew ?_|refine blk_alloc ?_ _));exact BKg11.out) k_ h_⟩,Kd.fresh' (Kd.N_lt HO56.out) k_ h_⟩) (by(with_reducible repeat(first|apply Kd.N_alloc|apply Kd.N_drewN|apply Kd.N_drew));exact HL56.out) (by repeat(first|(with_reducible first|exact HB.out|apply below_alloc|apply pw_below_drewN|apply below_drew1)|exact HB.out)) (below_size (by repeat(first|(with_reducible first|exact HB.out|apply below_alloc|apply pw_below_drewN|apply below_drew1)|exact HB.out))) (by have:=LMc55.out;omega) ?_;intro v58 w59 hn1 hb1 hg1 hat1);replace hat1:=za hat1;refine stop_ ?_)
     refine zg ?_
     replace hat1:=hat1.out
     replace BKg11:=za (blk_grown (g:=g11) (o:=.cells #[.string t40,.int .i64 t41] 61 (0,0)) (by(with_reducible repeat(first|refine blk_drewN ?_ _|refine blk_drew ?_|refine blk_alloc ?_ _));exact BKg11.out) hg1 (Kd.N_away (ok:=(fun k_=>(fun k_=>(w.heap.size≤k_)∧k_≠g11) k_∧some k_≠((.slice (some ad56) x20.length cp48):Value).ownBlock)) HL56.out (fun k_ hk_=>hk_.1.2)))
     replace HB:=za hb1
     replace HO56:=za (Kd.N_after (u:=vl56.1) HO56.out hg1 hat1)
     replace HI56:=za (MC.FI_after (u:=vl56.1) HI56.out hg1 hat1)
     replace HL56:=za hn1
     have HV56:=za (Kd.N_val hn1).2
     clear hcl56 hn1 hb1 hg1 hat1
     replace cBKg11:=MB.lz2 BKg11.out
     go_wp2_with (((with_reducible refine gate_store (t:=39) (p:=50) rfl ?_);(try(refine gate_guard (by rfl) ?_;dsimp only));refine MW.ev_set1 (n:=x20.length) w.heap.size rfl rfl _ _ _ rfl 39 (wrap64 ((x20.length:Int) - 1)) (hs56++[vl56]) (⟨v58,HV56.out⟩:MC.RV) (fun k_=>(fun k_=>(w.heap.size≤k_)∧k_≠g11) k_∧some k_≠(v58:Value).ownBlock) (by rfl) (by rfl) (by kernel_rfl) HO56.out p56 q56 HB.out ?_;intro w61 hn2 hb2 hg2);refine stop_ ?_)
     refine zg ?_
     replace BKg11:=za (blk_grown (g:=g11) BKg11.out hg2 (Kd.N_away (ok:=(fun k_=>(fun k_=>(w.heap.size≤k_)∧k_≠g11) k_∧some k_≠(v58:Value).ownBlock)) HO56.out (fun k_ hk_=>hk_.1.2)))
     replace HB:=za hb2
     obtain⟨v60,hv9⟩:∃ z_:Value,z_=((.slice (some ad56) x20.length cp48):Value):=⟨_,rfl⟩
     rw[← hv9]
     have HN62:Aside0 (MC.NP k53 53 39 w61 w.heap.size (fun k_=>(w.heap.size≤k_)∧k_≠g11) v60 y57):=⟨by rw[hv9,NYy57.out];exact MC.NP_put HV56.out Hi56.out Hl56.out hn2 (Kd.N_grown HL56.out hg2 (fun k_ hk_=>hk_.2)) (MC.FI_grown HI56.out hg2 (fun k_ hk_=>hk_.1.2))⟩
     clear hv9 hn2 hb2 hg2 HO56 HI56 HL56 HV56 Hi56 Hl56 p56 q56 p56_ q56_
     replace cBKg11:=MB.lz2 BKg11.out
     replace HH:=zqe HH
     rcases HH with⟨HH,hk68,hk69⟩|⟨HH,hk85,hk86⟩
     ·have HN70:=za (MC.NP_N HN62.out)
      clear HN62
      obtain⟨A71,cp72,he_⟩:=Kd.N_slice HN70.out
      subst he_
      have HL74:=za (Kd.N_reads' HN70.out).2.1
      have HF73:=za (Kd.N_F HN70.out)
      clear HN70
      replace HH:=zd HH
      obtain⟨t75,At76,HH⟩:=HH
      go_wp2_with ((with_reducible refine gc 13 rfl ?_);refine zc 13 (some 77) Try.func13 #[.slice A71 y57.length cp72] (h:=?_);(with_reducible refine(dn_Check.calls k25 (fun k_=>(w.heap.size≤k_)∧k_≠g11) _ _ y57 t75 _ HF73.out HL74.out At76.out).mono ?_);rintro e w77 ⟨rfl,hb⟩;refine⟨_,rfl,?_⟩)
      refine zg ?_
      replace HF73:=zfb HF73.out hb
      replace BKg11:=zbb BKg11.out hb
      replace HB:=zhb HB.out hb
      clear hb
      replace cBKg11:=MB.lz2 BKg11.out
      replace HH:=zqe HH
      rcases HH with⟨HH,hk81,hk82⟩|⟨HH,hk83,hk84⟩
      ·have H:=HH.out
       simp only[Option.some.injEq,Prod.mk.injEq] at H
       obtain⟨rfl,rfl⟩:=H
       clear HH
       go_wp2
       (try simp only[MW.backTo_ret,MW.labs_ret])
       go_ret2
       exact⟨_,_,by first|rfl|(simp;done)|(simp[*];done),HL74.out,(Kd.F_mono (ok:=(fun k_=>(w.heap.size≤k_)∧k_≠g11)) HF73.out (fun k_ hk_=>hk_.1)),HB.out⟩
      have H:=HH.out
      simp only[Option.some.injEq,Prod.mk.injEq] at H
      obtain⟨rfl,rfl⟩:=H
      clear HH
      go_wp2
      (try simp only[MW.backTo_ret,MW.labs_ret])
      go_ret2
      exact⟨none,0,by first|rfl|(simp;done)|(simp[*];done),(Nat.le_refl _),(Kd.F_nil _ _ _),HB.out⟩
     go_wp2_with ((with_reducible refine gs 3 64 rfl ?_);refine zs 3 64 #[.string t40,.int .i64 (wrap64 (t41+1))] BKg11.out [.int .i64 (wrap64 (t41+1))] (h:=?_);intro w87 hbk hg)
     refine zg ?_
     replace HN62:=MC.NP_zng HN62.out hg fun k_ hk_=>hk_.2
     replace HB:=zhg HB.out hg (below_size HB.out) GEg11
     replace BKg11:=hbk
     clear hg hbk
     replace cBKg11:=MB.lz2 BKg11.out
     replace HH:=zqdo HH
     obtain⟨HH,hk91⟩:=HH
     replace HH:=zqto HH
     obtain⟨HH,hk93,hk94⟩:=HH
     have p95:0≤((wrap64 ((wrap64 (t41+1)) - 1)):Int):=of_decide_eq_true (by first|(with_reducible assumption)|assumption)
     have q95:(wrap64 ((wrap64 (t41+1)) - 1))<(a0.size:Int):=of_decide_eq_true (by first|(with_reducible assumption)|assumption)
     have hx95:=MW.bt_at' a0 (wrap64 ((wrap64 (t41+1)) - 1))
     replace p95:=eq_true p95
     replace q95:=eq_true q95
     replace HH:=zqe HH
     rcases HH with⟨HH,hk97,hk98⟩|⟨HH,hk107,hk108⟩
     ·obtain⟨HH,LMc99⟩:=zlm HH
      obtain⟨y100,hy100⟩:∃ y_:List (List (S53)),y_=(y57++[[]]):=⟨_,rfl⟩
      have H:((dn_Parse.l0 k25 y100 t40 (wrap64 (t41+1)) a0))=some (r1,r2):=by rw[hy100];exact HH.out
      replace HH:=za H
      clear H
      have NYy100:=za hy100
      clear hy100
      obtain⟨hs104,hr_,hfi_,hle_⟩:=MC.NP_shut HN62.out
      have HR104:=za hr_
      have HI104:=za hfi_
      have HE104:=za hle_
      clear hr_ hfi_ hle_ HN62
      go_wp2_with (((with_reducible refine gate_dst (N:=75) rfl ?_);(try(refine gate_guard (by rfl) ?_;dsimp only));refine Kd.N_append MC.KV w.heap.size rfl _ _ 23 39 (.slice none 0 0) 24 rfl Try.underlying23 info39 rfl (by decide) (by decide) (v60) hs104 MC.nilRV [.slice none 0 0] (fun k_=>(w.heap.size≤k_)∧k_≠g11) (fun k_=>(fun k_=>(w.heap.size≤k_)∧k_≠g11) k_∧some k_≠(v60:Value).ownBlock) rfl rfl (fun _ _=>rfl) (fun _ hk_=>hk_) (fun k_ h_=>⟨(Nat.le_trans (below_size (by repeat(first|(with_reducible first|exact HB.out|apply below_alloc|apply pw_below_drewN|apply below_drew1)|exact HB.out))) h_),Kd.freshB (g:=g11) (o:=.cells #[.string t40,.int .i64 (wrap64 (t41+1))] 61 (0,0)) (by(with_reducible repeat(first|refine blk_drewN ?_ _|refine blk_drew ?_|refine blk_alloc ?_ _));exact BKg11.out) k_ h_⟩) (by(with_reducible repeat(first|apply Kd.N_alloc|apply Kd.N_drewN|apply Kd.N_drew));exact HR104.out) (by repeat(first|(with_reducible first|exact HB.out|apply below_alloc|apply pw_below_drewN|apply below_drew1)|exact HB.out)) (below_size (by repeat(first|(with_reducible first|exact HB.out|apply below_alloc|apply pw_below_drewN|apply below_drew1)|exact HB.out))) (by have:=LMc99.out;have:=HE104.out;omega) ?_;intro v101 w102 hn1 hb1 hg1 hat1);replace hat1:=za hat1;refine stop_ ?_)
      refine zg ?_
      replace hat1:=hat1.out
      replace BKg11:=za (blk_grown (g:=g11) (o:=.cells #[.string t40,.int .i64 (wrap64 (t41+1))] 61 (0,0)) (by(with_reducible repeat(first|refine blk_drewN ?_ _|refine blk_drew ?_|refine blk_alloc ?_ _));exact BKg11.out) hg1 (Kd.N_away (ok:=(fun k_=>(w.heap.size≤k_)∧k_≠g11)) HR104.out (fun k_ hk_=>hk_.2)))
      replace HB:=za hb1
      have HN103:Aside0 (MC.NP k53 53 39 w102 w.heap.size (fun k_=>(w.heap.size≤k_)∧k_≠g11) v101 y100):=⟨by rw[NYy100.out];exact MC.NP_more hn1 (MC.FI_after (u:=v60) HI104.out hg1 hat1)⟩
      clear hn1 hb1 hg1 hat1 HR104 HI104 HE104
      replace cBKg11:=MB.lz2 BKg11.out
      go_wp2
      go_roundg k25
      case measure=>have:=HK0.out;omega
      case rel=>exact⟨y100,t40,wrap64 (t41+1),HH,⟨by have:=HK0.out;omega⟩,⟨(MC.NP_mono (ok:=(fun k_=>(w.heap.size≤k_)∧k_≠g11)) HN103.out (fun k_ hk_=>hk_))⟩,⟨BKg11.out⟩,⟨HB.out⟩⟩
     go_wp2
     go_roundg k25
     case measure=>have:=HK0.out;omega
     case rel=>exact⟨y57,t40,wrap64 (t41+1),HH,⟨by have:=HK0.out;omega⟩,⟨(MC.NP_mono (ok:=(fun k_=>(w.heap.size≤k_)∧k_≠g11)) HN62.out (fun k_ hk_=>hk_))⟩,⟨BKg11.out⟩,⟨HB.out⟩⟩
    replace HH:=MW.hneg HH c46
    replace c46:=Bool.eq_false_iff.mpr c46
    subst c46
    have H:=HH.out
    simp only[Option.some.injEq,Prod.mk.injEq] at H
    obtain⟨rfl,rfl⟩:=H
    clear HH
    go_wp2
    (try simp only[MW.backTo_ret,MW.labs_ret])
    go_ret2
    exact⟨none,0,by first|rfl|(simp;done)|(simp[*];done),(Nat.le_refl _),(Kd.F_nil _ _ _),HB.out⟩
   replace HH:=MW.hneg HH c37
   replace c37:=Bool.eq_false_iff.mpr c37
   subst c37
   have H:=HH.out
   simp only[Option.some.injEq,Prod.mk.injEq] at H
   obtain⟨rfl,rfl⟩:=H
   clear HH
   go_wp2
   (try simp only[MW.backTo_ret,MW.labs_ret])
   go_ret2
   exact⟨none,0,by first|rfl|(simp;done)|(simp[*];done),(Nat.le_refl _),(Kd.F_nil _ _ _),HB.out⟩
end Go.Proofs.Ytapinanmmhdpcaa.GA

namespace Go.Proofs.Ytapinanmmhdpcaa.GA
open Go.RowKit Go.Proofs.Ytapinanmmhdpcaa Go.Proofs.Ytapinanmmhdpcaa.MW Go.Proofs.YtapinanmmhdpcaaW.PrintWords Go.Proofs.YtapinanmmhdpcaaW.PrintLast Go.Proofs.YtapinanmmhdpcaaW.PrintMore
attribute [local go_sem] max2_int min2_int max_two min_two
set_option linter.unusedVariables false
set_option linter.unusedSimpArgs false
attribute [local go_sem high] eqA53
def toponymlaw18_awake.f (k:Nat)  :Option (Bool):=(dn_Parse.f k (⟨#[67,78,61,97,92,44,98,43,115,110,61,92,32,99,44,111,61,100]⟩:ByteArray)).bind fun bt1=>((dn_Show.f k bt1.1).bind fun bt6=>((dn_Above.f k bt1.1).bind fun bt10=>((dn_Parse.f k (⟨#[99,110,61,32,97]⟩:ByteArray)).bind fun bt15=>(if (bt1.1.length:Int)=2 then(if bt1.2=0 then(if 0<(bt1.1.length:Int) then(if ((rd_L2 bt1.1 (0:Int)).length:Int)=2 then(if 0<((rd_L2 bt1.1 (0:Int)).length:Int) then(if (((rd_T53 (rd_L2 bt1.1 (0:Int)) (0:Int)).f0).toList==(⟨#[99,110]⟩:ByteArray).toList && (((rd_T53 (rd_L2 bt1.1 (0:Int)) (0:Int)).f1).toList==(⟨#[97,44,98]⟩:ByteArray).toList))=true then(if 1<((rd_L2 bt1.1 (0:Int)).length:Int) then(if ((rd_T53 (rd_L2 bt1.1 (0:Int)) (1:Int)).f1).toList=([32,99]:List UInt8) then(if bt6.1.toList=([99,110,61,97,92,44,98,43,115,110,61,92,32,99,44,111,61,100]:List UInt8) then(if bt6.2=0 then(if bt10.2=true then(if (bt10.1.length:Int)=1 then(if bt15.2=220 then((dn_Word.f k (⟨#[97,45,49]⟩:ByteArray)).bind fun t71=>(if t71=true then((dn_Word.f k (⟨#[65]⟩:ByteArray)).bind fun t75=>(some (!t75))) else(some false))) else(some false)) else(some false)) else(some false)) else(some false)) else(some false)) else(some false)) else(none)) else(some false)) else(none)) else(some false)) else(none)) else(some false)) else(some false)))))
theorem toponymlaw18_awake.mono:∀ k,LeO (toponymlaw18_awake.f k) (toponymlaw18_awake.f (k+1)):=by
 intro  k
 unfold toponymlaw18_awake.f
 with_reducible repeat' first|exact dn_Above.mono _ _|exact dn_Parse.mono _ _|exact dn_Show.mono _ _|exact dn_Word.mono _ _|exact LeO.refl _|exact LeO.none _|refine LeO.ite ?_ ?_|refine LeO.bind ?_ (fun _=>?_)
theorem toponymlaw18_awake.calls (k:Nat) (r:Bool) (w:World) (h:toponymlaw18_awake.f k  =some r):
  Calls Try.prog 10 #[] w (fun e w'=>e=.returned (.bool r)∧Below w.heap.size w w'):=by
 unfold toponymlaw18_awake.f at h
 have HH:=za h
 clear h
 have HB:=za (Below.refl w.heap.size w)
 have hu53:=Try.underlying53
 go_enter Try.func10,Try.ntmps10
 replace HH:=zd HH
 obtain⟨⟨t1,t2⟩,At3,HH⟩:=HH
 dsimp only at HH
 go_wp2_with ((with_reducible refine gc 17 rfl ?_);refine zc 17 (some 10) Try.func17 #[.string (⟨#[67,78,61,97,92,44,98,43,115,110,61,92,32,99,44,111,61,100]⟩:ByteArray)] (h:=?_);(with_reducible refine(dn_Parse.calls k  (⟨#[67,78,61,97,92,44,98,43,115,110,61,92,32,99,44,111,61,100]⟩:ByteArray) t1 t2 _  At3.out).mono ?_);rintro e w4 ⟨A5,cp5,rfl,hl5,hn5,hb⟩;refine⟨_,rfl,?_⟩)
 refine zg ?_
 have HL5:=za hl5
 have HF5:=za (Kd.F_mono hn5 (fun k_ h_=>(Nat.le_trans (below_size HB.out) h_)):Kd.F (Kd.slice 53 k53) _ (fun k_=>(w.heap.size≤k_)) _ _ _)
 clear hn5 hl5
 replace HB:=zhb HB.out hb
 clear hb
 replace HH:=zd HH
 obtain⟨⟨t6,t7⟩,At8,HH⟩:=HH
 dsimp only at HH
 go_wp2_with ((with_reducible refine gc 11 rfl ?_);refine zc 11 (some 15) Try.func11 #[.slice A5 t1.length cp5] (h:=?_);(with_reducible refine(dn_Show.calls k (fun k_=>(w.heap.size≤k_)) _ _ t1 t6 t7 _ HF5.out HL5.out At8.out).mono ?_);rintro e w9 ⟨rfl,hb⟩;refine⟨_,rfl,?_⟩)
 refine zg ?_
 replace HF5:=zfb HF5.out hb
 replace HB:=zhb HB.out hb
 clear hb
 replace HH:=zd HH
 obtain⟨⟨t10,t11⟩,At12,HH⟩:=HH
 dsimp only at HH
 go_wp2_with ((with_reducible refine gc 20 rfl ?_);refine zc 20 (some 20) Try.func20 #[.slice A5 t1.length cp5] (h:=?_);(with_reducible refine(dn_Above.calls k (fun k_=>(w.heap.size≤k_)) _ _ t1 t10 t11 _ HF5.out HL5.out At12.out).mono ?_);rintro e w13 ⟨v14,rfl,hn14,hb⟩;refine⟨_,rfl,?_⟩)
 refine zg ?_
 have hba:=Kd.N_base hn14
 have HN14:=znl (ok2:=(fun k_=>(w.heap.size≤k_))) hn14 (below_size HB.out) (fun k_ hk_=>hk_.elim (fun h_=>h_) (fun h_=>(Nat.le_trans (below_size HB.out) h_)))
 replace HF5:=zfr (v:=v14) HF5.out hba hb
 replace HB:=zhb HB.out hb
 clear hn14 hba hb
 replace HH:=zd HH
 obtain⟨⟨t15,t16⟩,At17,HH⟩:=HH
 dsimp only at HH
 go_wp2_with ((with_reducible refine gc 17 rfl ?_);refine zc 17 (some 24) Try.func17 #[.string (⟨#[99,110,61,32,97]⟩:ByteArray)] (h:=?_);(with_reducible refine(dn_Parse.calls k  (⟨#[99,110,61,32,97]⟩:ByteArray) t15 t16 _  At17.out).mono ?_);rintro e w18 ⟨A19,cp19,rfl,hl19,hn19,hb⟩;refine⟨_,rfl,?_⟩)
 refine zg ?_
 clear hn19 hl19
 replace HF5:=zfb HF5.out hb
 replace HN14:=znb HN14.out hb
 replace HB:=zhb HB.out hb
 clear hb
 replace HH:=zqe HH
 rcases HH with⟨HH,hk21,hk22⟩|⟨HH,hk110,hk111⟩
 ·replace HH:=zqe HH
  rcases HH with⟨HH,hk24,hk25⟩|⟨HH,hk108,hk109⟩
  ·replace HH:=zqno 0 HH
   obtain⟨HH,hk27,hk28,hk29,hk30⟩:=HH
   have p31:0≤(0:Int):=by decide
   have q31:(0:Int)<(t1.length:Int):=of_decide_eq_true (by first|(with_reducible assumption)|assumption)
   obtain⟨ad31,A31_0,c31_0,e31,hx31_0,hl31_0,hi31_0⟩:=atF_L2 HF5.out (0:Int) p31 q31
   cases e31
   (try simp only[show((0:Int)).toNat=0 from rfl] at hx31_0)
   (try rw[Addr.add_zero'] at hx31_0)
   have HF31_0:=za hi31_0
   clear hi31_0 hl31_0
   replace p31:=eq_true p31
   replace q31:=eq_true q31
   replace HH:=zqe HH
   rcases HH with⟨HH,hk33,hk34⟩|⟨HH,hk102,hk103⟩
   ·replace HH:=zqno 0 HH
    obtain⟨HH,hk36,hk37,hk38,hk39⟩:=HH
    have p40:0≤(0:Int):=by decide
    have q40:(0:Int)<((rd_L2 t1 (0:Int)).length:Int):=of_decide_eq_true (by first|(with_reducible assumption)|assumption)
    obtain⟨ad40,e40,hx40_0,hx40_1⟩:=atF_T53 HF31_0.out (0:Int) p40 q40
    cases e40
    (try simp only[show((0:Int)).toNat=0 from rfl,show 0*2=0 from rfl] at hx40_0)
    (try rw[Addr.add_zero'] at hx40_0)
    (try simp only[show((0:Int)).toNat=0 from rfl,show 0*2=0 from rfl] at hx40_1)
    (try rw[Addr.add_zero'] at hx40_1)
    replace p40:=eq_true p40
    replace q40:=eq_true q40
    by_cases c41:(((rd_T53 (rd_L2 t1 (0:Int)) (0:Int)).f0).toList==(⟨#[99,110]⟩:ByteArray).toList && (((rd_T53 (rd_L2 t1 (0:Int)) (0:Int)).f1).toList==(⟨#[97,44,98]⟩:ByteArray).toList))=true
    ·replace HH:=MW.hpos HH c41
     have hk42:(((rd_T53 (rd_L2 t1 (0:Int)) (0:Int)).f0).toList==(⟨#[99,110]⟩:ByteArray).toList && (((rd_T53 (rd_L2 t1 (0:Int)) (0:Int)).f1).toList==(⟨#[97,44,98]⟩:ByteArray).toList))=true:=c41
     try have hk43:decide (((rd_T53 (rd_L2 t1 (0:Int)) (0:Int)).f0).toList=(⟨#[99,110]⟩:ByteArray).toList && (((rd_T53 (rd_L2 t1 (0:Int)) (0:Int)).f1).toList==(⟨#[97,44,98]⟩:ByteArray).toList))=true:=by simpa using c41
     try have hk44:(((rd_T53 (rd_L2 t1 (0:Int)) (0:Int)).f0).toList==(⟨#[99,110]⟩:ByteArray).toList && (((rd_T53 (rd_L2 t1 (0:Int)) (0:Int)).f1).toList==(⟨#[97,44,98]⟩:ByteArray).toList))=true:=by simpa using c41
     try have hk45:(((rd_T53 (rd_L2 t1 (0:Int)) (0:Int)).f0).toList=([99,110]:List UInt8)∧((rd_T53 (rd_L2 t1 (0:Int)) (0:Int)).f1).toList=([97,44,98]:List UInt8))=True:=eq_true (by simpa using c41)
     try have hk46:((((rd_T53 (rd_L2 t1 (0:Int)) (0:Int)).f0).toList==([99,110]:List UInt8)) && (((rd_T53 (rd_L2 t1 (0:Int)) (0:Int)).f1).toList==([97,44,98]:List UInt8)))=true:=by simpa using c41
     clear c41
     replace HH:=zqno 1 HH
     obtain⟨HH,hk48,hk49,hk50,hk51⟩:=HH
     have p52:0≤(1:Int):=by decide
     have q52:(1:Int)<((rd_L2 t1 (0:Int)).length:Int):=of_decide_eq_true (by first|(with_reducible assumption)|assumption)
     obtain⟨ad52,e52,hx52_0,hx52_1⟩:=atF_T53 HF31_0.out (1:Int) p52 q52
     cases e52
     (try simp only[show((1:Int)).toNat=1 from rfl,show 1*2=2 from rfl] at hx52_0)
     (try simp only[Nat.reduceMul,Nat.reduceEqDiff,Go.Addr.add,↓reduceIte] at hx52_0)
     (try simp only[show((1:Int)).toNat=1 from rfl,show 1*2=2 from rfl] at hx52_1)
     (try simp only[Nat.reduceMul,Nat.reduceEqDiff,Go.Addr.add,↓reduceIte] at hx52_1)
     replace p52:=eq_true p52
     replace q52:=eq_true q52
     replace HH:=zqe HH
     rcases HH with⟨HH,hk54,hk55⟩|⟨HH,hk86,hk87⟩
     ·replace HH:=zqe HH
      rcases HH with⟨HH,hk57,hk58⟩|⟨HH,hk84,hk85⟩
      ·replace HH:=zqe HH
       rcases HH with⟨HH,hk60,hk61⟩|⟨HH,hk82,hk83⟩
       ·by_cases c62:t11=true
        ·replace HH:=MW.hpos HH c62
         subst c62
         obtain⟨A63,cp64,he_⟩:=Kd.N_slice HN14.out
         subst he_
         replace HH:=zqe HH
         rcases HH with⟨HH,hk66,hk67⟩|⟨HH,hk80,hk81⟩
         ·replace HH:=zqe HH
          rcases HH with⟨HH,hk69,hk70⟩|⟨HH,hk78,hk79⟩
          ·replace HH:=zd HH
           obtain⟨t71,At72,HH⟩:=HH
           go_wp2_with ((with_reducible refine gc 15 rfl ?_);refine zc 15 (some 80) Try.func15 #[.string (⟨#[97,45,49]⟩:ByteArray)] (h:=?_);(with_reducible refine(dn_Word.calls k  (⟨#[97,45,49]⟩:ByteArray) t71 _  At72.out).mono ?_);rintro e w' ⟨rfl,⟨nd,rfl⟩⟩;refine⟨_,rfl,?_⟩)
           refine zg ?_
           by_cases c74:t71=true
           ·replace HH:=MW.hpos HH c74
            subst c74
            replace HH:=zd HH
            obtain⟨t75,At76,HH⟩:=HH
            go_wp2_with ((with_reducible refine gc 15 rfl ?_);refine zc 15 (some 83) Try.func15 #[.string (⟨#[65]⟩:ByteArray)] (h:=?_);(with_reducible refine(dn_Word.calls k  (⟨#[65]⟩:ByteArray) t75 _  At76.out).mono ?_);rintro e w' ⟨rfl,⟨nd,rfl⟩⟩;refine⟨_,rfl,?_⟩)
            refine zg ?_
            obtain rfl:=Option.some.inj HH.out
            clear HH
            go_wp2
            go_ret
            exact zfi (by repeat(first|(with_reducible first|exact HB.out|apply below_alloc|apply pw_below_drewN|apply below_drew1)|exact HB.out))
           replace HH:=MW.hneg HH c74
           replace c74:=Bool.eq_false_iff.mpr c74
           subst c74
           obtain rfl:=Option.some.inj HH.out
           clear HH
           go_wp2
           go_ret
           exact zfi (by repeat(first|(with_reducible first|exact HB.out|apply below_alloc|apply pw_below_drewN|apply below_drew1)|exact HB.out))
          obtain rfl:=Option.some.inj HH.out
          clear HH
          go_wp2
          go_ret
          exact zfi HB.out
         obtain rfl:=Option.some.inj HH.out
         clear HH
         go_wp2
         go_ret
         exact zfi HB.out
        replace HH:=MW.hneg HH c62
        replace c62:=Bool.eq_false_iff.mpr c62
        subst c62
        obtain rfl:=Option.some.inj HH.out
        clear HH
        go_wp2
        go_ret
        exact zfi HB.out
       obtain rfl:=Option.some.inj HH.out
       clear HH
       go_wp2
       go_ret
       exact zfi HB.out
      obtain rfl:=Option.some.inj HH.out
      clear HH
      go_wp2
      go_ret
      exact zfi HB.out
     obtain rfl:=Option.some.inj HH.out
     clear HH
     go_wp2
     go_ret
     exact zfi HB.out
    replace HH:=MW.hneg HH c41
    have hk92:(((rd_T53 (rd_L2 t1 (0:Int)) (0:Int)).f0).toList==(⟨#[99,110]⟩:ByteArray).toList && (((rd_T53 (rd_L2 t1 (0:Int)) (0:Int)).f1).toList==(⟨#[97,44,98]⟩:ByteArray).toList))=false:=by simpa using c41
    try have hk93:decide (((rd_T53 (rd_L2 t1 (0:Int)) (0:Int)).f0).toList=(⟨#[99,110]⟩:ByteArray).toList && (((rd_T53 (rd_L2 t1 (0:Int)) (0:Int)).f1).toList==(⟨#[97,44,98]⟩:ByteArray).toList))=false:=by simpa using c41
    try have hk94:(((rd_T53 (rd_L2 t1 (0:Int)) (0:Int)).f0).toList==(⟨#[99,110]⟩:ByteArray).toList && (((rd_T53 (rd_L2 t1 (0:Int)) (0:Int)).f1).toList==(⟨#[97,44,98]⟩:ByteArray).toList))=false:=by simpa using c41
    try have hk95: ¬ (((rd_T53 (rd_L2 t1 (0:Int)) (0:Int)).f0).toList=(⟨#[99,110]⟩:ByteArray).toList && (((rd_T53 (rd_L2 t1 (0:Int)) (0:Int)).f1).toList==(⟨#[97,44,98]⟩:ByteArray).toList)):=by simpa using c41
    try have hk96:(((rd_T53 (rd_L2 t1 (0:Int)) (0:Int)).f0).toList=([99,110]:List UInt8)∧((rd_T53 (rd_L2 t1 (0:Int)) (0:Int)).f1).toList=([97,44,98]:List UInt8))=False:=eq_false (by simpa using c41)
    try have hk97:((((rd_T53 (rd_L2 t1 (0:Int)) (0:Int)).f0).toList==([99,110]:List UInt8)) && (((rd_T53 (rd_L2 t1 (0:Int)) (0:Int)).f1).toList==([97,44,98]:List UInt8)))=false:=by simpa using c41
    clear c41
    obtain rfl:=Option.some.inj HH.out
    clear HH
    go_wp2
    go_ret
    exact zfi HB.out
   obtain rfl:=Option.some.inj HH.out
   clear HH
   go_wp2
   go_ret
   exact zfi HB.out
  obtain rfl:=Option.some.inj HH.out
  clear HH
  go_wp2
  go_ret
  exact zfi HB.out
 obtain rfl:=Option.some.inj HH.out
 clear HH
 go_wp2
 go_ret
 exact zfi HB.out
end Go.Proofs.Ytapinanmmhdpcaa.GA

namespace Go.Proofs.Ytapinanmmhdpcaa.GA
open Go.RowKit Go.Proofs.Ytapinanmmhdpcaa Go.Proofs.Ytapinanmmhdpcaa.MW Go.Proofs.YtapinanmmhdpcaaW.PrintWords Go.Proofs.YtapinanmmhdpcaaW.PrintLast Go.Proofs.YtapinanmmhdpcaaW.PrintMore
attribute [local go_sem] max2_int min2_int max_two min_two
set_option linter.unusedVariables false
set_option linter.unusedSimpArgs false
def dn_Rdn.f (k:Nat) (a0:ByteArray):Option ((List (S53)) × Int):=(dn_Parse.f k a0).bind fun bt1=>(if bt1.2=0 then(if (bt1.1.length:Int)=1 then(if 0<(bt1.1.length:Int) then(some (rd_L2 bt1.1 (0:Int),0)) else(none)) else(some (([]:List (S53)),220))) else(some (([]:List (S53)),bt1.2)))
theorem dn_Rdn.mono:∀ a0_ k,LeO (dn_Rdn.f k a0_) (dn_Rdn.f (k+1) a0_):=by
 intro a0_ k
 unfold dn_Rdn.f
 with_reducible repeat' first|exact dn_Parse.mono _ _|exact LeO.refl _|exact LeO.none _|refine LeO.ite ?_ ?_|refine LeO.bind ?_ (fun _=>?_)
theorem dn_Rdn.calls (k:Nat) (a0:ByteArray) (r1:List (S53)) (r2:Int) (w:World) (h:dn_Rdn.f k a0=some (r1,r2)):
  Calls Try.prog 22 #[.string a0] w (fun e w'=>∃ (A0_:Option Addr) (c0_:Nat),e=.returned (.tuple #[.slice A0_ r1.length c0_,.int .i64 r2])∧r1.length≤c0_∧Kd.F k53 w' (fun k_=>w.heap.size≤k_) A0_ r1.length r1∧Below w.heap.size w w'):=by
 unfold dn_Rdn.f at h
 have HH:=za h
 clear h
 have HB:=za (Below.refl w.heap.size w)
 go_enter Try.func22,Try.ntmps22
 replace HH:=zd HH
 obtain⟨⟨t1,t2⟩,At3,HH⟩:=HH
 dsimp only at HH
 go_wp2_with ((with_reducible refine gc 17 rfl ?_);refine zc 17 (some 8) Try.func17 #[.string a0] (h:=?_);(with_reducible refine(dn_Parse.calls k  a0 t1 t2 _  At3.out).mono ?_);rintro e w4 ⟨A5,cp5,rfl,hl5,hn5,hb⟩;refine⟨_,rfl,?_⟩)
 refine zg ?_
 have HF5:=za (Kd.F_mono hn5 (fun k_ h_=>(Nat.le_trans (below_size HB.out) h_)):Kd.F (Kd.slice 53 k53) _ (fun k_=>(w.heap.size≤k_)) _ _ _)
 clear hn5 hl5
 replace HB:=zhb HB.out hb
 clear hb
 replace HH:=zqe HH
 rcases HH with⟨HH,hk7,hk8⟩|⟨HH,hk24,hk25⟩
 ·replace HH:=zqe HH
  rcases HH with⟨HH,hk10,hk11⟩|⟨HH,hk22,hk23⟩
  ·replace HH:=zqno 0 HH
   obtain⟨HH,hk13,hk14,hk15,hk16⟩:=HH
   have p17:0≤(0:Int):=by decide
   have q17:(0:Int)<(t1.length:Int):=of_decide_eq_true (by first|(with_reducible assumption)|assumption)
   obtain⟨ad17,A17_0,c17_0,e17,hx17_0,hl17_0,hi17_0⟩:=atF_L2 HF5.out (0:Int) p17 q17
   cases e17
   (try simp only[show((0:Int)).toNat=0 from rfl] at hx17_0)
   (try rw[Addr.add_zero'] at hx17_0)
   have HF17_0:=za hi17_0
   have HL17_0:=za hl17_0
   clear hi17_0 hl17_0
   replace p17:=eq_true p17
   replace q17:=eq_true q17
   have H:=HH.out
   simp only[Option.some.injEq,Prod.mk.injEq] at H
   obtain⟨rfl,rfl⟩:=H
   clear HH
   go_wp2
   go_ret2
   exact⟨_,_,by first|rfl|(simp;done)|(simp[*];done),HL17_0.out,HF17_0.out,HB.out⟩
  have H:=HH.out
  simp only[Option.some.injEq,Prod.mk.injEq] at H
  obtain⟨rfl,rfl⟩:=H
  clear HH
  go_wp2
  go_ret2
  exact⟨none,0,by first|rfl|(simp;done)|(simp[*];done),(Nat.le_refl _),(Kd.F_nil _ _ _),HB.out⟩
 have H:=HH.out
 simp only[Option.some.injEq,Prod.mk.injEq] at H
 obtain⟨rfl,rfl⟩:=H
 clear HH
 go_wp2
 go_ret2
 exact⟨none,0,by first|rfl|(simp;done)|(simp[*];done),(Nat.le_refl _),(Kd.F_nil _ _ _),HB.out⟩

def toponymref18_Rdn.f (k:Nat) (a0:ByteArray):Option ((List (S53)) × Int):=(toponymref18_Parse.f k a0).bind fun bt1=>(if bt1.2=0 then(if (bt1.1.length:Int)=1 then(if 0<(bt1.1.length:Int) then(some (rd_L2 bt1.1 (0:Int),0)) else(none)) else(some (([]:List (S53)),220))) else(some (([]:List (S53)),bt1.2)))
theorem toponymref18_Rdn.mono:∀ a0_ k,LeO (toponymref18_Rdn.f k a0_) (toponymref18_Rdn.f (k+1) a0_):=by
 intro a0_ k
 unfold toponymref18_Rdn.f
 with_reducible repeat' first|exact toponymref18_Parse.mono _ _|exact LeO.refl _|exact LeO.none _|refine LeO.ite ?_ ?_|refine LeO.bind ?_ (fun _=>?_)
theorem toponymref18_Rdn.calls (k:Nat) (a0:ByteArray) (r1:List (S53)) (r2:Int) (w:World) (h:toponymref18_Rdn.f k a0=some (r1,r2)):
  Calls Try.prog 23 #[.string a0] w (fun e w'=>∃ (A0_:Option Addr) (c0_:Nat),e=.returned (.tuple #[.slice A0_ r1.length c0_,.int .i64 r2])∧r1.length≤c0_∧Kd.F k53 w' (fun k_=>w.heap.size≤k_) A0_ r1.length r1∧Below w.heap.size w w'):=by
 unfold toponymref18_Rdn.f at h
 have HH:=za h
 clear h
 have HB:=za (Below.refl w.heap.size w)
 go_enter Try.func23,Try.ntmps23
 replace HH:=zd HH
 obtain⟨⟨t1,t2⟩,At3,HH⟩:=HH
 dsimp only at HH
 go_wp2_with ((with_reducible refine gc 21 rfl ?_);refine zc 21 (some 8) Try.func21 #[.string a0] (h:=?_);(with_reducible refine(toponymref18_Parse.calls k  a0 t1 t2 _  At3.out).mono ?_);rintro e w4 ⟨A5,cp5,rfl,hl5,hn5,hb⟩;refine⟨_,rfl,?_⟩)
 refine zg ?_
 have HF5:=za (Kd.F_mono hn5 (fun k_ h_=>(Nat.le_trans (below_size HB.out) h_)):Kd.F (Kd.slice 53 k53) _ (fun k_=>(w.heap.size≤k_)) _ _ _)
 clear hn5 hl5
 replace HB:=zhb HB.out hb
 clear hb
 replace HH:=zqe HH
 rcases HH with⟨HH,hk7,hk8⟩|⟨HH,hk24,hk25⟩
 ·replace HH:=zqe HH
  rcases HH with⟨HH,hk10,hk11⟩|⟨HH,hk22,hk23⟩
  ·replace HH:=zqno 0 HH
   obtain⟨HH,hk13,hk14,hk15,hk16⟩:=HH
   have p17:0≤(0:Int):=by decide
   have q17:(0:Int)<(t1.length:Int):=of_decide_eq_true (by first|(with_reducible assumption)|assumption)
   obtain⟨ad17,A17_0,c17_0,e17,hx17_0,hl17_0,hi17_0⟩:=atF_L2 HF5.out (0:Int) p17 q17
   cases e17
   (try simp only[show((0:Int)).toNat=0 from rfl] at hx17_0)
   (try rw[Addr.add_zero'] at hx17_0)
   have HF17_0:=za hi17_0
   have HL17_0:=za hl17_0
   clear hi17_0 hl17_0
   replace p17:=eq_true p17
   replace q17:=eq_true q17
   have H:=HH.out
   simp only[Option.some.injEq,Prod.mk.injEq] at H
   obtain⟨rfl,rfl⟩:=H
   clear HH
   go_wp2
   go_ret2
   exact⟨_,_,by first|rfl|(simp;done)|(simp[*];done),HL17_0.out,HF17_0.out,HB.out⟩
  have H:=HH.out
  simp only[Option.some.injEq,Prod.mk.injEq] at H
  obtain⟨rfl,rfl⟩:=H
  clear HH
  go_wp2
  go_ret2
  exact⟨none,0,by first|rfl|(simp;done)|(simp[*];done),(Nat.le_refl _),(Kd.F_nil _ _ _),HB.out⟩
 have H:=HH.out
 simp only[Option.some.injEq,Prod.mk.injEq] at H
 obtain⟨rfl,rfl⟩:=H
 clear HH
 go_wp2
 go_ret2
 exact⟨none,0,by first|rfl|(simp;done)|(simp[*];done),(Nat.le_refl _),(Kd.F_nil _ _ _),HB.out⟩

def toponymlaw18_DnShows.f (k:Nat) (l0:List (List (S53))) (a1:ByteArray):Option (Bool):=(toponymlaw18_Few.f k l0).bind fun t1=>(if t1=true then(if (a1.size:Int)>10000 then((toponymlaw18_awake.f k).bind fun t8=>(some t8)) else((dn_Show.f k l0).bind fun bt13=>((toponymref18_Show.f k l0).bind fun bt17=>((dn_Check.f k l0).bind fun t21=>((toponymref18_Check.f k l0).bind fun t24=>(if t21=t24 then(if bt13.1.toList=bt17.1.toList then(if bt13.2=bt17.2 then((dn_Word.f k a1).bind fun t36=>((toponymref18_Word.f k a1).bind fun t39=>(if (t36==t39)=true then((toponymlaw18_awake.f k).bind fun t46=>(some t46)) else(some false)))) else(some false)) else(some false)) else(some false))))))) else((toponymlaw18_awake.f k).bind fun t59=>(some t59)))
theorem toponymlaw18_DnShows.mono:∀ a0_ a1_ k,LeO (toponymlaw18_DnShows.f k a0_ a1_) (toponymlaw18_DnShows.f (k+1) a0_ a1_):=by
 intro a0_ a1_ k
 unfold toponymlaw18_DnShows.f
 with_reducible repeat' first|exact dn_Check.mono _ _|exact dn_Show.mono _ _|exact dn_Word.mono _ _|exact toponymlaw18_Few.mono _ _|exact toponymlaw18_awake.mono _|exact toponymref18_Check.mono _ _|exact toponymref18_Show.mono _ _|exact toponymref18_Word.mono _ _|exact LeO.refl _|exact LeO.none _|refine LeO.ite ?_ ?_|refine LeO.bind ?_ (fun _=>?_)
theorem toponymlaw18_DnShows.calls (k:Nat) (P_:Nat→Prop) (A0:Option Addr) (c0:Nat) (l0:List (List (S53))) (a1:ByteArray) (r:Bool) (w:World) (hs0:Kd.F (Kd.slice 53 k53) w P_ A0 l0.length l0) (hc0:l0.length≤c0) (h:toponymlaw18_DnShows.f k l0 a1=some r):
  Calls Try.prog 3 #[.slice A0 l0.length c0,.string a1] w (fun e w'=>e=.returned (.bool r)∧Below w.heap.size w w'):=by
 unfold toponymlaw18_DnShows.f at h
 have HH:=za h
 clear h
 have HF0:=zfp hs0
 have HL0:=za hc0
 clear hs0 hc0
 have HB:=za (Below.refl w.heap.size w)
 go_enter Try.func3,Try.ntmps3
 replace HH:=zd HH
 obtain⟨t1,At2,HH⟩:=HH
 go_wp2_with ((with_reducible refine gc 9 rfl ?_);refine zc 9 (some 10) Try.func9 #[.slice A0 l0.length c0] (h:=?_);(with_reducible refine(toponymlaw18_Few.calls k (fun k_=>(P_ k_∨w.heap.size≤k_)) _ _ l0 t1 _ HF0.out HL0.out At2.out).mono ?_);rintro e w' ⟨rfl,⟨nd,rfl⟩⟩;refine⟨_,rfl,?_⟩)
 refine zg ?_
 by_cases c4:t1=true
 ·replace HH:=MW.hpos HH c4
  subst c4
  replace HH:=zqK 10000 HH
  rcases HH with⟨HH,hk6,hk7⟩|⟨HH,hk11,hk12⟩
  ·replace HH:=zd HH
   obtain⟨t8,At9,HH⟩:=HH
   go_wp2_with ((with_reducible refine gc 10 rfl ?_);refine zc 10 (some 17) Try.func10 #[] (h:=?_);(with_reducible refine(toponymlaw18_awake.calls k  t8 _  At9.out).mono ?_);rintro e w10 ⟨rfl,hb⟩;refine⟨_,rfl,?_⟩)
   refine zg ?_
   replace HB:=zhb (by repeat(first|(with_reducible first|exact HB.out|apply below_alloc|apply pw_below_drewN|apply below_drew1)|exact HB.out)) hb
   clear hb
   obtain rfl:=Option.some.inj HH.out
   clear HH
   go_wp2
   go_ret
   exact zfi HB.out
  replace HH:=zd HH
  obtain⟨⟨t13,t14⟩,At15,HH⟩:=HH
  dsimp only at HH
  go_wp2_with ((with_reducible refine gc 11 rfl ?_);refine zc 11 (some 20) Try.func11 #[.slice A0 l0.length c0] (h:=?_);(with_reducible refine(dn_Show.calls k (fun k_=>(P_ k_∨w.heap.size≤k_)) _ _ l0 t13 t14 _ (by(with_reducible repeat(first|apply Kd.F_alloc|apply Kd.F_drewN|apply Kd.F_drew));exact HF0.out) HL0.out At15.out).mono ?_);rintro e w16 ⟨rfl,hb⟩;refine⟨_,rfl,?_⟩)
  refine zg ?_
  replace HF0:=zfb (by(with_reducible repeat(first|apply Kd.F_alloc|apply Kd.F_drewN|apply Kd.F_drew));exact HF0.out) hb
  replace HB:=zhb (by repeat(first|(with_reducible first|exact HB.out|apply below_alloc|apply pw_below_drewN|apply below_drew1)|exact HB.out)) hb
  clear hb
  replace HH:=zd HH
  obtain⟨⟨t17,t18⟩,At19,HH⟩:=HH
  dsimp only at HH
  go_wp2_with ((with_reducible refine gc 12 rfl ?_);refine zc 12 (some 25) Try.func12 #[.slice A0 l0.length c0] (h:=?_);(with_reducible refine(toponymref18_Show.calls k (fun k_=>(P_ k_∨w.heap.size≤k_)) _ _ l0 t17 t18 _ HF0.out HL0.out At19.out).mono ?_);rintro e w20 ⟨rfl,hb⟩;refine⟨_,rfl,?_⟩)
  refine zg ?_
  replace HF0:=zfb HF0.out hb
  replace HB:=zhb HB.out hb
  clear hb
  replace HH:=zd HH
  obtain⟨t21,At22,HH⟩:=HH
  go_wp2_with ((with_reducible refine gc 13 rfl ?_);refine zc 13 (some 29) Try.func13 #[.slice A0 l0.length c0] (h:=?_);(with_reducible refine(dn_Check.calls k (fun k_=>(P_ k_∨w.heap.size≤k_)) _ _ l0 t21 _ HF0.out HL0.out At22.out).mono ?_);rintro e w23 ⟨rfl,hb⟩;refine⟨_,rfl,?_⟩)
  refine zg ?_
  replace HF0:=zfb HF0.out hb
  replace HB:=zhb HB.out hb
  clear hb
  replace HH:=zd HH
  obtain⟨t24,At25,HH⟩:=HH
  go_wp2_with ((with_reducible refine gc 14 rfl ?_);refine zc 14 (some 31) Try.func14 #[.slice A0 l0.length c0] (h:=?_);(with_reducible refine(toponymref18_Check.calls k (fun k_=>(P_ k_∨w.heap.size≤k_)) _ _ l0 t24 _ HF0.out HL0.out At25.out).mono ?_);rintro e w' ⟨rfl,⟨nd,rfl⟩⟩;refine⟨_,rfl,?_⟩)
  refine zg ?_
  replace HH:=zqe HH
  rcases HH with⟨HH,hk28,hk29⟩|⟨HH,hk57,hk58⟩
  ·replace HH:=zqe HH
   rcases HH with⟨HH,hk31,hk32⟩|⟨HH,hk55,hk56⟩
   ·replace HH:=zqe HH
    rcases HH with⟨HH,hk34,hk35⟩|⟨HH,hk53,hk54⟩
    ·replace HH:=zd HH
     obtain⟨t36,At37,HH⟩:=HH
     go_wp2_with ((with_reducible refine gc 15 rfl ?_);refine zc 15 (some 45) Try.func15 #[.string a1] (h:=?_);(with_reducible refine(dn_Word.calls k  a1 t36 _  At37.out).mono ?_);rintro e w' ⟨rfl,⟨nd,rfl⟩⟩;refine⟨_,rfl,?_⟩)
     refine zg ?_
     replace HH:=zd HH
     obtain⟨t39,At40,HH⟩:=HH
     go_wp2_with ((with_reducible refine gc 16 rfl ?_);refine zc 16 (some 47) Try.func16 #[.string a1] (h:=?_);(with_reducible refine(toponymref18_Word.calls k  a1 t39 _  At40.out).mono ?_);rintro e w' ⟨rfl,⟨nd,rfl⟩⟩;refine⟨_,rfl,?_⟩)
     refine zg ?_
     by_cases c42:(t36==t39)=true
     ·replace HH:=MW.hpos HH c42
      have hk43:(t36==t39)=true:=c42
      try have hk44:decide (t36=t39)=true:=by simpa using c42
      try have hk45:(t36==t39)=true:=by simpa using c42
      clear c42
      replace HH:=zd HH
      obtain⟨t46,At47,HH⟩:=HH
      go_wp2_with ((with_reducible refine gc 10 rfl ?_);refine zc 10 (some 51) Try.func10 #[] (h:=?_);(with_reducible refine(toponymlaw18_awake.calls k  t46 _  At47.out).mono ?_);rintro e w48 ⟨rfl,hb⟩;refine⟨_,rfl,?_⟩)
      refine zg ?_
      replace HB:=zhb (by repeat(first|(with_reducible first|exact HB.out|apply below_alloc|apply pw_below_drewN|apply below_drew1)|exact HB.out)) hb
      clear hb
      obtain rfl:=Option.some.inj HH.out
      clear HH
      go_wp2
      go_ret
      exact zfi HB.out
     replace HH:=MW.hneg HH c42
     have hk49:(t36==t39)=false:=by simpa using c42
     try have hk50:decide (t36=t39)=false:=by simpa using c42
     try have hk51:(t36==t39)=false:=by simpa using c42
     try have hk52: ¬ (t36=t39):=by simpa using c42
     clear c42
     obtain rfl:=Option.some.inj HH.out
     clear HH
     go_wp2
     go_ret
     exact zfi (by repeat(first|(with_reducible first|exact HB.out|apply below_alloc|apply pw_below_drewN|apply below_drew1)|exact HB.out))
    obtain rfl:=Option.some.inj HH.out
    clear HH
    go_wp2
    go_ret
    exact zfi (by repeat(first|(with_reducible first|exact HB.out|apply below_alloc|apply pw_below_drewN|apply below_drew1)|exact HB.out))
   obtain rfl:=Option.some.inj HH.out
   clear HH
   go_wp2
   go_ret
   exact zfi (by repeat(first|(with_reducible first|exact HB.out|apply below_alloc|apply pw_below_drewN|apply below_drew1)|exact HB.out))
  obtain rfl:=Option.some.inj HH.out
  clear HH
  go_wp2
  go_ret
  exact zfi (by repeat(first|(with_reducible first|exact HB.out|apply below_alloc|apply pw_below_drewN|apply below_drew1)|exact HB.out))
 replace HH:=MW.hneg HH c4
 replace c4:=Bool.eq_false_iff.mpr c4
 subst c4
 replace HH:=zd HH
 obtain⟨t59,At60,HH⟩:=HH
 go_wp2_with ((with_reducible refine gc 10 rfl ?_);refine zc 10 (some 17) Try.func10 #[] (h:=?_);(with_reducible refine(toponymlaw18_awake.calls k  t59 _  At60.out).mono ?_);rintro e w61 ⟨rfl,hb⟩;refine⟨_,rfl,?_⟩)
 refine zg ?_
 replace HB:=zhb (by repeat(first|(with_reducible first|exact HB.out|apply below_alloc|apply pw_below_drewN|apply below_drew1)|exact HB.out)) hb
 clear hb
 obtain rfl:=Option.some.inj HH.out
 clear HH
 go_wp2
 go_ret
 exact zfi HB.out

def toponymlaw18_DnForms.f (k:Nat) (a0:ByteArray):Option (Bool):=(dn_Parse.f k a0).bind fun bt1=>(if bt1.2=0 then((dn_Show.f k bt1.1).bind fun bt9=>((dn_Parse.f k bt9.1).bind fun bt13=>(if bt9.2=0 then((dn_Check.f k bt1.1).bind fun t21=>(if t21=0 then(if (bt9.1.size:Int)>3000 then((toponymlaw18_awake.f k).bind fun t30=>(some t30)) else(if bt13.2=0 then((toponymref18_Same.f k bt13.1 bt1.1).bind fun t38=>(if t38=true then((toponymlaw18_awake.f k).bind fun t42=>(some t42)) else(some false))) else(some false))) else(some false))) else(some false)))) else(if (bt1.1.length:Int)=0 then((toponymlaw18_awake.f k).bind fun t56=>(some t56)) else(some false)))
theorem toponymlaw18_DnForms.mono:∀ a0_ k,LeO (toponymlaw18_DnForms.f k a0_) (toponymlaw18_DnForms.f (k+1) a0_):=by
 intro a0_ k
 unfold toponymlaw18_DnForms.f
 with_reducible repeat' first|exact dn_Check.mono _ _|exact dn_Parse.mono _ _|exact dn_Show.mono _ _|exact toponymlaw18_awake.mono _|exact toponymref18_Same.mono _ _ _|exact LeO.refl _|exact LeO.none _|refine LeO.ite ?_ ?_|refine LeO.bind ?_ (fun _=>?_)
theorem toponymlaw18_DnForms.calls (k:Nat) (a0:ByteArray) (r:Bool) (w:World) (h:toponymlaw18_DnForms.f k a0=some r):
  Calls Try.prog 4 #[.string a0] w (fun e w'=>e=.returned (.bool r)∧Below w.heap.size w w'):=by
 unfold toponymlaw18_DnForms.f at h
 have HH:=za h
 clear h
 have HB:=za (Below.refl w.heap.size w)
 go_enter Try.func4,Try.ntmps4
 replace HH:=zd HH
 obtain⟨⟨t1,t2⟩,At3,HH⟩:=HH
 dsimp only at HH
 go_wp2_with ((with_reducible refine gc 17 rfl ?_);refine zc 17 (some 11) Try.func17 #[.string a0] (h:=?_);(with_reducible refine(dn_Parse.calls k  a0 t1 t2 _  At3.out).mono ?_);rintro e w4 ⟨A5,cp5,rfl,hl5,hn5,hb⟩;refine⟨_,rfl,?_⟩)
 refine zg ?_
 have HL5:=za hl5
 have HF5:=za (Kd.F_mono hn5 (fun k_ h_=>(Nat.le_trans (below_size HB.out) h_)):Kd.F (Kd.slice 53 k53) _ (fun k_=>(w.heap.size≤k_)) _ _ _)
 clear hn5 hl5
 replace HB:=zhb HB.out hb
 clear hb
 replace HH:=zqe HH
 rcases HH with⟨HH,hk7,hk8⟩|⟨HH,hk51,hk52⟩
 ·replace HH:=zd HH
  obtain⟨⟨t9,t10⟩,At11,HH⟩:=HH
  dsimp only at HH
  go_wp2_with ((with_reducible refine gc 11 rfl ?_);refine zc 11 (some 24) Try.func11 #[.slice A5 t1.length cp5] (h:=?_);(with_reducible refine(dn_Show.calls k (fun k_=>(w.heap.size≤k_)) _ _ t1 t9 t10 _ HF5.out HL5.out At11.out).mono ?_);rintro e w12 ⟨rfl,hb⟩;refine⟨_,rfl,?_⟩)
  refine zg ?_
  replace HF5:=zfb HF5.out hb
  replace HB:=zhb HB.out hb
  clear hb
  replace HH:=zd HH
  obtain⟨⟨t13,t14⟩,At15,HH⟩:=HH
  dsimp only at HH
  go_wp2_with ((with_reducible refine gc 17 rfl ?_);refine zc 17 (some 29) Try.func17 #[.string t9] (h:=?_);(with_reducible refine(dn_Parse.calls k  t9 t13 t14 _  At15.out).mono ?_);rintro e w16 ⟨A17,cp17,rfl,hl17,hn17,hb⟩;refine⟨_,rfl,?_⟩)
  refine zg ?_
  have HL17:=za hl17
  have HF17:=za (Kd.F_mono hn17 (fun k_ h_=>(Nat.le_trans (below_size HB.out) h_)):Kd.F (Kd.slice 53 k53) _ (fun k_=>(w.heap.size≤k_)) _ _ _)
  clear hn17 hl17
  replace HF5:=zfb HF5.out hb
  replace HB:=zhb HB.out hb
  clear hb
  replace HH:=zqe HH
  rcases HH with⟨HH,hk19,hk20⟩|⟨HH,hk49,hk50⟩
  ·replace HH:=zd HH
   obtain⟨t21,At22,HH⟩:=HH
   go_wp2_with ((with_reducible refine gc 13 rfl ?_);refine zc 13 (some 36) Try.func13 #[.slice A5 t1.length cp5] (h:=?_);(with_reducible refine(dn_Check.calls k (fun k_=>(w.heap.size≤k_)) _ _ t1 t21 _ HF5.out HL5.out At22.out).mono ?_);rintro e w23 ⟨rfl,hb⟩;refine⟨_,rfl,?_⟩)
   refine zg ?_
   replace HF5:=zfb HF5.out hb
   replace HF17:=zfb HF17.out hb
   replace HB:=zhb HB.out hb
   clear hb
   replace HH:=zqe HH
   rcases HH with⟨HH,hk25,hk26⟩|⟨HH,hk47,hk48⟩
   ·replace HH:=zqK 3000 HH
    rcases HH with⟨HH,hk28,hk29⟩|⟨HH,hk33,hk34⟩
    ·replace HH:=zd HH
     obtain⟨t30,At31,HH⟩:=HH
     go_wp2_with ((with_reducible refine gc 10 rfl ?_);refine zc 10 (some 54) Try.func10 #[] (h:=?_);(with_reducible refine(toponymlaw18_awake.calls k  t30 _  At31.out).mono ?_);rintro e w32 ⟨rfl,hb⟩;refine⟨_,rfl,?_⟩)
     refine zg ?_
     replace HB:=zhb HB.out hb
     clear hb
     obtain rfl:=Option.some.inj HH.out
     clear HH
     go_wp2
     go_ret
     exact zfi HB.out
    replace HH:=zqe HH
    rcases HH with⟨HH,hk36,hk37⟩|⟨HH,hk45,hk46⟩
    ·replace HH:=zd HH
     obtain⟨t38,At39,HH⟩:=HH
     go_wp2_with ((with_reducible refine gc 18 rfl ?_);refine zc 18 (some 49) Try.func18 #[.slice A17 t13.length cp17,.slice A5 t1.length cp5] (h:=?_);(with_reducible refine(toponymref18_Same.calls k (fun k_=>(w.heap.size≤k_)) _ _ t13 _ _ t1 t38 _ HF17.out HL17.out HF5.out HL5.out At39.out).mono ?_);rintro e w' ⟨rfl,⟨nd,rfl⟩⟩;refine⟨_,rfl,?_⟩)
     refine zg ?_
     by_cases c41:t38=true
     ·replace HH:=MW.hpos HH c41
      subst c41
      replace HH:=zd HH
      obtain⟨t42,At43,HH⟩:=HH
      go_wp2_with ((with_reducible refine gc 10 rfl ?_);refine zc 10 (some 54) Try.func10 #[] (h:=?_);(with_reducible refine(toponymlaw18_awake.calls k  t42 _  At43.out).mono ?_);rintro e w44 ⟨rfl,hb⟩;refine⟨_,rfl,?_⟩)
      refine zg ?_
      replace HB:=zhb (by repeat(first|(with_reducible first|exact HB.out|apply below_alloc|apply pw_below_drewN|apply below_drew1)|exact HB.out)) hb
      clear hb
      obtain rfl:=Option.some.inj HH.out
      clear HH
      go_wp2
      go_ret
      exact zfi HB.out
     replace HH:=MW.hneg HH c41
     replace c41:=Bool.eq_false_iff.mpr c41
     subst c41
     obtain rfl:=Option.some.inj HH.out
     clear HH
     go_wp2
     go_ret
     exact zfi (by repeat(first|(with_reducible first|exact HB.out|apply below_alloc|apply pw_below_drewN|apply below_drew1)|exact HB.out))
    obtain rfl:=Option.some.inj HH.out
    clear HH
    go_wp2
    go_ret
    exact zfi HB.out
   obtain rfl:=Option.some.inj HH.out
   clear HH
   go_wp2
   go_ret
   exact zfi HB.out
  obtain rfl:=Option.some.inj HH.out
  clear HH
  go_wp2
  go_ret
  exact zfi HB.out
 by_cases c53:(t1.length:Int)=0
 ·replace HH:=MW.hpos HH c53
  have hk54:((t1.length:Int)==0)=true:=beq_iff_eq.mpr c53
  have hk55:((t1.length:Int) != 0)=false:=bne_eq_false_iff_eq.mpr c53
  clear c53
  replace HH:=zd HH
  obtain⟨t56,At57,HH⟩:=HH
  go_wp2_with ((with_reducible refine gc 10 rfl ?_);refine zc 10 (some 20) Try.func10 #[] (h:=?_);(with_reducible refine(toponymlaw18_awake.calls k  t56 _  At57.out).mono ?_);rintro e w58 ⟨rfl,hb⟩;refine⟨_,rfl,?_⟩)
  refine zg ?_
  replace HB:=zhb HB.out hb
  clear hb
  obtain rfl:=Option.some.inj HH.out
  clear HH
  go_wp2
  go_ret
  exact zfi HB.out
 replace HH:=MW.hneg HH c53
 have hk59:((t1.length:Int)==0)=false:=beq_eq_false_iff_ne.mpr c53
 have hk60:((t1.length:Int) != 0)=true:=bne_iff_ne.mpr c53
 have hk61: ¬ (t1=[]):=fun h_=>c53 (by rw[h_];rfl)
 clear c53
 obtain rfl:=Option.some.inj HH.out
 clear HH
 go_wp2
 go_ret
 exact zfi HB.out

def toponymlaw18_DnAbove.f (k:Nat) (l0:List (List (S53))) (l1:List (S53)):Option (Bool):=(toponymlaw18_Few.f k l0).bind fun t1=>(if t1=true then((toponymlaw18_Few.f k ([l1]:List (List (S53)))).bind fun t12=>(if t12=true then((dn_Below.f k l0 l1).bind fun bt16=>(if bt16.2=0 then((dn_Above.f k bt16.1).bind fun bt28=>(if bt28.2=true then((toponymref18_Same.f k bt28.1 l0).bind fun t38=>(if t38=true then(if (bt16.1.length:Int)=(wrap64 ((l0.length:Int)+1)) then(if 1≤(bt16.1.length:Int) then((some (List.take 1 bt16.1:List (List (S53)))).bind fun y49=>((toponymref18_Same.f k y49 ([l1]:List (List (S53)))).bind fun t57=>(if t57=true then((dn_Check.f k bt16.1).bind fun t61=>(if t61=0 then((toponymlaw18_awake.f k).bind fun t67=>(some t67)) else(some false))) else(some false)))) else(none)) else(some false)) else(some false))) else(some false))) else(if (bt16.1.length:Int)=0 then((toponymlaw18_awake.f k).bind fun t83=>(some t83)) else(some false)))) else((toponymlaw18_awake.f k).bind fun t89=>(some t89)))) else((toponymlaw18_awake.f k).bind fun t92=>(some t92)))
theorem toponymlaw18_DnAbove.mono:∀ a0_ a1_ k,LeO (toponymlaw18_DnAbove.f k a0_ a1_) (toponymlaw18_DnAbove.f (k+1) a0_ a1_):=by
 intro a0_ a1_ k
 unfold toponymlaw18_DnAbove.f
 with_reducible repeat' first|exact dn_Above.mono _ _|exact dn_Below.mono _ _ _|exact dn_Check.mono _ _|exact toponymlaw18_Few.mono _ _|exact toponymlaw18_awake.mono _|exact toponymref18_Same.mono _ _ _|exact LeO.refl _|exact LeO.none _|refine LeO.ite ?_ ?_|refine LeO.bind ?_ (fun _=>?_)
theorem toponymlaw18_DnAbove.calls (k:Nat) (P_:Nat→Prop) (A0:Option Addr) (c0:Nat) (l0:List (List (S53))) (A1:Option Addr) (c1:Nat) (l1:List (S53)) (r:Bool) (w:World) (hs0:Kd.F (Kd.slice 53 k53) w P_ A0 l0.length l0) (hc0:l0.length≤c0) (hs1:Kd.F k53 w P_ A1 l1.length l1) (hc1:l1.length≤c1) (h:toponymlaw18_DnAbove.f k l0 l1=some r):
  Calls Try.prog 5 #[.slice A0 l0.length c0,.slice A1 l1.length c1] w (fun e w'=>e=.returned (.bool r)∧Below w.heap.size w w'):=by
 unfold toponymlaw18_DnAbove.f at h
 have HH:=za h
 clear h
 have HF0:=zfp hs0
 have HL0:=za hc0
 clear hs0 hc0
 have HF1:=zfp hs1
 have HL1:=za hc1
 clear hs1 hc1
 have HB:=za (Below.refl w.heap.size w)
 go_enter Try.func5,Try.ntmps5
 replace HH:=zd HH
 obtain⟨t1,At2,HH⟩:=HH
 go_wp2_with ((with_reducible refine gc 9 rfl ?_);refine zc 9 (some 10) Try.func9 #[.slice A0 l0.length c0] (h:=?_);(with_reducible refine(toponymlaw18_Few.calls k (fun k_=>(P_ k_∨w.heap.size≤k_)) _ _ l0 t1 _ HF0.out HL0.out At2.out).mono ?_);rintro e w' ⟨rfl,⟨nd,rfl⟩⟩;refine⟨_,rfl,?_⟩)
 refine zg ?_
 by_cases c4:t1=true
 ·replace HH:=MW.hpos HH c4
  subst c4
  go_wp2_with (((with_reducible refine gate_dst (N:=14) rfl ?_);(try(refine gate_guard (by rfl) ?_;dsimp only));refine Kd.N_lit (Kd.slice 53 k53) w.heap.size 39 rfl (N':=14) rfl (xs:=([l1]:List (List (S53)))) (inner:=[.slice A1 l1.length c1]) (ok:=(fun k_=>(P_ k_∨w.heap.size≤k_))) (okp:=(fun k_=>(P_ k_∨w.heap.size≤k_))) ?hr ?hp (fun _ hk_=>hk_) ?hf (by repeat(first|(with_reducible first|exact HB.out|apply below_alloc|apply pw_below_drewN|apply below_drew1)|exact HB.out)) (below_size (by repeat(first|(with_reducible first|exact HB.out|apply below_alloc|apply pw_below_drewN|apply below_drew1)|exact HB.out))) (by first|simp|decide) ?_;(case hr=>first|(go_simp;done)|(go_simp;rfl));(case hp=>exact(Reps.one (Kd.FK_slice_mk HL1.out (by(with_reducible repeat(first|apply Kd.F_alloc|apply Kd.F_drewN|apply Kd.F_drew));exact HF1.out)) (Reps.none _ _)));(case hf=>exact(show ∀ k_,w.heap.size≤k_→(fun k_=>(P_ k_∨w.heap.size≤k_)) k_ from fun k_ h_=>.inr (Nat.le_trans (below_size (by repeat(first|(with_reducible first|exact HB.out|apply below_alloc|apply pw_below_drewN|apply below_drew1)|exact HB.out))) h_)) _ (Nat.le_refl _));intro v5 w6 hn1 hb1 hg1 hat1);replace hat1:=za hat1;refine stop_ ?_)
  refine zg ?_
  replace hat1:=hat1.out
  have hbe:=MW.grown_below hg1
  have hba:=MW.base_of hat1
  replace HF0:=za (Kd.F_mono (Kd.F_elder' (ok:=(fun k_=>(P_ k_∨w.heap.size≤k_))) (by(with_reducible repeat(first|apply Kd.F_alloc|apply Kd.F_drewN|apply Kd.F_drew));exact HF0.out) hba hbe) (fun k_ hk_=>hk_):Kd.F (Kd.slice 53 k53) _ (fun k_=>(P_ k_∨w.heap.size≤k_)∧some k_≠(v5:Value).ownBlock) _ _ _)
  replace HF1:=za (Kd.F_mono (Kd.F_elder' (ok:=(fun k_=>(P_ k_∨w.heap.size≤k_))) (by(with_reducible repeat(first|apply Kd.F_alloc|apply Kd.F_drewN|apply Kd.F_drew));exact HF1.out) hba hbe) (fun k_ hk_=>hk_):Kd.F k53 _ (fun k_=>(P_ k_∨w.heap.size≤k_)∧some k_≠(v5:Value).ownBlock) _ _ _)
  replace HB:=za hb1
  have HN7:=za hn1
  clear hn1 hb1 hg1 hat1 hbe hba
  obtain⟨A8,cp9,he_⟩:=Kd.N_slice HN7.out
  subst he_
  have HL11:=za (Kd.N_reads' HN7.out).2.1
  have HF10:=za (Kd.N_F HN7.out)
  clear HN7
  replace HF0:=za (Kd.F_mono (ok:=(fun k_=>(P_ k_∨w.heap.size≤k_)∧some k_≠((.slice A8 ([l1]:List (List (S53))).length cp9):Value).ownBlock)) HF0.out (fun k_ hk_=>hk_.1):Kd.F (Kd.slice 53 k53) _ (fun k_=>(P_ k_∨w.heap.size≤k_)) _ _ _)
  replace HF1:=za (Kd.F_mono (ok:=(fun k_=>(P_ k_∨w.heap.size≤k_)∧some k_≠((.slice A8 ([l1]:List (List (S53))).length cp9):Value).ownBlock)) HF1.out (fun k_ hk_=>hk_.1):Kd.F k53 _ (fun k_=>(P_ k_∨w.heap.size≤k_)) _ _ _)
  replace HH:=zd HH
  obtain⟨t12,At13,HH⟩:=HH
  go_wp2_with ((with_reducible refine gc 9 rfl ?_);refine zc 9 (some 15) Try.func9 #[.slice A8 ([l1]:List (List (S53))).length cp9] (h:=?_);(with_reducible refine(toponymlaw18_Few.calls k (fun k_=>(P_ k_∨w.heap.size≤k_)) _ _ ([l1]:List (List (S53))) t12 _ HF10.out HL11.out At13.out).mono ?_);rintro e w' ⟨rfl,⟨nd,rfl⟩⟩;refine⟨_,rfl,?_⟩)
  refine zg ?_
  by_cases c15:t12=true
  ·replace HH:=MW.hpos HH c15
   subst c15
   replace HH:=zd HH
   obtain⟨⟨t16,t17⟩,At18,HH⟩:=HH
   dsimp only at HH
   go_wp2_with ((with_reducible refine gc 19 rfl ?_);refine zc 19 (some 22) Try.func19 #[.slice A0 l0.length c0,.slice A1 l1.length c1] (h:=?_);(with_reducible refine(dn_Below.calls k (fun k_=>(P_ k_∨w.heap.size≤k_)) _ _ l0 _ _ l1 t16 t17 _ (by(with_reducible repeat(first|apply Kd.F_alloc|apply Kd.F_drewN|apply Kd.F_drew));exact HF0.out) HL0.out (by(with_reducible repeat(first|apply Kd.F_alloc|apply Kd.F_drewN|apply Kd.F_drew));exact HF1.out) HL1.out At18.out).mono ?_);rintro e w19 ⟨v20,rfl,hn20,hb⟩;refine⟨_,rfl,?_⟩)
   refine zg ?_
   have hba:=Kd.N_base hn20
   have HN20:=znl (ok2:=(fun k_=>(P_ k_∨w.heap.size≤k_))) hn20 (below_size (by repeat(first|(with_reducible first|exact HB.out|apply below_alloc|apply pw_below_drewN|apply below_drew1)|exact HB.out))) (fun k_ hk_=>hk_.elim (fun h_=>h_) (fun h_=>.inr (Nat.le_trans (below_size (by repeat(first|(with_reducible first|exact HB.out|apply below_alloc|apply pw_below_drewN|apply below_drew1)|exact HB.out))) h_)))
   replace HF0:=zfr (v:=v20) (by(with_reducible repeat(first|apply Kd.F_alloc|apply Kd.F_drewN|apply Kd.F_drew));exact HF0.out) hba hb
   replace HF1:=zfr (v:=v20) (by(with_reducible repeat(first|apply Kd.F_alloc|apply Kd.F_drewN|apply Kd.F_drew));exact HF1.out) hba hb
   replace HB:=zhb (by repeat(first|(with_reducible first|exact HB.out|apply below_alloc|apply pw_below_drewN|apply below_drew1)|exact HB.out)) hb
   clear hn20 hba hb
   replace HH:=zqe HH
   rcases HH with⟨HH,hk22,hk23⟩|⟨HH,hk76,hk77⟩
   ·obtain⟨A24,cp25,he_⟩:=Kd.N_slice HN20.out
    subst he_
    have HL27:=za (Kd.N_reads' HN20.out).2.1
    have HF26:=za (Kd.N_F HN20.out)
    clear HN20
    replace HF0:=za (Kd.F_mono (ok:=(fun k_=>(P_ k_∨w.heap.size≤k_)∧some k_≠((.slice A24 t16.length cp25):Value).ownBlock)) HF0.out (fun k_ hk_=>hk_.1):Kd.F (Kd.slice 53 k53) _ (fun k_=>(P_ k_∨w.heap.size≤k_)) _ _ _)
    replace HF1:=za (Kd.F_mono (ok:=(fun k_=>(P_ k_∨w.heap.size≤k_)∧some k_≠((.slice A24 t16.length cp25):Value).ownBlock)) HF1.out (fun k_ hk_=>hk_.1):Kd.F k53 _ (fun k_=>(P_ k_∨w.heap.size≤k_)) _ _ _)
    replace HH:=zd HH
    obtain⟨⟨t28,t29⟩,At30,HH⟩:=HH
    dsimp only at HH
    go_wp2_with ((with_reducible refine gc 20 rfl ?_);refine zc 20 (some 35) Try.func20 #[.slice A24 t16.length cp25] (h:=?_);(with_reducible refine(dn_Above.calls k (fun k_=>(P_ k_∨w.heap.size≤k_)) _ _ t16 t28 t29 _ HF26.out HL27.out At30.out).mono ?_);rintro e w31 ⟨v32,rfl,hn32,hb⟩;refine⟨_,rfl,?_⟩)
    refine zg ?_
    have hba:=Kd.N_base hn32
    have HN32:=znl (ok2:=(fun k_=>(P_ k_∨w.heap.size≤k_))) hn32 (below_size HB.out) (fun k_ hk_=>hk_.elim (fun h_=>h_) (fun h_=>.inr (Nat.le_trans (below_size HB.out) h_)))
    replace HF0:=zfr (v:=v32) HF0.out hba hb
    replace HF1:=zfr (v:=v32) HF1.out hba hb
    replace HF26:=zfr (v:=v32) HF26.out hba hb
    replace HB:=zhb HB.out hb
    clear hn32 hba hb
    by_cases c33:t29=true
    ·replace HH:=MW.hpos HH c33
     subst c33
     obtain⟨A34,cp35,he_⟩:=Kd.N_slice HN32.out
     subst he_
     have HL37:=za (Kd.N_reads' HN32.out).2.1
     have HF36:=za (Kd.N_F HN32.out)
     clear HN32
     replace HF0:=za (Kd.F_mono (ok:=(fun k_=>(P_ k_∨w.heap.size≤k_)∧some k_≠((.slice A34 t28.length cp35):Value).ownBlock)) HF0.out (fun k_ hk_=>hk_.1):Kd.F (Kd.slice 53 k53) _ (fun k_=>(P_ k_∨w.heap.size≤k_)) _ _ _)
     replace HF1:=za (Kd.F_mono (ok:=(fun k_=>(P_ k_∨w.heap.size≤k_)∧some k_≠((.slice A34 t28.length cp35):Value).ownBlock)) HF1.out (fun k_ hk_=>hk_.1):Kd.F k53 _ (fun k_=>(P_ k_∨w.heap.size≤k_)) _ _ _)
     replace HF26:=za (Kd.F_mono (ok:=(fun k_=>(P_ k_∨w.heap.size≤k_)∧some k_≠((.slice A34 t28.length cp35):Value).ownBlock)) HF26.out (fun k_ hk_=>hk_.1):Kd.F (Kd.slice 53 k53) _ (fun k_=>(P_ k_∨w.heap.size≤k_)) _ _ _)
     replace HH:=zd HH
     obtain⟨t38,At39,HH⟩:=HH
     go_wp2_with ((with_reducible refine gc 18 rfl ?_);refine zc 18 (some 42) Try.func18 #[.slice A34 t28.length cp35,.slice A0 l0.length c0] (h:=?_);(with_reducible refine(toponymref18_Same.calls k (fun k_=>(P_ k_∨w.heap.size≤k_)) _ _ t28 _ _ l0 t38 _ HF36.out HL37.out HF0.out HL0.out At39.out).mono ?_);rintro e w' ⟨rfl,⟨nd,rfl⟩⟩;refine⟨_,rfl,?_⟩)
     refine zg ?_
     by_cases c41:t38=true
     ·replace HH:=MW.hpos HH c41
      subst c41
      replace HH:=zqe HH
      rcases HH with⟨HH,hk43,hk44⟩|⟨HH,hk74,hk75⟩
      ·replace HH:=zqlo 1 HH
       obtain⟨HH,hk47,hk48⟩:=HH
       obtain⟨i045,hi045,_,hsz45,_⟩:=info_parts info39
       have ql45:(1:Int)≤(t16.length:Int):=(by first|exact Int.le_refl _|exact of_decide_eq_true (by first|(with_reducible assumption)|assumption)|(simp;done))
       have q045:0≤(1:Int):=(by decide)
       have hcut45:=cut_to (P:=Try.prog) 23 39 .i64 Try.underlying23 hi045 A24 t16.length cp25 1 q045 ql45 HL27.out
       have hr45:=Kd.F_take (m:=1) HF26.out (by omega)
       have hy45:(List.take 1 t16).length=1:=(by rw[List.length_take];omega)
       try simp only[Int.toNat_ofNat] at hcut45 hr45 hy45
       try simp only[show((1:Int)).toNat=1 from rfl] at hcut45
       rw[← hy45] at hcut45
       have hl45:(List.take 1 t16).length≤cp25:=(by have:=HL27.out;rw[List.length_take];omega)
       clear hy45 ql45 q045
       have HF45:=za hr45
       have HL45:=za hl45
       clear hr45 hl45 hi045 hsz45
       obtain⟨y49,hy49⟩:∃ y_:List (List (S53)),y_=List.take 1 t16:=⟨_,rfl⟩
       rw[← hy49] at hcut45 HL45 HF45
       have H:((toponymref18_Same.f k y49 ([l1]:List (List (S53)))).bind fun t57=>(if t57=true then((dn_Check.f k t16).bind fun t61=>(if t61=0 then((toponymlaw18_awake.f k).bind fun t67=>(some t67)) else(some false))) else(some false)))=some r:=by rw[hy49];exact HH.out
       replace HH:=za H
       clear H
       clear hy49
       go_wp2_with (((with_reducible refine gate_dst (N:=56) rfl ?_);(try(refine gate_guard (by rfl) ?_;dsimp only));refine Kd.N_lit (Kd.slice 53 k53) w.heap.size 39 rfl (N':=56) rfl (xs:=([l1]:List (List (S53)))) (inner:=[.slice A1 l1.length c1]) (ok:=(fun k_=>(P_ k_∨w.heap.size≤k_))) (okp:=(fun k_=>(P_ k_∨w.heap.size≤k_))) ?hr ?hp (fun _ hk_=>hk_) ?hf (by repeat(first|(with_reducible first|exact HB.out|apply below_alloc|apply pw_below_drewN|apply below_drew1)|exact HB.out)) (below_size (by repeat(first|(with_reducible first|exact HB.out|apply below_alloc|apply pw_below_drewN|apply below_drew1)|exact HB.out))) (by first|simp|decide) ?_;(case hr=>first|(go_simp;done)|(go_simp;rfl));(case hp=>exact(Reps.one (Kd.FK_slice_mk HL1.out (by(with_reducible repeat(first|apply Kd.F_alloc|apply Kd.F_drewN|apply Kd.F_drew));exact HF1.out)) (Reps.none _ _)));(case hf=>exact(show ∀ k_,w31.heap.size≤k_→(fun k_=>(P_ k_∨w.heap.size≤k_)) k_ from fun k_ h_=>.inr (Nat.le_trans (below_size (by repeat(first|(with_reducible first|exact HB.out|apply below_alloc|apply pw_below_drewN|apply below_drew1)|exact HB.out))) h_)) _ (Nat.le_refl _));intro v50 w51 hn1 hb1 hg1 hat1);replace hat1:=za hat1;refine stop_ ?_)
       refine zg ?_
       replace hat1:=hat1.out
       have hbe:=MW.grown_below hg1
       have hba:=MW.base_of hat1
       replace HF26:=za (Kd.F_mono (Kd.F_elder' (ok:=(fun k_=>(P_ k_∨w.heap.size≤k_))) (by(with_reducible repeat(first|apply Kd.F_alloc|apply Kd.F_drewN|apply Kd.F_drew));exact HF26.out) hba hbe) (fun k_ hk_=>hk_):Kd.F (Kd.slice 53 k53) _ (fun k_=>(P_ k_∨w.heap.size≤k_)∧some k_≠(v50:Value).ownBlock) _ _ _)
       replace HF45:=za (Kd.F_mono (Kd.F_elder' (ok:=(fun k_=>(P_ k_∨w.heap.size≤k_))) (by(with_reducible repeat(first|apply Kd.F_alloc|apply Kd.F_drewN|apply Kd.F_drew));exact HF45.out) hba hbe) (fun k_ hk_=>hk_):Kd.F (Kd.slice 53 k53) _ (fun k_=>(P_ k_∨w.heap.size≤k_)∧some k_≠(v50:Value).ownBlock) _ _ _)
       replace HB:=za hb1
       have HN52:=za hn1
       clear hn1 hb1 hg1 hat1 hbe hba
       clear hcut45
       obtain⟨A53,cp54,he_⟩:=Kd.N_slice HN52.out
       subst he_
       have HL56:=za (Kd.N_reads' HN52.out).2.1
       have HF55:=za (Kd.N_F HN52.out)
       clear HN52
       replace HF26:=za (Kd.F_mono (ok:=(fun k_=>(P_ k_∨w.heap.size≤k_)∧some k_≠((.slice A53 ([l1]:List (List (S53))).length cp54):Value).ownBlock)) HF26.out (fun k_ hk_=>hk_.1):Kd.F (Kd.slice 53 k53) _ (fun k_=>(P_ k_∨w.heap.size≤k_)) _ _ _)
       replace HF45:=za (Kd.F_mono (ok:=(fun k_=>(P_ k_∨w.heap.size≤k_)∧some k_≠((.slice A53 ([l1]:List (List (S53))).length cp54):Value).ownBlock)) HF45.out (fun k_ hk_=>hk_.1):Kd.F (Kd.slice 53 k53) _ (fun k_=>(P_ k_∨w.heap.size≤k_)) _ _ _)
       replace HH:=zd HH
       obtain⟨t57,At58,HH⟩:=HH
       go_wp2_with ((with_reducible refine gc 18 rfl ?_);refine zc 18 (some 57) Try.func18 #[.slice A24 y49.length cp25,.slice A53 ([l1]:List (List (S53))).length cp54] (h:=?_);(with_reducible refine(toponymref18_Same.calls k (fun k_=>(P_ k_∨w.heap.size≤k_)) _ _ y49 _ _ ([l1]:List (List (S53))) t57 _ HF45.out HL45.out HF55.out HL56.out At58.out).mono ?_);rintro e w' ⟨rfl,⟨nd,rfl⟩⟩;refine⟨_,rfl,?_⟩)
       refine zg ?_
       by_cases c60:t57=true
       ·replace HH:=MW.hpos HH c60
        subst c60
        replace HH:=zd HH
        obtain⟨t61,At62,HH⟩:=HH
        go_wp2_with ((with_reducible refine gc 13 rfl ?_);refine zc 13 (some 61) Try.func13 #[.slice A24 t16.length cp25] (h:=?_);(with_reducible refine(dn_Check.calls k (fun k_=>(P_ k_∨w.heap.size≤k_)) _ _ t16 t61 _ (by(with_reducible repeat(first|apply Kd.F_alloc|apply Kd.F_drewN|apply Kd.F_drew));exact HF26.out) HL27.out At62.out).mono ?_);rintro e w63 ⟨rfl,hb⟩;refine⟨_,rfl,?_⟩)
        refine zg ?_
        replace HB:=zhb (by repeat(first|(with_reducible first|exact HB.out|apply below_alloc|apply pw_below_drewN|apply below_drew1)|exact HB.out)) hb
        clear hb
        replace HH:=zqe HH
        rcases HH with⟨HH,hk65,hk66⟩|⟨HH,hk70,hk71⟩
        ·replace HH:=zd HH
         obtain⟨t67,At68,HH⟩:=HH
         go_wp2_with ((with_reducible refine gc 10 rfl ?_);refine zc 10 (some 65) Try.func10 #[] (h:=?_);(with_reducible refine(toponymlaw18_awake.calls k  t67 _  At68.out).mono ?_);rintro e w69 ⟨rfl,hb⟩;refine⟨_,rfl,?_⟩)
         refine zg ?_
         replace HB:=zhb HB.out hb
         clear hb
         obtain rfl:=Option.some.inj HH.out
         clear HH
         go_wp2
         go_ret
         exact zfi HB.out
        obtain rfl:=Option.some.inj HH.out
        clear HH
        go_wp2
        go_ret
        exact zfi HB.out
       replace HH:=MW.hneg HH c60
       replace c60:=Bool.eq_false_iff.mpr c60
       subst c60
       obtain rfl:=Option.some.inj HH.out
       clear HH
       go_wp2
       go_ret
       exact zfi (by repeat(first|(with_reducible first|exact HB.out|apply below_alloc|apply pw_below_drewN|apply below_drew1)|exact HB.out))
      obtain rfl:=Option.some.inj HH.out
      clear HH
      go_wp2
      go_ret
      exact zfi (by repeat(first|(with_reducible first|exact HB.out|apply below_alloc|apply pw_below_drewN|apply below_drew1)|exact HB.out))
     replace HH:=MW.hneg HH c41
     replace c41:=Bool.eq_false_iff.mpr c41
     subst c41
     obtain rfl:=Option.some.inj HH.out
     clear HH
     go_wp2
     go_ret
     exact zfi (by repeat(first|(with_reducible first|exact HB.out|apply below_alloc|apply pw_below_drewN|apply below_drew1)|exact HB.out))
    replace HH:=MW.hneg HH c33
    replace c33:=Bool.eq_false_iff.mpr c33
    subst c33
    obtain rfl:=Option.some.inj HH.out
    clear HH
    go_wp2
    go_ret
    exact zfi HB.out
   obtain⟨A78,cp79,he_⟩:=Kd.N_slice HN20.out
   subst he_
   by_cases c80:(t16.length:Int)=0
   ·replace HH:=MW.hpos HH c80
    have hk81:((t16.length:Int)==0)=true:=beq_iff_eq.mpr c80
    have hk82:((t16.length:Int) != 0)=false:=bne_eq_false_iff_eq.mpr c80
    clear c80
    replace HH:=zd HH
    obtain⟨t83,At84,HH⟩:=HH
    go_wp2_with ((with_reducible refine gc 10 rfl ?_);refine zc 10 (some 31) Try.func10 #[] (h:=?_);(with_reducible refine(toponymlaw18_awake.calls k  t83 _  At84.out).mono ?_);rintro e w85 ⟨rfl,hb⟩;refine⟨_,rfl,?_⟩)
    refine zg ?_
    replace HB:=zhb HB.out hb
    clear hb
    obtain rfl:=Option.some.inj HH.out
    clear HH
    go_wp2
    go_ret
    exact zfi HB.out
   replace HH:=MW.hneg HH c80
   have hk86:((t16.length:Int)==0)=false:=beq_eq_false_iff_ne.mpr c80
   have hk87:((t16.length:Int) != 0)=true:=bne_iff_ne.mpr c80
   have hk88: ¬ (t16=[]):=fun h_=>c80 (by rw[h_];rfl)
   clear c80
   obtain rfl:=Option.some.inj HH.out
   clear HH
   go_wp2
   go_ret
   exact zfi HB.out
  replace HH:=MW.hneg HH c15
  replace c15:=Bool.eq_false_iff.mpr c15
  subst c15
  replace HH:=zd HH
  obtain⟨t89,At90,HH⟩:=HH
  go_wp2_with ((with_reducible refine gc 10 rfl ?_);refine zc 10 (some 18) Try.func10 #[] (h:=?_);(with_reducible refine(toponymlaw18_awake.calls k  t89 _  At90.out).mono ?_);rintro e w91 ⟨rfl,hb⟩;refine⟨_,rfl,?_⟩)
  refine zg ?_
  replace HB:=zhb (by repeat(first|(with_reducible first|exact HB.out|apply below_alloc|apply pw_below_drewN|apply below_drew1)|exact HB.out)) hb
  clear hb
  obtain rfl:=Option.some.inj HH.out
  clear HH
  go_wp2
  go_ret
  exact zfi HB.out
 replace HH:=MW.hneg HH c4
 replace c4:=Bool.eq_false_iff.mpr c4
 subst c4
 replace HH:=zd HH
 obtain⟨t92,At93,HH⟩:=HH
 go_wp2_with ((with_reducible refine gc 10 rfl ?_);refine zc 10 (some 18) Try.func10 #[] (h:=?_);(with_reducible refine(toponymlaw18_awake.calls k  t92 _  At93.out).mono ?_);rintro e w94 ⟨rfl,hb⟩;refine⟨_,rfl,?_⟩)
 refine zg ?_
 replace HB:=zhb (by repeat(first|(with_reducible first|exact HB.out|apply below_alloc|apply pw_below_drewN|apply below_drew1)|exact HB.out)) hb
 clear hb
 obtain rfl:=Option.some.inj HH.out
 clear HH
 go_wp2
 go_ret
 exact zfi HB.out

def toponymlaw18_DnParses.f (k:Nat) (a0:ByteArray):Option (Bool):=(dn_Parse.f k a0).bind fun bt1=>((toponymref18_Parse.f k a0).bind fun bt6=>((dn_Rdn.f k a0).bind fun bt11=>((toponymref18_Rdn.f k a0).bind fun bt16=>((toponymref18_Same.f k bt1.1 bt6.1).bind fun t21=>(if t21=true then(if bt1.2=bt6.2 then((toponymref18_Same.f k ([bt11.1]:List (List (S53))) ([bt16.1]:List (List (S53)))).bind fun t42=>(if t42=true then(if bt11.2=bt16.2 then((toponymlaw18_awake.f k).bind fun t49=>(some t49)) else(some false)) else(some false))) else(some false)) else(some false))))))
theorem toponymlaw18_DnParses.mono:∀ a0_ k,LeO (toponymlaw18_DnParses.f k a0_) (toponymlaw18_DnParses.f (k+1) a0_):=by
 intro a0_ k
 unfold toponymlaw18_DnParses.f
 with_reducible repeat' first|exact dn_Parse.mono _ _|exact dn_Rdn.mono _ _|exact toponymlaw18_awake.mono _|exact toponymref18_Parse.mono _ _|exact toponymref18_Rdn.mono _ _|exact toponymref18_Same.mono _ _ _|exact LeO.refl _|exact LeO.none _|refine LeO.ite ?_ ?_|refine LeO.bind ?_ (fun _=>?_)
theorem toponymlaw18_DnParses.calls (k:Nat) (a0:ByteArray) (r:Bool) (w:World) (h:toponymlaw18_DnParses.f k a0=some r):
  Calls Try.prog 6 #[.string a0] w (fun e w'=>e=.returned (.bool r)∧Below w.heap.size w w'):=by
 unfold toponymlaw18_DnParses.f at h
 have HH:=za h
 clear h
 have HB:=za (Below.refl w.heap.size w)
 go_enter Try.func6,Try.ntmps6
 replace HH:=zd HH
 obtain⟨⟨t1,t2⟩,At3,HH⟩:=HH
 dsimp only at HH
 go_wp2_with ((with_reducible refine gc 17 rfl ?_);refine zc 17 (some 13) Try.func17 #[.string a0] (h:=?_);(with_reducible refine(dn_Parse.calls k  a0 t1 t2 _  At3.out).mono ?_);rintro e w4 ⟨A5,cp5,rfl,hl5,hn5,hb⟩;refine⟨_,rfl,?_⟩)
 refine zg ?_
 have HL5:=za hl5
 have HF5:=za (Kd.F_mono hn5 (fun k_ h_=>(Nat.le_trans (below_size HB.out) h_)):Kd.F (Kd.slice 53 k53) _ (fun k_=>(w.heap.size≤k_)) _ _ _)
 clear hn5 hl5
 replace HB:=zhb HB.out hb
 clear hb
 replace HH:=zd HH
 obtain⟨⟨t6,t7⟩,At8,HH⟩:=HH
 dsimp only at HH
 go_wp2_with ((with_reducible refine gc 21 rfl ?_);refine zc 21 (some 18) Try.func21 #[.string a0] (h:=?_);(with_reducible refine(toponymref18_Parse.calls k  a0 t6 t7 _  At8.out).mono ?_);rintro e w9 ⟨A10,cp10,rfl,hl10,hn10,hb⟩;refine⟨_,rfl,?_⟩)
 refine zg ?_
 have HL10:=za hl10
 have HF10:=za (Kd.F_mono hn10 (fun k_ h_=>(Nat.le_trans (below_size HB.out) h_)):Kd.F (Kd.slice 53 k53) _ (fun k_=>(w.heap.size≤k_)) _ _ _)
 clear hn10 hl10
 replace HF5:=zfb HF5.out hb
 replace HB:=zhb HB.out hb
 clear hb
 replace HH:=zd HH
 obtain⟨⟨t11,t12⟩,At13,HH⟩:=HH
 dsimp only at HH
 go_wp2_with ((with_reducible refine gc 22 rfl ?_);refine zc 22 (some 23) Try.func22 #[.string a0] (h:=?_);(with_reducible refine(dn_Rdn.calls k  a0 t11 t12 _  At13.out).mono ?_);rintro e w14 ⟨A15,cp15,rfl,hl15,hn15,hb⟩;refine⟨_,rfl,?_⟩)
 refine zg ?_
 have HL15:=za hl15
 have HF15:=za (Kd.F_mono hn15 (fun k_ h_=>(Nat.le_trans (below_size HB.out) h_)):Kd.F k53 _ (fun k_=>(w.heap.size≤k_)) _ _ _)
 clear hn15 hl15
 replace HF5:=zfb HF5.out hb
 replace HF10:=zfb HF10.out hb
 replace HB:=zhb HB.out hb
 clear hb
 replace HH:=zd HH
 obtain⟨⟨t16,t17⟩,At18,HH⟩:=HH
 dsimp only at HH
 go_wp2_with ((with_reducible refine gc 23 rfl ?_);refine zc 23 (some 28) Try.func23 #[.string a0] (h:=?_);(with_reducible refine(toponymref18_Rdn.calls k  a0 t16 t17 _  At18.out).mono ?_);rintro e w19 ⟨A20,cp20,rfl,hl20,hn20,hb⟩;refine⟨_,rfl,?_⟩)
 refine zg ?_
 have HL20:=za hl20
 have HF20:=za (Kd.F_mono hn20 (fun k_ h_=>(Nat.le_trans (below_size HB.out) h_)):Kd.F k53 _ (fun k_=>(w.heap.size≤k_)) _ _ _)
 clear hn20 hl20
 replace HF5:=zfb HF5.out hb
 replace HF10:=zfb HF10.out hb
 replace HF15:=zfb HF15.out hb
 replace HB:=zhb HB.out hb
 clear hb
 replace HH:=zd HH
 obtain⟨t21,At22,HH⟩:=HH
 go_wp2_with ((with_reducible refine gc 18 rfl ?_);refine zc 18 (some 33) Try.func18 #[.slice A5 t1.length cp5,.slice A10 t6.length cp10] (h:=?_);(with_reducible refine(toponymref18_Same.calls k (fun k_=>(w.heap.size≤k_)) _ _ t1 _ _ t6 t21 _ HF5.out HL5.out HF10.out HL10.out At22.out).mono ?_);rintro e w' ⟨rfl,⟨nd,rfl⟩⟩;refine⟨_,rfl,?_⟩)
 refine zg ?_
 by_cases c24:t21=true
 ·replace HH:=MW.hpos HH c24
  subst c24
  replace HH:=zqe HH
  rcases HH with⟨HH,hk26,hk27⟩|⟨HH,hk54,hk55⟩
  ·go_wp2_with (((with_reducible refine gate_dst (N:=41) rfl ?_);(try(refine gate_guard (by rfl) ?_;dsimp only));refine Kd.N_lit (Kd.slice 53 k53) w.heap.size 39 rfl (N':=41) rfl (xs:=([t11]:List (List (S53)))) (inner:=[.slice A15 t11.length cp15]) (ok:=(fun k_=>(w.heap.size≤k_))) (okp:=(fun k_=>(w.heap.size≤k_))) ?hr ?hp (fun _ hk_=>hk_) ?hf (by repeat(first|(with_reducible first|exact HB.out|apply below_alloc|apply pw_below_drewN|apply below_drew1)|exact HB.out)) (below_size (by repeat(first|(with_reducible first|exact HB.out|apply below_alloc|apply pw_below_drewN|apply below_drew1)|exact HB.out))) (by first|simp|decide) ?_;(case hr=>first|(go_simp;done)|(go_simp;rfl));(case hp=>exact(Reps.one (Kd.FK_slice_mk HL15.out (by(with_reducible repeat(first|apply Kd.F_alloc|apply Kd.F_drewN|apply Kd.F_drew));exact HF15.out)) (Reps.none _ _)));(case hf=>exact(show ∀ k_,w19.heap.size≤k_→(fun k_=>(w.heap.size≤k_)) k_ from fun k_ h_=>(Nat.le_trans (below_size (by repeat(first|(with_reducible first|exact HB.out|apply below_alloc|apply pw_below_drewN|apply below_drew1)|exact HB.out))) h_)) _ (Nat.le_refl _));intro v28 w29 hn1 hb1 hg1 hat1);replace hat1:=za hat1;refine stop_ ?_)
   refine zg ?_
   replace hat1:=hat1.out
   have hbe:=MW.grown_below hg1
   have hba:=MW.base_of hat1
   replace HF20:=za (Kd.F_mono (Kd.F_elder' (ok:=(fun k_=>(w.heap.size≤k_))) (by(with_reducible repeat(first|apply Kd.F_alloc|apply Kd.F_drewN|apply Kd.F_drew));exact HF20.out) hba hbe) (fun k_ hk_=>hk_):Kd.F k53 _ (fun k_=>(w.heap.size≤k_)∧some k_≠(v28:Value).ownBlock) _ _ _)
   replace HB:=za hb1
   have HN30:=za hn1
   clear hn1 hb1 hg1 hat1 hbe hba
   go_wp2_with (((with_reducible refine gate_dst (N:=43) rfl ?_);(try(refine gate_guard (by rfl) ?_;dsimp only));refine Kd.N_lit (Kd.slice 53 k53) w.heap.size 39 rfl (N':=43) rfl (xs:=([t16]:List (List (S53)))) (inner:=[.slice A20 t16.length cp20]) (ok:=(fun k_=>(w.heap.size≤k_)∧some k_≠(v28:Value).ownBlock)) (okp:=(fun k_=>(w.heap.size≤k_)∧some k_≠(v28:Value).ownBlock)) ?hr ?hp (fun _ hk_=>hk_) ?hf HB.out (below_size HB.out) (by first|simp|decide) ?_;(case hr=>first|(go_simp;done)|(go_simp;rfl));(case hp=>exact(Reps.one (Kd.FK_slice_mk HL20.out HF20.out) (Reps.none _ _)));(case hf=>exact(show ∀ k_,w29.heap.size≤k_→(fun k_=>(w.heap.size≤k_)∧some k_≠(v28:Value).ownBlock) k_ from fun k_ h_=>⟨(Nat.le_trans (below_size HB.out) h_),Kd.fresh' (Kd.N_lt HN30.out) k_ h_⟩) _ (Nat.le_refl _));intro v31 w32 hn1 hb1 hg1 hat1);replace hat1:=za hat1;refine stop_ ?_)
   refine zg ?_
   replace hat1:=hat1.out
   have hbe:=MW.grown_below hg1
   have hba:=MW.base_of hat1
   replace HN30:=za (Kd.N_mono (Kd.N_elder' (ok:=(fun k_=>(w.heap.size≤k_))) HN30.out hba hbe) (fun k_ hk_=>hk_):Kd.N (Kd.slice 53 k53) _ _ _ (fun k_=>(w.heap.size≤k_)∧some k_≠(v31:Value).ownBlock) _ _)
   replace HB:=za hb1
   have HN33:=za hn1
   clear hn1 hb1 hg1 hat1 hbe hba
   obtain⟨A34,cp35,he_⟩:=Kd.N_slice HN30.out
   subst he_
   have HL37:=za (Kd.N_reads' HN30.out).2.1
   have HF36:=za (Kd.N_F HN30.out)
   clear HN30
   replace HN33:=za (Kd.N_mono (ok:=(fun k_=>(w.heap.size≤k_)∧some k_≠((.slice A34 ([t11]:List (List (S53))).length cp35):Value).ownBlock)) HN33.out (fun k_ hk_=>hk_.1):Kd.N (Kd.slice 53 k53) _ _ _ (fun k_=>(w.heap.size≤k_)) _ _)
   obtain⟨A38,cp39,he_⟩:=Kd.N_slice HN33.out
   subst he_
   have HL41:=za (Kd.N_reads' HN33.out).2.1
   have HF40:=za (Kd.N_F HN33.out)
   clear HN33
   replace HF36:=za (Kd.F_mono (ok:=(fun k_=>(w.heap.size≤k_)∧some k_≠((.slice A38 ([t16]:List (List (S53))).length cp39):Value).ownBlock)) HF36.out (fun k_ hk_=>hk_.1):Kd.F (Kd.slice 53 k53) _ (fun k_=>(w.heap.size≤k_)) _ _ _)
   replace HH:=zd HH
   obtain⟨t42,At43,HH⟩:=HH
   go_wp2_with ((with_reducible refine gc 18 rfl ?_);refine zc 18 (some 44) Try.func18 #[.slice A34 ([t11]:List (List (S53))).length cp35,.slice A38 ([t16]:List (List (S53))).length cp39] (h:=?_);(with_reducible refine(toponymref18_Same.calls k (fun k_=>(w.heap.size≤k_)) _ _ ([t11]:List (List (S53))) _ _ ([t16]:List (List (S53))) t42 _ HF36.out HL37.out HF40.out HL41.out At43.out).mono ?_);rintro e w' ⟨rfl,⟨nd,rfl⟩⟩;refine⟨_,rfl,?_⟩)
   refine zg ?_
   by_cases c45:t42=true
   ·replace HH:=MW.hpos HH c45
    subst c45
    replace HH:=zqe HH
    rcases HH with⟨HH,hk47,hk48⟩|⟨HH,hk52,hk53⟩
    ·replace HH:=zd HH
     obtain⟨t49,At50,HH⟩:=HH
     go_wp2_with ((with_reducible refine gc 10 rfl ?_);refine zc 10 (some 52) Try.func10 #[] (h:=?_);(with_reducible refine(toponymlaw18_awake.calls k  t49 _  At50.out).mono ?_);rintro e w51 ⟨rfl,hb⟩;refine⟨_,rfl,?_⟩)
     refine zg ?_
     replace HB:=zhb (by repeat(first|(with_reducible first|exact HB.out|apply below_alloc|apply pw_below_drewN|apply below_drew1)|exact HB.out)) hb
     clear hb
     obtain rfl:=Option.some.inj HH.out
     clear HH
     go_wp2
     go_ret
     exact zfi HB.out
    obtain rfl:=Option.some.inj HH.out
    clear HH
    go_wp2
    go_ret
    exact zfi (by repeat(first|(with_reducible first|exact HB.out|apply below_alloc|apply pw_below_drewN|apply below_drew1)|exact HB.out))
   replace HH:=MW.hneg HH c45
   replace c45:=Bool.eq_false_iff.mpr c45
   subst c45
   obtain rfl:=Option.some.inj HH.out
   clear HH
   go_wp2
   go_ret
   exact zfi (by repeat(first|(with_reducible first|exact HB.out|apply below_alloc|apply pw_below_drewN|apply below_drew1)|exact HB.out))
  obtain rfl:=Option.some.inj HH.out
  clear HH
  go_wp2
  go_ret
  exact zfi (by repeat(first|(with_reducible first|exact HB.out|apply below_alloc|apply pw_below_drewN|apply below_drew1)|exact HB.out))
 replace HH:=MW.hneg HH c24
 replace c24:=Bool.eq_false_iff.mpr c24
 subst c24
 obtain rfl:=Option.some.inj HH.out
 clear HH
 go_wp2
 go_ret
 exact zfi (by repeat(first|(with_reducible first|exact HB.out|apply below_alloc|apply pw_below_drewN|apply below_drew1)|exact HB.out))

def toponymlaw18_DnBack.f (k:Nat) (l0:List (List (S53))):Option (Bool):=(toponymlaw18_Few.f k l0).bind fun t1=>(if t1=true then((dn_Show.f k l0).bind fun bt5=>(if bt5.2=0 then((dn_Parse.f k bt5.1).bind fun bt12=>(if (bt5.1.size:Int)>3000 then(if bt12.2=3 then((toponymlaw18_awake.f k).bind fun t23=>(some t23)) else(if bt12.2=0 then((toponymref18_Same.f k bt12.1 l0).bind fun t31=>(if t31=true then((dn_Same.f k bt12.1 l0).bind fun t35=>(if t35=true then((toponymlaw18_awake.f k).bind fun t39=>(some t39)) else(some false))) else(some false))) else(some false))) else(if bt12.2=0 then((toponymref18_Same.f k bt12.1 l0).bind fun t49=>(if t49=true then((dn_Same.f k bt12.1 l0).bind fun t53=>(if t53=true then((toponymlaw18_awake.f k).bind fun t57=>(some t57)) else(some false))) else(some false))) else(some false)))) else(if bt5.1.toList=([]:List UInt8) then((dn_Check.f k l0).bind fun t67=>(if t67=220 then((toponymlaw18_awake.f k).bind fun t73=>(some t73)) else(some false))) else(some false)))) else((toponymlaw18_awake.f k).bind fun t80=>(some t80)))
theorem toponymlaw18_DnBack.mono:∀ a0_ k,LeO (toponymlaw18_DnBack.f k a0_) (toponymlaw18_DnBack.f (k+1) a0_):=by
 intro a0_ k
 unfold toponymlaw18_DnBack.f
 with_reducible repeat' first|exact dn_Check.mono _ _|exact dn_Parse.mono _ _|exact dn_Same.mono _ _ _|exact dn_Show.mono _ _|exact toponymlaw18_Few.mono _ _|exact toponymlaw18_awake.mono _|exact toponymref18_Same.mono _ _ _|exact LeO.refl _|exact LeO.none _|refine LeO.ite ?_ ?_|refine LeO.bind ?_ (fun _=>?_)
theorem toponymlaw18_DnBack.calls (k:Nat) (P_:Nat→Prop) (A0:Option Addr) (c0:Nat) (l0:List (List (S53))) (r:Bool) (w:World) (hs0:Kd.F (Kd.slice 53 k53) w P_ A0 l0.length l0) (hc0:l0.length≤c0) (h:toponymlaw18_DnBack.f k l0=some r):
  Calls Try.prog 7 #[.slice A0 l0.length c0] w (fun e w'=>e=.returned (.bool r)∧Below w.heap.size w w'):=by
 unfold toponymlaw18_DnBack.f at h
 have HH:=za h
 clear h
 have HF0:=zfp hs0
 have HL0:=za hc0
 clear hs0 hc0
 have HB:=za (Below.refl w.heap.size w)
 go_enter Try.func7,Try.ntmps7
 replace HH:=zd HH
 obtain⟨t1,At2,HH⟩:=HH
 go_wp2_with ((with_reducible refine gc 9 rfl ?_);refine zc 9 (some 8) Try.func9 #[.slice A0 l0.length c0] (h:=?_);(with_reducible refine(toponymlaw18_Few.calls k (fun k_=>(P_ k_∨w.heap.size≤k_)) _ _ l0 t1 _ HF0.out HL0.out At2.out).mono ?_);rintro e w' ⟨rfl,⟨nd,rfl⟩⟩;refine⟨_,rfl,?_⟩)
 refine zg ?_
 by_cases c4:t1=true
 ·replace HH:=MW.hpos HH c4
  subst c4
  replace HH:=zd HH
  obtain⟨⟨t5,t6⟩,At7,HH⟩:=HH
  dsimp only at HH
  go_wp2_with ((with_reducible refine gc 11 rfl ?_);refine zc 11 (some 13) Try.func11 #[.slice A0 l0.length c0] (h:=?_);(with_reducible refine(dn_Show.calls k (fun k_=>(P_ k_∨w.heap.size≤k_)) _ _ l0 t5 t6 _ (by(with_reducible repeat(first|apply Kd.F_alloc|apply Kd.F_drewN|apply Kd.F_drew));exact HF0.out) HL0.out At7.out).mono ?_);rintro e w8 ⟨rfl,hb⟩;refine⟨_,rfl,?_⟩)
  refine zg ?_
  replace HF0:=zfb (by(with_reducible repeat(first|apply Kd.F_alloc|apply Kd.F_drewN|apply Kd.F_drew));exact HF0.out) hb
  replace HB:=zhb (by repeat(first|(with_reducible first|exact HB.out|apply below_alloc|apply pw_below_drewN|apply below_drew1)|exact HB.out)) hb
  clear hb
  replace HH:=zqe HH
  rcases HH with⟨HH,hk10,hk11⟩|⟨HH,hk62,hk63⟩
  ·replace HH:=zd HH
   obtain⟨⟨t12,t13⟩,At14,HH⟩:=HH
   dsimp only at HH
   go_wp2_with ((with_reducible refine gc 17 rfl ?_);refine zc 17 (some 30) Try.func17 #[.string t5] (h:=?_);(with_reducible refine(dn_Parse.calls k  t5 t12 t13 _  At14.out).mono ?_);rintro e w15 ⟨A16,cp16,rfl,hl16,hn16,hb⟩;refine⟨_,rfl,?_⟩)
   refine zg ?_
   have HL16:=za hl16
   have HF16:=za (Kd.F_mono hn16 (fun k_ h_=>.inr (Nat.le_trans (below_size HB.out) h_)):Kd.F (Kd.slice 53 k53) _ (fun k_=>(P_ k_∨w.heap.size≤k_)) _ _ _)
   clear hn16 hl16
   replace HF0:=zfb HF0.out hb
   replace HB:=zhb HB.out hb
   clear hb
   replace HH:=zqK 3000 HH
   rcases HH with⟨HH,hk18,hk19⟩|⟨HH,hk44,hk45⟩
   ·replace HH:=zqe HH
    rcases HH with⟨HH,hk21,hk22⟩|⟨HH,hk26,hk27⟩
    ·replace HH:=zd HH
     obtain⟨t23,At24,HH⟩:=HH
     go_wp2_with ((with_reducible refine gc 10 rfl ?_);refine zc 10 (some 55) Try.func10 #[] (h:=?_);(with_reducible refine(toponymlaw18_awake.calls k  t23 _  At24.out).mono ?_);rintro e w25 ⟨rfl,hb⟩;refine⟨_,rfl,?_⟩)
     refine zg ?_
     replace HB:=zhb HB.out hb
     clear hb
     obtain rfl:=Option.some.inj HH.out
     clear HH
     go_wp2
     go_ret
     exact zfi HB.out
    replace HH:=zqe HH
    rcases HH with⟨HH,hk29,hk30⟩|⟨HH,hk42,hk43⟩
    ·replace HH:=zd HH
     obtain⟨t31,At32,HH⟩:=HH
     go_wp2_with ((with_reducible refine gc 18 rfl ?_);refine zc 18 (some 46) Try.func18 #[.slice A16 t12.length cp16,.slice A0 l0.length c0] (h:=?_);(with_reducible refine(toponymref18_Same.calls k (fun k_=>(P_ k_∨w.heap.size≤k_)) _ _ t12 _ _ l0 t31 _ HF16.out HL16.out HF0.out HL0.out At32.out).mono ?_);rintro e w' ⟨rfl,⟨nd,rfl⟩⟩;refine⟨_,rfl,?_⟩)
     refine zg ?_
     by_cases c34:t31=true
     ·replace HH:=MW.hpos HH c34
      subst c34
      replace HH:=zd HH
      obtain⟨t35,At36,HH⟩:=HH
      go_wp2_with ((with_reducible refine gc 24 rfl ?_);refine zc 24 (some 51) Try.func24 #[.slice A16 t12.length cp16,.slice A0 l0.length c0] (h:=?_);(with_reducible refine(dn_Same.calls k (fun k_=>(P_ k_∨w.heap.size≤k_)) _ _ t12 _ _ l0 t35 _ (by(with_reducible repeat(first|apply Kd.F_alloc|apply Kd.F_drewN|apply Kd.F_drew));exact HF16.out) HL16.out (by(with_reducible repeat(first|apply Kd.F_alloc|apply Kd.F_drewN|apply Kd.F_drew));exact HF0.out) HL0.out At36.out).mono ?_);rintro e w37 ⟨rfl,hb⟩;refine⟨_,rfl,?_⟩)
      refine zg ?_
      replace HB:=zhb (by repeat(first|(with_reducible first|exact HB.out|apply below_alloc|apply pw_below_drewN|apply below_drew1)|exact HB.out)) hb
      clear hb
      by_cases c38:t35=true
      ·replace HH:=MW.hpos HH c38
       subst c38
       replace HH:=zd HH
       obtain⟨t39,At40,HH⟩:=HH
       go_wp2_with ((with_reducible refine gc 10 rfl ?_);refine zc 10 (some 55) Try.func10 #[] (h:=?_);(with_reducible refine(toponymlaw18_awake.calls k  t39 _  At40.out).mono ?_);rintro e w41 ⟨rfl,hb⟩;refine⟨_,rfl,?_⟩)
       refine zg ?_
       replace HB:=zhb HB.out hb
       clear hb
       obtain rfl:=Option.some.inj HH.out
       clear HH
       go_wp2
       go_ret
       exact zfi HB.out
      replace HH:=MW.hneg HH c38
      replace c38:=Bool.eq_false_iff.mpr c38
      subst c38
      obtain rfl:=Option.some.inj HH.out
      clear HH
      go_wp2
      go_ret
      exact zfi HB.out
     replace HH:=MW.hneg HH c34
     replace c34:=Bool.eq_false_iff.mpr c34
     subst c34
     obtain rfl:=Option.some.inj HH.out
     clear HH
     go_wp2
     go_ret
     exact zfi (by repeat(first|(with_reducible first|exact HB.out|apply below_alloc|apply pw_below_drewN|apply below_drew1)|exact HB.out))
    obtain rfl:=Option.some.inj HH.out
    clear HH
    go_wp2
    go_ret
    exact zfi HB.out
   replace HH:=zqe HH
   rcases HH with⟨HH,hk47,hk48⟩|⟨HH,hk60,hk61⟩
   ·replace HH:=zd HH
    obtain⟨t49,At50,HH⟩:=HH
    go_wp2_with ((with_reducible refine gc 18 rfl ?_);refine zc 18 (some 46) Try.func18 #[.slice A16 t12.length cp16,.slice A0 l0.length c0] (h:=?_);(with_reducible refine(toponymref18_Same.calls k (fun k_=>(P_ k_∨w.heap.size≤k_)) _ _ t12 _ _ l0 t49 _ HF16.out HL16.out HF0.out HL0.out At50.out).mono ?_);rintro e w' ⟨rfl,⟨nd,rfl⟩⟩;refine⟨_,rfl,?_⟩)
    refine zg ?_
    by_cases c52:t49=true
    ·replace HH:=MW.hpos HH c52
     subst c52
     replace HH:=zd HH
     obtain⟨t53,At54,HH⟩:=HH
     go_wp2_with ((with_reducible refine gc 24 rfl ?_);refine zc 24 (some 51) Try.func24 #[.slice A16 t12.length cp16,.slice A0 l0.length c0] (h:=?_);(with_reducible refine(dn_Same.calls k (fun k_=>(P_ k_∨w.heap.size≤k_)) _ _ t12 _ _ l0 t53 _ (by(with_reducible repeat(first|apply Kd.F_alloc|apply Kd.F_drewN|apply Kd.F_drew));exact HF16.out) HL16.out (by(with_reducible repeat(first|apply Kd.F_alloc|apply Kd.F_drewN|apply Kd.F_drew));exact HF0.out) HL0.out At54.out).mono ?_);rintro e w55 ⟨rfl,hb⟩;refine⟨_,rfl,?_⟩)
     refine zg ?_
     replace HB:=zhb (by repeat(first|(with_reducible first|exact HB.out|apply below_alloc|apply pw_below_drewN|apply below_drew1)|exact HB.out)) hb
     clear hb
     by_cases c56:t53=true
     ·replace HH:=MW.hpos HH c56
      subst c56
      replace HH:=zd HH
      obtain⟨t57,At58,HH⟩:=HH
      go_wp2_with ((with_reducible refine gc 10 rfl ?_);refine zc 10 (some 55) Try.func10 #[] (h:=?_);(with_reducible refine(toponymlaw18_awake.calls k  t57 _  At58.out).mono ?_);rintro e w59 ⟨rfl,hb⟩;refine⟨_,rfl,?_⟩)
      refine zg ?_
      replace HB:=zhb HB.out hb
      clear hb
      obtain rfl:=Option.some.inj HH.out
      clear HH
      go_wp2
      go_ret
      exact zfi HB.out
     replace HH:=MW.hneg HH c56
     replace c56:=Bool.eq_false_iff.mpr c56
     subst c56
     obtain rfl:=Option.some.inj HH.out
     clear HH
     go_wp2
     go_ret
     exact zfi HB.out
    replace HH:=MW.hneg HH c52
    replace c52:=Bool.eq_false_iff.mpr c52
    subst c52
    obtain rfl:=Option.some.inj HH.out
    clear HH
    go_wp2
    go_ret
    exact zfi (by repeat(first|(with_reducible first|exact HB.out|apply below_alloc|apply pw_below_drewN|apply below_drew1)|exact HB.out))
   obtain rfl:=Option.some.inj HH.out
   clear HH
   go_wp2
   go_ret
   exact zfi HB.out
  replace HH:=zqe HH
  rcases HH with⟨HH,hk65,hk66⟩|⟨HH,hk78,hk79⟩
  ·replace HH:=zd HH
   obtain⟨t67,At68,HH⟩:=HH
   go_wp2_with ((with_reducible refine gc 13 rfl ?_);refine zc 13 (some 22) Try.func13 #[.slice A0 l0.length c0] (h:=?_);(with_reducible refine(dn_Check.calls k (fun k_=>(P_ k_∨w.heap.size≤k_)) _ _ l0 t67 _ HF0.out HL0.out At68.out).mono ?_);rintro e w69 ⟨rfl,hb⟩;refine⟨_,rfl,?_⟩)
   refine zg ?_
   replace HB:=zhb HB.out hb
   clear hb
   replace HH:=zqe HH
   rcases HH with⟨HH,hk71,hk72⟩|⟨HH,hk76,hk77⟩
   ·replace HH:=zd HH
    obtain⟨t73,At74,HH⟩:=HH
    go_wp2_with ((with_reducible refine gc 10 rfl ?_);refine zc 10 (some 26) Try.func10 #[] (h:=?_);(with_reducible refine(toponymlaw18_awake.calls k  t73 _  At74.out).mono ?_);rintro e w75 ⟨rfl,hb⟩;refine⟨_,rfl,?_⟩)
    refine zg ?_
    replace HB:=zhb HB.out hb
    clear hb
    obtain rfl:=Option.some.inj HH.out
    clear HH
    go_wp2
    go_ret
    exact zfi HB.out
   obtain rfl:=Option.some.inj HH.out
   clear HH
   go_wp2
   go_ret
   exact zfi HB.out
  obtain rfl:=Option.some.inj HH.out
  clear HH
  go_wp2
  go_ret
  exact zfi HB.out
 replace HH:=MW.hneg HH c4
 replace c4:=Bool.eq_false_iff.mpr c4
 subst c4
 replace HH:=zd HH
 obtain⟨t80,At81,HH⟩:=HH
 go_wp2_with ((with_reducible refine gc 10 rfl ?_);refine zc 10 (some 10) Try.func10 #[] (h:=?_);(with_reducible refine(toponymlaw18_awake.calls k  t80 _  At81.out).mono ?_);rintro e w82 ⟨rfl,hb⟩;refine⟨_,rfl,?_⟩)
 refine zg ?_
 replace HB:=zhb (by repeat(first|(with_reducible first|exact HB.out|apply below_alloc|apply pw_below_drewN|apply below_drew1)|exact HB.out)) hb
 clear hb
 obtain rfl:=Option.some.inj HH.out
 clear HH
 go_wp2
 go_ret
 exact zfi HB.out
end Go.Proofs.Ytapinanmmhdpcaa.GA
