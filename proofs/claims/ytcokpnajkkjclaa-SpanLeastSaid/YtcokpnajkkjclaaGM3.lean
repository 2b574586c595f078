import Derived.Test.YtcokpnajkkjclaaGA0
import Derived.Test.YtcokpnajkkjclaaGAF34
import Derived.Test.YtcokpnajkkjclaaGM1
import Derived.Test.YtcokpnajkkjclaaMQ
import Derived.Test.YtcokpnajkkjclaaMS
namespace Go.Proofs.Ytcokpnajkkjclaa.GA
open Go.RowKit Go.Proofs.Ytcokpnajkkjclaa Go.Proofs.Ytcokpnajkkjclaa.MW Go.Proofs.YtcokpnajkkjclaaW.PrintWords Go.Proofs.YtcokpnajkkjclaaW.PrintLast Go.Proofs.YtcokpnajkkjclaaW.PrintMore
attribute [local go_sem] max2_int min2_int max_two min_two
set_option maxHeartbeats 8000000
set_option maxRecDepth 100000
set_option linter.unusedVariables false
set_option linter.unusedSimpArgs false
def slices_Sort_rune_rune.f (k:Nat) (l0:List Int):Option (List Int):=(bits_Len.f (IntKind.u64.wrap ((l0.length:Int)))).bind fun t1=>((slices_pdqsortOrdered_rune.f k l0 0 (l0.length:Int) t1).bind fun y4=>(some y4))
theorem slices_Sort_rune_rune.mono:∀ a0_ k,LeO (slices_Sort_rune_rune.f k a0_) (slices_Sort_rune_rune.f (k+1) a0_):=by
 intro a0_ k
 unfold slices_Sort_rune_rune.f
 with_reducible repeat' first|exact slices_pdqsortOrdered_rune.mono _ _ _ _ _|exact LeO.refl _|exact LeO.none _|refine LeO.ite ?_ ?_|refine LeO.bind ?_ (fun _=>?_)
theorem slices_Sort_rune_rune.calls (k:Nat) (B_:Nat) (A0:Option Addr) (c0:Nat) (l0:List Int) (r:List Int) (w:World) (hB0:B_≤w.heap.size) (hn0:Kd.N (Kd.int .i32) 21 w B_ (fun k_=>some k_=((.slice A0 l0.length c0):Value).ownBlock) (.slice A0 l0.length c0) l0) (h:slices_Sort_rune_rune.f k l0=some r):
  Calls Try.prog 31 #[(.slice A0 l0.length c0)] w (fun e w'=>e=.returned (.tuple #[])∧Kd.N (Kd.int .i32) 21 w' B_ (fun k_=>some k_=((.slice A0 l0.length c0):Value).ownBlock∨w.heap.size≤k_) (.slice A0 l0.length c0) r∧(∀ k_:Nat,some k_≠((.slice A0 l0.length c0):Value).ownBlock→k_<w.heap.size→w'.heap[k_]? =w.heap[k_]?)∧Below B_ w w'):=by
 unfold slices_Sort_rune_rune.f at h
 have HH:=za h
 clear h
 obtain⟨P0_,HPO⟩:∃ P0_:Nat→Prop,P0_=(fun k_=>some k_≠((.slice A0 l0.length c0):Value).ownBlock):=⟨_,rfl⟩
 have HFfr:=za (MB.frK_new w (fun k_ hk_=>by rw[HPO] at hk_;exact⟨trivial,hk_⟩):Kd.F (MB.frK w P0_) w (fun k_=>True∧some k_≠((.slice A0 l0.length c0):Value).ownBlock) (some ⟨0,0,none⟩) [()].length [()])
 replace HPO:=za HPO
 have hB_:=za hB0
 have HN0:=za (Kd.N_mono hn0 (fun k_ hk_=>⟨trivial,.inl hk_⟩):Kd.N (Kd.int .i32) 21 w B_ (fun k_=>True∧(some k_=((.slice A0 l0.length c0):Value).ownBlock∨w.heap.size≤k_)) (.slice A0 l0.length c0) l0)
 clear hn0
 have HB:=za (Below.refl B_ w)
 go_enter Try.func31,Try.ntmps31
 replace HH:=zd HH
 obtain⟨t1,At2,HH⟩:=HH
 go_wp2_with ((with_reducible refine gc 35 rfl ?_);refine zc 35 (some 9) Try.func35 #[.int .u64 (IntKind.u64.wrap ((l0.length:Int)))] (h:=?_);(with_reducible refine(bits_Len.calls  (IntKind.u64.wrap ((l0.length:Int))) t1 _  At2.out).mono ?_);rintro e w' ⟨rfl,⟨nd,rfl⟩⟩;refine⟨_,rfl,?_⟩)
 refine zg ?_
 replace HH:=zd HH
 obtain⟨y4,At5,HH⟩:=HH
 go_wp2_with (((with_reducible refine gc 34 rfl ?_);refine zc 34 (some 10) Try.func34 #[(.slice A0 l0.length c0),.int .i64 0,.int .i64 (l0.length:Int),.int .i64 t1] (h:=?_);refine(slices_pdqsortOrdered_rune.calls k B_ A0 c0 l0 0 (l0.length:Int) t1 y4 _ (Nat.le_trans hB_.out (MB.bsize (a:=B_) (by repeat(first|(with_reducible first|exact HB.out|apply MB.below_allocB hB_.out|apply pw_below_drewN|apply below_drew1)|exact HB.out)))) (MB.N_only (by(with_reducible repeat(first|apply Kd.N_alloc|apply Kd.N_drewN|apply Kd.N_drew));exact HN0.out)) At5.out).mono ?_;rintro e w7 ⟨rfl,hn1,hfr,hb⟩;refine⟨_,rfl,?_⟩);replace hn1:=za hn1;replace hfr:=za hfr)
 refine zg ?_
 replace hn1:=hn1.out
 replace hfr:=hfr.out
 replace HFfr:=za (Kd.F_step (ok:=(fun k_=>True∧some k_≠((.slice A0 l0.length c0):Value).ownBlock)) (by(with_reducible repeat(first|apply Kd.F_alloc|apply Kd.F_drewN|apply Kd.F_drew));exact HFfr.out) (fun k_ hk_ hlt_=>hfr k_ (hk_.2) hlt_))
 have HN8:=za (Kd.N_mono hn1 (fun k_ hk_=>hk_.elim (fun h_=>HN0.out.1 k_ h_.symm) (fun h_=>⟨trivial,(.inr (Nat.le_trans (MB.bsize (a:=B_) (by repeat(first|(with_reducible first|exact HB.out|apply MB.below_allocB hB_.out|apply pw_below_drewN|apply below_drew1)|exact HB.out))) h_))⟩)):Kd.N (Kd.int .i32) 21 w7 B_ (fun k_=>True∧(some k_=((.slice A0 l0.length c0):Value).ownBlock∨w.heap.size≤k_)) (.slice A0 l0.length c0) y4)
 replace HB:=za (Below.trans (by repeat(first|(with_reducible first|exact HB.out|apply MB.below_allocB hB_.out|apply pw_below_drewN|apply below_drew1)|exact HB.out)) hb)
 clear HN0 hn1 hfr hb
 obtain rfl:=Option.some.inj HH.out
 clear HH
 go_wp2
 (first|go_end0|((try simp only[Exit.inBlock,Exit.then]);refine bodyPost_ret (results_none rfl _ _ _) rfl ?_))
 exact⟨by first|rfl|(simp;done)|(simp[*];done),(Kd.N_mono (ok:=(fun k_=>True∧(some k_=((.slice A0 l0.length c0):Value).ownBlock∨w.heap.size≤k_))) HN8.out (fun k_ hk_=>hk_.2)),(fun k_ hv_ hlt_=>MB.frK_out HFfr.out k_ (by rw[HPO.out];exact hv_) hlt_),HB.out⟩

def span_edges.l0:Nat→(List Int)→Int→(List (S37))→Option (List Int)
 |0,_,_,_=>none
 |k+1,x5,x8,l0=>if x8<(l0.length:Int) then(if 0≤x8 then((span_piece_start.f ((rd_T37 l0 x8).f0) ((rd_T37 l0 x8).f1) ((rd_T37 l0 x8).f2)).bind fun t32=>(if x5.length<35184372088832 then((some (x5++[t32]:List Int)).bind fun y41=>((span_piece_behind.f ((rd_T37 l0 x8).f0) ((rd_T37 l0 x8).f1) ((rd_T37 l0 x8).f2)).bind fun t50=>(if y41.length<35184372088832 then((some (y41++[t50]:List Int)).bind fun y59=>((span_edges.l0 k y59 (wrap64 (x8+1)) l0))) else(none)))) else(none))) else(none)) else((slices_Sort_rune_rune.f k x5).bind fun y73=>((slices_Compact_rune_rune.f y73).bind fun y80=>(some y80)))
def span_edges.f (k:Nat) (l0:List (S37)):Option (List Int):=(span_edges.l0 k ([]:List Int) 0 l0)
theorem span_edges.mono_l:∀ k,(∀ y0 y1 y2,LeO (span_edges.l0 k y0 y1 y2) (span_edges.l0 (k+1) y0 y1 y2))
 |0=>fun _ _ _ r h=>by simp[span_edges.l0] at h
 |k+1=>by
  have ih0:=span_edges.mono_l k
  ·intro y0 y1 y2
   unfold span_edges.l0
   with_reducible repeat' first|exact ih0 _ _ _|exact slices_Sort_rune_rune.mono _ _|exact LeO.refl _|exact LeO.none _|refine LeO.ite ?_ ?_|refine LeO.bind ?_ (fun _=>?_)
theorem span_edges.mono:∀ a0_ k,LeO (span_edges.f k a0_) (span_edges.f (k+1) a0_):=by
 intro a0_ k
 have ih0:=span_edges.mono_l k
 unfold span_edges.f
 with_reducible repeat' first|exact ih0 _ _ _|exact slices_Sort_rune_rune.mono _ _|exact LeO.refl _|exact LeO.none _|refine LeO.ite ?_ ?_|refine LeO.bind ?_ (fun _=>?_)
theorem span_edges.calls (k:Nat) (P_:Nat→Prop) (A0:Option Addr) (c0:Nat) (l0:List (S37)) (r:List Int) (w:World) (hs0:Kd.F k37 w P_ A0 l0.length l0) (hc0:l0.length≤c0) (h:span_edges.f k l0=some r):
  Calls Try.prog 24 #[.slice A0 l0.length c0] w (fun e w'=>∃ v0_:Value,e=.returned (v0_)∧Kd.N (Kd.int .i32) 21 w' w.heap.size (fun k_=>P_ k_∨w.heap.size≤k_) v0_ r∧Below w.heap.size w w'):=by
 unfold span_edges.f at h
 have HH:=za h
 clear h
 have HF0:=zfp hs0
 clear hs0 hc0
 have HB:=za (Below.refl w.heap.size w)
 have hu37:=Try.underlying37
 go_enter Try.func24,Try.ntmps24
 go_wp2_with ((with_reducible refine gd 9 rfl ?_);refine MS.zfr 9 53 2 #[.func (.func 29) #[] #[],.func (.func 30) #[] #[]] (h:=?_);intro g1 hg w2 BKg1 hb)
 refine zg ?_
 replace HF0:=zfe HF0.out hg hb
 replace HB:=zhb HB.out hb
 clear hg hb
 replace cBKg1:=MB.lz2 BKg1.out
 go_wp2
 go_loopg [4,12] k (fun kq u4 u12 w'=>∃ (x5:List Int) (x8:Int),u12=.int .i64 x8∧Aside0 ((span_edges.l0 kq x5 x8 l0)=some r)∧Aside0 (kq≤k)∧Aside0 (Kd.F k37 w' (fun k_=>((P_ k_∨w.heap.size≤k_)∧some k_≠(u4:Value).ownBlock)∧k_≠g1) A0 l0.length l0)∧Aside0 (Kd.N (Kd.int .i32) 21 w' w.heap.size (fun k_=>(P_ k_∨w.heap.size≤k_)∧k_≠g1) u4 x5)∧Aside0 (w'.heap[g1]? =some (.cells #[.func (.func 29) #[] #[],.func (.func 30) #[] #[]] 53 (0,0)))∧Aside0 (Below w.heap.size w w'))
 case atStart=>exact⟨([]:List Int),0,(by first|rfl|(simp;done)|(simp[*];done)),HH,⟨Nat.le_refl _⟩,⟨(Kd.F_mono (ok:=(fun k_=>(P_ k_∨w.heap.size≤k_)∧k_≠g1)) HF0.out (fun k_ hk_=>⟨⟨hk_.1,(by simp[Value.ownBlock])⟩,hk_.2⟩))⟩,⟨Kd.N_nil _ _ _ _ _⟩,⟨BKg1.out⟩,⟨HB.out⟩⟩
 case round=>
  clear HH
  clear HF0 BKg1 HB
  obtain⟨x5,x8,rfl,HA,HK0,HF0,HN7,BKg1,HB⟩:=hrel
  obtain⟨v6,rfl⟩:∃ z_:Value,z_=u4:=⟨_,rfl⟩
  obtain⟨w10,rfl⟩:∃ wo_:World,wo_=wr:=⟨_,rfl⟩
  cases gk with
  |zero=>exact absurd HA.out (by simp[span_edges.l0])
  |succ k9=>
   have H:=HA.out
   clear HA
   simp only[span_edges.l0] at H
   have HH:=za H
   clear H
   replace cBKg1:=MB.lz2 BKg1.out
   replace HH:=zqt HH
   rcases HH with⟨HH,hk14,hk15⟩|⟨HH,hk69,hk70⟩
   ·replace HH:=zqdo HH
    obtain⟨HH,hk17⟩:=HH
    have p18:0≤(x8:Int):=of_decide_eq_true (by first|(with_reducible assumption)|assumption)
    have q18:x8<(l0.length:Int):=of_decide_eq_true (by first|(with_reducible assumption)|assumption)
    obtain⟨ad18,e18,hx18_0,hx18_1,hx18_2⟩:=atF_T37 HF0.out x8 p18 q18
    cases e18
    replace p18:=eq_true p18
    replace q18:=eq_true q18
    go_wp2_with ((with_reducible refine gd 6 rfl ?_);refine zb 6 37 #[.int .i32 0,.int .i32 0,.int .i64 0] (h:=?_);intro g19 hg w20 BKg19 hb)
    refine zg ?_
    have GEg19:=zge hg (below_size HB.out)
    have NEg1_g19:=znq hg BKg1.out
    replace HF0:=zfe HF0.out hg hb
    replace HN7:=zne HN7.out hg hb
    replace BKg1:=zbb BKg1.out hb
    replace HB:=zhb HB.out hb
    clear hg hb
    clear hx18_0 hx18_1 hx18_2 p18 q18
    replace cBKg1:=MB.lz2 BKg1.out
    replace cBKg19:=MB.lz3 BKg19.out
    go_wp2_with ((with_reducible refine gs 37 6 rfl ?_);refine zs 37 6 #[.int .i32 ((rd_T37 l0 x8).f0),.int .i32 ((rd_T37 l0 x8).f1),.int .i64 ((rd_T37 l0 x8).f2)] BKg19.out [.int .i32 ((rd_T37 l0 x8).f0),.int .i32 ((rd_T37 l0 x8).f1),.int .i64 ((rd_T37 l0 x8).f2)] (h:=?_);intro w26 hbk hg)
    refine zg ?_
    replace HF0:=zfg HF0.out hg fun k_ hk_=>hk_.2
    replace HN7:=zng HN7.out hg fun k_ hk_=>hk_.2
    replace BKg1:=zbg BKg1.out hg NEg1_g19
    replace HB:=zhg HB.out hg (below_size HB.out) GEg19
    replace BKg19:=hbk
    clear hg hbk
    replace cBKg1:=MB.lz2 BKg1.out
    replace cBKg19:=MB.lz3 BKg19.out
    go_wp2
    refine wp_loop_rounds 4 ?_
    rw[rounds_succ]
    replace HH:=zd HH
    obtain⟨t32,At33,HH⟩:=HH
    go_wp2_with ((with_reducible refine gd 25 rfl ?_);refine zv 25 Try.func29 #[.agg #[.int .i32 ((rd_T37 l0 x8).f0),.int .i32 ((rd_T37 l0 x8).f1),.int .i64 ((rd_T37 l0 x8).f2)]] #[] (h:=?_);(with_reducible refine(span_piece_start.calls  ((rd_T37 l0 x8).f0) ((rd_T37 l0 x8).f1) ((rd_T37 l0 x8).f2) t32 _  At33.out).mono ?_);rintro e w34 ⟨rfl,hb⟩;refine⟨_,rfl,?_⟩)
    refine zg ?_
    replace HF0:=zfb HF0.out hb
    replace HN7:=znb HN7.out hb
    replace BKg1:=zbb BKg1.out hb
    replace BKg19:=zbb BKg19.out hb
    replace HB:=zhb HB.out hb
    clear hb
    replace cBKg1:=MB.lz2 BKg1.out
    replace cBKg19:=MB.lz3 BKg19.out
    obtain⟨HH,LMc40⟩:=zlm HH
    obtain⟨y41,hy41⟩:∃ y_:List Int,y_=(x5++[t32]):=⟨_,rfl⟩
    have H:((span_piece_behind.f ((rd_T37 l0 x8).f0) ((rd_T37 l0 x8).f1) ((rd_T37 l0 x8).f2)).bind fun t50=>(if y41.length<35184372088832 then((some (y41++[t50]:List Int)).bind fun y59=>((span_edges.l0 k9 y59 (wrap64 (x8+1)) l0))) else(none)))=some r:=by rw[hy41];exact HH.out
    replace HH:=za H
    clear H
    have NYy41:=za hy41
    clear hy41
    go_wp2_with (((with_reducible refine gate_dst (N:=27) rfl ?_);(try(refine gate_guard (by rfl) ?_;dsimp only));refine Kd.N_append (Kd.int .i32) w.heap.size rfl _ _ 45 21 (.int .i32 0) 4 rfl Try.underlying45 info21 rfl (by decide) (by decide) (v6) x5 t32 [.int .i32 t32] (fun k_=>((P_ k_∨w.heap.size≤k_)∧k_≠g1)∧k_≠g19) (fun k_=>(fun k_=>((P_ k_∨w.heap.size≤k_)∧k_≠g1)∧k_≠g19) k_∧some k_≠(v6:Value).ownBlock) rfl rfl (fun _ _=>rfl) (fun _ hk_=>hk_) (fun k_ h_=>⟨⟨.inr (Nat.le_trans (below_size (by repeat(first|(with_reducible first|exact HB.out|apply below_alloc|apply pw_below_drewN|apply below_drew1)|exact HB.out))) h_),Kd.freshB (g:=g1) (o:=.cells #[.func (.func 29) #[] #[],.func (.func 30) #[] #[]] 53 (0,0)) (by(with_reducible repeat(first|refine blk_drewN ?_ _|refine blk_drew ?_|refine blk_alloc ?_ _));exact BKg1.out) k_ h_⟩,Kd.freshB (g:=g19) (o:=.cells #[.int .i32 ((rd_T37 l0 x8).f0),.int .i32 ((rd_T37 l0 x8).f1),.int .i64 ((rd_T37 l0 x8).f2)] 37 (0,0)) (by(with_reducible repeat(first|refine blk_drewN ?_ _|refine blk_drew ?_|refine blk_alloc ?_ _));exact BKg19.out) k_ h_⟩) (by(with_reducible repeat(first|apply Kd.N_alloc|apply Kd.N_drewN|apply Kd.N_drew));exact HN7.out) (by repeat(first|(with_reducible first|exact HB.out|apply below_alloc|apply pw_below_drewN|apply below_drew1)|exact HB.out)) (below_size (by repeat(first|(with_reducible first|exact HB.out|apply below_alloc|apply pw_below_drewN|apply below_drew1)|exact HB.out))) (by first|(have:=LMc40.out;omega)|(have:=LMc40.out;simp at *;omega)) ?_;intro v42 w43 hn1 hb1 hg1 hat1);replace hat1:=za hat1;refine stop_ ?_)
    refine zg ?_
    replace hat1:=hat1.out
    replace HF0:=za (Kd.F_mono (Kd.F_after (v:=v6) (ok:=(fun k_=>((P_ k_∨w.heap.size≤k_)∧k_≠g1)∧k_≠g19)) (Kd.F_mono (ok:=(fun k_=>(((P_ k_∨w.heap.size≤k_)∧some k_≠(v6:Value).ownBlock)∧k_≠g1)∧k_≠g19)) (by(with_reducible repeat(first|apply Kd.F_alloc|apply Kd.F_drewN|apply Kd.F_drew));exact HF0.out) (fun k_ hk_=>⟨⟨⟨hk_.1.1.1,hk_.1.2⟩,hk_.2⟩,hk_.1.1.2⟩)) hg1 hat1) (fun k_ hk_=>hk_):Kd.F k37 _ (fun k_=>(((P_ k_∨w.heap.size≤k_)∧k_≠g1)∧k_≠g19)∧some k_≠(v42:Value).ownBlock) _ _ _)
    replace BKg1:=za (blk_grown (g:=g1) (o:=.cells #[.func (.func 29) #[] #[],.func (.func 30) #[] #[]] 53 (0,0)) (by(with_reducible repeat(first|refine blk_drewN ?_ _|refine blk_drew ?_|refine blk_alloc ?_ _));exact BKg1.out) hg1 (Kd.N_away (ok:=(fun k_=>((P_ k_∨w.heap.size≤k_)∧k_≠g1)∧k_≠g19)) HN7.out (fun k_ hk_=>hk_.1.2)))
    replace BKg19:=za (blk_grown (g:=g19) (o:=.cells #[.int .i32 ((rd_T37 l0 x8).f0),.int .i32 ((rd_T37 l0 x8).f1),.int .i64 ((rd_T37 l0 x8).f2)] 37 (0,0)) (by(with_reducible repeat(first|refine blk_drewN ?_ _|refine blk_drew ?_|refine blk_alloc ?_ _));exact BKg19.out) hg1 (Kd.N_away (ok:=(fun k_=>((P_ k_∨w.heap.size≤k_)∧k_≠g1)∧k_≠g19)) HN7.out (fun k_ hk_=>hk_.2)))
    replace HB:=za hb1
    clear HN7
    have HN44:=za hn1
    clear hn1 hb1 hg1 hat1
    replace HN44:=za (by rw[NYy41.out];exact HN44.out:Kd.N (Kd.int .i32) 21 w43 w.heap.size (fun k_=>((P_ k_∨w.heap.size≤k_)∧k_≠g1)∧k_≠g19) v42 y41)
    replace cBKg1:=MB.lz2 BKg1.out
    replace cBKg19:=MB.lz3 BKg19.out
    go_wp2
    rw[rounds_succ]
    replace HH:=zd HH
    obtain⟨t50,At51,HH⟩:=HH
    go_wp2_with ((with_reducible refine gd 25 rfl ?_);refine zv 25 Try.func30 #[.agg #[.int .i32 ((rd_T37 l0 x8).f0),.int .i32 ((rd_T37 l0 x8).f1),.int .i64 ((rd_T37 l0 x8).f2)]] #[] (h:=?_);(with_reducible refine(span_piece_behind.calls  ((rd_T37 l0 x8).f0) ((rd_T37 l0 x8).f1) ((rd_T37 l0 x8).f2) t50 _  At51.out).mono ?_);rintro e w52 ⟨rfl,hb⟩;refine⟨_,rfl,?_⟩)
    refine zg ?_
    replace HF0:=zfb HF0.out hb
    replace HN44:=znb HN44.out hb
    replace BKg1:=zbb BKg1.out hb
    replace BKg19:=zbb BKg19.out hb
    replace HB:=zhb HB.out hb
    clear hb
    replace cBKg1:=MB.lz2 BKg1.out
    replace cBKg19:=MB.lz3 BKg19.out
    obtain⟨HH,LMc58⟩:=zlm HH
    obtain⟨y59,hy59⟩:∃ y_:List Int,y_=(y41++[t50]):=⟨_,rfl⟩
    have H:((span_edges.l0 k9 y59 (wrap64 (x8+1)) l0))=some r:=by rw[hy59];exact HH.out
    replace HH:=za H
    clear H
    have NYy59:=za hy59
    clear hy59
    go_wp2_with (((with_reducible refine gate_dst (N:=27) rfl ?_);(try(refine gate_guard (by rfl) ?_;dsimp only));refine Kd.N_append (Kd.int .i32) w.heap.size rfl _ _ 45 21 (.int .i32 0) 4 rfl Try.underlying45 info21 rfl (by decide) (by decide) (v42) y41 t50 [.int .i32 t50] (fun k_=>((P_ k_∨w.heap.size≤k_)∧k_≠g1)∧k_≠g19) (fun k_=>(fun k_=>((P_ k_∨w.heap.size≤k_)∧k_≠g1)∧k_≠g19) k_∧some k_≠(v42:Value).ownBlock) rfl rfl (fun _ _=>rfl) (fun _ hk_=>hk_) (fun k_ h_=>⟨⟨.inr (Nat.le_trans (below_size (by repeat(first|(with_reducible first|exact HB.out|apply below_alloc|apply pw_below_drewN|apply below_drew1)|exact HB.out))) h_),Kd.freshB (g:=g1) (o:=.cells #[.func (.func 29) #[] #[],.func (.func 30) #[] #[]] 53 (0,0)) (by(with_reducible repeat(first|refine blk_drewN ?_ _|refine blk_drew ?_|refine blk_alloc ?_ _));exact BKg1.out) k_ h_⟩,Kd.freshB (g:=g19) (o:=.cells #[.int .i32 ((rd_T37 l0 x8).f0),.int .i32 ((rd_T37 l0 x8).f1),.int .i64 ((rd_T37 l0 x8).f2)] 37 (0,0)) (by(with_reducible repeat(first|refine blk_drewN ?_ _|refine blk_drew ?_|refine blk_alloc ?_ _));exact BKg19.out) k_ h_⟩) (by(with_reducible repeat(first|apply Kd.N_alloc|apply Kd.N_drewN|apply Kd.N_drew));exact HN44.out) (by repeat(first|(with_reducible first|exact HB.out|apply below_alloc|apply pw_below_drewN|apply below_drew1)|exact HB.out)) (below_size (by repeat(first|(with_reducible first|exact HB.out|apply below_alloc|apply pw_below_drewN|apply below_drew1)|exact HB.out))) (by first|(have:=LMc58.out;omega)|(have:=LMc58.out;simp at *;omega)) ?_;intro v60 w61 hn1 hb1 hg1 hat1);replace hat1:=za hat1;refine stop_ ?_)
    refine zg ?_
    replace hat1:=hat1.out
    replace HF0:=za (Kd.F_mono (Kd.F_after (v:=v42) (ok:=(fun k_=>((P_ k_∨w.heap.size≤k_)∧k_≠g1)∧k_≠g19)) (Kd.F_mono (ok:=(fun k_=>(((P_ k_∨w.heap.size≤k_)∧k_≠g1)∧k_≠g19)∧some k_≠(v42:Value).ownBlock)) (by(with_reducible repeat(first|apply Kd.F_alloc|apply Kd.F_drewN|apply Kd.F_drew));exact HF0.out) (fun k_ hk_=>⟨hk_.1,hk_.2⟩)) hg1 hat1) (fun k_ hk_=>hk_):Kd.F k37 _ (fun k_=>(((P_ k_∨w.heap.size≤k_)∧k_≠g1)∧k_≠g19)∧some k_≠(v60:Value).ownBlock) _ _ _)
    replace BKg1:=za (blk_grown (g:=g1) (o:=.cells #[.func (.func 29) #[] #[],.func (.func 30) #[] #[]] 53 (0,0)) (by(with_reducible repeat(first|refine blk_drewN ?_ _|refine blk_drew ?_|refine blk_alloc ?_ _));exact BKg1.out) hg1 (Kd.N_away (ok:=(fun k_=>((P_ k_∨w.heap.size≤k_)∧k_≠g1)∧k_≠g19)) HN44.out (fun k_ hk_=>hk_.1.2)))
    replace BKg19:=za (blk_grown (g:=g19) (o:=.cells #[.int .i32 ((rd_T37 l0 x8).f0),.int .i32 ((rd_T37 l0 x8).f1),.int .i64 ((rd_T37 l0 x8).f2)] 37 (0,0)) (by(with_reducible repeat(first|refine blk_drewN ?_ _|refine blk_drew ?_|refine blk_alloc ?_ _));exact BKg19.out) hg1 (Kd.N_away (ok:=(fun k_=>((P_ k_∨w.heap.size≤k_)∧k_≠g1)∧k_≠g19)) HN44.out (fun k_ hk_=>hk_.2)))
    replace HB:=za hb1
    clear HN44
    have HN62:=za hn1
    clear hn1 hb1 hg1 hat1
    replace HN62:=za (by rw[NYy59.out];exact HN62.out:Kd.N (Kd.int .i32) 21 w61 w.heap.size (fun k_=>((P_ k_∨w.heap.size≤k_)∧k_≠g1)∧k_≠g19) v60 y59)
    replace cBKg1:=MB.lz2 BKg1.out
    replace cBKg19:=MB.lz3 BKg19.out
    go_wp2
    rw[rounds_succ]
    go_wp2
    go_roundg k9
    case measure=>have:=HK0.out;omega
    case rel=>exact⟨y59,wrap64 (x8+1),(by first|rfl|(simp;done)|(simp[*];done)),HH,⟨by have:=HK0.out;omega⟩,⟨(Kd.F_mono (ok:=(fun k_=>(((P_ k_∨w.heap.size≤k_)∧k_≠g1)∧k_≠g19)∧some k_≠(v60:Value).ownBlock)) HF0.out (fun k_ hk_=>⟨⟨hk_.1.1.1,hk_.2⟩,hk_.1.1.2⟩))⟩,⟨(Kd.N_mono (ok:=(fun k_=>((P_ k_∨w.heap.size≤k_)∧k_≠g1)∧k_≠g19)) HN62.out (fun k_ hk_=>⟨hk_.1.1,hk_.1.2⟩))⟩,⟨BKg1.out⟩,⟨HB.out⟩⟩
   obtain⟨A71,cp72,he_⟩:=Kd.N_slice HN7.out
   subst he_
   replace HH:=zd HH
   obtain⟨y73,At74,HH⟩:=HH
   go_wp2_with (((with_reducible refine gc 31 rfl ?_);refine zc 31 (some 31) Try.func31 #[(.slice A71 x5.length cp72)] (h:=?_);refine(slices_Sort_rune_rune.calls k9 w.heap.size A71 cp72 x5 y73 w10 (below_size HB.out) (MB.N_only HN7.out) At74.out).mono ?_;rintro e w76 ⟨rfl,hn1,hfr,hb⟩;refine⟨_,rfl,?_⟩);replace hn1:=za hn1;replace hfr:=za hfr)
   refine zg ?_
   replace hn1:=hn1.out
   replace hfr:=hfr.out
   have HN77:=za (Kd.N_mono hn1 (fun k_ hk_=>hk_.elim (fun h_=>HN7.out.1 k_ h_.symm) (fun h_=>⟨.inr (Nat.le_trans (below_size HB.out) h_),Kd.freshB (g:=g1) BKg1.out k_ h_⟩)):Kd.N (Kd.int .i32) 21 w76 w.heap.size (fun k_=>(P_ k_∨w.heap.size≤k_)∧k_≠g1) (.slice A71 x5.length cp72) y73)
   replace BKg1:=za ((hfr g1 (Kd.N_away (ok:=(fun k_=>(P_ k_∨w.heap.size≤k_)∧k_≠g1)) HN7.out (fun k_ hk_=>hk_.2)) (blk_lt BKg1.out)).trans BKg1.out)
   replace HB:=za (Below.trans HB.out hb)
   clear HN7 hn1 hfr hb
   replace cBKg1:=MB.lz2 BKg1.out
   replace HH:=zd HH
   obtain⟨y80,At81,HH⟩:=HH
   have LEhq82:=MQ.N_len HN77.out
   have hq82:=slices_Compact_rune_rune.calls w.heap.size A71 cp72 y73 y80 w76 (below_size HB.out) (MB.N_only (by rw[LEhq82];exact HN77.out:Kd.N (Kd.int .i32) 21 _ w.heap.size (fun k_=>(P_ k_∨w.heap.size≤k_)∧k_≠g1) (.slice A71 y73.length cp72) y73)) At81.out
   rw[LEhq82] at hq82
   clear LEhq82
   go_wp2_with (((with_reducible refine gc 32 rfl ?_);refine zc 32 (some 33) Try.func32 #[(.slice A71 x5.length cp72)] (h:=?_);refine(hq82).mono ?_;rintro e w83 ⟨v84,rfl,how,hn1,hfr,hb⟩;refine⟨_,rfl,?_⟩);replace hn1:=za hn1;replace hfr:=za hfr;replace how:=za how)
   refine zg ?_
   replace hn1:=hn1.out
   replace hfr:=hfr.out
   replace how:=how.out
   clear hq82
   replace BKg1:=za ((hfr g1 (Kd.N_away (ok:=(fun k_=>(P_ k_∨w.heap.size≤k_)∧k_≠g1)) HN77.out (fun k_ hk_=>hk_.2)) (blk_lt BKg1.out)).trans BKg1.out)
   have HN85:=za (Kd.N_mono hn1 (fun k_ hk_=>HN77.out.1 k_ (how.symm.trans hk_.symm)):Kd.N (Kd.int .i32) 21 w83 w.heap.size (fun k_=>(P_ k_∨w.heap.size≤k_)∧k_≠g1) v84 y80)
   replace HB:=za (Below.trans HB.out hb)
   clear HN77 hn1 hfr hb how
   replace cBKg1:=MB.lz2 BKg1.out
   obtain rfl:=Option.some.inj HH.out
   clear HH
   go_wp2
   go_ret
   exact⟨_,by first|rfl|(simp;done)|(simp[*];done),(Kd.N_mono (ok:=(fun k_=>(P_ k_∨w.heap.size≤k_)∧k_≠g1)) HN85.out (fun k_ hk_=>hk_.1)),HB.out⟩
end Go.Proofs.Ytcokpnajkkjclaa.GA
