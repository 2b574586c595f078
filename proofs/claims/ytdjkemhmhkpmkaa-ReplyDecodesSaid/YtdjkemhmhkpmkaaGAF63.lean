import Derived.Test.YtdjkemhmhkpmkaaGA0
import Derived.Test.YtdjkemhmhkpmkaaGAB
import Derived.Test.YtdjkemhmhkpmkaaGM1
namespace Go.Proofs.Ytdjkemhmhkpmkaa.GA
open Go.RowKit Go.Proofs.Ytdjkemhmhkpmkaa Go.Proofs.Ytdjkemhmhkpmkaa.MW Go.Proofs.YtdjkemhmhkpmkaaW.PrintWords Go.Proofs.YtdjkemhmhkpmkaaW.PrintLast Go.Proofs.YtdjkemhmhkpmkaaW.PrintMore
attribute [local go_sem] max2_int min2_int max_two min_two
set_option maxHeartbeats 8000000
set_option maxRecDepth 100000
set_option linter.unusedVariables false
set_option linter.unusedSimpArgs false
mutual
def ber_sheaf_lay.l0:Nat→Int→(List Int)→Bool→Int→Int→(List Int)→(List (S57))→Option (List Int × Bool)
 |0,_,_,_,_,_,_,_=>none
 |k+1,x32,x33,x35,a1_0,a1_2,l0_1,l1_4=>if x32<(l1_4.length:Int) then(if 0≤x32 then((ber_sheaf_lay.f k x33 x35 ((rd_T57 l1_4 x32).f0) ((rd_T57 l1_4 x32).f1) ((rd_T57 l1_4 x32).f2) ((rd_T57 l1_4 x32).f3) ((rd_T57 l1_4 x32).f4)).bind fun bt92=>((ber_sheaf_lay.l0 k (wrap64 (x32+1)) bt92.1 bt92.2 a1_0 a1_2 l0_1 l1_4))) else(none)) else((ber_sheaf_put.f l0_1 x35 (strOfNums ([Go.bits .or .u8 ((Go.bits .or .i64 (wrap64 (a1_0*64)) a1_2) % 256) 32]:List Int))).bind fun bt165=>(if 65535<((strOfNums x33).size:Int) then((ber_length.f 65535).bind fun t188=>((ber_sheaf_put.f bt165.1 bt165.2 t188).bind fun bt204=>((ber_sheaf_put.f bt204.1 bt204.2 (strOfNums x33)).bind fun bt224=>(some (bt224.1,bt224.2))))) else((ber_length.f ((strOfNums x33).size:Int)).bind fun t246=>((ber_sheaf_put.f bt165.1 bt165.2 t246).bind fun bt262=>((ber_sheaf_put.f bt262.1 bt262.2 (strOfNums x33)).bind fun bt282=>(some (bt282.1,bt282.2)))))))
def ber_sheaf_lay.f:Nat→(List Int)→Bool→Int→Bool→Int→ByteArray→(List (S57))→Option (List Int × Bool)
 |0,_,_,_,_,_,_,_=>none
 |k+1,l0_1,a0_2,a1_0,a1_1,a1_2,a1_3,l1_4=>if a0_2=true then(some (l0_1,true)) else(if a1_1=true then((ber_sheaf_lay.l0 k 0 ([]:List Int) false a1_0 a1_2 l0_1 l1_4)) else((ber_sheaf_put.f l0_1 false (strOfNums ([(Go.bits .or .i64 (wrap64 (a1_0*64)) a1_2) % 256]:List Int))).bind fun bt318=>(if 65535<(a1_3.size:Int) then((ber_length.f 65535).bind fun t338=>((ber_sheaf_put.f bt318.1 bt318.2 t338).bind fun bt351=>((ber_sheaf_put.f bt351.1 bt351.2 a1_3).bind fun bt368=>(some (bt368.1,bt368.2))))) else((ber_length.f (a1_3.size:Int)).bind fun t387=>((ber_sheaf_put.f bt318.1 bt318.2 t387).bind fun bt400=>((ber_sheaf_put.f bt400.1 bt400.2 a1_3).bind fun bt417=>(some (bt417.1,bt417.2))))))))
end
theorem ber_sheaf_lay.mono_l:∀ k,(∀ y0 y1 y2 y3 y4 y5 y6,LeO (ber_sheaf_lay.f k y0 y1 y2 y3 y4 y5 y6) (ber_sheaf_lay.f (k+1) y0 y1 y2 y3 y4 y5 y6))∧(∀ y0 y1 y2 y3 y4 y5 y6,LeO (ber_sheaf_lay.l0 k y0 y1 y2 y3 y4 y5 y6) (ber_sheaf_lay.l0 (k+1) y0 y1 y2 y3 y4 y5 y6))
 |0=>⟨fun _ _ _ _ _ _ _ r h=>by simp[ber_sheaf_lay.f] at h,fun _ _ _ _ _ _ _ r h=>by simp[ber_sheaf_lay.l0] at h⟩
 |k+1=>by
  obtain⟨ih0,ih1⟩:=ber_sheaf_lay.mono_l k
  refine⟨?_,?_⟩
  ·intro y0 y1 y2 y3 y4 y5 y6
   unfold ber_sheaf_lay.f
   with_reducible repeat' first|exact ih0 _ _ _ _ _ _ _|exact ih1 _ _ _ _ _ _ _|exact LeO.refl _|exact LeO.none _|refine LeO.ite ?_ ?_|refine LeO.bind ?_ (fun _=>?_)
  intro y0 y1 y2 y3 y4 y5 y6
  unfold ber_sheaf_lay.l0
  with_reducible repeat' first|exact ih0 _ _ _ _ _ _ _|exact ih1 _ _ _ _ _ _ _|exact LeO.refl _|exact LeO.none _|refine LeO.ite ?_ ?_|refine LeO.bind ?_ (fun _=>?_)
theorem ber_sheaf_lay.mono:∀ a0_ a1_ a2_ a3_ a4_ a5_ a6_ k,LeO (ber_sheaf_lay.f k a0_ a1_ a2_ a3_ a4_ a5_ a6_) (ber_sheaf_lay.f (k+1) a0_ a1_ a2_ a3_ a4_ a5_ a6_):=by
 intro a0_ a1_ a2_ a3_ a4_ a5_ a6_ k
 obtain⟨ih0,ih1⟩:=ber_sheaf_lay.mono_l k
 exact ih0 a0_ a1_ a2_ a3_ a4_ a5_ a6_
def ber_sheaf_lay.Post (P_:Nat→Prop) (B_:Nat) (g0:Nat) (p0_0:Value) (v0_1:Value) (l0_1:List Int) (a0_2:Bool) (a1_0:Int) (a1_1:Bool) (a1_2:Int) (a1_3:ByteArray) (A1_4:Option Addr) (c1_4:Nat) (l1_4:List (S57)) (w:World) (r1:List Int) (r2:Bool) (e:Ending) (w':World):Prop:=∃ v1'_:Value,∃ p0'_:Value,e=.returned (.tuple #[])∧Kd.N (Kd.int .u8) 5 w' B_ (fun k_=>(True∧(some k_=(v0_1:Value).ownBlock∨w.heap.size≤k_))∧k_≠g0) v1'_ r1∧(p0'_=.pointer none∨p0'_=.pointer (some ⟨g0,0,none⟩))∧w'.heap[g0]? =some (.cells #[p0'_,v1'_,.bool r2] 99 (0,0))∧(∀ k_:Nat,k_≠g0→some k_≠(v0_1:Value).ownBlock→k_<w.heap.size→w'.heap[k_]? =w.heap[k_]?)∧Below B_ w w'
theorem ber_sheaf_lay.calls (k:Nat):∀ (P_:Nat→Prop) (B_:Nat) (g0:Nat) (p0_0:Value) (v0_1:Value) (l0_1:List Int) (a0_2:Bool) (a1_0:Int) (a1_1:Bool) (a1_2:Int) (a1_3:ByteArray) (A1_4:Option Addr) (c1_4:Nat) (l1_4:List (S57)) (r1:List Int) (r2:Bool) (w:World) (hB0:B_≤w.heap.size) (hPg:∀ k_,P_ k_→k_≠g0) (hPv:∀ k_,P_ k_→some k_≠(v0_1:Value).ownBlock) (hb0:w.heap[g0]? =some (.cells #[p0_0,v0_1,.bool a0_2] 99 (0,0))) (hge0:B_≤g0) (hp0_0:p0_0=.pointer none∨p0_0=.pointer (some ⟨g0,0,none⟩)) (hn0_1:Kd.N (Kd.int .u8) 5 w B_ (fun k_=>(True∧(some k_=(v0_1:Value).ownBlock∨w.heap.size≤k_))∧k_≠g0) v0_1 l0_1) (hs1_4:Kd.F k57 w P_ A1_4 l1_4.length l1_4) (hc1_4:l1_4.length≤c1_4) (h:ber_sheaf_lay.f k l0_1 a0_2 a1_0 a1_1 a1_2 a1_3 l1_4=some (r1,r2)),
  Calls Try.prog 63 #[.pointer (some ⟨g0,0,none⟩),.agg #[.int .i64 a1_0,.bool a1_1,.int .i64 a1_2,.string a1_3,.slice A1_4 l1_4.length c1_4]] w (fun e w'=>ber_sheaf_lay.Post P_ B_ g0 p0_0 v0_1 l0_1 a0_2 a1_0 a1_1 a1_2 a1_3 A1_4 c1_4 l1_4 w r1 r2 e w'):=by
 induction k using Nat.strongRecOn with
 |_ k ih=>
 intro P_ B_ g0 p0_0 v0_1 l0_1 a0_2 a1_0 a1_1 a1_2 a1_3 A1_4 c1_4 l1_4 r1 r2 w hB0 hPg hPv hb0 hge0 hp0_0 hn0_1 hs1_4 hc1_4 h
 cases k with
 |zero=>exact absurd h (by simp[ber_sheaf_lay.f])
 |succ k1=>
 simp only[ber_sheaf_lay.f] at h
 have HH:=za h
 clear h
 obtain⟨P0_,HPO⟩:∃ P0_:Nat→Prop,P0_=(fun k_=>k_≠g0∧some k_≠(v0_1:Value).ownBlock):=⟨_,rfl⟩
 have HFfr:=za (MB.frK_new w (fun k_ hk_=>by rw[HPO] at hk_;exact⟨⟨trivial,hk_.2⟩,hk_.1⟩):Kd.F (MB.frK w P0_) w (fun k_=>(True∧some k_≠(v0_1:Value).ownBlock)∧k_≠g0) (some ⟨0,0,none⟩) [()].length [()])
 replace HPO:=za HPO
 have hB_:=za hB0
 have HPp0_0:=za hp0_0
 clear hp0_0
 have HN0_1:=za hn0_1
 clear hn0_1
 have BKg0:=za hb0
 have GEg0:=za hge0
 clear hb0 hge0
 replace cBKg0:=MB.lz3 BKg0.out
 have HF1_4:=za (Kd.F_mono hs1_4 (ok':=(fun k_=>((True∧(P_ k_∨w.heap.size≤k_))∧some k_≠(v0_1:Value).ownBlock)∧k_≠g0)) (fun k_ hk_=>⟨⟨⟨trivial,.inl hk_⟩,hPv k_ hk_⟩,hPg k_ hk_⟩))
 clear hs1_4 hc1_4
 have HB:=za (Below.refl B_ w)
 have hu57:=Try.underlying57
 have hu99:=Try.underlying99
 go_enter Try.func63,Try.ntmps63
 go_wp2_with ((with_reducible refine gd 3 rfl ?_);refine zb 3 57 #[.int .i64 a1_0,.bool a1_1,.int .i64 a1_2,.string a1_3,.slice A1_4 l1_4.length c1_4] (h:=?_);intro g4 hg w5 BKg4 hb)
 refine zg ?_
 have NEg0_g4:=znq hg BKg0.out
 have NEg4_g0:=zsy NEg0_g4
 replace HFfr:=zfe HFfr.out hg hb
 replace HF1_4:=zfe HF1_4.out hg hb
 replace HN0_1:=zne HN0_1.out hg hb
 replace BKg0:=zbb BKg0.out hb
 replace HB:=za (MB.below_stepB hB_.out HB.out hb)
 clear hg hb
 replace cBKg0:=MB.lz3 BKg0.out
 replace cBKg4:=MB.lz5 BKg4.out
 by_cases c14:a0_2=true
 ·replace HH:=MW.hpos HH c14
  subst c14
  have H:=HH.out
  simp only[Option.some.injEq,Prod.mk.injEq] at H
  obtain⟨rfl,rfl⟩:=H
  clear HH
  go_wp2
  go_end0
  unfold ber_sheaf_lay.Post
  exact⟨(v0_1),(p0_0),by first|rfl|(simp;done)|(simp[*];done),(Kd.N_mono (ok:=(fun k_=>((True∧(some k_=(v0_1:Value).ownBlock∨w.heap.size≤k_))∧k_≠g0)∧k_≠g4)) HN0_1.out (fun k_ hk_=>⟨⟨trivial,hk_.1.1.2⟩,hk_.1.2⟩)),HPp0_0.out,(by first|exact BKg0.out|(have h_:=BKg0.out;simp only[*] at h_;exact h_)|(have h_:=BKg0.out;simp[*] at h_ ⊢;exact h_)),(fun k_ hg_ hv_ hlt_=>MB.frK_out HFfr.out k_ (by rw[HPO.out];exact⟨hg_,hv_⟩) hlt_),HB.out⟩
 replace HH:=MW.hneg HH c14
 replace c14:=Bool.eq_false_iff.mpr c14
 subst c14
 by_cases c15:a1_1=true
 ·replace HH:=MW.hpos HH c15
  subst c15
  go_wp2_with ((with_reducible refine gd 6 rfl ?_);refine zb 6 99 #[.pointer none,.slice none 0 0,.bool false] (h:=?_);intro g16 hg w17 BKg16 hb)
  refine zg ?_
  have GEg16:=zge hg (Nat.le_trans hB_.out (MB.bsize (a:=B_) HB.out))
  have NEg0_g16:=znq hg BKg0.out
  have NEg16_g0:=zsy NEg0_g16
  have NEg4_g16:=znq hg BKg4.out
  replace HFfr:=zfe HFfr.out hg hb
  replace HF1_4:=zfe HF1_4.out hg hb
  replace HN0_1:=zne HN0_1.out hg hb
  replace BKg0:=zbb BKg0.out hb
  replace BKg4:=zbb BKg4.out hb
  replace HB:=za (MB.below_stepB hB_.out HB.out hb)
  clear hg hb
  replace cBKg0:=MB.lz3 BKg0.out
  replace cBKg4:=MB.lz5 BKg4.out
  replace cBKg16:=MB.lz3 BKg16.out
  go_wp2
  go_loopg [29] k1 (fun kq u29 w'=>∃ (x32:Int) (x33:List Int) (x35:Bool) (v29:Value) (p30:Value) (p31:Value),u29=.int .i64 x32∧Aside0 ((ber_sheaf_lay.l0 kq x32 x33 x35 a1_0 a1_2 l0_1 l1_4)=some (r1,r2))∧Aside0 (kq≤k1)∧Aside0 (Kd.F (MB.frK w P0_) w' (fun k_=>((((True∧some k_≠(v0_1:Value).ownBlock)∧some k_≠(v29:Value).ownBlock)∧k_≠g0)∧k_≠g4)∧k_≠g16) (some ⟨0,0,none⟩) [()].length [()])∧Aside0 (Kd.F k57 w' (fun k_=>(((((True∧(P_ k_∨w.heap.size≤k_))∧some k_≠(v0_1:Value).ownBlock)∧some k_≠(v29:Value).ownBlock)∧k_≠g0)∧k_≠g4)∧k_≠g16) A1_4 l1_4.length l1_4)∧Aside0 (Kd.N (Kd.int .u8) 5 w' B_ (fun k_=>((((True∧(some k_=(v0_1:Value).ownBlock∨w.heap.size≤k_))∧some k_≠(v29:Value).ownBlock)∧k_≠g0)∧k_≠g4)∧k_≠g16) v0_1 l0_1)∧Aside0 (Kd.N (Kd.int .u8) 5 w' B_ (fun k_=>((((True∧(P_ k_∨w.heap.size≤k_))∧some k_≠(v0_1:Value).ownBlock)∧k_≠g0)∧k_≠g4)∧k_≠g16) v29 x33)∧Aside0 (p30=.pointer none∨p30=.pointer (some ⟨g0,0,none⟩))∧Aside0 (p31=.pointer none∨p31=.pointer (some ⟨g16,0,none⟩))∧Aside0 (w'.heap[g0]? =some (.cells #[p30,v0_1,.bool false] 99 (0,0)))∧Aside0 (w'.heap[g4]? =some (.cells #[.int .i64 a1_0,.bool true,.int .i64 a1_2,.string a1_3,.slice A1_4 l1_4.length c1_4] 57 (0,0)))∧Aside0 (w'.heap[g16]? =some (.cells #[p31,v29,.bool x35] 99 (0,0)))∧Aside0 (Below B_ w w'))
  case atStart=>exact⟨0,([]:List Int),false,.slice none 0 0,p0_0,.pointer none,(by first|rfl|(simp;done)|(simp[*];done)),HH,⟨Nat.le_refl _⟩,⟨(Kd.F_mono (ok:=(fun k_=>(((True∧some k_≠(v0_1:Value).ownBlock)∧k_≠g0)∧k_≠g4)∧k_≠g16)) HFfr.out (fun k_ hk_=>⟨⟨⟨⟨⟨hk_.1.1.1.1,hk_.1.1.1.2⟩,(by simp[Value.ownBlock])⟩,hk_.1.1.2⟩,hk_.1.2⟩,hk_.2⟩))⟩,⟨(Kd.F_mono (ok:=(fun k_=>((((True∧(P_ k_∨w.heap.size≤k_))∧some k_≠(v0_1:Value).ownBlock)∧k_≠g0)∧k_≠g4)∧k_≠g16)) HF1_4.out (fun k_ hk_=>⟨⟨⟨⟨⟨⟨hk_.1.1.1.1.1,hk_.1.1.1.1.2⟩,hk_.1.1.1.2⟩,(by simp[Value.ownBlock])⟩,hk_.1.1.2⟩,hk_.1.2⟩,hk_.2⟩))⟩,⟨(Kd.N_mono (ok:=(fun k_=>(((True∧(some k_=(v0_1:Value).ownBlock∨w.heap.size≤k_))∧k_≠g0)∧k_≠g4)∧k_≠g16)) HN0_1.out (fun k_ hk_=>⟨⟨⟨⟨⟨hk_.1.1.1.1,hk_.1.1.1.2⟩,(by simp[Value.ownBlock])⟩,hk_.1.1.2⟩,hk_.1.2⟩,hk_.2⟩))⟩,⟨Kd.N_nil _ _ _ _ _⟩,⟨HPp0_0.out⟩,⟨(.inl rfl)⟩,⟨BKg0.out⟩,⟨BKg4.out⟩,⟨BKg16.out⟩,⟨HB.out⟩⟩
  case round=>
   clear HH
   clear HFfr HF1_4 HN0_1 BKg0 BKg4 BKg16 HB
   obtain⟨x32,x33,x35,v29,p30,p31,rfl,HA,HK0,HFfr,HF1_4,HN0_1,HN34,HPp30,HPp31,BKg0,BKg4,BKg16,HB⟩:=hrel
   obtain⟨w37,rfl⟩:∃ wo_:World,wo_=wr:=⟨_,rfl⟩
   cases gk with
   |zero=>exact absurd HA.out (by simp[ber_sheaf_lay.l0])
   |succ k36=>
    have H:=HA.out
    clear HA
    simp only[ber_sheaf_lay.l0] at H
    have HH:=za H
    clear H
    replace cBKg0:=MB.lz3 BKg0.out
    replace cBKg4:=MB.lz5 BKg4.out
    replace cBKg16:=MB.lz3 BKg16.out
    replace HH:=zqt HH
    rcases HH with⟨HH,hk50,hk51⟩|⟨HH,hk116,hk117⟩
    ·replace HH:=zqdo HH
     obtain⟨HH,hk53⟩:=HH
     have p54:0≤(x32:Int):=of_decide_eq_true (by first|(with_reducible assumption)|assumption)
     have q54:x32<(l1_4.length:Int):=of_decide_eq_true (by first|(with_reducible assumption)|assumption)
     obtain⟨ad54,A54_4,c54_4,e54,hx54_0,hx54_1,hx54_2,hx54_3,hx54_4,hl54_4,hi54_4⟩:=atF_T57 HF1_4.out x32 p54 q54
     cases e54
     have HF54_4:=za hi54_4
     have HL54_4:=za hl54_4
     clear hi54_4 hl54_4
     replace p54:=eq_true p54
     replace q54:=eq_true q54
     go_wp2_with ((with_reducible refine gd 8 rfl ?_);refine zb 8 57 #[.int .i64 0,.bool false,.int .i64 0,.string (⟨#[]⟩:ByteArray),.slice none 0 0] (h:=?_);intro g55 hg w56 BKg55 hb)
     refine zg ?_
     have GEg55:=zge hg (Nat.le_trans hB_.out (MB.bsize (a:=B_) HB.out))
     have NEg0_g55:=znq hg BKg0.out
     have NEg4_g55:=znq hg BKg4.out
     have NEg16_g55:=znq hg BKg16.out
     have NEg55_g16:=zsy NEg16_g55
     replace HFfr:=zfe HFfr.out hg hb
     replace HF1_4:=zfe HF1_4.out hg hb
     replace HF54_4:=zfe HF54_4.out hg hb
     replace HN0_1:=zne HN0_1.out hg hb
     replace HN34:=zne HN34.out hg hb
     replace BKg0:=zbb BKg0.out hb
     replace BKg4:=zbb BKg4.out hb
     replace BKg16:=zbb BKg16.out hb
     replace HB:=za (MB.below_stepB hB_.out HB.out hb)
     clear hg hb
     clear hx54_0 hx54_1 hx54_2 hx54_3 hx54_4 p54 q54
     replace cBKg0:=MB.lz3 BKg0.out
     replace cBKg4:=MB.lz5 BKg4.out
     replace cBKg16:=MB.lz3 BKg16.out
     replace cBKg55:=MB.lz5 BKg55.out
     go_wp2_with ((with_reducible refine gs 57 8 rfl ?_);refine zs 57 8 #[.int .i64 ((rd_T57 l1_4 x32).f0),.bool ((rd_T57 l1_4 x32).f1),.int .i64 ((rd_T57 l1_4 x32).f2),.string ((rd_T57 l1_4 x32).f3),.slice A54_4 ((rd_T57 l1_4 x32).f4).length c54_4] BKg55.out [.int .i64 ((rd_T57 l1_4 x32).f0),.bool ((rd_T57 l1_4 x32).f1),.int .i64 ((rd_T57 l1_4 x32).f2),.string ((rd_T57 l1_4 x32).f3),.slice A54_4 ((rd_T57 l1_4 x32).f4).length c54_4] (h:=?_);intro w73 hbk hg)
     refine zg ?_
     replace HFfr:=zfg HFfr.out hg fun k_ hk_=>hk_.2
     replace HF1_4:=zfg HF1_4.out hg fun k_ hk_=>hk_.2
     replace HF54_4:=zfg HF54_4.out hg fun k_ hk_=>hk_.2
     replace HN0_1:=zng HN0_1.out hg fun k_ hk_=>hk_.2
     replace HN34:=zng HN34.out hg fun k_ hk_=>hk_.2
     replace BKg0:=zbg BKg0.out hg NEg0_g55
     replace BKg4:=zbg BKg4.out hg NEg4_g55
     replace BKg16:=zbg BKg16.out hg NEg16_g55
     replace HB:=zhg HB.out hg (Nat.le_trans hB_.out (MB.bsize (a:=B_) HB.out)) GEg55
     replace BKg55:=hbk
     clear hg hbk
     replace cBKg0:=MB.lz3 BKg0.out
     replace cBKg4:=MB.lz5 BKg4.out
     replace cBKg16:=MB.lz3 BKg16.out
     replace cBKg55:=MB.lz5 BKg55.out
     obtain⟨A90,cp91,he_⟩:=Kd.N_slice HN34.out
     subst he_
     replace HH:=zd HH
     obtain⟨⟨t92,t93⟩,At94,HH⟩:=HH
     dsimp only at HH
     go_wp2_with (((with_reducible refine gc 63 rfl ?_);refine zc 63 (some 34) Try.func63 #[.pointer (some ⟨g16,0,none⟩),.agg #[.int .i64 ((rd_T57 l1_4 x32).f0),.bool ((rd_T57 l1_4 x32).f1),.int .i64 ((rd_T57 l1_4 x32).f2),.string ((rd_T57 l1_4 x32).f3),.slice A54_4 ((rd_T57 l1_4 x32).f4).length c54_4]] (h:=?_);refine(ih k36 (by have:=HK0.out;omega) (fun k_=>((((((True∧(P_ k_∨w.heap.size≤k_))∧some k_≠(v0_1:Value).ownBlock)∧some k_≠((.slice A90 x33.length cp91):Value).ownBlock)∧k_≠g0)∧k_≠g4)∧k_≠g16)∧k_≠g55) B_ g16 (p31) ((.slice A90 x33.length cp91)) x33 x35 ((rd_T57 l1_4 x32).f0) ((rd_T57 l1_4 x32).f1) ((rd_T57 l1_4 x32).f2) ((rd_T57 l1_4 x32).f3) _ _ ((rd_T57 l1_4 x32).f4) t92 t93 _ (Nat.le_trans hB_.out (MB.bsize (a:=B_) HB.out)) (fun k_ hk_=>hk_.1.2) (fun k_ hk_=>hk_.1.1.1.1.2) BKg16.out GEg16.out HPp31.out (Kd.N_mono (MB.N_only HN34.out) (fun k_ hk_=>⟨⟨trivial,.inl hk_⟩,(fun hk_=>hk_.1.2) (HN34.out.1 k_ hk_.symm)⟩)) HF54_4.out HL54_4.out At94.out).mono ?_;rintro e w95 ⟨v96,p97,rfl,hn1,hp1,hbk,hfr,hb⟩;refine⟨_,rfl,?_⟩);replace hbk:=za hbk;replace hfr:=za hfr;replace hp1:=za hp1)
     refine zg ?_
     replace hbk:=hbk.out
     replace hfr:=hfr.out
     replace hp1:=hp1.out
     have hat1:∀ k_:Nat,(v96:Value).ownBlock=some k_→some k_=((.slice A90 x33.length cp91):Value).ownBlock∨w73.heap.size≤k_:=fun k_ h_=>(hn1.1 k_ h_).1.2
     have HN98:=za (Kd.N_mono hn1 (fun k_ hk_=>hk_.1.2.elim (fun h_=>HN34.out.1 k_ h_.symm) (fun h_=>⟨⟨⟨⟨⟨⟨trivial,(.inr (Nat.le_trans (MB.bsize (a:=B_) HB.out) h_))⟩,Kd.fresh' (Kd.N_lt HN0_1.out) k_ h_⟩,Kd.freshB (g:=g0) BKg0.out k_ h_⟩,Kd.freshB (g:=g4) BKg4.out k_ h_⟩,Kd.freshB (g:=g16) BKg16.out k_ h_⟩,Kd.freshB (g:=g55) BKg55.out k_ h_⟩)):Kd.N (Kd.int .u8) 5 w95 B_ (fun k_=>(((((True∧(P_ k_∨w.heap.size≤k_))∧some k_≠(v0_1:Value).ownBlock)∧k_≠g0)∧k_≠g4)∧k_≠g16)∧k_≠g55) v96 t92)
     replace HFfr:=za (Kd.F_mono (MB.F_ptr (ok:=(fun k_=>(((((True∧some k_≠(v0_1:Value).ownBlock)∧some k_≠((.slice A90 x33.length cp91):Value).ownBlock)∧k_≠g0)∧k_≠g4)∧k_≠g16)∧k_≠g55)) HFfr.out hfr (fun k_ hk_=>hk_.1.2) (fun k_ hk_=>hk_.1.1.1.1.2)) (fun k_ hk_=>⟨⟨⟨⟨⟨⟨hk_.1.1.1.1.1.1.1,hk_.1.1.1.1.1.1.2⟩,hk_.1.1.1.1.2⟩,hk_.1.1.1.2⟩,hk_.1.1.2⟩,hk_.1.2⟩,(fun he_=>(hat1 k_ he_.symm).elim (fun h_=>absurd h_ (hk_.1.1.1.1.1.2)) (fun h_=>absurd hk_.2 (Nat.not_lt.2 h_)))⟩):Kd.F (MB.frK w P0_) _ (fun k_=>(((((True∧some k_≠(v0_1:Value).ownBlock)∧k_≠g0)∧k_≠g4)∧k_≠g16)∧k_≠g55)∧some k_≠(v96:Value).ownBlock) _ _ _)
     replace HF1_4:=za (Kd.F_mono (MB.F_ptr (ok:=(fun k_=>((((((True∧(P_ k_∨w.heap.size≤k_))∧some k_≠(v0_1:Value).ownBlock)∧some k_≠((.slice A90 x33.length cp91):Value).ownBlock)∧k_≠g0)∧k_≠g4)∧k_≠g16)∧k_≠g55)) HF1_4.out hfr (fun k_ hk_=>hk_.1.2) (fun k_ hk_=>hk_.1.1.1.1.2)) (fun k_ hk_=>⟨⟨⟨⟨⟨⟨⟨hk_.1.1.1.1.1.1.1.1,hk_.1.1.1.1.1.1.1.2⟩,hk_.1.1.1.1.1.1.2⟩,hk_.1.1.1.1.2⟩,hk_.1.1.1.2⟩,hk_.1.1.2⟩,hk_.1.2⟩,(fun he_=>(hat1 k_ he_.symm).elim (fun h_=>absurd h_ (hk_.1.1.1.1.1.2)) (fun h_=>absurd hk_.2 (Nat.not_lt.2 h_)))⟩):Kd.F k57 _ (fun k_=>((((((True∧(P_ k_∨w.heap.size≤k_))∧some k_≠(v0_1:Value).ownBlock)∧k_≠g0)∧k_≠g4)∧k_≠g16)∧k_≠g55)∧some k_≠(v96:Value).ownBlock) _ _ _)
     replace HN0_1:=za (Kd.N_mono (MB.N_ptr (ok:=(fun k_=>(((((True∧(some k_=(v0_1:Value).ownBlock∨w.heap.size≤k_))∧some k_≠((.slice A90 x33.length cp91):Value).ownBlock)∧k_≠g0)∧k_≠g4)∧k_≠g16)∧k_≠g55)) HN0_1.out hfr (fun k_ hk_=>hk_.1.2) (fun k_ hk_=>hk_.1.1.1.1.2)) (fun k_ hk_=>⟨⟨⟨⟨⟨⟨hk_.1.1.1.1.1.1.1,hk_.1.1.1.1.1.1.2⟩,hk_.1.1.1.1.2⟩,hk_.1.1.1.2⟩,hk_.1.1.2⟩,hk_.1.2⟩,(fun he_=>(hat1 k_ he_.symm).elim (fun h_=>absurd h_ (hk_.1.1.1.1.1.2)) (fun h_=>absurd hk_.2 (Nat.not_lt.2 h_)))⟩):Kd.N (Kd.int .u8) _ _ _ (fun k_=>(((((True∧(some k_=(v0_1:Value).ownBlock∨w.heap.size≤k_))∧k_≠g0)∧k_≠g4)∧k_≠g16)∧k_≠g55)∧some k_≠(v96:Value).ownBlock) _ _)
     replace BKg0:=za (MB.blk_ptr BKg0.out hfr NEg0_g16.out (Kd.N_away (ok:=(fun k_=>(((((True∧(P_ k_∨w.heap.size≤k_))∧some k_≠(v0_1:Value).ownBlock)∧k_≠g0)∧k_≠g4)∧k_≠g16)∧k_≠g55)) HN34.out (fun k_ hk_=>hk_.1.1.1.2)))
     replace BKg4:=za (MB.blk_ptr BKg4.out hfr NEg4_g16.out (Kd.N_away (ok:=(fun k_=>(((((True∧(P_ k_∨w.heap.size≤k_))∧some k_≠(v0_1:Value).ownBlock)∧k_≠g0)∧k_≠g4)∧k_≠g16)∧k_≠g55)) HN34.out (fun k_ hk_=>hk_.1.1.2)))
     replace BKg55:=za (MB.blk_ptr BKg55.out hfr NEg55_g16.out (Kd.N_away (ok:=(fun k_=>(((((True∧(P_ k_∨w.heap.size≤k_))∧some k_≠(v0_1:Value).ownBlock)∧k_≠g0)∧k_≠g4)∧k_≠g16)∧k_≠g55)) HN34.out (fun k_ hk_=>hk_.2)))
     replace HB:=za (Below.trans HB.out hb)
     replace BKg16:=za hbk
     have HPp97:=za hp1
     clear hbk hfr hb hp1 hn1 hat1
     clear HN34
     replace cBKg0:=MB.lz3 BKg0.out
     replace cBKg4:=MB.lz5 BKg4.out
     replace cBKg16:=MB.lz3 BKg16.out
     replace cBKg55:=MB.lz5 BKg55.out
     go_wp2
     go_roundg k36
     case measure=>have:=HK0.out;omega
     case rel=>exact⟨wrap64 (x32+1),t92,t93,v96,p30,p97,(by first|rfl|(simp;done)|(simp[*];done)),HH,⟨by have:=HK0.out;omega⟩,⟨(Kd.F_mono (ok:=(fun k_=>(((((True∧some k_≠(v0_1:Value).ownBlock)∧k_≠g0)∧k_≠g4)∧k_≠g16)∧k_≠g55)∧some k_≠(v96:Value).ownBlock)) HFfr.out (fun k_ hk_=>⟨⟨⟨⟨⟨hk_.1.1.1.1.1.1,hk_.1.1.1.1.1.2⟩,hk_.2⟩,hk_.1.1.1.1.2⟩,hk_.1.1.1.2⟩,hk_.1.1.2⟩))⟩,⟨(Kd.F_mono (ok:=(fun k_=>((((((True∧(P_ k_∨w.heap.size≤k_))∧some k_≠(v0_1:Value).ownBlock)∧k_≠g0)∧k_≠g4)∧k_≠g16)∧k_≠g55)∧some k_≠(v96:Value).ownBlock)) HF1_4.out (fun k_ hk_=>⟨⟨⟨⟨⟨⟨hk_.1.1.1.1.1.1.1,hk_.1.1.1.1.1.1.2⟩,hk_.1.1.1.1.1.2⟩,hk_.2⟩,hk_.1.1.1.1.2⟩,hk_.1.1.1.2⟩,hk_.1.1.2⟩))⟩,⟨(Kd.N_mono (ok:=(fun k_=>(((((True∧(some k_=(v0_1:Value).ownBlock∨w.heap.size≤k_))∧k_≠g0)∧k_≠g4)∧k_≠g16)∧k_≠g55)∧some k_≠(v96:Value).ownBlock)) HN0_1.out (fun k_ hk_=>⟨⟨⟨⟨⟨hk_.1.1.1.1.1.1,hk_.1.1.1.1.1.2⟩,hk_.2⟩,hk_.1.1.1.1.2⟩,hk_.1.1.1.2⟩,hk_.1.1.2⟩))⟩,⟨(Kd.N_mono (ok:=(fun k_=>(((((True∧(P_ k_∨w.heap.size≤k_))∧some k_≠(v0_1:Value).ownBlock)∧k_≠g0)∧k_≠g4)∧k_≠g16)∧k_≠g55)) HN98.out (fun k_ hk_=>⟨⟨⟨⟨⟨hk_.1.1.1.1.1.1,hk_.1.1.1.1.1.2⟩,hk_.1.1.1.1.2⟩,hk_.1.1.1.2⟩,hk_.1.1.2⟩,hk_.1.2⟩))⟩,⟨HPp30.out⟩,⟨HPp97.out⟩,⟨BKg0.out⟩,⟨BKg4.out⟩,⟨BKg16.out⟩,⟨HB.out⟩⟩
    obtain⟨A119,cp120,he_⟩:=Kd.N_slice HN0_1.out
    subst he_
    go_wp2_with ((with_reducible refine gs 4 46 rfl ?_);refine zs 4 46 #[p30,(.slice A119 l0_1.length cp120),.bool x35] BKg0.out [.bool x35] (h:=?_);intro w118 hbk hg)
    refine zg ?_
    replace HFfr:=zfg HFfr.out hg fun k_ hk_=>hk_.1.1.2
    replace HN0_1:=zng HN0_1.out hg fun k_ hk_=>hk_.1.1.2
    replace HN34:=zng HN34.out hg fun k_ hk_=>hk_.1.1.2
    replace BKg4:=zbg BKg4.out hg NEg4_g0
    replace BKg16:=zbg BKg16.out hg NEg16_g0
    replace HB:=zhg HB.out hg (Nat.le_trans hB_.out (MB.bsize (a:=B_) HB.out)) GEg0
    replace BKg0:=hbk
    clear hg hbk
    replace cBKg0:=MB.lz3 BKg0.out
    replace cBKg4:=MB.lz5 BKg4.out
    replace cBKg16:=MB.lz3 BKg16.out
    obtain⟨A132,cp133,he_⟩:=Kd.N_slice HN34.out
    subst he_
    go_wp2_with (((with_reducible refine gc 64 rfl ?_);refine zc 64 (some 48) Try.func64 #[.pointer (some ⟨g16,0,none⟩)] (h:=?_);refine(bString64 g16 99 (p31) ((.slice A132 x33.length cp133)) [.bool x35] B_ (fun k_=>((((True∧(P_ k_∨w.heap.size≤k_))∧some k_≠((.slice A119 l0_1.length cp120):Value).ownBlock)∧k_≠g0)∧k_≠g4)∧k_≠g16) x33 _ BKg16.out HN34.out).mono ?_;rintro e w134 ⟨rfl,hg⟩;refine⟨_,rfl,?_⟩))
    refine zg ?_
    replace HFfr:=za (Kd.F_mono (Kd.F_grown (ok:=(fun k_=>((((True∧some k_≠((.slice A119 l0_1.length cp120):Value).ownBlock)∧some k_≠((.slice A132 x33.length cp133):Value).ownBlock)∧k_≠g0)∧k_≠g4)∧k_≠g16)) HFfr.out hg (fun k_ hk_=>hk_.1.1.1.2)) (fun k_ hk_=>⟨⟨⟨⟨hk_.1.1.1.1.1,hk_.1.1.1.1.2⟩,hk_.1.1.2⟩,hk_.1.2⟩,hk_.2⟩):Kd.F (MB.frK w P0_) _ (fun k_=>(((True∧some k_≠((.slice A119 l0_1.length cp120):Value).ownBlock)∧k_≠g0)∧k_≠g4)∧k_≠g16) _ _ _)
    replace HN0_1:=za (Kd.N_mono (Kd.N_grown (ok:=(fun k_=>((((True∧(some k_=((.slice A119 l0_1.length cp120):Value).ownBlock∨w.heap.size≤k_))∧some k_≠((.slice A132 x33.length cp133):Value).ownBlock)∧k_≠g0)∧k_≠g4)∧k_≠g16)) HN0_1.out hg (fun k_ hk_=>hk_.1.1.1.2)) (fun k_ hk_=>⟨⟨⟨⟨hk_.1.1.1.1.1,hk_.1.1.1.1.2⟩,hk_.1.1.2⟩,hk_.1.2⟩,hk_.2⟩):Kd.N (Kd.int .u8) _ _ _ (fun k_=>(((True∧(some k_=((.slice A119 l0_1.length cp120):Value).ownBlock∨w.heap.size≤k_))∧k_≠g0)∧k_≠g4)∧k_≠g16) _ _)
    replace BKg0:=za (blk_grown (g:=g0) BKg0.out hg (Kd.N_away (ok:=(fun k_=>((((True∧(P_ k_∨w.heap.size≤k_))∧some k_≠((.slice A119 l0_1.length cp120):Value).ownBlock)∧k_≠g0)∧k_≠g4)∧k_≠g16)) HN34.out (fun k_ hk_=>hk_.1.1.2)))
    replace BKg4:=za (blk_grown (g:=g4) BKg4.out hg (Kd.N_away (ok:=(fun k_=>((((True∧(P_ k_∨w.heap.size≤k_))∧some k_≠((.slice A119 l0_1.length cp120):Value).ownBlock)∧k_≠g0)∧k_≠g4)∧k_≠g16)) HN34.out (fun k_ hk_=>hk_.1.2)))
    replace BKg16:=za (blk_grown (g:=g16) BKg16.out hg (Kd.N_away (ok:=(fun k_=>((((True∧(P_ k_∨w.heap.size≤k_))∧some k_≠((.slice A119 l0_1.length cp120):Value).ownBlock)∧k_≠g0)∧k_≠g4)∧k_≠g16)) HN34.out (fun k_ hk_=>hk_.2)))
    replace HB:=za (Below.grown HB.out hg (Nat.le_trans hB_.out (MB.bsize (a:=B_) HB.out)) (Kd.N_base HN34.out))
    clear hg HN34
    replace cBKg0:=MB.lz3 BKg0.out
    replace cBKg4:=MB.lz5 BKg4.out
    replace cBKg16:=MB.lz3 BKg16.out
    go_wp2_with (((with_reducible refine gate_dst (N:=51) rfl ?_);(try(refine gate_guard (by rfl) ?_;dsimp only));refine Kd.N_lit (Kd.int .u8) B_ 5 rfl (N':=51) rfl (xs:=([Go.bits .or .u8 ((Go.bits .or .i64 (wrap64 (a1_0*64)) a1_2) % 256) 32]:List Int)) (inner:=[.int .u8 (Go.bits .or .u8 ((Go.bits .or .i64 (wrap64 (a1_0*64)) a1_2) % 256) 32)]) (ok:=(fun k_=>((((True∧(P_ k_∨w.heap.size≤k_))∧some k_≠((.slice A119 l0_1.length cp120):Value).ownBlock)∧k_≠g0)∧k_≠g4)∧k_≠g16)) (okp:=(fun k_=>((((True∧(P_ k_∨w.heap.size≤k_))∧some k_≠((.slice A119 l0_1.length cp120):Value).ownBlock)∧k_≠g0)∧k_≠g4)∧k_≠g16)) ?hr ?hp (fun _ hk_=>hk_) ?hf HB.out (Nat.le_trans hB_.out (MB.bsize (a:=B_) HB.out)) (by first|simp|decide) ?_;(case hr=>first|(go_simp;done)|(go_simp;rfl));(case hp=>exact(Reps.one (fun _ _=>rfl) (Reps.none _ _)));(case hf=>exact(show ∀ k_,w134.heap.size≤k_→(fun k_=>((((True∧(P_ k_∨w.heap.size≤k_))∧some k_≠((.slice A119 l0_1.length cp120):Value).ownBlock)∧k_≠g0)∧k_≠g4)∧k_≠g16) k_ from fun k_ h_=>⟨⟨⟨⟨⟨trivial,(.inr (Nat.le_trans (MB.bsize (a:=B_) HB.out) h_))⟩,Kd.fresh' (Kd.N_lt HN0_1.out) k_ h_⟩,Kd.freshB (g:=g0) BKg0.out k_ h_⟩,Kd.freshB (g:=g4) BKg4.out k_ h_⟩,Kd.freshB (g:=g16) BKg16.out k_ h_⟩) _ (Nat.le_refl _));intro v146 w147 hn1 hb1 hg1 hat1);replace hat1:=za hat1;refine stop_ ?_)
    refine zg ?_
    replace hat1:=hat1.out
    have hbe:=MW.grown_below hg1
    have hba:=MW.base_of hat1
    replace HFfr:=za (Kd.F_mono (Kd.F_elder' (ok:=(fun k_=>(((True∧some k_≠((.slice A119 l0_1.length cp120):Value).ownBlock)∧k_≠g0)∧k_≠g4)∧k_≠g16)) HFfr.out hba hbe) (fun k_ hk_=>hk_):Kd.F (MB.frK w P0_) _ (fun k_=>((((True∧some k_≠((.slice A119 l0_1.length cp120):Value).ownBlock)∧k_≠g0)∧k_≠g4)∧k_≠g16)∧some k_≠(v146:Value).ownBlock) _ _ _)
    replace HN0_1:=za (Kd.N_mono (Kd.N_elder' (ok:=(fun k_=>(((True∧(some k_=((.slice A119 l0_1.length cp120):Value).ownBlock∨w.heap.size≤k_))∧k_≠g0)∧k_≠g4)∧k_≠g16)) HN0_1.out hba hbe) (fun k_ hk_=>hk_):Kd.N (Kd.int .u8) _ _ _ (fun k_=>((((True∧(some k_=((.slice A119 l0_1.length cp120):Value).ownBlock∨w.heap.size≤k_))∧k_≠g0)∧k_≠g4)∧k_≠g16)∧some k_≠(v146:Value).ownBlock) _ _)
    replace BKg0:=za (blk_below (g:=g0) BKg0.out hbe)
    replace BKg4:=za (blk_below (g:=g4) BKg4.out hbe)
    replace BKg16:=za (blk_below (g:=g16) BKg16.out hbe)
    replace HB:=za hb1
    have HN148:=za hn1
    clear hn1 hb1 hg1 hat1 hbe hba
    replace cBKg0:=MB.lz3 BKg0.out
    replace cBKg4:=MB.lz5 BKg4.out
    replace cBKg16:=MB.lz3 BKg16.out
    obtain⟨A160,cp161,he_⟩:=Kd.N_slice HN148.out
    subst he_
    have HF162:=za (Kd.N_F HN148.out)
    clear HN148
    replace HFfr:=za (Kd.F_mono (ok:=(fun k_=>((((True∧some k_≠((.slice A119 l0_1.length cp120):Value).ownBlock)∧k_≠g0)∧k_≠g4)∧k_≠g16)∧some k_≠((.slice A160 ([Go.bits .or .u8 ((Go.bits .or .i64 (wrap64 (a1_0*64)) a1_2) % 256) 32]:List Int).length cp161):Value).ownBlock)) HFfr.out (fun k_ hk_=>hk_.1):Kd.F (MB.frK w P0_) _ (fun k_=>(((True∧some k_≠((.slice A119 l0_1.length cp120):Value).ownBlock)∧k_≠g0)∧k_≠g4)∧k_≠g16) _ _ _)
    replace HN0_1:=za (Kd.N_mono (ok:=(fun k_=>((((True∧(some k_=((.slice A119 l0_1.length cp120):Value).ownBlock∨w.heap.size≤k_))∧k_≠g0)∧k_≠g4)∧k_≠g16)∧some k_≠((.slice A160 ([Go.bits .or .u8 ((Go.bits .or .i64 (wrap64 (a1_0*64)) a1_2) % 256) 32]:List Int).length cp161):Value).ownBlock)) HN0_1.out (fun k_ hk_=>hk_.1):Kd.N (Kd.int .u8) _ _ _ (fun k_=>(((True∧(some k_=((.slice A119 l0_1.length cp120):Value).ownBlock∨w.heap.size≤k_))∧k_≠g0)∧k_≠g4)∧k_≠g16) _ _)
    have hcv164:=Kd.C_string (P:=Try.prog) (A:=A160) (c:=cp161) Try.underlying95 Try.underlying5 Try.underlying9 (Kd.F_now HF162.out)
    (try simp only[List.length_cons,List.length_nil,Nat.reduceAdd] at hcv164)
    replace HH:=zd HH
    obtain⟨⟨t165,t166⟩,At167,HH⟩:=HH
    dsimp only at HH
    go_wp2_with (((with_reducible refine gc 89 rfl ?_);refine zc 89 (some 53) Try.func89 #[.pointer (some ⟨g0,0,none⟩),.string (strOfNums ([Go.bits .or .u8 ((Go.bits .or .i64 (wrap64 (a1_0*64)) a1_2) % 256) 32]:List Int))] (h:=?_);refine(ber_sheaf_put.calls B_ g0 (p30) ((.slice A119 l0_1.length cp120)) l0_1 x35 (strOfNums ([Go.bits .or .u8 ((Go.bits .or .i64 (wrap64 (a1_0*64)) a1_2) % 256) 32]:List Int)) t165 t166 _ (Nat.le_trans hB_.out (MB.bsize (a:=B_) HB.out)) BKg0.out GEg0.out HPp30.out (Kd.N_mono (MB.N_only HN0_1.out) (fun k_ hk_=>⟨⟨trivial,.inl hk_⟩,(fun hk_=>hk_.1.1.2) (HN0_1.out.1 k_ hk_.symm)⟩)) At167.out).mono ?_;rintro e w168 ⟨v169,p170,rfl,hn1,hp1,hbk,hfr,hb⟩;refine⟨_,rfl,?_⟩);replace hbk:=za hbk;replace hfr:=za hfr;replace hp1:=za hp1)
    refine zg ?_
    replace hbk:=hbk.out
    replace hfr:=hfr.out
    replace hp1:=hp1.out
    have hat1:∀ k_:Nat,(v169:Value).ownBlock=some k_→some k_=((.slice A119 l0_1.length cp120):Value).ownBlock∨w147.heap.size≤k_:=fun k_ h_=>(hn1.1 k_ h_).1.2
    have HN171:=za (Kd.N_mono hn1 (fun k_ hk_=>hk_.1.2.elim (fun h_=>HN0_1.out.1 k_ h_.symm) (fun h_=>⟨⟨⟨⟨trivial,(.inr (Nat.le_trans (MB.bsize (a:=B_) HB.out) h_))⟩,Kd.freshB (g:=g0) BKg0.out k_ h_⟩,Kd.freshB (g:=g4) BKg4.out k_ h_⟩,Kd.freshB (g:=g16) BKg16.out k_ h_⟩)):Kd.N (Kd.int .u8) 5 w168 B_ (fun k_=>(((True∧(some k_=((.slice A119 l0_1.length cp120):Value).ownBlock∨w.heap.size≤k_))∧k_≠g0)∧k_≠g4)∧k_≠g16) v169 t165)
    replace HFfr:=za (Kd.F_mono (MB.F_ptr (ok:=(fun k_=>(((True∧some k_≠((.slice A119 l0_1.length cp120):Value).ownBlock)∧k_≠g0)∧k_≠g4)∧k_≠g16)) HFfr.out hfr (fun k_ hk_=>hk_.1.1.2) (fun k_ hk_=>hk_.1.1.1.2)) (fun k_ hk_=>⟨⟨⟨⟨hk_.1.1.1.1.1,hk_.1.1.1.2⟩,hk_.1.1.2⟩,hk_.1.2⟩,(fun he_=>(hat1 k_ he_.symm).elim (fun h_=>absurd h_ (hk_.1.1.1.1.2)) (fun h_=>absurd hk_.2 (Nat.not_lt.2 h_)))⟩):Kd.F (MB.frK w P0_) _ (fun k_=>(((True∧k_≠g0)∧k_≠g4)∧k_≠g16)∧some k_≠(v169:Value).ownBlock) _ _ _)
    replace BKg4:=za (MB.blk_ptr BKg4.out hfr NEg4_g0.out (Kd.N_away (ok:=(fun k_=>(((True∧(some k_=((.slice A119 l0_1.length cp120):Value).ownBlock∨w.heap.size≤k_))∧k_≠g0)∧k_≠g4)∧k_≠g16)) HN0_1.out (fun k_ hk_=>hk_.1.2)))
    replace BKg16:=za (MB.blk_ptr BKg16.out hfr NEg16_g0.out (Kd.N_away (ok:=(fun k_=>(((True∧(some k_=((.slice A119 l0_1.length cp120):Value).ownBlock∨w.heap.size≤k_))∧k_≠g0)∧k_≠g4)∧k_≠g16)) HN0_1.out (fun k_ hk_=>hk_.2)))
    replace HB:=za (Below.trans HB.out hb)
    replace BKg0:=za hbk
    have HPp170:=za hp1
    clear hbk hfr hb hp1 hn1 hat1
    clear HN0_1
    clear hcv164
    replace cBKg0:=MB.lz3 BKg0.out
    replace cBKg4:=MB.lz5 BKg4.out
    replace cBKg16:=MB.lz3 BKg16.out
    replace HH:=zqn 65535 HH
    rcases HH with⟨HH,hk184,hk185,hk186,hk187⟩|⟨HH,hk242,hk243,hk244,hk245⟩
    ·replace HH:=zd HH
     obtain⟨t188,At189,HH⟩:=HH
     go_wp2_with ((with_reducible refine gc 90 rfl ?_);refine zc 90 (some 58) Try.func90 #[.int .i64 65535] (h:=?_);(with_reducible refine(ber_length.calls  65535 t188 _  At189.out).mono ?_);rintro e w190 ⟨rfl,hb⟩;refine⟨_,rfl,?_⟩)
     refine zg ?_
     replace HFfr:=zfb HFfr.out hb
     replace HN171:=znb HN171.out hb
     replace BKg0:=zbb BKg0.out hb
     replace BKg4:=zbb BKg4.out hb
     replace BKg16:=zbb BKg16.out hb
     replace HB:=za (MB.below_stepB hB_.out HB.out hb)
     clear hb
     replace cBKg0:=MB.lz3 BKg0.out
     replace cBKg4:=MB.lz5 BKg4.out
     replace cBKg16:=MB.lz3 BKg16.out
     obtain⟨A202,cp203,he_⟩:=Kd.N_slice HN171.out
     subst he_
     replace HH:=zd HH
     obtain⟨⟨t204,t205⟩,At206,HH⟩:=HH
     dsimp only at HH
     go_wp2_with (((with_reducible refine gc 89 rfl ?_);refine zc 89 (some 59) Try.func89 #[.pointer (some ⟨g0,0,none⟩),.string t188] (h:=?_);refine(ber_sheaf_put.calls B_ g0 (p170) ((.slice A202 t165.length cp203)) t165 t166 t188 t204 t205 _ (Nat.le_trans hB_.out (MB.bsize (a:=B_) HB.out)) BKg0.out GEg0.out HPp170.out (Kd.N_mono (MB.N_only HN171.out) (fun k_ hk_=>⟨⟨trivial,.inl hk_⟩,(fun hk_=>hk_.1.1.2) (HN171.out.1 k_ hk_.symm)⟩)) At206.out).mono ?_;rintro e w207 ⟨v208,p209,rfl,hn1,hp1,hbk,hfr,hb⟩;refine⟨_,rfl,?_⟩);replace hbk:=za hbk;replace hfr:=za hfr;replace hp1:=za hp1)
     refine zg ?_
     replace hbk:=hbk.out
     replace hfr:=hfr.out
     replace hp1:=hp1.out
     have hat1:∀ k_:Nat,(v208:Value).ownBlock=some k_→some k_=((.slice A202 t165.length cp203):Value).ownBlock∨w190.heap.size≤k_:=fun k_ h_=>(hn1.1 k_ h_).1.2
     have HN210:=za (Kd.N_mono hn1 (fun k_ hk_=>hk_.1.2.elim (fun h_=>HN171.out.1 k_ h_.symm) (fun h_=>⟨⟨⟨⟨trivial,(.inr (Nat.le_trans (MB.bsize (a:=B_) HB.out) h_))⟩,Kd.freshB (g:=g0) BKg0.out k_ h_⟩,Kd.freshB (g:=g4) BKg4.out k_ h_⟩,Kd.freshB (g:=g16) BKg16.out k_ h_⟩)):Kd.N (Kd.int .u8) 5 w207 B_ (fun k_=>(((True∧(some k_=((.slice A119 l0_1.length cp120):Value).ownBlock∨w.heap.size≤k_))∧k_≠g0)∧k_≠g4)∧k_≠g16) v208 t204)
     replace HFfr:=za (Kd.F_mono (MB.F_ptr (ok:=(fun k_=>(((True∧k_≠g0)∧k_≠g4)∧k_≠g16)∧some k_≠((.slice A202 t165.length cp203):Value).ownBlock)) HFfr.out hfr (fun k_ hk_=>hk_.1.1.1.2) (fun k_ hk_=>hk_.2)) (fun k_ hk_=>⟨⟨⟨⟨hk_.1.1.1.1.1,hk_.1.1.1.1.2⟩,hk_.1.1.1.2⟩,hk_.1.1.2⟩,(fun he_=>(hat1 k_ he_.symm).elim (fun h_=>absurd h_ (hk_.1.2)) (fun h_=>absurd hk_.2 (Nat.not_lt.2 h_)))⟩):Kd.F (MB.frK w P0_) _ (fun k_=>(((True∧k_≠g0)∧k_≠g4)∧k_≠g16)∧some k_≠(v208:Value).ownBlock) _ _ _)
     replace BKg4:=za (MB.blk_ptr BKg4.out hfr NEg4_g0.out (Kd.N_away (ok:=(fun k_=>(((True∧(some k_=((.slice A119 l0_1.length cp120):Value).ownBlock∨w.heap.size≤k_))∧k_≠g0)∧k_≠g4)∧k_≠g16)) HN171.out (fun k_ hk_=>hk_.1.2)))
     replace BKg16:=za (MB.blk_ptr BKg16.out hfr NEg16_g0.out (Kd.N_away (ok:=(fun k_=>(((True∧(some k_=((.slice A119 l0_1.length cp120):Value).ownBlock∨w.heap.size≤k_))∧k_≠g0)∧k_≠g4)∧k_≠g16)) HN171.out (fun k_ hk_=>hk_.2)))
     replace HB:=za (Below.trans HB.out hb)
     replace BKg0:=za hbk
     have HPp209:=za hp1
     clear hbk hfr hb hp1 hn1 hat1
     clear HN171
     replace cBKg0:=MB.lz3 BKg0.out
     replace cBKg4:=MB.lz5 BKg4.out
     replace cBKg16:=MB.lz3 BKg16.out
     obtain⟨A222,cp223,he_⟩:=Kd.N_slice HN210.out
     subst he_
     replace HH:=zd HH
     obtain⟨⟨t224,t225⟩,At226,HH⟩:=HH
     dsimp only at HH
     go_wp2_with (((with_reducible refine gc 89 rfl ?_);refine zc 89 (some 62) Try.func89 #[.pointer (some ⟨g0,0,none⟩),.string (strOfNums x33)] (h:=?_);refine(ber_sheaf_put.calls B_ g0 (p209) ((.slice A222 t204.length cp223)) t204 t205 (strOfNums x33) t224 t225 _ (Nat.le_trans hB_.out (MB.bsize (a:=B_) HB.out)) BKg0.out GEg0.out HPp209.out (Kd.N_mono (MB.N_only HN210.out) (fun k_ hk_=>⟨⟨trivial,.inl hk_⟩,(fun hk_=>hk_.1.1.2) (HN210.out.1 k_ hk_.symm)⟩)) At226.out).mono ?_;rintro e w227 ⟨v228,p229,rfl,hn1,hp1,hbk,hfr,hb⟩;refine⟨_,rfl,?_⟩);replace hbk:=za hbk;replace hfr:=za hfr;replace hp1:=za hp1)
     refine zg ?_
     replace hbk:=hbk.out
     replace hfr:=hfr.out
     replace hp1:=hp1.out
     have hat1:∀ k_:Nat,(v228:Value).ownBlock=some k_→some k_=((.slice A222 t204.length cp223):Value).ownBlock∨w207.heap.size≤k_:=fun k_ h_=>(hn1.1 k_ h_).1.2
     have HN230:=za (Kd.N_mono hn1 (fun k_ hk_=>hk_.1.2.elim (fun h_=>HN210.out.1 k_ h_.symm) (fun h_=>⟨⟨⟨⟨trivial,(.inr (Nat.le_trans (MB.bsize (a:=B_) HB.out) h_))⟩,Kd.freshB (g:=g0) BKg0.out k_ h_⟩,Kd.freshB (g:=g4) BKg4.out k_ h_⟩,Kd.freshB (g:=g16) BKg16.out k_ h_⟩)):Kd.N (Kd.int .u8) 5 w227 B_ (fun k_=>(((True∧(some k_=((.slice A119 l0_1.length cp120):Value).ownBlock∨w.heap.size≤k_))∧k_≠g0)∧k_≠g4)∧k_≠g16) v228 t224)
     replace HFfr:=za (Kd.F_mono (MB.F_ptr (ok:=(fun k_=>(((True∧k_≠g0)∧k_≠g4)∧k_≠g16)∧some k_≠((.slice A222 t204.length cp223):Value).ownBlock)) HFfr.out hfr (fun k_ hk_=>hk_.1.1.1.2) (fun k_ hk_=>hk_.2)) (fun k_ hk_=>⟨⟨⟨⟨hk_.1.1.1.1.1,hk_.1.1.1.1.2⟩,hk_.1.1.1.2⟩,hk_.1.1.2⟩,(fun he_=>(hat1 k_ he_.symm).elim (fun h_=>absurd h_ (hk_.1.2)) (fun h_=>absurd hk_.2 (Nat.not_lt.2 h_)))⟩):Kd.F (MB.frK w P0_) _ (fun k_=>(((True∧k_≠g0)∧k_≠g4)∧k_≠g16)∧some k_≠(v228:Value).ownBlock) _ _ _)
     replace BKg4:=za (MB.blk_ptr BKg4.out hfr NEg4_g0.out (Kd.N_away (ok:=(fun k_=>(((True∧(some k_=((.slice A119 l0_1.length cp120):Value).ownBlock∨w.heap.size≤k_))∧k_≠g0)∧k_≠g4)∧k_≠g16)) HN210.out (fun k_ hk_=>hk_.1.2)))
     replace BKg16:=za (MB.blk_ptr BKg16.out hfr NEg16_g0.out (Kd.N_away (ok:=(fun k_=>(((True∧(some k_=((.slice A119 l0_1.length cp120):Value).ownBlock∨w.heap.size≤k_))∧k_≠g0)∧k_≠g4)∧k_≠g16)) HN210.out (fun k_ hk_=>hk_.2)))
     replace HB:=za (Below.trans HB.out hb)
     replace BKg0:=za hbk
     have HPp229:=za hp1
     clear hbk hfr hb hp1 hn1 hat1
     clear HN210
     replace cBKg0:=MB.lz3 BKg0.out
     replace cBKg4:=MB.lz5 BKg4.out
     replace cBKg16:=MB.lz3 BKg16.out
     have H:=HH.out
     simp only[Option.some.injEq,Prod.mk.injEq] at H
     obtain⟨rfl,rfl⟩:=H
     clear HH
     go_wp2
     go_end0
     unfold ber_sheaf_lay.Post
     exact⟨(v228),(p229),by first|rfl|(simp;done)|(simp[*];done),(Kd.N_mono (ok:=(fun k_=>(((True∧(some k_=((.slice A119 l0_1.length cp120):Value).ownBlock∨w.heap.size≤k_))∧k_≠g0)∧k_≠g4)∧k_≠g16)) HN230.out (fun k_ hk_=>⟨⟨trivial,hk_.1.1.1.2⟩,hk_.1.1.2⟩)),HPp229.out,(by first|exact BKg0.out|(have h_:=BKg0.out;simp only[*] at h_;exact h_)|(have h_:=BKg0.out;simp[*] at h_ ⊢;exact h_)),(fun k_ hg_ hv_ hlt_=>MB.frK_out HFfr.out k_ (by rw[HPO.out];exact⟨hg_,hv_⟩) hlt_),HB.out⟩
    replace HH:=zd HH
    obtain⟨t246,At247,HH⟩:=HH
    go_wp2_with ((with_reducible refine gc 90 rfl ?_);refine zc 90 (some 58) Try.func90 #[.int .i64 ((strOfNums x33).size:Int)] (h:=?_);(with_reducible refine(ber_length.calls  ((strOfNums x33).size:Int) t246 _  At247.out).mono ?_);rintro e w248 ⟨rfl,hb⟩;refine⟨_,rfl,?_⟩)
    refine zg ?_
    replace HFfr:=zfb HFfr.out hb
    replace HN171:=znb HN171.out hb
    replace BKg0:=zbb BKg0.out hb
    replace BKg4:=zbb BKg4.out hb
    replace BKg16:=zbb BKg16.out hb
    replace HB:=za (MB.below_stepB hB_.out HB.out hb)
    clear hb
    replace cBKg0:=MB.lz3 BKg0.out
    replace cBKg4:=MB.lz5 BKg4.out
    replace cBKg16:=MB.lz3 BKg16.out
    obtain⟨A260,cp261,he_⟩:=Kd.N_slice HN171.out
    subst he_
    replace HH:=zd HH
    obtain⟨⟨t262,t263⟩,At264,HH⟩:=HH
    dsimp only at HH
    go_wp2_with (((with_reducible refine gc 89 rfl ?_);refine zc 89 (some 59) Try.func89 #[.pointer (some ⟨g0,0,none⟩),.string t246] (h:=?_);refine(ber_sheaf_put.calls B_ g0 (p170) ((.slice A260 t165.length cp261)) t165 t166 t246 t262 t263 _ (Nat.le_trans hB_.out (MB.bsize (a:=B_) HB.out)) BKg0.out GEg0.out HPp170.out (Kd.N_mono (MB.N_only HN171.out) (fun k_ hk_=>⟨⟨trivial,.inl hk_⟩,(fun hk_=>hk_.1.1.2) (HN171.out.1 k_ hk_.symm)⟩)) At264.out).mono ?_;rintro e w265 ⟨v266,p267,rfl,hn1,hp1,hbk,hfr,hb⟩;refine⟨_,rfl,?_⟩);replace hbk:=za hbk;replace hfr:=za hfr;replace hp1:=za hp1)
    refine zg ?_
    replace hbk:=hbk.out
    replace hfr:=hfr.out
    replace hp1:=hp1.out
    have hat1:∀ k_:Nat,(v266:Value).ownBlock=some k_→some k_=((.slice A260 t165.length cp261):Value).ownBlock∨w248.heap.size≤k_:=fun k_ h_=>(hn1.1 k_ h_).1.2
    have HN268:=za (Kd.N_mono hn1 (fun k_ hk_=>hk_.1.2.elim (fun h_=>HN171.out.1 k_ h_.symm) (fun h_=>⟨⟨⟨⟨trivial,(.inr (Nat.le_trans (MB.bsize (a:=B_) HB.out) h_))⟩,Kd.freshB (g:=g0) BKg0.out k_ h_⟩,Kd.freshB (g:=g4) BKg4.out k_ h_⟩,Kd.freshB (g:=g16) BKg16.out k_ h_⟩)):Kd.N (Kd.int .u8) 5 w265 B_ (fun k_=>(((True∧(some k_=((.slice A119 l0_1.length cp120):Value).ownBlock∨w.heap.size≤k_))∧k_≠g0)∧k_≠g4)∧k_≠g16) v266 t262)
    replace HFfr:=za (Kd.F_mono (MB.F_ptr (ok:=(fun k_=>(((True∧k_≠g0)∧k_≠g4)∧k_≠g16)∧some k_≠((.slice A260 t165.length cp261):Value).ownBlock)) HFfr.out hfr (fun k_ hk_=>hk_.1.1.1.2) (fun k_ hk_=>hk_.2)) (fun k_ hk_=>⟨⟨⟨⟨hk_.1.1.1.1.1,hk_.1.1.1.1.2⟩,hk_.1.1.1.2⟩,hk_.1.1.2⟩,(fun he_=>(hat1 k_ he_.symm).elim (fun h_=>absurd h_ (hk_.1.2)) (fun h_=>absurd hk_.2 (Nat.not_lt.2 h_)))⟩):Kd.F (MB.frK w P0_) _ (fun k_=>(((True∧k_≠g0)∧k_≠g4)∧k_≠g16)∧some k_≠(v266:Value).ownBlock) _ _ _)
    replace BKg4:=za (MB.blk_ptr BKg4.out hfr NEg4_g0.out (Kd.N_away (ok:=(fun k_=>(((True∧(some k_=((.slice A119 l0_1.length cp120):Value).ownBlock∨w.heap.size≤k_))∧k_≠g0)∧k_≠g4)∧k_≠g16)) HN171.out (fun k_ hk_=>hk_.1.2)))
    replace BKg16:=za (MB.blk_ptr BKg16.out hfr NEg16_g0.out (Kd.N_away (ok:=(fun k_=>(((True∧(some k_=((.slice A119 l0_1.length cp120):Value).ownBlock∨w.heap.size≤k_))∧k_≠g0)∧k_≠g4)∧k_≠g16)) HN171.out (fun k_ hk_=>hk_.2)))
    replace HB:=za (Below.trans HB.out hb)
    replace BKg0:=za hbk
    have HPp267:=za hp1
    clear hbk hfr hb hp1 hn1 hat1
    clear HN171
    replace cBKg0:=MB.lz3 BKg0.out
    replace cBKg4:=MB.lz5 BKg4.out
    replace cBKg16:=MB.lz3 BKg16.out
    obtain⟨A280,cp281,he_⟩:=Kd.N_slice HN268.out
    subst he_
    replace HH:=zd HH
    obtain⟨⟨t282,t283⟩,At284,HH⟩:=HH
    dsimp only at HH
    go_wp2_with (((with_reducible refine gc 89 rfl ?_);refine zc 89 (some 62) Try.func89 #[.pointer (some ⟨g0,0,none⟩),.string (strOfNums x33)] (h:=?_);refine(ber_sheaf_put.calls B_ g0 (p267) ((.slice A280 t262.length cp281)) t262 t263 (strOfNums x33) t282 t283 _ (Nat.le_trans hB_.out (MB.bsize (a:=B_) HB.out)) BKg0.out GEg0.out HPp267.out (Kd.N_mono (MB.N_only HN268.out) (fun k_ hk_=>⟨⟨trivial,.inl hk_⟩,(fun hk_=>hk_.1.1.2) (HN268.out.1 k_ hk_.symm)⟩)) At284.out).mono ?_;rintro e w285 ⟨v286,p287,rfl,hn1,hp1,hbk,hfr,hb⟩;refine⟨_,rfl,?_⟩);replace hbk:=za hbk;replace hfr:=za hfr;replace hp1:=za hp1)
    refine zg ?_
    replace hbk:=hbk.out
    replace hfr:=hfr.out
    replace hp1:=hp1.out
    have hat1:∀ k_:Nat,(v286:Value).ownBlock=some k_→some k_=((.slice A280 t262.length cp281):Value).ownBlock∨w265.heap.size≤k_:=fun k_ h_=>(hn1.1 k_ h_).1.2
    have HN288:=za (Kd.N_mono hn1 (fun k_ hk_=>hk_.1.2.elim (fun h_=>HN268.out.1 k_ h_.symm) (fun h_=>⟨⟨⟨⟨trivial,(.inr (Nat.le_trans (MB.bsize (a:=B_) HB.out) h_))⟩,Kd.freshB (g:=g0) BKg0.out k_ h_⟩,Kd.freshB (g:=g4) BKg4.out k_ h_⟩,Kd.freshB (g:=g16) BKg16.out k_ h_⟩)):Kd.N (Kd.int .u8) 5 w285 B_ (fun k_=>(((True∧(some k_=((.slice A119 l0_1.length cp120):Value).ownBlock∨w.heap.size≤k_))∧k_≠g0)∧k_≠g4)∧k_≠g16) v286 t282)
    replace HFfr:=za (Kd.F_mono (MB.F_ptr (ok:=(fun k_=>(((True∧k_≠g0)∧k_≠g4)∧k_≠g16)∧some k_≠((.slice A280 t262.length cp281):Value).ownBlock)) HFfr.out hfr (fun k_ hk_=>hk_.1.1.1.2) (fun k_ hk_=>hk_.2)) (fun k_ hk_=>⟨⟨⟨⟨hk_.1.1.1.1.1,hk_.1.1.1.1.2⟩,hk_.1.1.1.2⟩,hk_.1.1.2⟩,(fun he_=>(hat1 k_ he_.symm).elim (fun h_=>absurd h_ (hk_.1.2)) (fun h_=>absurd hk_.2 (Nat.not_lt.2 h_)))⟩):Kd.F (MB.frK w P0_) _ (fun k_=>(((True∧k_≠g0)∧k_≠g4)∧k_≠g16)∧some k_≠(v286:Value).ownBlock) _ _ _)
    replace BKg4:=za (MB.blk_ptr BKg4.out hfr NEg4_g0.out (Kd.N_away (ok:=(fun k_=>(((True∧(some k_=((.slice A119 l0_1.length cp120):Value).ownBlock∨w.heap.size≤k_))∧k_≠g0)∧k_≠g4)∧k_≠g16)) HN268.out (fun k_ hk_=>hk_.1.2)))
    replace BKg16:=za (MB.blk_ptr BKg16.out hfr NEg16_g0.out (Kd.N_away (ok:=(fun k_=>(((True∧(some k_=((.slice A119 l0_1.length cp120):Value).ownBlock∨w.heap.size≤k_))∧k_≠g0)∧k_≠g4)∧k_≠g16)) HN268.out (fun k_ hk_=>hk_.2)))
    replace HB:=za (Below.trans HB.out hb)
    replace BKg0:=za hbk
    have HPp287:=za hp1
    clear hbk hfr hb hp1 hn1 hat1
    clear HN268
    replace cBKg0:=MB.lz3 BKg0.out
    replace cBKg4:=MB.lz5 BKg4.out
    replace cBKg16:=MB.lz3 BKg16.out
    have H:=HH.out
    simp only[Option.some.injEq,Prod.mk.injEq] at H
    obtain⟨rfl,rfl⟩:=H
    clear HH
    go_wp2
    go_end0
    unfold ber_sheaf_lay.Post
    exact⟨(v286),(p287),by first|rfl|(simp;done)|(simp[*];done),(Kd.N_mono (ok:=(fun k_=>(((True∧(some k_=((.slice A119 l0_1.length cp120):Value).ownBlock∨w.heap.size≤k_))∧k_≠g0)∧k_≠g4)∧k_≠g16)) HN288.out (fun k_ hk_=>⟨⟨trivial,hk_.1.1.1.2⟩,hk_.1.1.2⟩)),HPp287.out,(by first|exact BKg0.out|(have h_:=BKg0.out;simp only[*] at h_;exact h_)|(have h_:=BKg0.out;simp[*] at h_ ⊢;exact h_)),(fun k_ hg_ hv_ hlt_=>MB.frK_out HFfr.out k_ (by rw[HPO.out];exact⟨hg_,hv_⟩) hlt_),HB.out⟩
 replace HH:=MW.hneg HH c15
 replace c15:=Bool.eq_false_iff.mpr c15
 subst c15
 go_wp2_with (((with_reducible refine gate_dst (N:=51) rfl ?_);(try(refine gate_guard (by rfl) ?_;dsimp only));refine Kd.N_lit (Kd.int .u8) B_ 5 rfl (N':=51) rfl (xs:=([(Go.bits .or .i64 (wrap64 (a1_0*64)) a1_2) % 256]:List Int)) (inner:=[.int .u8 ((Go.bits .or .i64 (wrap64 (a1_0*64)) a1_2) % 256)]) (ok:=(fun k_=>(((True∧(P_ k_∨w.heap.size≤k_))∧some k_≠(v0_1:Value).ownBlock)∧k_≠g0)∧k_≠g4)) (okp:=(fun k_=>(((True∧(P_ k_∨w.heap.size≤k_))∧some k_≠(v0_1:Value).ownBlock)∧k_≠g0)∧k_≠g4)) ?hr ?hp (fun _ hk_=>hk_) ?hf HB.out (Nat.le_trans hB_.out (MB.bsize (a:=B_) HB.out)) (by first|simp|decide) ?_;(case hr=>first|(go_simp;done)|(go_simp;rfl));(case hp=>exact(Reps.one (fun _ _=>rfl) (Reps.none _ _)));(case hf=>exact(show ∀ k_,w5.heap.size≤k_→(fun k_=>(((True∧(P_ k_∨w.heap.size≤k_))∧some k_≠(v0_1:Value).ownBlock)∧k_≠g0)∧k_≠g4) k_ from fun k_ h_=>⟨⟨⟨⟨trivial,(.inr (Nat.le_trans (MB.bsize (a:=B_) HB.out) h_))⟩,Kd.fresh' (Kd.N_lt HN0_1.out) k_ h_⟩,Kd.freshB (g:=g0) BKg0.out k_ h_⟩,Kd.freshB (g:=g4) BKg4.out k_ h_⟩) _ (Nat.le_refl _));intro v300 w301 hn1 hb1 hg1 hat1);replace hat1:=za hat1;refine stop_ ?_)
 refine zg ?_
 replace hat1:=hat1.out
 have hbe:=MW.grown_below hg1
 have hba:=MW.base_of hat1
 replace HFfr:=za (Kd.F_mono (Kd.F_elder' (ok:=(fun k_=>((True∧some k_≠(v0_1:Value).ownBlock)∧k_≠g0)∧k_≠g4)) HFfr.out hba hbe) (fun k_ hk_=>hk_):Kd.F (MB.frK w P0_) _ (fun k_=>(((True∧some k_≠(v0_1:Value).ownBlock)∧k_≠g0)∧k_≠g4)∧some k_≠(v300:Value).ownBlock) _ _ _)
 replace HN0_1:=za (Kd.N_mono (Kd.N_elder' (ok:=(fun k_=>((True∧(some k_=(v0_1:Value).ownBlock∨w.heap.size≤k_))∧k_≠g0)∧k_≠g4)) HN0_1.out hba hbe) (fun k_ hk_=>hk_):Kd.N (Kd.int .u8) _ _ _ (fun k_=>(((True∧(some k_=(v0_1:Value).ownBlock∨w.heap.size≤k_))∧k_≠g0)∧k_≠g4)∧some k_≠(v300:Value).ownBlock) _ _)
 replace BKg0:=za (blk_below (g:=g0) BKg0.out hbe)
 replace BKg4:=za (blk_below (g:=g4) BKg4.out hbe)
 replace HB:=za hb1
 have HN302:=za hn1
 clear hn1 hb1 hg1 hat1 hbe hba
 replace cBKg0:=MB.lz3 BKg0.out
 replace cBKg4:=MB.lz5 BKg4.out
 obtain⟨A311,cp312,he_⟩:=Kd.N_slice HN302.out
 subst he_
 have HF313:=za (Kd.N_F HN302.out)
 clear HN302
 replace HFfr:=za (Kd.F_mono (ok:=(fun k_=>(((True∧some k_≠(v0_1:Value).ownBlock)∧k_≠g0)∧k_≠g4)∧some k_≠((.slice A311 ([(Go.bits .or .i64 (wrap64 (a1_0*64)) a1_2) % 256]:List Int).length cp312):Value).ownBlock)) HFfr.out (fun k_ hk_=>hk_.1):Kd.F (MB.frK w P0_) _ (fun k_=>((True∧some k_≠(v0_1:Value).ownBlock)∧k_≠g0)∧k_≠g4) _ _ _)
 replace HN0_1:=za (Kd.N_mono (ok:=(fun k_=>(((True∧(some k_=(v0_1:Value).ownBlock∨w.heap.size≤k_))∧k_≠g0)∧k_≠g4)∧some k_≠((.slice A311 ([(Go.bits .or .i64 (wrap64 (a1_0*64)) a1_2) % 256]:List Int).length cp312):Value).ownBlock)) HN0_1.out (fun k_ hk_=>hk_.1):Kd.N (Kd.int .u8) _ _ _ (fun k_=>((True∧(some k_=(v0_1:Value).ownBlock∨w.heap.size≤k_))∧k_≠g0)∧k_≠g4) _ _)
 have hcv315:=Kd.C_string (P:=Try.prog) (A:=A311) (c:=cp312) Try.underlying95 Try.underlying5 Try.underlying9 (Kd.F_now HF313.out)
 (try simp only[List.length_cons,List.length_nil,Nat.reduceAdd] at hcv315)
 obtain⟨A316,cp317,he_⟩:=Kd.N_slice HN0_1.out
 subst he_
 replace HH:=zd HH
 obtain⟨⟨t318,t319⟩,At320,HH⟩:=HH
 dsimp only at HH
 go_wp2_with (((with_reducible refine gc 89 rfl ?_);refine zc 89 (some 53) Try.func89 #[.pointer (some ⟨g0,0,none⟩),.string (strOfNums ([(Go.bits .or .i64 (wrap64 (a1_0*64)) a1_2) % 256]:List Int))] (h:=?_);refine(ber_sheaf_put.calls B_ g0 (p0_0) ((.slice A316 l0_1.length cp317)) l0_1 false (strOfNums ([(Go.bits .or .i64 (wrap64 (a1_0*64)) a1_2) % 256]:List Int)) t318 t319 _ (Nat.le_trans hB_.out (MB.bsize (a:=B_) HB.out)) BKg0.out GEg0.out HPp0_0.out (Kd.N_mono (MB.N_only HN0_1.out) (fun k_ hk_=>⟨⟨trivial,.inl hk_⟩,(fun hk_=>hk_.1.2) (HN0_1.out.1 k_ hk_.symm)⟩)) At320.out).mono ?_;rintro e w321 ⟨v322,p323,rfl,hn1,hp1,hbk,hfr,hb⟩;refine⟨_,rfl,?_⟩);replace hbk:=za hbk;replace hfr:=za hfr;replace hp1:=za hp1)
 refine zg ?_
 replace hbk:=hbk.out
 replace hfr:=hfr.out
 replace hp1:=hp1.out
 have hat1:∀ k_:Nat,(v322:Value).ownBlock=some k_→some k_=((.slice A316 l0_1.length cp317):Value).ownBlock∨w301.heap.size≤k_:=fun k_ h_=>(hn1.1 k_ h_).1.2
 have HN324:=za (Kd.N_mono hn1 (fun k_ hk_=>hk_.1.2.elim (fun h_=>HN0_1.out.1 k_ h_.symm) (fun h_=>⟨⟨⟨trivial,(.inr (Nat.le_trans (MB.bsize (a:=B_) HB.out) h_))⟩,Kd.freshB (g:=g0) BKg0.out k_ h_⟩,Kd.freshB (g:=g4) BKg4.out k_ h_⟩)):Kd.N (Kd.int .u8) 5 w321 B_ (fun k_=>((True∧(some k_=((.slice A316 l0_1.length cp317):Value).ownBlock∨w.heap.size≤k_))∧k_≠g0)∧k_≠g4) v322 t318)
 replace HFfr:=za (Kd.F_mono (MB.F_ptr (ok:=(fun k_=>((True∧some k_≠((.slice A316 l0_1.length cp317):Value).ownBlock)∧k_≠g0)∧k_≠g4)) HFfr.out hfr (fun k_ hk_=>hk_.1.2) (fun k_ hk_=>hk_.1.1.2)) (fun k_ hk_=>⟨⟨⟨hk_.1.1.1.1,hk_.1.1.2⟩,hk_.1.2⟩,(fun he_=>(hat1 k_ he_.symm).elim (fun h_=>absurd h_ (hk_.1.1.1.2)) (fun h_=>absurd hk_.2 (Nat.not_lt.2 h_)))⟩):Kd.F (MB.frK w P0_) _ (fun k_=>((True∧k_≠g0)∧k_≠g4)∧some k_≠(v322:Value).ownBlock) _ _ _)
 replace BKg4:=za (MB.blk_ptr BKg4.out hfr NEg4_g0.out (Kd.N_away (ok:=(fun k_=>((True∧(some k_=((.slice A316 l0_1.length cp317):Value).ownBlock∨w.heap.size≤k_))∧k_≠g0)∧k_≠g4)) HN0_1.out (fun k_ hk_=>hk_.2)))
 replace HB:=za (Below.trans HB.out hb)
 replace BKg0:=za hbk
 have HPp323:=za hp1
 clear hbk hfr hb hp1 hn1 hat1
 clear HN0_1
 clear hcv315
 replace cBKg0:=MB.lz3 BKg0.out
 replace cBKg4:=MB.lz5 BKg4.out
 replace HH:=zqn 65535 HH
 rcases HH with⟨HH,hk334,hk335,hk336,hk337⟩|⟨HH,hk383,hk384,hk385,hk386⟩
 ·replace HH:=zd HH
  obtain⟨t338,At339,HH⟩:=HH
  go_wp2_with ((with_reducible refine gc 90 rfl ?_);refine zc 90 (some 58) Try.func90 #[.int .i64 65535] (h:=?_);(with_reducible refine(ber_length.calls  65535 t338 _  At339.out).mono ?_);rintro e w340 ⟨rfl,hb⟩;refine⟨_,rfl,?_⟩)
  refine zg ?_
  replace HFfr:=zfb HFfr.out hb
  replace HN324:=znb HN324.out hb
  replace BKg0:=zbb BKg0.out hb
  replace BKg4:=zbb BKg4.out hb
  replace HB:=za (MB.below_stepB hB_.out HB.out hb)
  clear hb
  replace cBKg0:=MB.lz3 BKg0.out
  replace cBKg4:=MB.lz5 BKg4.out
  obtain⟨A349,cp350,he_⟩:=Kd.N_slice HN324.out
  subst he_
  replace HH:=zd HH
  obtain⟨⟨t351,t352⟩,At353,HH⟩:=HH
  dsimp only at HH
  go_wp2_with (((with_reducible refine gc 89 rfl ?_);refine zc 89 (some 59) Try.func89 #[.pointer (some ⟨g0,0,none⟩),.string t338] (h:=?_);refine(ber_sheaf_put.calls B_ g0 (p323) ((.slice A349 t318.length cp350)) t318 t319 t338 t351 t352 _ (Nat.le_trans hB_.out (MB.bsize (a:=B_) HB.out)) BKg0.out GEg0.out HPp323.out (Kd.N_mono (MB.N_only HN324.out) (fun k_ hk_=>⟨⟨trivial,.inl hk_⟩,(fun hk_=>hk_.1.2) (HN324.out.1 k_ hk_.symm)⟩)) At353.out).mono ?_;rintro e w354 ⟨v355,p356,rfl,hn1,hp1,hbk,hfr,hb⟩;refine⟨_,rfl,?_⟩);replace hbk:=za hbk;replace hfr:=za hfr;replace hp1:=za hp1)
  refine zg ?_
  replace hbk:=hbk.out
  replace hfr:=hfr.out
  replace hp1:=hp1.out
  have hat1:∀ k_:Nat,(v355:Value).ownBlock=some k_→some k_=((.slice A349 t318.length cp350):Value).ownBlock∨w340.heap.size≤k_:=fun k_ h_=>(hn1.1 k_ h_).1.2
  have HN357:=za (Kd.N_mono hn1 (fun k_ hk_=>hk_.1.2.elim (fun h_=>HN324.out.1 k_ h_.symm) (fun h_=>⟨⟨⟨trivial,(.inr (Nat.le_trans (MB.bsize (a:=B_) HB.out) h_))⟩,Kd.freshB (g:=g0) BKg0.out k_ h_⟩,Kd.freshB (g:=g4) BKg4.out k_ h_⟩)):Kd.N (Kd.int .u8) 5 w354 B_ (fun k_=>((True∧(some k_=((.slice A316 l0_1.length cp317):Value).ownBlock∨w.heap.size≤k_))∧k_≠g0)∧k_≠g4) v355 t351)
  replace HFfr:=za (Kd.F_mono (MB.F_ptr (ok:=(fun k_=>((True∧k_≠g0)∧k_≠g4)∧some k_≠((.slice A349 t318.length cp350):Value).ownBlock)) HFfr.out hfr (fun k_ hk_=>hk_.1.1.2) (fun k_ hk_=>hk_.2)) (fun k_ hk_=>⟨⟨⟨hk_.1.1.1.1,hk_.1.1.1.2⟩,hk_.1.1.2⟩,(fun he_=>(hat1 k_ he_.symm).elim (fun h_=>absurd h_ (hk_.1.2)) (fun h_=>absurd hk_.2 (Nat.not_lt.2 h_)))⟩):Kd.F (MB.frK w P0_) _ (fun k_=>((True∧k_≠g0)∧k_≠g4)∧some k_≠(v355:Value).ownBlock) _ _ _)
  replace BKg4:=za (MB.blk_ptr BKg4.out hfr NEg4_g0.out (Kd.N_away (ok:=(fun k_=>((True∧(some k_=((.slice A316 l0_1.length cp317):Value).ownBlock∨w.heap.size≤k_))∧k_≠g0)∧k_≠g4)) HN324.out (fun k_ hk_=>hk_.2)))
  replace HB:=za (Below.trans HB.out hb)
  replace BKg0:=za hbk
  have HPp356:=za hp1
  clear hbk hfr hb hp1 hn1 hat1
  clear HN324
  replace cBKg0:=MB.lz3 BKg0.out
  replace cBKg4:=MB.lz5 BKg4.out
  obtain⟨A366,cp367,he_⟩:=Kd.N_slice HN357.out
  subst he_
  replace HH:=zd HH
  obtain⟨⟨t368,t369⟩,At370,HH⟩:=HH
  dsimp only at HH
  go_wp2_with (((with_reducible refine gc 89 rfl ?_);refine zc 89 (some 62) Try.func89 #[.pointer (some ⟨g0,0,none⟩),.string a1_3] (h:=?_);refine(ber_sheaf_put.calls B_ g0 (p356) ((.slice A366 t351.length cp367)) t351 t352 a1_3 t368 t369 _ (Nat.le_trans hB_.out (MB.bsize (a:=B_) HB.out)) BKg0.out GEg0.out HPp356.out (Kd.N_mono (MB.N_only HN357.out) (fun k_ hk_=>⟨⟨trivial,.inl hk_⟩,(fun hk_=>hk_.1.2) (HN357.out.1 k_ hk_.symm)⟩)) At370.out).mono ?_;rintro e w371 ⟨v372,p373,rfl,hn1,hp1,hbk,hfr,hb⟩;refine⟨_,rfl,?_⟩);replace hbk:=za hbk;replace hfr:=za hfr;replace hp1:=za hp1)
  refine zg ?_
  replace hbk:=hbk.out
  replace hfr:=hfr.out
  replace hp1:=hp1.out
  have hat1:∀ k_:Nat,(v372:Value).ownBlock=some k_→some k_=((.slice A366 t351.length cp367):Value).ownBlock∨w354.heap.size≤k_:=fun k_ h_=>(hn1.1 k_ h_).1.2
  have HN374:=za (Kd.N_mono hn1 (fun k_ hk_=>hk_.1.2.elim (fun h_=>HN357.out.1 k_ h_.symm) (fun h_=>⟨⟨⟨trivial,(.inr (Nat.le_trans (MB.bsize (a:=B_) HB.out) h_))⟩,Kd.freshB (g:=g0) BKg0.out k_ h_⟩,Kd.freshB (g:=g4) BKg4.out k_ h_⟩)):Kd.N (Kd.int .u8) 5 w371 B_ (fun k_=>((True∧(some k_=((.slice A316 l0_1.length cp317):Value).ownBlock∨w.heap.size≤k_))∧k_≠g0)∧k_≠g4) v372 t368)
  replace HFfr:=za (Kd.F_mono (MB.F_ptr (ok:=(fun k_=>((True∧k_≠g0)∧k_≠g4)∧some k_≠((.slice A366 t351.length cp367):Value).ownBlock)) HFfr.out hfr (fun k_ hk_=>hk_.1.1.2) (fun k_ hk_=>hk_.2)) (fun k_ hk_=>⟨⟨⟨hk_.1.1.1.1,hk_.1.1.1.2⟩,hk_.1.1.2⟩,(fun he_=>(hat1 k_ he_.symm).elim (fun h_=>absurd h_ (hk_.1.2)) (fun h_=>absurd hk_.2 (Nat.not_lt.2 h_)))⟩):Kd.F (MB.frK w P0_) _ (fun k_=>((True∧k_≠g0)∧k_≠g4)∧some k_≠(v372:Value).ownBlock) _ _ _)
  replace BKg4:=za (MB.blk_ptr BKg4.out hfr NEg4_g0.out (Kd.N_away (ok:=(fun k_=>((True∧(some k_=((.slice A316 l0_1.length cp317):Value).ownBlock∨w.heap.size≤k_))∧k_≠g0)∧k_≠g4)) HN357.out (fun k_ hk_=>hk_.2)))
  replace HB:=za (Below.trans HB.out hb)
  replace BKg0:=za hbk
  have HPp373:=za hp1
  clear hbk hfr hb hp1 hn1 hat1
  clear HN357
  replace cBKg0:=MB.lz3 BKg0.out
  replace cBKg4:=MB.lz5 BKg4.out
  have H:=HH.out
  simp only[Option.some.injEq,Prod.mk.injEq] at H
  obtain⟨rfl,rfl⟩:=H
  clear HH
  go_wp2
  go_end0
  unfold ber_sheaf_lay.Post
  exact⟨(v372),(p373),by first|rfl|(simp;done)|(simp[*];done),(Kd.N_mono (ok:=(fun k_=>((True∧(some k_=((.slice A316 l0_1.length cp317):Value).ownBlock∨w.heap.size≤k_))∧k_≠g0)∧k_≠g4)) HN374.out (fun k_ hk_=>⟨⟨trivial,hk_.1.1.2⟩,hk_.1.2⟩)),HPp373.out,(by first|exact BKg0.out|(have h_:=BKg0.out;simp only[*] at h_;exact h_)|(have h_:=BKg0.out;simp[*] at h_ ⊢;exact h_)),(fun k_ hg_ hv_ hlt_=>MB.frK_out HFfr.out k_ (by rw[HPO.out];exact⟨hg_,hv_⟩) hlt_),HB.out⟩
 replace HH:=zd HH
 obtain⟨t387,At388,HH⟩:=HH
 go_wp2_with ((with_reducible refine gc 90 rfl ?_);refine zc 90 (some 58) Try.func90 #[.int .i64 (a1_3.size:Int)] (h:=?_);(with_reducible refine(ber_length.calls  (a1_3.size:Int) t387 _  At388.out).mono ?_);rintro e w389 ⟨rfl,hb⟩;refine⟨_,rfl,?_⟩)
 refine zg ?_
 replace HFfr:=zfb HFfr.out hb
 replace HN324:=znb HN324.out hb
 replace BKg0:=zbb BKg0.out hb
 replace BKg4:=zbb BKg4.out hb
 replace HB:=za (MB.below_stepB hB_.out HB.out hb)
 clear hb
 replace cBKg0:=MB.lz3 BKg0.out
 replace cBKg4:=MB.lz5 BKg4.out
 obtain⟨A398,cp399,he_⟩:=Kd.N_slice HN324.out
 subst he_
 replace HH:=zd HH
 obtain⟨⟨t400,t401⟩,At402,HH⟩:=HH
 dsimp only at HH
 go_wp2_with (((with_reducible refine gc 89 rfl ?_);refine zc 89 (some 59) Try.func89 #[.pointer (some ⟨g0,0,none⟩),.string t387] (h:=?_);refine(ber_sheaf_put.calls B_ g0 (p323) ((.slice A398 t318.length cp399)) t318 t319 t387 t400 t401 _ (Nat.le_trans hB_.out (MB.bsize (a:=B_) HB.out)) BKg0.out GEg0.out HPp323.out (Kd.N_mono (MB.N_only HN324.out) (fun k_ hk_=>⟨⟨trivial,.inl hk_⟩,(fun hk_=>hk_.1.2) (HN324.out.1 k_ hk_.symm)⟩)) At402.out).mono ?_;rintro e w403 ⟨v404,p405,rfl,hn1,hp1,hbk,hfr,hb⟩;refine⟨_,rfl,?_⟩);replace hbk:=za hbk;replace hfr:=za hfr;replace hp1:=za hp1)
 refine zg ?_
 replace hbk:=hbk.out
 replace hfr:=hfr.out
 replace hp1:=hp1.out
 have hat1:∀ k_:Nat,(v404:Value).ownBlock=some k_→some k_=((.slice A398 t318.length cp399):Value).ownBlock∨w389.heap.size≤k_:=fun k_ h_=>(hn1.1 k_ h_).1.2
 have HN406:=za (Kd.N_mono hn1 (fun k_ hk_=>hk_.1.2.elim (fun h_=>HN324.out.1 k_ h_.symm) (fun h_=>⟨⟨⟨trivial,(.inr (Nat.le_trans (MB.bsize (a:=B_) HB.out) h_))⟩,Kd.freshB (g:=g0) BKg0.out k_ h_⟩,Kd.freshB (g:=g4) BKg4.out k_ h_⟩)):Kd.N (Kd.int .u8) 5 w403 B_ (fun k_=>((True∧(some k_=((.slice A316 l0_1.length cp317):Value).ownBlock∨w.heap.size≤k_))∧k_≠g0)∧k_≠g4) v404 t400)
 replace HFfr:=za (Kd.F_mono (MB.F_ptr (ok:=(fun k_=>((True∧k_≠g0)∧k_≠g4)∧some k_≠((.slice A398 t318.length cp399):Value).ownBlock)) HFfr.out hfr (fun k_ hk_=>hk_.1.1.2) (fun k_ hk_=>hk_.2)) (fun k_ hk_=>⟨⟨⟨hk_.1.1.1.1,hk_.1.1.1.2⟩,hk_.1.1.2⟩,(fun he_=>(hat1 k_ he_.symm).elim (fun h_=>absurd h_ (hk_.1.2)) (fun h_=>absurd hk_.2 (Nat.not_lt.2 h_)))⟩):Kd.F (MB.frK w P0_) _ (fun k_=>((True∧k_≠g0)∧k_≠g4)∧some k_≠(v404:Value).ownBlock) _ _ _)
 replace BKg4:=za (MB.blk_ptr BKg4.out hfr NEg4_g0.out (Kd.N_away (ok:=(fun k_=>((True∧(some k_=((.slice A316 l0_1.length cp317):Value).ownBlock∨w.heap.size≤k_))∧k_≠g0)∧k_≠g4)) HN324.out (fun k_ hk_=>hk_.2)))
 replace HB:=za (Below.trans HB.out hb)
 replace BKg0:=za hbk
 have HPp405:=za hp1
 clear hbk hfr hb hp1 hn1 hat1
 clear HN324
 replace cBKg0:=MB.lz3 BKg0.out
 replace cBKg4:=MB.lz5 BKg4.out
 obtain⟨A415,cp416,he_⟩:=Kd.N_slice HN406.out
 subst he_
 replace HH:=zd HH
 obtain⟨⟨t417,t418⟩,At419,HH⟩:=HH
 dsimp only at HH
 go_wp2_with (((with_reducible refine gc 89 rfl ?_);refine zc 89 (some 62) Try.func89 #[.pointer (some ⟨g0,0,none⟩),.string a1_3] (h:=?_);refine(ber_sheaf_put.calls B_ g0 (p405) ((.slice A415 t400.length cp416)) t400 t401 a1_3 t417 t418 _ (Nat.le_trans hB_.out (MB.bsize (a:=B_) HB.out)) BKg0.out GEg0.out HPp405.out (Kd.N_mono (MB.N_only HN406.out) (fun k_ hk_=>⟨⟨trivial,.inl hk_⟩,(fun hk_=>hk_.1.2) (HN406.out.1 k_ hk_.symm)⟩)) At419.out).mono ?_;rintro e w420 ⟨v421,p422,rfl,hn1,hp1,hbk,hfr,hb⟩;refine⟨_,rfl,?_⟩);replace hbk:=za hbk;replace hfr:=za hfr;replace hp1:=za hp1)
 refine zg ?_
 replace hbk:=hbk.out
 replace hfr:=hfr.out
 replace hp1:=hp1.out
 have hat1:∀ k_:Nat,(v421:Value).ownBlock=some k_→some k_=((.slice A415 t400.length cp416):Value).ownBlock∨w403.heap.size≤k_:=fun k_ h_=>(hn1.1 k_ h_).1.2
 have HN423:=za (Kd.N_mono hn1 (fun k_ hk_=>hk_.1.2.elim (fun h_=>HN406.out.1 k_ h_.symm) (fun h_=>⟨⟨⟨trivial,(.inr (Nat.le_trans (MB.bsize (a:=B_) HB.out) h_))⟩,Kd.freshB (g:=g0) BKg0.out k_ h_⟩,Kd.freshB (g:=g4) BKg4.out k_ h_⟩)):Kd.N (Kd.int .u8) 5 w420 B_ (fun k_=>((True∧(some k_=((.slice A316 l0_1.length cp317):Value).ownBlock∨w.heap.size≤k_))∧k_≠g0)∧k_≠g4) v421 t417)
 replace HFfr:=za (Kd.F_mono (MB.F_ptr (ok:=(fun k_=>((True∧k_≠g0)∧k_≠g4)∧some k_≠((.slice A415 t400.length cp416):Value).ownBlock)) HFfr.out hfr (fun k_ hk_=>hk_.1.1.2) (fun k_ hk_=>hk_.2)) (fun k_ hk_=>⟨⟨⟨hk_.1.1.1.1,hk_.1.1.1.2⟩,hk_.1.1.2⟩,(fun he_=>(hat1 k_ he_.symm).elim (fun h_=>absurd h_ (hk_.1.2)) (fun h_=>absurd hk_.2 (Nat.not_lt.2 h_)))⟩):Kd.F (MB.frK w P0_) _ (fun k_=>((True∧k_≠g0)∧k_≠g4)∧some k_≠(v421:Value).ownBlock) _ _ _)
 replace BKg4:=za (MB.blk_ptr BKg4.out hfr NEg4_g0.out (Kd.N_away (ok:=(fun k_=>((True∧(some k_=((.slice A316 l0_1.length cp317):Value).ownBlock∨w.heap.size≤k_))∧k_≠g0)∧k_≠g4)) HN406.out (fun k_ hk_=>hk_.2)))
 replace HB:=za (Below.trans HB.out hb)
 replace BKg0:=za hbk
 have HPp422:=za hp1
 clear hbk hfr hb hp1 hn1 hat1
 clear HN406
 replace cBKg0:=MB.lz3 BKg0.out
 replace cBKg4:=MB.lz5 BKg4.out
 have H:=HH.out
 simp only[Option.some.injEq,Prod.mk.injEq] at H
 obtain⟨rfl,rfl⟩:=H
 clear HH
 go_wp2
 go_end0
 unfold ber_sheaf_lay.Post
 exact⟨(v421),(p422),by first|rfl|(simp;done)|(simp[*];done),(Kd.N_mono (ok:=(fun k_=>((True∧(some k_=((.slice A316 l0_1.length cp317):Value).ownBlock∨w.heap.size≤k_))∧k_≠g0)∧k_≠g4)) HN423.out (fun k_ hk_=>⟨⟨trivial,hk_.1.1.2⟩,hk_.1.2⟩)),HPp422.out,(by first|exact BKg0.out|(have h_:=BKg0.out;simp only[*] at h_;exact h_)|(have h_:=BKg0.out;simp[*] at h_ ⊢;exact h_)),(fun k_ hg_ hv_ hlt_=>MB.frK_out HFfr.out k_ (by rw[HPO.out];exact⟨hg_,hv_⟩) hlt_),HB.out⟩
end Go.Proofs.Ytdjkemhmhkpmkaa.GA
