import Derived.Test.YtdjkemhmhkpmkaaGA0
import Derived.Test.YtdjkemhmhkpmkaaGM1
namespace Go.Proofs.Ytdjkemhmhkpmkaa.GA
open Go.RowKit Go.Proofs.Ytdjkemhmhkpmkaa Go.Proofs.Ytdjkemhmhkpmkaa.MW Go.Proofs.YtdjkemhmhkpmkaaW.PrintWords Go.Proofs.YtdjkemhmhkpmkaaW.PrintLast Go.Proofs.YtdjkemhmhkpmkaaW.PrintMore
attribute [local go_sem] max2_int min2_int max_two min_two
set_option maxHeartbeats 8000000
set_option maxRecDepth 100000
set_option linter.unusedVariables false
set_option linter.unusedSimpArgs false
mutual
def reply_entry.l0:Nat→(List (S57))→Int→ByteArray→(List (S46))→Option (Int × Bool × Int × ByteArray × (List (S57)))
 |0,_,_,_,_=>none
 |k+1,x26,x29,a0_6,l0_7=>if x29<(l0_7.length:Int) then(if 0≤x29 then((reply_entry.l1 k ([]:List (S57)) 0 a0_6 l0_7 x26 x29)) else(none)) else((reply_text.f a0_6).bind fun bt291=>((reply_group.f 0 16 x26).bind fun bt316=>((reply_group.f 1 4 [(⟨bt291.1,bt291.2.1,bt291.2.2.1,bt291.2.2.2.1,bt291.2.2.2.2⟩:S57),(⟨bt316.1,bt316.2.1,bt316.2.2.1,bt316.2.2.2.1,bt316.2.2.2.2⟩:S57)]).bind fun bt365=>(some (bt365.1,bt365.2.1,bt365.2.2.1,bt365.2.2.2.1,bt365.2.2.2.2)))))
def reply_entry.l1:Nat→(List (S57))→Int→ByteArray→(List (S46))→(List (S57))→Int→Option (Int × Bool × Int × ByteArray × (List (S57)))
 |0,_,_,_,_,_,_=>none
 |k+1,x84,x87,a0_6,l0_7,x26,x29=>if x87<(((rd_T46 l0_7 x29).f1).length:Int) then(if 0≤x87 then((reply_text.f (rdOf ByteArray.empty ((rd_T46 l0_7 x29).f1) x87)).bind fun bt111=>(if x84.length<2199023255552 then((some (x84++[(⟨bt111.1,bt111.2.1,bt111.2.2.1,bt111.2.2.2.1,bt111.2.2.2.2⟩:S57)]:List (S57))).bind fun y139=>((reply_entry.l1 k y139 (wrap64 (x87+1)) a0_6 l0_7 x26 x29))) else(none))) else(none)) else((reply_text.f ((rd_T46 l0_7 x29).f0)).bind fun bt161=>((reply_group.f 0 17 x84).bind fun bt188=>((reply_group.f 0 16 [(⟨bt161.1,bt161.2.1,bt161.2.2.1,bt161.2.2.2.1,bt161.2.2.2.2⟩:S57),(⟨bt188.1,bt188.2.1,bt188.2.2.1,bt188.2.2.2.1,bt188.2.2.2.2⟩:S57)]).bind fun bt241=>(if x26.length<2199023255552 then((some (x26++[(⟨bt241.1,bt241.2.1,bt241.2.2.1,bt241.2.2.2.1,bt241.2.2.2.2⟩:S57)]:List (S57))).bind fun y269=>((reply_entry.l0 k y269 (wrap64 (x29+1)) a0_6 l0_7))) else(none)))))
end
def reply_entry.f (k:Nat) (a0_0:Int) (a0_1:Int) (a0_2:Bool) (a0_3:Int) (a0_4:ByteArray) (a0_5:ByteArray) (a0_6:ByteArray) (l0_7:List (S46)):Option (Int × Bool × Int × ByteArray × (List (S57))):=(reply_entry.l0 k ([]:List (S57)) 0 a0_6 l0_7)
theorem reply_entry.mono_l:∀ k,(∀ y0 y1 y2 y3,LeO (reply_entry.l0 k y0 y1 y2 y3) (reply_entry.l0 (k+1) y0 y1 y2 y3))∧(∀ y0 y1 y2 y3 y4 y5,LeO (reply_entry.l1 k y0 y1 y2 y3 y4 y5) (reply_entry.l1 (k+1) y0 y1 y2 y3 y4 y5))
 |0=>⟨fun _ _ _ _ r h=>by simp[reply_entry.l0] at h,fun _ _ _ _ _ _ r h=>by simp[reply_entry.l1] at h⟩
 |k+1=>by
  obtain⟨ih0,ih1⟩:=reply_entry.mono_l k
  refine⟨?_,?_⟩
  ·intro y0 y1 y2 y3
   unfold reply_entry.l0
   with_reducible repeat' first|exact ih0 _ _ _ _|exact ih1 _ _ _ _ _ _|exact LeO.refl _|exact LeO.none _|refine LeO.ite ?_ ?_|refine LeO.bind ?_ (fun _=>?_)
  intro y0 y1 y2 y3 y4 y5
  unfold reply_entry.l1
  with_reducible repeat' first|exact ih0 _ _ _ _|exact ih1 _ _ _ _ _ _|exact LeO.refl _|exact LeO.none _|refine LeO.ite ?_ ?_|refine LeO.bind ?_ (fun _=>?_)
theorem reply_entry.mono:∀ a0_ a1_ a2_ a3_ a4_ a5_ a6_ a7_ k,LeO (reply_entry.f k a0_ a1_ a2_ a3_ a4_ a5_ a6_ a7_) (reply_entry.f (k+1) a0_ a1_ a2_ a3_ a4_ a5_ a6_ a7_):=by
 intro a0_ a1_ a2_ a3_ a4_ a5_ a6_ a7_ k
 obtain⟨ih0,ih1⟩:=reply_entry.mono_l k
 unfold reply_entry.f
 with_reducible repeat' first|exact ih0 _ _ _ _|exact ih1 _ _ _ _ _ _|exact LeO.refl _|exact LeO.none _|refine LeO.ite ?_ ?_|refine LeO.bind ?_ (fun _=>?_)
theorem reply_entry.calls (k:Nat) (P_:Nat→Prop) (a0_0:Int) (a0_1:Int) (a0_2:Bool) (a0_3:Int) (a0_4:ByteArray) (a0_5:ByteArray) (a0_6:ByteArray) (A0_7:Option Addr) (c0_7:Nat) (l0_7:List (S46)) (r1:Int) (r2:Bool) (r3:Int) (r4:ByteArray) (r5:List (S57)) (w:World) (hs0_7:Kd.F k46 w P_ A0_7 l0_7.length l0_7) (hc0_7:l0_7.length≤c0_7) (h:reply_entry.f k a0_0 a0_1 a0_2 a0_3 a0_4 a0_5 a0_6 l0_7=some (r1,r2,r3,r4,r5)):
  Calls Try.prog 43 #[.agg #[.int .i64 a0_0,.int .i64 a0_1,.bool a0_2,.int .i64 a0_3,.string a0_4,.string a0_5,.string a0_6,.slice A0_7 l0_7.length c0_7]] w (fun e w'=>∃ v4_:Value,e=.returned (.agg #[.int .i64 r1,.bool r2,.int .i64 r3,.string r4,v4_])∧Kd.N k57 57 w' w.heap.size (fun k_=>P_ k_∨w.heap.size≤k_) v4_ r5∧Below w.heap.size w w'):=by
 unfold reply_entry.f at h
 have HH:=za h
 clear h
 have HF0_7:=zfp hs0_7
 clear hs0_7 hc0_7
 have HB:=za (Below.refl w.heap.size w)
 have hu27:=Try.underlying27
 have hu46:=Try.underlying46
 have hu57:=Try.underlying57
 go_enter Try.func43,Try.ntmps43
 go_wp2_with ((with_reducible refine gd 1 rfl ?_);refine zb 1 27 #[.int .i64 a0_0,.int .i64 a0_1,.bool a0_2,.int .i64 a0_3,.string a0_4,.string a0_5,.string a0_6,.slice A0_7 l0_7.length c0_7] (h:=?_);intro g1 hg w2 BKg1 hb)
 refine zg ?_
 replace HF0_7:=zfe HF0_7.out hg hb
 replace HB:=zhb HB.out hb
 clear hg hb
 replace cBKg1:=MB.lz8 BKg1.out
 go_wp2_with ((with_reducible refine gd 2 rfl ?_);refine zb 2 57 #[.int .i64 0,.bool false,.int .i64 0,.string (⟨#[]⟩:ByteArray),.slice none 0 0] (h:=?_);intro g11 hg w12 BKg11 hb)
 refine zg ?_
 have GEg11:=zge hg (below_size HB.out)
 have NEg1_g11:=znq hg BKg1.out
 replace HF0_7:=zfe HF0_7.out hg hb
 replace BKg1:=zbb BKg1.out hb
 replace HB:=zhb HB.out hb
 clear hg hb
 replace cBKg1:=MB.lz8 BKg1.out
 replace cBKg11:=MB.lz5 BKg11.out
 go_wp2
 go_loopg [3,12] k (fun kq u3 u12 w'=>∃ (x26:List (S57)) (x29:Int),u12=.int .i64 x29∧Aside0 ((reply_entry.l0 kq x26 x29 a0_6 l0_7)=some (r1,r2,r3,r4,r5))∧Aside0 (kq≤k)∧Aside0 (Kd.F k46 w' (fun k_=>(((P_ k_∨w.heap.size≤k_)∧some k_≠(u3:Value).ownBlock)∧k_≠g1)∧k_≠g11) A0_7 l0_7.length l0_7)∧Aside0 (Kd.N k57 57 w' w.heap.size (fun k_=>((P_ k_∨w.heap.size≤k_)∧k_≠g1)∧k_≠g11) u3 x26)∧Aside0 (w'.heap[g1]? =some (.cells #[.int .i64 a0_0,.int .i64 a0_1,.bool a0_2,.int .i64 a0_3,.string a0_4,.string a0_5,.string a0_6,.slice A0_7 l0_7.length c0_7] 27 (0,0)))∧Aside0 (w'.heap[g11]? =some (.cells #[.int .i64 0,.bool false,.int .i64 0,.string (⟨#[]⟩:ByteArray),.slice none 0 0] 57 (0,0)))∧Aside0 (Below w.heap.size w w'))
 case atStart=>exact⟨([]:List (S57)),0,(by first|rfl|(simp;done)|(simp[*];done)),HH,⟨Nat.le_refl _⟩,⟨(Kd.F_mono (ok:=(fun k_=>((P_ k_∨w.heap.size≤k_)∧k_≠g1)∧k_≠g11)) HF0_7.out (fun k_ hk_=>⟨⟨⟨hk_.1.1,(by simp[Value.ownBlock])⟩,hk_.1.2⟩,hk_.2⟩))⟩,⟨Kd.N_nil _ _ _ _ _⟩,⟨BKg1.out⟩,⟨BKg11.out⟩,⟨HB.out⟩⟩
 case round=>
  clear HH
  clear HF0_7 BKg1 BKg11 HB
  obtain⟨x26,x29,rfl,HA,HK0,HF0_7,HN28,BKg1,BKg11,HB⟩:=hrel
  obtain⟨v27,rfl⟩:∃ z_:Value,z_=u3:=⟨_,rfl⟩
  obtain⟨w31,rfl⟩:∃ wo_:World,wo_=wr:=⟨_,rfl⟩
  cases gk with
  |zero=>exact absurd HA.out (by simp[reply_entry.l0])
  |succ k30=>
   have H:=HA.out
   clear HA
   simp only[reply_entry.l0] at H
   have HH:=za H
   clear H
   replace cBKg1:=MB.lz8 BKg1.out
   replace cBKg11:=MB.lz5 BKg11.out
   replace HH:=zqt HH
   rcases HH with⟨HH,hk46,hk47⟩|⟨HH,hk289,hk290⟩
   ·replace HH:=zqdo HH
    obtain⟨HH,hk49⟩:=HH
    have p50:0≤(x29:Int):=of_decide_eq_true (by first|(with_reducible assumption)|assumption)
    have q50:x29<(l0_7.length:Int):=of_decide_eq_true (by first|(with_reducible assumption)|assumption)
    obtain⟨ad50,A50_1,c50_1,e50,hx50_0,hx50_1,hl50_1,hi50_1⟩:=atF_T46 HF0_7.out x29 p50 q50
    cases e50
    have HF50_1:=za hi50_1
    clear hi50_1 hl50_1
    replace p50:=eq_true p50
    replace q50:=eq_true q50
    go_wp2_with ((with_reducible refine gd 5 rfl ?_);refine zb 5 46 #[.string (⟨#[]⟩:ByteArray),.slice none 0 0] (h:=?_);intro g51 hg w52 BKg51 hb)
    refine zg ?_
    have GEg51:=zge hg (below_size HB.out)
    have NEg1_g51:=znq hg BKg1.out
    have NEg11_g51:=znq hg BKg11.out
    replace HF0_7:=zfe HF0_7.out hg hb
    replace HF50_1:=zfe HF50_1.out hg hb
    replace HN28:=zne HN28.out hg hb
    replace BKg1:=zbb BKg1.out hb
    replace BKg11:=zbb BKg11.out hb
    replace HB:=zhb HB.out hb
    clear hg hb
    clear hx50_0 hx50_1 p50 q50
    replace cBKg1:=MB.lz8 BKg1.out
    replace cBKg11:=MB.lz5 BKg11.out
    replace cBKg51:=MB.lz2 BKg51.out
    go_wp2_with ((with_reducible refine gs 46 5 rfl ?_);refine zs 46 5 #[.string ((rd_T46 l0_7 x29).f0),.slice A50_1 ((rd_T46 l0_7 x29).f1).length c50_1] BKg51.out [.string ((rd_T46 l0_7 x29).f0),.slice A50_1 ((rd_T46 l0_7 x29).f1).length c50_1] (h:=?_);intro w68 hbk hg)
    refine zg ?_
    replace HF0_7:=zfg HF0_7.out hg fun k_ hk_=>hk_.2
    replace HF50_1:=zfg HF50_1.out hg fun k_ hk_=>hk_.2
    replace HN28:=zng HN28.out hg fun k_ hk_=>hk_.2
    replace BKg1:=zbg BKg1.out hg NEg1_g51
    replace BKg11:=zbg BKg11.out hg NEg11_g51
    replace HB:=zhg HB.out hg (below_size HB.out) GEg51
    replace BKg51:=hbk
    clear hg hbk
    replace cBKg1:=MB.lz8 BKg1.out
    replace cBKg11:=MB.lz5 BKg11.out
    replace cBKg51:=MB.lz2 BKg51.out
    go_wp2
    go_loopg [6,19] k30 (fun kq u6 u19 w'=>∃ (x84:List (S57)) (x87:Int),u19=.int .i64 x87∧Aside0 ((reply_entry.l1 kq x84 x87 a0_6 l0_7 x26 x29)=some (r1,r2,r3,r4,r5))∧Aside0 (kq≤k30)∧Aside0 (Kd.F k46 w' (fun k_=>(((((P_ k_∨w.heap.size≤k_)∧some k_≠(v27:Value).ownBlock)∧some k_≠(u6:Value).ownBlock)∧k_≠g1)∧k_≠g11)∧k_≠g51) (some ad50) l0_7.length l0_7)∧Aside0 (Kd.F Kd.string w' (fun k_=>(((((P_ k_∨w.heap.size≤k_)∧some k_≠(v27:Value).ownBlock)∧some k_≠(u6:Value).ownBlock)∧k_≠g1)∧k_≠g11)∧k_≠g51) A50_1 ((rd_T46 l0_7 x29).f1).length ((rd_T46 l0_7 x29).f1))∧Aside0 (Kd.N k57 57 w' w.heap.size (fun k_=>((((P_ k_∨w.heap.size≤k_)∧some k_≠(u6:Value).ownBlock)∧k_≠g1)∧k_≠g11)∧k_≠g51) v27 x26)∧Aside0 (Kd.N k57 57 w' w.heap.size (fun k_=>((((P_ k_∨w.heap.size≤k_)∧some k_≠(v27:Value).ownBlock)∧k_≠g1)∧k_≠g11)∧k_≠g51) u6 x84)∧Aside0 (w'.heap[g1]? =some (.cells #[.int .i64 a0_0,.int .i64 a0_1,.bool a0_2,.int .i64 a0_3,.string a0_4,.string a0_5,.string a0_6,.slice (some ad50) l0_7.length c0_7] 27 (0,0)))∧Aside0 (w'.heap[g11]? =some (.cells #[.int .i64 0,.bool false,.int .i64 0,.string (⟨#[]⟩:ByteArray),.slice none 0 0] 57 (0,0)))∧Aside0 (w'.heap[g51]? =some (.cells #[.string ((rd_T46 l0_7 x29).f0),.slice A50_1 ((rd_T46 l0_7 x29).f1).length c50_1] 46 (0,0)))∧Aside0 (Below w.heap.size w w'))
    case atStart=>exact⟨([]:List (S57)),0,(by first|rfl|(simp;done)|(simp[*];done)),HH,⟨Nat.le_refl _⟩,⟨(Kd.F_mono (ok:=(fun k_=>((((P_ k_∨w.heap.size≤k_)∧some k_≠(v27:Value).ownBlock)∧k_≠g1)∧k_≠g11)∧k_≠g51)) HF0_7.out (fun k_ hk_=>⟨⟨⟨⟨⟨hk_.1.1.1.1,hk_.1.1.1.2⟩,(by simp[Value.ownBlock])⟩,hk_.1.1.2⟩,hk_.1.2⟩,hk_.2⟩))⟩,⟨(Kd.F_mono (ok:=(fun k_=>((((P_ k_∨w.heap.size≤k_)∧some k_≠(v27:Value).ownBlock)∧k_≠g1)∧k_≠g11)∧k_≠g51)) HF50_1.out (fun k_ hk_=>⟨⟨⟨⟨⟨hk_.1.1.1.1,hk_.1.1.1.2⟩,(by simp[Value.ownBlock])⟩,hk_.1.1.2⟩,hk_.1.2⟩,hk_.2⟩))⟩,⟨(Kd.N_mono (ok:=(fun k_=>(((P_ k_∨w.heap.size≤k_)∧k_≠g1)∧k_≠g11)∧k_≠g51)) HN28.out (fun k_ hk_=>⟨⟨⟨⟨hk_.1.1.1,(by simp[Value.ownBlock])⟩,hk_.1.1.2⟩,hk_.1.2⟩,hk_.2⟩))⟩,⟨Kd.N_nil _ _ _ _ _⟩,⟨BKg1.out⟩,⟨BKg11.out⟩,⟨BKg51.out⟩,⟨HB.out⟩⟩
    case round=>
     clear hk46
     clear hk47
     clear hk49
     clear HH
     clear HF0_7 HF50_1 HN28 BKg1 BKg11 BKg51 HB
     obtain⟨x84,x87,rfl,HA,HK1,HF0_7,HF50_1,HN28,HN86,BKg1,BKg11,BKg51,HB⟩:=hrel
     obtain⟨v85,rfl⟩:∃ z_:Value,z_=u6:=⟨_,rfl⟩
     obtain⟨w89,rfl⟩:∃ wo_:World,wo_=wr:=⟨_,rfl⟩
     cases gk with
     |zero=>exact absurd HA.out (by simp[reply_entry.l1])
     |succ k88=>
      have H:=HA.out
      clear HA
      simp only[reply_entry.l1] at H
      have HH:=za H
      clear H
      replace cBKg1:=MB.lz8 BKg1.out
      replace cBKg11:=MB.lz5 BKg11.out
      replace cBKg51:=MB.lz2 BKg51.out
      replace HH:=zqt HH
      rcases HH with⟨HH,hk106,hk107⟩|⟨HH,hk159,hk160⟩
      ·replace HH:=zqdo HH
       obtain⟨HH,hk109⟩:=HH
       have p110:0≤(x87:Int):=of_decide_eq_true (by first|(with_reducible assumption)|assumption)
       have q110:x87<(((rd_T46 l0_7 x29).f1).length:Int):=of_decide_eq_true (by first|(with_reducible assumption)|assumption)
       obtain⟨ad110,e110,hx110_0⟩:=Kd.at_string (Kd.F_now HF50_1.out) x87 p110 q110
       cases e110
       replace p110:=eq_true p110
       replace q110:=eq_true q110
       replace HH:=zd HH
       obtain⟨⟨t111,t112,t113,t114,t115⟩,At116,HH⟩:=HH
       dsimp only at HH
       go_wp2_with ((with_reducible refine gc 60 rfl ?_);refine zc 60 (some 25) Try.func60 #[.string (rdOf ByteArray.empty ((rd_T46 l0_7 x29).f1) x87)] (h:=?_);(with_reducible refine(reply_text.calls  (rdOf ByteArray.empty ((rd_T46 l0_7 x29).f1) x87) t111 t112 t113 t114 t115 _  At116.out).mono ?_);rintro e w117 ⟨v118,rfl,hn118,hb⟩;refine⟨_,rfl,?_⟩)
       refine zg ?_
       have hba:=Kd.N_base hn118
       have HN118:=znl (ok2:=(fun k_=>(((((P_ k_∨w.heap.size≤k_)∧some k_≠(v27:Value).ownBlock)∧some k_≠(v85:Value).ownBlock)∧k_≠g1)∧k_≠g11)∧k_≠g51)) hn118 (below_size HB.out) (fun k_ h_=>⟨⟨⟨⟨⟨.inr (Nat.le_trans (below_size HB.out) h_),Kd.fresh' (Kd.N_lt HN28.out) k_ h_⟩,Kd.fresh' (Kd.N_lt HN86.out) k_ h_⟩,Kd.freshB (g:=g1) BKg1.out k_ h_⟩,Kd.freshB (g:=g11) BKg11.out k_ h_⟩,Kd.freshB (g:=g51) BKg51.out k_ h_⟩)
       replace HF0_7:=zfr (v:=v118) HF0_7.out hba hb
       replace HF50_1:=zfr (v:=v118) HF50_1.out hba hb
       replace HN28:=znr (u:=v118) HN28.out hba hb
       replace HN86:=znr (u:=v118) HN86.out hba hb
       replace BKg1:=zbb BKg1.out hb
       replace BKg11:=zbb BKg11.out hb
       replace BKg51:=zbb BKg51.out hb
       replace HB:=zhb HB.out hb
       clear hn118 hba hb
       clear hx110_0 p110 q110
       replace cBKg1:=MB.lz8 BKg1.out
       replace cBKg11:=MB.lz5 BKg11.out
       replace cBKg51:=MB.lz2 BKg51.out
       obtain⟨A134,cp135,he_⟩:=Kd.N_slice HN118.out
       subst he_
       have HL137:=za (Kd.N_reads' HN118.out).2.1
       have HF136:=za (Kd.N_F HN118.out)
       clear HN118
       replace HF0_7:=za (Kd.F_mono (ok:=(fun k_=>((((((P_ k_∨w.heap.size≤k_)∧some k_≠(v27:Value).ownBlock)∧some k_≠(v85:Value).ownBlock)∧k_≠g1)∧k_≠g11)∧k_≠g51)∧some k_≠((.slice A134 t115.length cp135):Value).ownBlock)) HF0_7.out (fun k_ hk_=>hk_.1):Kd.F k46 _ (fun k_=>(((((P_ k_∨w.heap.size≤k_)∧some k_≠(v27:Value).ownBlock)∧some k_≠(v85:Value).ownBlock)∧k_≠g1)∧k_≠g11)∧k_≠g51) _ _ _)
       replace HF50_1:=za (Kd.F_mono (ok:=(fun k_=>((((((P_ k_∨w.heap.size≤k_)∧some k_≠(v27:Value).ownBlock)∧some k_≠(v85:Value).ownBlock)∧k_≠g1)∧k_≠g11)∧k_≠g51)∧some k_≠((.slice A134 t115.length cp135):Value).ownBlock)) HF50_1.out (fun k_ hk_=>hk_.1):Kd.F Kd.string _ (fun k_=>(((((P_ k_∨w.heap.size≤k_)∧some k_≠(v27:Value).ownBlock)∧some k_≠(v85:Value).ownBlock)∧k_≠g1)∧k_≠g11)∧k_≠g51) _ _ _)
       replace HN28:=za (Kd.N_mono (ok:=(fun k_=>(((((P_ k_∨w.heap.size≤k_)∧some k_≠(v85:Value).ownBlock)∧k_≠g1)∧k_≠g11)∧k_≠g51)∧some k_≠((.slice A134 t115.length cp135):Value).ownBlock)) HN28.out (fun k_ hk_=>hk_.1):Kd.N k57 _ _ _ (fun k_=>((((P_ k_∨w.heap.size≤k_)∧some k_≠(v85:Value).ownBlock)∧k_≠g1)∧k_≠g11)∧k_≠g51) _ _)
       replace HN86:=za (Kd.N_mono (ok:=(fun k_=>(((((P_ k_∨w.heap.size≤k_)∧some k_≠(v27:Value).ownBlock)∧k_≠g1)∧k_≠g11)∧k_≠g51)∧some k_≠((.slice A134 t115.length cp135):Value).ownBlock)) HN86.out (fun k_ hk_=>hk_.1):Kd.N k57 _ _ _ (fun k_=>((((P_ k_∨w.heap.size≤k_)∧some k_≠(v27:Value).ownBlock)∧k_≠g1)∧k_≠g11)∧k_≠g51) _ _)
       obtain⟨HH,LMc138⟩:=zlm HH
       obtain⟨y139,hy139⟩:∃ y_:List (S57),y_=(x84++[(⟨t111,t112,t113,t114,t115⟩:S57)]):=⟨_,rfl⟩
       have H:((reply_entry.l1 k88 y139 (wrap64 (x87+1)) a0_6 l0_7 x26 x29))=some (r1,r2,r3,r4,r5):=by rw[hy139];exact HH.out
       replace HH:=za H
       clear H
       have NYy139:=za hy139
       clear hy139
       go_wp2_with (((with_reducible refine gate_dst (N:=27) rfl ?_);(try(refine gate_guard (by rfl) ?_;dsimp only));refine Kd.N_append k57 w.heap.size rfl _ _ 55 57 (.agg #[(.int .i64 0),(.bool false),(.int .i64 0),(.string ⟨#[]⟩),(.slice none 0 0)]) 64 rfl Try.underlying55 info57 rfl (by decide) (by decide) (v85) x84 (⟨t111,t112,t113,t114,t115⟩:S57) [.int .i64 t111,.bool t112,.int .i64 t113,.string t114,.slice A134 t115.length cp135] (fun k_=>((((P_ k_∨w.heap.size≤k_)∧some k_≠(v27:Value).ownBlock)∧k_≠g1)∧k_≠g11)∧k_≠g51) (fun k_=>(fun k_=>((((P_ k_∨w.heap.size≤k_)∧some k_≠(v27:Value).ownBlock)∧k_≠g1)∧k_≠g11)∧k_≠g51) k_∧some k_≠(v85:Value).ownBlock) rfl rfl (k57_mkF _ _ (⟨t111,t112,t113,t114,t115⟩:S57) HL137.out (Kd.F_mono (ok:=(fun k_=>(((((P_ k_∨w.heap.size≤k_)∧some k_≠(v27:Value).ownBlock)∧some k_≠(v85:Value).ownBlock)∧k_≠g1)∧k_≠g11)∧k_≠g51)) (by(with_reducible repeat(first|apply Kd.F_alloc|apply Kd.F_drewN|apply Kd.F_drew));exact HF136.out) (fun k_ hk_=>⟨⟨⟨⟨⟨hk_.1.1.1.1.1,hk_.1.1.1.1.2⟩,hk_.1.1.2⟩,hk_.1.2⟩,hk_.2⟩,hk_.1.1.1.2⟩))) (fun _ hk_=>hk_) (fun k_ h_=>⟨⟨⟨⟨.inr (Nat.le_trans (below_size (by repeat(first|(with_reducible first|exact HB.out|apply below_alloc|apply pw_below_drewN|apply below_drew1)|exact HB.out))) h_),Kd.fresh' (Kd.N_lt (by(with_reducible repeat(first|apply Kd.N_alloc|apply Kd.N_drewN|apply Kd.N_drew));exact HN28.out)) k_ h_⟩,Kd.freshB (g:=g1) (o:=.cells #[.int .i64 a0_0,.int .i64 a0_1,.bool a0_2,.int .i64 a0_3,.string a0_4,.string a0_5,.string a0_6,.slice (some ad50) l0_7.length c0_7] 27 (0,0)) (by(with_reducible repeat(first|refine blk_drewN ?_ _|refine blk_drew ?_|refine blk_alloc ?_ _));exact BKg1.out) k_ h_⟩,Kd.freshB (g:=g11) (o:=.cells #[.int .i64 0,.bool false,.int .i64 0,.string (⟨#[]⟩:ByteArray),.slice none 0 0] 57 (0,0)) (by(with_reducible repeat(first|refine blk_drewN ?_ _|refine blk_drew ?_|refine blk_alloc ?_ _));exact BKg11.out) k_ h_⟩,Kd.freshB (g:=g51) (o:=.cells #[.string ((rd_T46 l0_7 x29).f0),.slice (some ad110) ((rd_T46 l0_7 x29).f1).length c50_1] 46 (0,0)) (by(with_reducible repeat(first|refine blk_drewN ?_ _|refine blk_drew ?_|refine blk_alloc ?_ _));exact BKg51.out) k_ h_⟩) (by(with_reducible repeat(first|apply Kd.N_alloc|apply Kd.N_drewN|apply Kd.N_drew));exact HN86.out) (by repeat(first|(with_reducible first|exact HB.out|apply below_alloc|apply pw_below_drewN|apply below_drew1)|exact HB.out)) (below_size (by repeat(first|(with_reducible first|exact HB.out|apply below_alloc|apply pw_below_drewN|apply below_drew1)|exact HB.out))) (by first|(have:=LMc138.out;omega)|(have:=LMc138.out;simp at *;omega)) ?_;intro v140 w141 hn1 hb1 hg1 hat1);replace hat1:=za hat1;refine stop_ ?_)
       refine zg ?_
       replace hat1:=hat1.out
       replace HF0_7:=za (Kd.F_mono (Kd.F_after (v:=v85) (ok:=(fun k_=>((((P_ k_∨w.heap.size≤k_)∧some k_≠(v27:Value).ownBlock)∧k_≠g1)∧k_≠g11)∧k_≠g51)) (Kd.F_mono (ok:=(fun k_=>(((((P_ k_∨w.heap.size≤k_)∧some k_≠(v27:Value).ownBlock)∧some k_≠(v85:Value).ownBlock)∧k_≠g1)∧k_≠g11)∧k_≠g51)) (by(with_reducible repeat(first|apply Kd.F_alloc|apply Kd.F_drewN|apply Kd.F_drew));exact HF0_7.out) (fun k_ hk_=>⟨⟨⟨⟨⟨hk_.1.1.1.1.1,hk_.1.1.1.1.2⟩,hk_.1.1.2⟩,hk_.1.2⟩,hk_.2⟩,hk_.1.1.1.2⟩)) hg1 hat1) (fun k_ hk_=>hk_):Kd.F k46 _ (fun k_=>(((((P_ k_∨w.heap.size≤k_)∧some k_≠(v27:Value).ownBlock)∧k_≠g1)∧k_≠g11)∧k_≠g51)∧some k_≠(v140:Value).ownBlock) _ _ _)
       replace HF50_1:=za (Kd.F_mono (Kd.F_after (v:=v85) (ok:=(fun k_=>((((P_ k_∨w.heap.size≤k_)∧some k_≠(v27:Value).ownBlock)∧k_≠g1)∧k_≠g11)∧k_≠g51)) (Kd.F_mono (ok:=(fun k_=>(((((P_ k_∨w.heap.size≤k_)∧some k_≠(v27:Value).ownBlock)∧some k_≠(v85:Value).ownBlock)∧k_≠g1)∧k_≠g11)∧k_≠g51)) (by(with_reducible repeat(first|apply Kd.F_alloc|apply Kd.F_drewN|apply Kd.F_drew));exact HF50_1.out) (fun k_ hk_=>⟨⟨⟨⟨⟨hk_.1.1.1.1.1,hk_.1.1.1.1.2⟩,hk_.1.1.2⟩,hk_.1.2⟩,hk_.2⟩,hk_.1.1.1.2⟩)) hg1 hat1) (fun k_ hk_=>hk_):Kd.F Kd.string _ (fun k_=>(((((P_ k_∨w.heap.size≤k_)∧some k_≠(v27:Value).ownBlock)∧k_≠g1)∧k_≠g11)∧k_≠g51)∧some k_≠(v140:Value).ownBlock) _ _ _)
       replace HN28:=za (Kd.N_mono (Kd.N_after (u:=v85) (ok:=(fun k_=>(((P_ k_∨w.heap.size≤k_)∧k_≠g1)∧k_≠g11)∧k_≠g51)) (Kd.N_mono (ok:=(fun k_=>((((P_ k_∨w.heap.size≤k_)∧some k_≠(v85:Value).ownBlock)∧k_≠g1)∧k_≠g11)∧k_≠g51)) (by(with_reducible repeat(first|apply Kd.N_alloc|apply Kd.N_drewN|apply Kd.N_drew));exact HN28.out) (fun k_ hk_=>⟨⟨⟨⟨hk_.1.1.1.1,hk_.1.1.2⟩,hk_.1.2⟩,hk_.2⟩,hk_.1.1.1.2⟩)) hg1 hat1) (fun k_ hk_=>hk_):Kd.N k57 _ _ _ (fun k_=>((((P_ k_∨w.heap.size≤k_)∧k_≠g1)∧k_≠g11)∧k_≠g51)∧some k_≠(v140:Value).ownBlock) _ _)
       replace BKg1:=za (blk_grown (g:=g1) (o:=.cells #[.int .i64 a0_0,.int .i64 a0_1,.bool a0_2,.int .i64 a0_3,.string a0_4,.string a0_5,.string a0_6,.slice (some ad50) l0_7.length c0_7] 27 (0,0)) (by(with_reducible repeat(first|refine blk_drewN ?_ _|refine blk_drew ?_|refine blk_alloc ?_ _));exact BKg1.out) hg1 (Kd.N_away (ok:=(fun k_=>((((P_ k_∨w.heap.size≤k_)∧some k_≠(v27:Value).ownBlock)∧k_≠g1)∧k_≠g11)∧k_≠g51)) HN86.out (fun k_ hk_=>hk_.1.1.2)))
       replace BKg11:=za (blk_grown (g:=g11) (o:=.cells #[.int .i64 0,.bool false,.int .i64 0,.string (⟨#[]⟩:ByteArray),.slice none 0 0] 57 (0,0)) (by(with_reducible repeat(first|refine blk_drewN ?_ _|refine blk_drew ?_|refine blk_alloc ?_ _));exact BKg11.out) hg1 (Kd.N_away (ok:=(fun k_=>((((P_ k_∨w.heap.size≤k_)∧some k_≠(v27:Value).ownBlock)∧k_≠g1)∧k_≠g11)∧k_≠g51)) HN86.out (fun k_ hk_=>hk_.1.2)))
       replace BKg51:=za (blk_grown (g:=g51) (o:=.cells #[.string ((rd_T46 l0_7 x29).f0),.slice (some ad110) ((rd_T46 l0_7 x29).f1).length c50_1] 46 (0,0)) (by(with_reducible repeat(first|refine blk_drewN ?_ _|refine blk_drew ?_|refine blk_alloc ?_ _));exact BKg51.out) hg1 (Kd.N_away (ok:=(fun k_=>((((P_ k_∨w.heap.size≤k_)∧some k_≠(v27:Value).ownBlock)∧k_≠g1)∧k_≠g11)∧k_≠g51)) HN86.out (fun k_ hk_=>hk_.2)))
       replace HB:=za hb1
       clear HN86
       have HN142:=za hn1
       clear hn1 hb1 hg1 hat1
       replace HN142:=za (by rw[NYy139.out];exact HN142.out:Kd.N k57 57 w141 w.heap.size (fun k_=>((((P_ k_∨w.heap.size≤k_)∧some k_≠(v27:Value).ownBlock)∧k_≠g1)∧k_≠g11)∧k_≠g51) v140 y139)
       replace cBKg1:=MB.lz8 BKg1.out
       replace cBKg11:=MB.lz5 BKg11.out
       replace cBKg51:=MB.lz2 BKg51.out
       go_wp2
       go_roundg k88
       case measure=>have:=HK0.out;have:=HK1.out;omega
       case rel=>exact⟨y139,wrap64 (x87+1),(by first|rfl|(simp;done)|(simp[*];done)),HH,⟨by have:=HK0.out;have:=HK1.out;omega⟩,⟨(Kd.F_mono (ok:=(fun k_=>(((((P_ k_∨w.heap.size≤k_)∧some k_≠(v27:Value).ownBlock)∧k_≠g1)∧k_≠g11)∧k_≠g51)∧some k_≠(v140:Value).ownBlock)) HF0_7.out (fun k_ hk_=>⟨⟨⟨⟨⟨hk_.1.1.1.1.1,hk_.1.1.1.1.2⟩,hk_.2⟩,hk_.1.1.1.2⟩,hk_.1.1.2⟩,hk_.1.2⟩))⟩,⟨(Kd.F_mono (ok:=(fun k_=>(((((P_ k_∨w.heap.size≤k_)∧some k_≠(v27:Value).ownBlock)∧k_≠g1)∧k_≠g11)∧k_≠g51)∧some k_≠(v140:Value).ownBlock)) HF50_1.out (fun k_ hk_=>⟨⟨⟨⟨⟨hk_.1.1.1.1.1,hk_.1.1.1.1.2⟩,hk_.2⟩,hk_.1.1.1.2⟩,hk_.1.1.2⟩,hk_.1.2⟩))⟩,⟨(Kd.N_mono (ok:=(fun k_=>((((P_ k_∨w.heap.size≤k_)∧k_≠g1)∧k_≠g11)∧k_≠g51)∧some k_≠(v140:Value).ownBlock)) HN28.out (fun k_ hk_=>⟨⟨⟨⟨hk_.1.1.1.1,hk_.2⟩,hk_.1.1.1.2⟩,hk_.1.1.2⟩,hk_.1.2⟩))⟩,⟨(Kd.N_mono (ok:=(fun k_=>((((P_ k_∨w.heap.size≤k_)∧some k_≠(v27:Value).ownBlock)∧k_≠g1)∧k_≠g11)∧k_≠g51)) HN142.out (fun k_ hk_=>hk_))⟩,⟨BKg1.out⟩,⟨BKg11.out⟩,⟨BKg51.out⟩,⟨HB.out⟩⟩
      replace HH:=zd HH
      obtain⟨⟨t161,t162,t163,t164,t165⟩,At166,HH⟩:=HH
      dsimp only at HH
      go_wp2_with ((with_reducible refine gc 60 rfl ?_);refine zc 60 (some 32) Try.func60 #[.string ((rd_T46 l0_7 x29).f0)] (h:=?_);(with_reducible refine(reply_text.calls  ((rd_T46 l0_7 x29).f0) t161 t162 t163 t164 t165 _  At166.out).mono ?_);rintro e w167 ⟨v168,rfl,hn168,hb⟩;refine⟨_,rfl,?_⟩)
      refine zg ?_
      have hba:=Kd.N_base hn168
      have HN168:=znl (ok2:=(fun k_=>(((((P_ k_∨w.heap.size≤k_)∧some k_≠(v27:Value).ownBlock)∧some k_≠(v85:Value).ownBlock)∧k_≠g1)∧k_≠g11)∧k_≠g51)) hn168 (below_size HB.out) (fun k_ h_=>⟨⟨⟨⟨⟨.inr (Nat.le_trans (below_size HB.out) h_),Kd.fresh' (Kd.N_lt HN28.out) k_ h_⟩,Kd.fresh' (Kd.N_lt HN86.out) k_ h_⟩,Kd.freshB (g:=g1) BKg1.out k_ h_⟩,Kd.freshB (g:=g11) BKg11.out k_ h_⟩,Kd.freshB (g:=g51) BKg51.out k_ h_⟩)
      replace HF0_7:=zfr (v:=v168) HF0_7.out hba hb
      replace HN28:=znr (u:=v168) HN28.out hba hb
      replace HN86:=znr (u:=v168) HN86.out hba hb
      replace BKg1:=zbb BKg1.out hb
      replace BKg11:=zbb BKg11.out hb
      replace BKg51:=zbb BKg51.out hb
      replace HB:=zhb HB.out hb
      clear hn168 hba hb
      replace cBKg1:=MB.lz8 BKg1.out
      replace cBKg11:=MB.lz5 BKg11.out
      replace cBKg51:=MB.lz2 BKg51.out
      obtain⟨A184,cp185,he_⟩:=Kd.N_slice HN86.out
      subst he_
      have HL187:=za (Kd.N_reads' HN86.out).2.1
      have HF186:=za (Kd.N_F HN86.out)
      clear HN86
      replace HF0_7:=za (Kd.F_mono (ok:=(fun k_=>((((((P_ k_∨w.heap.size≤k_)∧some k_≠(v27:Value).ownBlock)∧some k_≠((.slice A184 x84.length cp185):Value).ownBlock)∧k_≠g1)∧k_≠g11)∧k_≠g51)∧some k_≠(v168:Value).ownBlock)) HF0_7.out (fun k_ hk_=>⟨⟨⟨⟨⟨hk_.1.1.1.1.1.1,hk_.1.1.1.1.1.2⟩,hk_.1.1.1.2⟩,hk_.1.1.2⟩,hk_.1.2⟩,hk_.2⟩):Kd.F k46 _ (fun k_=>(((((P_ k_∨w.heap.size≤k_)∧some k_≠(v27:Value).ownBlock)∧k_≠g1)∧k_≠g11)∧k_≠g51)∧some k_≠(v168:Value).ownBlock) _ _ _)
      replace HN28:=za (Kd.N_mono (ok:=(fun k_=>(((((P_ k_∨w.heap.size≤k_)∧some k_≠((.slice A184 x84.length cp185):Value).ownBlock)∧k_≠g1)∧k_≠g11)∧k_≠g51)∧some k_≠(v168:Value).ownBlock)) HN28.out (fun k_ hk_=>⟨⟨⟨⟨hk_.1.1.1.1.1,hk_.1.1.1.2⟩,hk_.1.1.2⟩,hk_.1.2⟩,hk_.2⟩):Kd.N k57 _ _ _ (fun k_=>((((P_ k_∨w.heap.size≤k_)∧k_≠g1)∧k_≠g11)∧k_≠g51)∧some k_≠(v168:Value).ownBlock) _ _)
      replace HN168:=za (Kd.N_mono (ok:=(fun k_=>(((((P_ k_∨w.heap.size≤k_)∧some k_≠(v27:Value).ownBlock)∧some k_≠((.slice A184 x84.length cp185):Value).ownBlock)∧k_≠g1)∧k_≠g11)∧k_≠g51)) HN168.out (fun k_ hk_=>⟨⟨⟨⟨hk_.1.1.1.1.1,hk_.1.1.1.1.2⟩,hk_.1.1.2⟩,hk_.1.2⟩,hk_.2⟩):Kd.N k57 _ _ _ (fun k_=>((((P_ k_∨w.heap.size≤k_)∧some k_≠(v27:Value).ownBlock)∧k_≠g1)∧k_≠g11)∧k_≠g51) _ _)
      replace HH:=zd HH
      obtain⟨⟨t188,t189,t190,t191,t192⟩,At193,HH⟩:=HH
      dsimp only at HH
      go_wp2_with ((with_reducible refine gc 45 rfl ?_);refine zc 45 (some 34) Try.func45 #[.int .i64 0,.int .i64 17,.slice A184 x84.length cp185] (h:=?_);(with_reducible refine(reply_group.calls (fun k_=>(((((P_ k_∨w.heap.size≤k_)∧some k_≠(v27:Value).ownBlock)∧some k_≠(v168:Value).ownBlock)∧k_≠g1)∧k_≠g11)∧k_≠g51) 0 17 _ _ x84 t188 t189 t190 t191 t192 _ (Kd.F_mono (ok:=(fun k_=>(((((P_ k_∨w.heap.size≤k_)∧some k_≠(v27:Value).ownBlock)∧k_≠g1)∧k_≠g11)∧k_≠g51)∧some k_≠(v168:Value).ownBlock)) HF186.out (fun k_ hk_=>⟨⟨⟨⟨⟨hk_.1.1.1.1.1,hk_.1.1.1.1.2⟩,hk_.2⟩,hk_.1.1.1.2⟩,hk_.1.1.2⟩,hk_.1.2⟩)) HL187.out At193.out).mono ?_);rintro e w194 ⟨v195,rfl,hn195,hb⟩;refine⟨_,rfl,?_⟩)
      refine zg ?_
      have hba:=Kd.N_base hn195
      have HN195:=znl (ok2:=(fun k_=>(((((P_ k_∨w.heap.size≤k_)∧some k_≠(v27:Value).ownBlock)∧some k_≠(v168:Value).ownBlock)∧k_≠g1)∧k_≠g11)∧k_≠g51)) hn195 (below_size HB.out) (fun k_ hk_=>hk_.elim (fun h_=>h_) (fun h_=>⟨⟨⟨⟨⟨.inr (Nat.le_trans (below_size HB.out) h_),Kd.fresh' (Kd.N_lt HN28.out) k_ h_⟩,Kd.fresh' (Kd.N_lt HN168.out) k_ h_⟩,Kd.freshB (g:=g1) BKg1.out k_ h_⟩,Kd.freshB (g:=g11) BKg11.out k_ h_⟩,Kd.freshB (g:=g51) BKg51.out k_ h_⟩))
      replace HF0_7:=zfr (v:=v195) HF0_7.out hba hb
      replace HN28:=znr (u:=v195) HN28.out hba hb
      replace HN168:=znr (u:=v195) HN168.out hba hb
      replace BKg1:=zbb BKg1.out hb
      replace BKg11:=zbb BKg11.out hb
      replace BKg51:=zbb BKg51.out hb
      replace HB:=zhb HB.out hb
      clear hn195 hba hb
      replace cBKg1:=MB.lz8 BKg1.out
      replace cBKg11:=MB.lz5 BKg11.out
      replace cBKg51:=MB.lz2 BKg51.out
      obtain⟨A211,cp212,he_⟩:=Kd.N_slice HN168.out
      subst he_
      have HL214:=za (Kd.N_reads' HN168.out).2.1
      have HF213:=za (Kd.N_F HN168.out)
      clear HN168
      replace HF0_7:=za (Kd.F_mono (ok:=(fun k_=>((((((P_ k_∨w.heap.size≤k_)∧some k_≠(v27:Value).ownBlock)∧k_≠g1)∧k_≠g11)∧k_≠g51)∧some k_≠((.slice A211 t165.length cp212):Value).ownBlock)∧some k_≠(v195:Value).ownBlock)) HF0_7.out (fun k_ hk_=>⟨⟨⟨⟨⟨hk_.1.1.1.1.1.1,hk_.1.1.1.1.1.2⟩,hk_.1.1.1.1.2⟩,hk_.1.1.1.2⟩,hk_.1.1.2⟩,hk_.2⟩):Kd.F k46 _ (fun k_=>(((((P_ k_∨w.heap.size≤k_)∧some k_≠(v27:Value).ownBlock)∧k_≠g1)∧k_≠g11)∧k_≠g51)∧some k_≠(v195:Value).ownBlock) _ _ _)
      replace HN28:=za (Kd.N_mono (ok:=(fun k_=>(((((P_ k_∨w.heap.size≤k_)∧k_≠g1)∧k_≠g11)∧k_≠g51)∧some k_≠((.slice A211 t165.length cp212):Value).ownBlock)∧some k_≠(v195:Value).ownBlock)) HN28.out (fun k_ hk_=>⟨⟨⟨⟨hk_.1.1.1.1.1,hk_.1.1.1.1.2⟩,hk_.1.1.1.2⟩,hk_.1.1.2⟩,hk_.2⟩):Kd.N k57 _ _ _ (fun k_=>((((P_ k_∨w.heap.size≤k_)∧k_≠g1)∧k_≠g11)∧k_≠g51)∧some k_≠(v195:Value).ownBlock) _ _)
      replace HN195:=za (Kd.N_mono (ok:=(fun k_=>(((((P_ k_∨w.heap.size≤k_)∧some k_≠(v27:Value).ownBlock)∧some k_≠((.slice A211 t165.length cp212):Value).ownBlock)∧k_≠g1)∧k_≠g11)∧k_≠g51)) HN195.out (fun k_ hk_=>⟨⟨⟨⟨hk_.1.1.1.1.1,hk_.1.1.1.1.2⟩,hk_.1.1.2⟩,hk_.1.2⟩,hk_.2⟩):Kd.N k57 _ _ _ (fun k_=>((((P_ k_∨w.heap.size≤k_)∧some k_≠(v27:Value).ownBlock)∧k_≠g1)∧k_≠g11)∧k_≠g51) _ _)
      obtain⟨A215,cp216,he_⟩:=Kd.N_slice HN195.out
      subst he_
      have HL218:=za (Kd.N_reads' HN195.out).2.1
      have HF217:=za (Kd.N_F HN195.out)
      clear HN195
      replace HF0_7:=za (Kd.F_mono (ok:=(fun k_=>(((((P_ k_∨w.heap.size≤k_)∧some k_≠(v27:Value).ownBlock)∧k_≠g1)∧k_≠g11)∧k_≠g51)∧some k_≠((.slice A215 t192.length cp216):Value).ownBlock)) HF0_7.out (fun k_ hk_=>hk_.1):Kd.F k46 _ (fun k_=>((((P_ k_∨w.heap.size≤k_)∧some k_≠(v27:Value).ownBlock)∧k_≠g1)∧k_≠g11)∧k_≠g51) _ _ _)
      replace HF213:=za (Kd.F_mono (ok:=(fun k_=>(((((P_ k_∨w.heap.size≤k_)∧some k_≠(v27:Value).ownBlock)∧k_≠g1)∧k_≠g11)∧k_≠g51)∧some k_≠((.slice A215 t192.length cp216):Value).ownBlock)) HF213.out (fun k_ hk_=>hk_.1):Kd.F k57 _ (fun k_=>((((P_ k_∨w.heap.size≤k_)∧some k_≠(v27:Value).ownBlock)∧k_≠g1)∧k_≠g11)∧k_≠g51) _ _ _)
      replace HN28:=za (Kd.N_mono (ok:=(fun k_=>((((P_ k_∨w.heap.size≤k_)∧k_≠g1)∧k_≠g11)∧k_≠g51)∧some k_≠((.slice A215 t192.length cp216):Value).ownBlock)) HN28.out (fun k_ hk_=>hk_.1):Kd.N k57 _ _ _ (fun k_=>(((P_ k_∨w.heap.size≤k_)∧k_≠g1)∧k_≠g11)∧k_≠g51) _ _)
      go_wp2_with (((with_reducible refine gate_dst (N:=35) rfl ?_);(try(refine gate_guard (by rfl) ?_;dsimp only));refine Kd.N_lit k57 w.heap.size 57 rfl (N':=35) rfl (xs:=[(⟨t161,t162,t163,t164,t165⟩:S57),(⟨t188,t189,t190,t191,t192⟩:S57)]) (inner:=[.int .i64 t161,.bool t162,.int .i64 t163,.string t164,.slice A211 t165.length cp212,.int .i64 t188,.bool t189,.int .i64 t190,.string t191,.slice A215 t192.length cp216]) (ok:=(fun k_=>((((P_ k_∨w.heap.size≤k_)∧some k_≠(v27:Value).ownBlock)∧k_≠g1)∧k_≠g11)∧k_≠g51)) (okp:=(fun k_=>((((P_ k_∨w.heap.size≤k_)∧some k_≠(v27:Value).ownBlock)∧k_≠g1)∧k_≠g11)∧k_≠g51)) ?hr ?hp (fun _ hk_=>hk_) ?hf HB.out (below_size HB.out) (by first|simp|decide) ?_;(case hr=>first|(go_simp;done)|(go_simp;rfl));(case hp=>exact(Reps.c5 (k57_mkF _ _ (⟨t161,t162,t163,t164,t165⟩:S57) HL214.out HF213.out) (Reps.c5 (k57_mkF _ _ (⟨t188,t189,t190,t191,t192⟩:S57) HL218.out HF217.out) (Reps.none _ _))));(case hf=>exact(show ∀ k_,w194.heap.size≤k_→(fun k_=>((((P_ k_∨w.heap.size≤k_)∧some k_≠(v27:Value).ownBlock)∧k_≠g1)∧k_≠g11)∧k_≠g51) k_ from fun k_ h_=>⟨⟨⟨⟨.inr (Nat.le_trans (below_size HB.out) h_),Kd.fresh' (Kd.N_lt HN28.out) k_ h_⟩,Kd.freshB (g:=g1) BKg1.out k_ h_⟩,Kd.freshB (g:=g11) BKg11.out k_ h_⟩,Kd.freshB (g:=g51) BKg51.out k_ h_⟩) _ (Nat.le_refl _));intro v219 w220 hn1 hb1 hg1 hat1);replace hat1:=za hat1;refine stop_ ?_)
      refine zg ?_
      replace hat1:=hat1.out
      have hbe:=MW.grown_below hg1
      have hba:=MW.base_of hat1
      replace HF0_7:=za (Kd.F_mono (Kd.F_elder' (ok:=(fun k_=>((((P_ k_∨w.heap.size≤k_)∧some k_≠(v27:Value).ownBlock)∧k_≠g1)∧k_≠g11)∧k_≠g51)) HF0_7.out hba hbe) (fun k_ hk_=>hk_):Kd.F k46 _ (fun k_=>(((((P_ k_∨w.heap.size≤k_)∧some k_≠(v27:Value).ownBlock)∧k_≠g1)∧k_≠g11)∧k_≠g51)∧some k_≠(v219:Value).ownBlock) _ _ _)
      replace HN28:=za (Kd.N_mono (Kd.N_elder' (ok:=(fun k_=>(((P_ k_∨w.heap.size≤k_)∧k_≠g1)∧k_≠g11)∧k_≠g51)) HN28.out hba hbe) (fun k_ hk_=>hk_):Kd.N k57 _ _ _ (fun k_=>((((P_ k_∨w.heap.size≤k_)∧k_≠g1)∧k_≠g11)∧k_≠g51)∧some k_≠(v219:Value).ownBlock) _ _)
      replace BKg1:=za (blk_below (g:=g1) BKg1.out hbe)
      replace BKg11:=za (blk_below (g:=g11) BKg11.out hbe)
      replace BKg51:=za (blk_below (g:=g51) BKg51.out hbe)
      replace HB:=za hb1
      have HN221:=za hn1
      clear hn1 hb1 hg1 hat1 hbe hba
      replace cBKg1:=MB.lz8 BKg1.out
      replace cBKg11:=MB.lz5 BKg11.out
      replace cBKg51:=MB.lz2 BKg51.out
      obtain⟨A237,cp238,he_⟩:=Kd.N_slice HN221.out
      subst he_
      have HL240:=za (Kd.N_reads' HN221.out).2.1
      have HF239:=za (Kd.N_F HN221.out)
      clear HN221
      replace HF0_7:=za (Kd.F_mono (ok:=(fun k_=>(((((P_ k_∨w.heap.size≤k_)∧some k_≠(v27:Value).ownBlock)∧k_≠g1)∧k_≠g11)∧k_≠g51)∧some k_≠((.slice A237 [(⟨t161,t162,t163,t164,t165⟩:S57),(⟨t188,t189,t190,t191,t192⟩:S57)].length cp238):Value).ownBlock)) HF0_7.out (fun k_ hk_=>hk_.1):Kd.F k46 _ (fun k_=>((((P_ k_∨w.heap.size≤k_)∧some k_≠(v27:Value).ownBlock)∧k_≠g1)∧k_≠g11)∧k_≠g51) _ _ _)
      replace HN28:=za (Kd.N_mono (ok:=(fun k_=>((((P_ k_∨w.heap.size≤k_)∧k_≠g1)∧k_≠g11)∧k_≠g51)∧some k_≠((.slice A237 [(⟨t161,t162,t163,t164,t165⟩:S57),(⟨t188,t189,t190,t191,t192⟩:S57)].length cp238):Value).ownBlock)) HN28.out (fun k_ hk_=>hk_.1):Kd.N k57 _ _ _ (fun k_=>(((P_ k_∨w.heap.size≤k_)∧k_≠g1)∧k_≠g11)∧k_≠g51) _ _)
      replace HH:=zd HH
      obtain⟨⟨t241,t242,t243,t244,t245⟩,At246,HH⟩:=HH
      dsimp only at HH
      go_wp2_with ((with_reducible refine gc 45 rfl ?_);refine zc 45 (some 36) Try.func45 #[.int .i64 0,.int .i64 16,.slice A237 [(⟨t161,t162,t163,t164,t165⟩:S57),(⟨t188,t189,t190,t191,t192⟩:S57)].length cp238] (h:=?_);(with_reducible refine(reply_group.calls (fun k_=>((((P_ k_∨w.heap.size≤k_)∧some k_≠(v27:Value).ownBlock)∧k_≠g1)∧k_≠g11)∧k_≠g51) 0 16 _ _ [(⟨t161,t162,t163,t164,t165⟩:S57),(⟨t188,t189,t190,t191,t192⟩:S57)] t241 t242 t243 t244 t245 _ HF239.out HL240.out At246.out).mono ?_);rintro e w247 ⟨v248,rfl,hn248,hb⟩;refine⟨_,rfl,?_⟩)
      refine zg ?_
      have hba:=Kd.N_base hn248
      have HN248:=znl (ok2:=(fun k_=>((((P_ k_∨w.heap.size≤k_)∧some k_≠(v27:Value).ownBlock)∧k_≠g1)∧k_≠g11)∧k_≠g51)) hn248 (below_size HB.out) (fun k_ hk_=>hk_.elim (fun h_=>h_) (fun h_=>⟨⟨⟨⟨.inr (Nat.le_trans (below_size HB.out) h_),Kd.fresh' (Kd.N_lt HN28.out) k_ h_⟩,Kd.freshB (g:=g1) BKg1.out k_ h_⟩,Kd.freshB (g:=g11) BKg11.out k_ h_⟩,Kd.freshB (g:=g51) BKg51.out k_ h_⟩))
      replace HF0_7:=zfr (v:=v248) HF0_7.out hba hb
      replace HN28:=znr (u:=v248) HN28.out hba hb
      replace BKg1:=zbb BKg1.out hb
      replace BKg11:=zbb BKg11.out hb
      replace BKg51:=zbb BKg51.out hb
      replace HB:=zhb HB.out hb
      clear hn248 hba hb
      replace cBKg1:=MB.lz8 BKg1.out
      replace cBKg11:=MB.lz5 BKg11.out
      replace cBKg51:=MB.lz2 BKg51.out
      obtain⟨A264,cp265,he_⟩:=Kd.N_slice HN248.out
      subst he_
      have HL267:=za (Kd.N_reads' HN248.out).2.1
      have HF266:=za (Kd.N_F HN248.out)
      clear HN248
      replace HF0_7:=za (Kd.F_mono (ok:=(fun k_=>(((((P_ k_∨w.heap.size≤k_)∧some k_≠(v27:Value).ownBlock)∧k_≠g1)∧k_≠g11)∧k_≠g51)∧some k_≠((.slice A264 t245.length cp265):Value).ownBlock)) HF0_7.out (fun k_ hk_=>hk_.1):Kd.F k46 _ (fun k_=>((((P_ k_∨w.heap.size≤k_)∧some k_≠(v27:Value).ownBlock)∧k_≠g1)∧k_≠g11)∧k_≠g51) _ _ _)
      replace HN28:=za (Kd.N_mono (ok:=(fun k_=>((((P_ k_∨w.heap.size≤k_)∧k_≠g1)∧k_≠g11)∧k_≠g51)∧some k_≠((.slice A264 t245.length cp265):Value).ownBlock)) HN28.out (fun k_ hk_=>hk_.1):Kd.N k57 _ _ _ (fun k_=>(((P_ k_∨w.heap.size≤k_)∧k_≠g1)∧k_≠g11)∧k_≠g51) _ _)
      obtain⟨HH,LMc268⟩:=zlm HH
      obtain⟨y269,hy269⟩:∃ y_:List (S57),y_=(x26++[(⟨t241,t242,t243,t244,t245⟩:S57)]):=⟨_,rfl⟩
      have H:((reply_entry.l0 k88 y269 (wrap64 (x29+1)) a0_6 l0_7))=some (r1,r2,r3,r4,r5):=by rw[hy269];exact HH.out
      replace HH:=za H
      clear H
      have NYy269:=za hy269
      clear hy269
      go_wp2_with (((with_reducible refine gate_dst (N:=38) rfl ?_);(try(refine gate_guard (by rfl) ?_;dsimp only));refine Kd.N_append k57 w.heap.size rfl _ _ 55 57 (.agg #[(.int .i64 0),(.bool false),(.int .i64 0),(.string ⟨#[]⟩),(.slice none 0 0)]) 64 rfl Try.underlying55 info57 rfl (by decide) (by decide) (v27) x26 (⟨t241,t242,t243,t244,t245⟩:S57) [.int .i64 t241,.bool t242,.int .i64 t243,.string t244,.slice A264 t245.length cp265] (fun k_=>(((P_ k_∨w.heap.size≤k_)∧k_≠g1)∧k_≠g11)∧k_≠g51) (fun k_=>(fun k_=>(((P_ k_∨w.heap.size≤k_)∧k_≠g1)∧k_≠g11)∧k_≠g51) k_∧some k_≠(v27:Value).ownBlock) rfl rfl (k57_mkF _ _ (⟨t241,t242,t243,t244,t245⟩:S57) HL267.out (Kd.F_mono (ok:=(fun k_=>((((P_ k_∨w.heap.size≤k_)∧some k_≠(v27:Value).ownBlock)∧k_≠g1)∧k_≠g11)∧k_≠g51)) (by(with_reducible repeat(first|apply Kd.F_alloc|apply Kd.F_drewN|apply Kd.F_drew));exact HF266.out) (fun k_ hk_=>⟨⟨⟨⟨hk_.1.1.1.1,hk_.1.1.2⟩,hk_.1.2⟩,hk_.2⟩,hk_.1.1.1.2⟩))) (fun _ hk_=>hk_) (fun k_ h_=>⟨⟨⟨.inr (Nat.le_trans (below_size (by repeat(first|(with_reducible first|exact HB.out|apply below_alloc|apply pw_below_drewN|apply below_drew1)|exact HB.out))) h_),Kd.freshB (g:=g1) (o:=.cells #[.int .i64 a0_0,.int .i64 a0_1,.bool a0_2,.int .i64 a0_3,.string a0_4,.string a0_5,.string a0_6,.slice (some ad50) l0_7.length c0_7] 27 (0,0)) (by(with_reducible repeat(first|refine blk_drewN ?_ _|refine blk_drew ?_|refine blk_alloc ?_ _));exact BKg1.out) k_ h_⟩,Kd.freshB (g:=g11) (o:=.cells #[.int .i64 0,.bool false,.int .i64 0,.string (⟨#[]⟩:ByteArray),.slice none 0 0] 57 (0,0)) (by(with_reducible repeat(first|refine blk_drewN ?_ _|refine blk_drew ?_|refine blk_alloc ?_ _));exact BKg11.out) k_ h_⟩,Kd.freshB (g:=g51) (o:=.cells #[.string ((rd_T46 l0_7 x29).f0),.slice A50_1 ((rd_T46 l0_7 x29).f1).length c50_1] 46 (0,0)) (by(with_reducible repeat(first|refine blk_drewN ?_ _|refine blk_drew ?_|refine blk_alloc ?_ _));exact BKg51.out) k_ h_⟩) (by(with_reducible repeat(first|apply Kd.N_alloc|apply Kd.N_drewN|apply Kd.N_drew));exact HN28.out) (by repeat(first|(with_reducible first|exact HB.out|apply below_alloc|apply pw_below_drewN|apply below_drew1)|exact HB.out)) (below_size (by repeat(first|(with_reducible first|exact HB.out|apply below_alloc|apply pw_below_drewN|apply below_drew1)|exact HB.out))) (by first|(have:=LMc268.out;omega)|(have:=LMc268.out;simp at *;omega)) ?_;intro v270 w271 hn1 hb1 hg1 hat1);replace hat1:=za hat1;refine stop_ ?_)
      refine zg ?_
      replace hat1:=hat1.out
      replace HF0_7:=za (Kd.F_mono (Kd.F_after (v:=v27) (ok:=(fun k_=>(((P_ k_∨w.heap.size≤k_)∧k_≠g1)∧k_≠g11)∧k_≠g51)) (Kd.F_mono (ok:=(fun k_=>((((P_ k_∨w.heap.size≤k_)∧some k_≠(v27:Value).ownBlock)∧k_≠g1)∧k_≠g11)∧k_≠g51)) (by(with_reducible repeat(first|apply Kd.F_alloc|apply Kd.F_drewN|apply Kd.F_drew));exact HF0_7.out) (fun k_ hk_=>⟨⟨⟨⟨hk_.1.1.1.1,hk_.1.1.2⟩,hk_.1.2⟩,hk_.2⟩,hk_.1.1.1.2⟩)) hg1 hat1) (fun k_ hk_=>hk_):Kd.F k46 _ (fun k_=>((((P_ k_∨w.heap.size≤k_)∧k_≠g1)∧k_≠g11)∧k_≠g51)∧some k_≠(v270:Value).ownBlock) _ _ _)
      replace BKg1:=za (blk_grown (g:=g1) (o:=.cells #[.int .i64 a0_0,.int .i64 a0_1,.bool a0_2,.int .i64 a0_3,.string a0_4,.string a0_5,.string a0_6,.slice (some ad50) l0_7.length c0_7] 27 (0,0)) (by(with_reducible repeat(first|refine blk_drewN ?_ _|refine blk_drew ?_|refine blk_alloc ?_ _));exact BKg1.out) hg1 (Kd.N_away (ok:=(fun k_=>(((P_ k_∨w.heap.size≤k_)∧k_≠g1)∧k_≠g11)∧k_≠g51)) HN28.out (fun k_ hk_=>hk_.1.1.2)))
      replace BKg11:=za (blk_grown (g:=g11) (o:=.cells #[.int .i64 0,.bool false,.int .i64 0,.string (⟨#[]⟩:ByteArray),.slice none 0 0] 57 (0,0)) (by(with_reducible repeat(first|refine blk_drewN ?_ _|refine blk_drew ?_|refine blk_alloc ?_ _));exact BKg11.out) hg1 (Kd.N_away (ok:=(fun k_=>(((P_ k_∨w.heap.size≤k_)∧k_≠g1)∧k_≠g11)∧k_≠g51)) HN28.out (fun k_ hk_=>hk_.1.2)))
      replace BKg51:=za (blk_grown (g:=g51) (o:=.cells #[.string ((rd_T46 l0_7 x29).f0),.slice A50_1 ((rd_T46 l0_7 x29).f1).length c50_1] 46 (0,0)) (by(with_reducible repeat(first|refine blk_drewN ?_ _|refine blk_drew ?_|refine blk_alloc ?_ _));exact BKg51.out) hg1 (Kd.N_away (ok:=(fun k_=>(((P_ k_∨w.heap.size≤k_)∧k_≠g1)∧k_≠g11)∧k_≠g51)) HN28.out (fun k_ hk_=>hk_.2)))
      replace HB:=za hb1
      clear HN28
      have HN272:=za hn1
      clear hn1 hb1 hg1 hat1
      replace HN272:=za (by rw[NYy269.out];exact HN272.out:Kd.N k57 57 w271 w.heap.size (fun k_=>(((P_ k_∨w.heap.size≤k_)∧k_≠g1)∧k_≠g11)∧k_≠g51) v270 y269)
      replace cBKg1:=MB.lz8 BKg1.out
      replace cBKg11:=MB.lz5 BKg11.out
      replace cBKg51:=MB.lz2 BKg51.out
      go_wp2
      go_roundg k88
      case measure=>have:=HK0.out;have:=HK1.out;omega
      case rel=>exact⟨y269,wrap64 (x29+1),(by first|rfl|(simp;done)|(simp[*];done)),HH,⟨by have:=HK0.out;have:=HK1.out;omega⟩,⟨(Kd.F_mono (ok:=(fun k_=>((((P_ k_∨w.heap.size≤k_)∧k_≠g1)∧k_≠g11)∧k_≠g51)∧some k_≠(v270:Value).ownBlock)) HF0_7.out (fun k_ hk_=>⟨⟨⟨hk_.1.1.1.1,hk_.2⟩,hk_.1.1.1.2⟩,hk_.1.1.2⟩))⟩,⟨(Kd.N_mono (ok:=(fun k_=>(((P_ k_∨w.heap.size≤k_)∧k_≠g1)∧k_≠g11)∧k_≠g51)) HN272.out (fun k_ hk_=>⟨⟨hk_.1.1.1,hk_.1.1.2⟩,hk_.1.2⟩))⟩,⟨BKg1.out⟩,⟨BKg11.out⟩,⟨HB.out⟩⟩
   replace HH:=zd HH
   obtain⟨⟨t291,t292,t293,t294,t295⟩,At296,HH⟩:=HH
   dsimp only at HH
   go_wp2_with ((with_reducible refine gc 60 rfl ?_);refine zc 60 (some 42) Try.func60 #[.string a0_6] (h:=?_);(with_reducible refine(reply_text.calls  a0_6 t291 t292 t293 t294 t295 _  At296.out).mono ?_);rintro e w297 ⟨v298,rfl,hn298,hb⟩;refine⟨_,rfl,?_⟩)
   refine zg ?_
   have hba:=Kd.N_base hn298
   have HN298:=znl (ok2:=(fun k_=>(((P_ k_∨w.heap.size≤k_)∧some k_≠(v27:Value).ownBlock)∧k_≠g1)∧k_≠g11)) hn298 (below_size HB.out) (fun k_ h_=>⟨⟨⟨.inr (Nat.le_trans (below_size HB.out) h_),Kd.fresh' (Kd.N_lt HN28.out) k_ h_⟩,Kd.freshB (g:=g1) BKg1.out k_ h_⟩,Kd.freshB (g:=g11) BKg11.out k_ h_⟩)
   replace HN28:=znr (u:=v298) HN28.out hba hb
   replace BKg1:=zbb BKg1.out hb
   replace BKg11:=zbb BKg11.out hb
   replace HB:=zhb HB.out hb
   clear hn298 hba hb
   replace cBKg1:=MB.lz8 BKg1.out
   replace cBKg11:=MB.lz5 BKg11.out
   obtain⟨A312,cp313,he_⟩:=Kd.N_slice HN28.out
   subst he_
   have HL315:=za (Kd.N_reads' HN28.out).2.1
   have HF314:=za (Kd.N_F HN28.out)
   clear HN28
   replace HN298:=za (Kd.N_mono (ok:=(fun k_=>(((P_ k_∨w.heap.size≤k_)∧some k_≠((.slice A312 x26.length cp313):Value).ownBlock)∧k_≠g1)∧k_≠g11)) HN298.out (fun k_ hk_=>⟨⟨hk_.1.1.1,hk_.1.2⟩,hk_.2⟩):Kd.N k57 _ _ _ (fun k_=>((P_ k_∨w.heap.size≤k_)∧k_≠g1)∧k_≠g11) _ _)
   replace HH:=zd HH
   obtain⟨⟨t316,t317,t318,t319,t320⟩,At321,HH⟩:=HH
   dsimp only at HH
   go_wp2_with ((with_reducible refine gc 45 rfl ?_);refine zc 45 (some 44) Try.func45 #[.int .i64 0,.int .i64 16,.slice A312 x26.length cp313] (h:=?_);(with_reducible refine(reply_group.calls (fun k_=>(((P_ k_∨w.heap.size≤k_)∧some k_≠(v298:Value).ownBlock)∧k_≠g1)∧k_≠g11) 0 16 _ _ x26 t316 t317 t318 t319 t320 _ (Kd.F_mono (ok:=(fun k_=>(((P_ k_∨w.heap.size≤k_)∧k_≠g1)∧k_≠g11)∧some k_≠(v298:Value).ownBlock)) HF314.out (fun k_ hk_=>⟨⟨⟨hk_.1.1.1,hk_.2⟩,hk_.1.1.2⟩,hk_.1.2⟩)) HL315.out At321.out).mono ?_);rintro e w322 ⟨v323,rfl,hn323,hb⟩;refine⟨_,rfl,?_⟩)
   refine zg ?_
   have hba:=Kd.N_base hn323
   have HN323:=znl (ok2:=(fun k_=>(((P_ k_∨w.heap.size≤k_)∧some k_≠(v298:Value).ownBlock)∧k_≠g1)∧k_≠g11)) hn323 (below_size HB.out) (fun k_ hk_=>hk_.elim (fun h_=>h_) (fun h_=>⟨⟨⟨.inr (Nat.le_trans (below_size HB.out) h_),Kd.fresh' (Kd.N_lt HN298.out) k_ h_⟩,Kd.freshB (g:=g1) BKg1.out k_ h_⟩,Kd.freshB (g:=g11) BKg11.out k_ h_⟩))
   replace HN298:=znr (u:=v323) HN298.out hba hb
   replace BKg1:=zbb BKg1.out hb
   replace BKg11:=zbb BKg11.out hb
   replace HB:=zhb HB.out hb
   clear hn323 hba hb
   replace cBKg1:=MB.lz8 BKg1.out
   replace cBKg11:=MB.lz5 BKg11.out
   obtain⟨A337,cp338,he_⟩:=Kd.N_slice HN298.out
   subst he_
   have HL340:=za (Kd.N_reads' HN298.out).2.1
   have HF339:=za (Kd.N_F HN298.out)
   clear HN298
   replace HN323:=za (Kd.N_mono (ok:=(fun k_=>(((P_ k_∨w.heap.size≤k_)∧some k_≠((.slice A337 t295.length cp338):Value).ownBlock)∧k_≠g1)∧k_≠g11)) HN323.out (fun k_ hk_=>⟨⟨hk_.1.1.1,hk_.1.2⟩,hk_.2⟩):Kd.N k57 _ _ _ (fun k_=>((P_ k_∨w.heap.size≤k_)∧k_≠g1)∧k_≠g11) _ _)
   obtain⟨A341,cp342,he_⟩:=Kd.N_slice HN323.out
   subst he_
   have HL344:=za (Kd.N_reads' HN323.out).2.1
   have HF343:=za (Kd.N_F HN323.out)
   clear HN323
   replace HF339:=za (Kd.F_mono (ok:=(fun k_=>(((P_ k_∨w.heap.size≤k_)∧k_≠g1)∧k_≠g11)∧some k_≠((.slice A341 t320.length cp342):Value).ownBlock)) HF339.out (fun k_ hk_=>hk_.1):Kd.F k57 _ (fun k_=>((P_ k_∨w.heap.size≤k_)∧k_≠g1)∧k_≠g11) _ _ _)
   go_wp2_with (((with_reducible refine gate_dst (N:=45) rfl ?_);(try(refine gate_guard (by rfl) ?_;dsimp only));refine Kd.N_lit k57 w.heap.size 57 rfl (N':=45) rfl (xs:=[(⟨t291,t292,t293,t294,t295⟩:S57),(⟨t316,t317,t318,t319,t320⟩:S57)]) (inner:=[.int .i64 t291,.bool t292,.int .i64 t293,.string t294,.slice A337 t295.length cp338,.int .i64 t316,.bool t317,.int .i64 t318,.string t319,.slice A341 t320.length cp342]) (ok:=(fun k_=>((P_ k_∨w.heap.size≤k_)∧k_≠g1)∧k_≠g11)) (okp:=(fun k_=>((P_ k_∨w.heap.size≤k_)∧k_≠g1)∧k_≠g11)) ?hr ?hp (fun _ hk_=>hk_) ?hf HB.out (below_size HB.out) (by first|simp|decide) ?_;(case hr=>first|(go_simp;done)|(go_simp;rfl));(case hp=>exact(Reps.c5 (k57_mkF _ _ (⟨t291,t292,t293,t294,t295⟩:S57) HL340.out HF339.out) (Reps.c5 (k57_mkF _ _ (⟨t316,t317,t318,t319,t320⟩:S57) HL344.out HF343.out) (Reps.none _ _))));(case hf=>exact(show ∀ k_,w322.heap.size≤k_→(fun k_=>((P_ k_∨w.heap.size≤k_)∧k_≠g1)∧k_≠g11) k_ from fun k_ h_=>⟨⟨.inr (Nat.le_trans (below_size HB.out) h_),Kd.freshB (g:=g1) BKg1.out k_ h_⟩,Kd.freshB (g:=g11) BKg11.out k_ h_⟩) _ (Nat.le_refl _));intro v345 w346 hn1 hb1 hg1 hat1);replace hat1:=za hat1;refine stop_ ?_)
   refine zg ?_
   replace hat1:=hat1.out
   have hbe:=MW.grown_below hg1
   have hba:=MW.base_of hat1
   replace BKg1:=za (blk_below (g:=g1) BKg1.out hbe)
   replace BKg11:=za (blk_below (g:=g11) BKg11.out hbe)
   replace HB:=za hb1
   have HN347:=za hn1
   clear hn1 hb1 hg1 hat1 hbe hba
   replace cBKg1:=MB.lz8 BKg1.out
   replace cBKg11:=MB.lz5 BKg11.out
   obtain⟨A361,cp362,he_⟩:=Kd.N_slice HN347.out
   subst he_
   have HL364:=za (Kd.N_reads' HN347.out).2.1
   have HF363:=za (Kd.N_F HN347.out)
   clear HN347
   replace HH:=zd HH
   obtain⟨⟨t365,t366,t367,t368,t369⟩,At370,HH⟩:=HH
   dsimp only at HH
   go_wp2_with ((with_reducible refine gc 45 rfl ?_);refine zc 45 (some 46) Try.func45 #[.int .i64 1,.int .i64 4,.slice A361 [(⟨t291,t292,t293,t294,t295⟩:S57),(⟨t316,t317,t318,t319,t320⟩:S57)].length cp362] (h:=?_);(with_reducible refine(reply_group.calls (fun k_=>((P_ k_∨w.heap.size≤k_)∧k_≠g1)∧k_≠g11) 1 4 _ _ [(⟨t291,t292,t293,t294,t295⟩:S57),(⟨t316,t317,t318,t319,t320⟩:S57)] t365 t366 t367 t368 t369 _ HF363.out HL364.out At370.out).mono ?_);rintro e w371 ⟨v372,rfl,hn372,hb⟩;refine⟨_,rfl,?_⟩)
   refine zg ?_
   have hba:=Kd.N_base hn372
   have HN372:=znl (ok2:=(fun k_=>((P_ k_∨w.heap.size≤k_)∧k_≠g1)∧k_≠g11)) hn372 (below_size HB.out) (fun k_ hk_=>hk_.elim (fun h_=>h_) (fun h_=>⟨⟨.inr (Nat.le_trans (below_size HB.out) h_),Kd.freshB (g:=g1) BKg1.out k_ h_⟩,Kd.freshB (g:=g11) BKg11.out k_ h_⟩))
   replace BKg1:=zbb BKg1.out hb
   replace BKg11:=zbb BKg11.out hb
   replace HB:=zhb HB.out hb
   clear hn372 hba hb
   replace cBKg1:=MB.lz8 BKg1.out
   replace cBKg11:=MB.lz5 BKg11.out
   obtain⟨A387,cp388,he_⟩:=Kd.N_slice HN372.out
   subst he_
   go_wp2_with ((with_reducible refine gs 57 2 rfl ?_);refine zs 57 2 #[.int .i64 t365,.bool t366,.int .i64 t367,.string t368,(.slice A387 t369.length cp388)] BKg11.out [.int .i64 t365,.bool t366,.int .i64 t367,.string t368,(.slice A387 t369.length cp388)] (h:=?_);intro w386 hbk hg)
   refine zg ?_
   replace HN372:=zng HN372.out hg fun k_ hk_=>hk_.2
   replace BKg1:=zbg BKg1.out hg NEg1_g11
   replace HB:=zhg HB.out hg (below_size HB.out) GEg11
   replace BKg11:=hbk
   clear hg hbk
   replace cBKg1:=MB.lz8 BKg1.out
   replace cBKg11:=MB.lz5 BKg11.out
   have H:=HH.out
   simp only[Option.some.injEq,Prod.mk.injEq] at H
   obtain⟨rfl,rfl,rfl,rfl,rfl⟩:=H
   clear HH
   go_wp2
   refine bodyPost_ret (MW.results_c rfl _ _ g11 57 #[.int .i64 t365,.bool t366,.int .i64 t367,.string t368,(.slice A387 t369.length cp388)] (0,0) _ rfl BKg11.out Try.underlying57 rfl (by kernel_rfl)) rfl ?_
   exact⟨_,by first|rfl|(simp;done)|(simp[*];done),(Kd.N_mono (ok:=(fun k_=>((P_ k_∨w.heap.size≤k_)∧k_≠g1)∧k_≠g11)) HN372.out (fun k_ hk_=>hk_.1.1)),HB.out⟩
end Go.Proofs.Ytdjkemhmhkpmkaa.GA
