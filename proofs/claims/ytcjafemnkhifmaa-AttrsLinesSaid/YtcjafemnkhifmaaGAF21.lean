import Derived.Test.YtcjafemnkhifmaaGA0
import Derived.Test.YtcjafemnkhifmaaGM1
namespace Go.Proofs.Ytcjafemnkhifmaa.GA
open Go.RowKit Go.Proofs.Ytcjafemnkhifmaa Go.Proofs.Ytcjafemnkhifmaa.MW Go.Proofs.YtcjafemnkhifmaaW.PrintWords Go.Proofs.YtcjafemnkhifmaaW.PrintLast Go.Proofs.YtcjafemnkhifmaaW.PrintMore
attribute [local go_sem] max2_int min2_int max_two min_two
set_option maxHeartbeats 8000000
set_option maxRecDepth 100000
set_option linter.unusedVariables false
set_option linter.unusedSimpArgs false
mutual
def attrs_Below.l0:Nat→(List ByteArray)→Int→(List (S26))→(List ByteArray)→Option (List ByteArray)
 |0,_,_,_,_=>none
 |k+1,x11,x14,l0,l1=>if x14<(l0.length:Int) then(if 0≤x14 then((attrs_line.f k l0 ((rd_T26 l0 x14).f0)).bind fun t41=>((attrs_Below.l1 k 0 l0 l1 t41 x11 x14))) else(none)) else(some x11)
def attrs_Below.l1:Nat→Int→(List (S26))→(List ByteArray)→(List ByteArray)→(List ByteArray)→Int→Option (List ByteArray)
 |0,_,_,_,_,_,_=>none
 |k+1,x54,l0,l1,t41,x11,x14=>if x54<(t41.length:Int) then(if 0≤x54 then((slices_Contains_string_string.f k l1 (rdOf ByteArray.empty t41 x54)).bind fun t70=>(if t70=true then(if x11.length<8796093022208 then((some (x11++[(rd_T26 l0 x14).f0]:List ByteArray)).bind fun y75=>((attrs_Below.l0 k y75 (wrap64 (x14+1)) l0 l1))) else(none)) else((attrs_Below.l1 k (wrap64 (x54+1)) l0 l1 t41 x11 x14)))) else(none)) else((attrs_Below.l0 k x11 (wrap64 (x14+1)) l0 l1))
end
def attrs_Below.f (k:Nat) (l0:List (S26)) (l1:List ByteArray):Option (List ByteArray):=(attrs_Check.f k l0).bind fun t4=>(if t4=0 then((attrs_Below.l0 k ([]:List ByteArray) 0 l0 l1)) else(some ([]:List ByteArray)))
theorem attrs_Below.mono_l:∀ k,(∀ y0 y1 y2 y3,LeO (attrs_Below.l0 k y0 y1 y2 y3) (attrs_Below.l0 (k+1) y0 y1 y2 y3))∧(∀ y0 y1 y2 y3 y4 y5,LeO (attrs_Below.l1 k y0 y1 y2 y3 y4 y5) (attrs_Below.l1 (k+1) y0 y1 y2 y3 y4 y5))
 |0=>⟨fun _ _ _ _ r h=>by simp[attrs_Below.l0] at h,fun _ _ _ _ _ _ r h=>by simp[attrs_Below.l1] at h⟩
 |k+1=>by
  obtain⟨ih0,ih1⟩:=attrs_Below.mono_l k
  refine⟨?_,?_⟩
  ·intro y0 y1 y2 y3
   unfold attrs_Below.l0
   with_reducible repeat' first|exact ih0 _ _ _ _|exact ih1 _ _ _ _ _ _|exact attrs_Check.mono _ _|exact attrs_line.mono _ _ _|exact slices_Contains_string_string.mono _ _ _|exact LeO.refl _|exact LeO.none _|refine LeO.ite ?_ ?_|refine LeO.bind ?_ (fun _=>?_)
  intro y0 y1 y2 y3 y4 y5
  unfold attrs_Below.l1
  with_reducible repeat' first|exact ih0 _ _ _ _|exact ih1 _ _ _ _ _ _|exact attrs_Check.mono _ _|exact attrs_line.mono _ _ _|exact slices_Contains_string_string.mono _ _ _|exact LeO.refl _|exact LeO.none _|refine LeO.ite ?_ ?_|refine LeO.bind ?_ (fun _=>?_)
theorem attrs_Below.mono:∀ a0_ a1_ k,LeO (attrs_Below.f k a0_ a1_) (attrs_Below.f (k+1) a0_ a1_):=by
 intro a0_ a1_ k
 obtain⟨ih0,ih1⟩:=attrs_Below.mono_l k
 unfold attrs_Below.f
 with_reducible repeat' first|exact ih0 _ _ _ _|exact ih1 _ _ _ _ _ _|exact attrs_Check.mono _ _|exact attrs_line.mono _ _ _|exact slices_Contains_string_string.mono _ _ _|exact LeO.refl _|exact LeO.none _|refine LeO.ite ?_ ?_|refine LeO.bind ?_ (fun _=>?_)
theorem attrs_Below.calls (k:Nat) (P_:Nat→Prop) (A0:Option Addr) (c0:Nat) (l0:List (S26)) (A1:Option Addr) (c1:Nat) (l1:List ByteArray) (r:List ByteArray) (w:World) (hs0:Kd.F k26 w P_ A0 l0.length l0) (hc0:l0.length≤c0) (hs1:Kd.F Kd.string w P_ A1 l1.length l1) (hc1:l1.length≤c1) (h:attrs_Below.f k l0 l1=some r):
  Calls Try.prog 21 #[.slice A0 l0.length c0,.slice A1 l1.length c1] w (fun e w'=>∃ v0_:Value,e=.returned (v0_)∧Kd.N Kd.string 9 w' w.heap.size (fun k_=>P_ k_∨w.heap.size≤k_) v0_ r∧Below w.heap.size w w'):=by
 unfold attrs_Below.f at h
 have HH:=za h
 clear h
 have HF0:=zfp hs0
 have HL0:=za hc0
 clear hs0 hc0
 have HF1:=zfp hs1
 have HL1:=za hc1
 clear hs1 hc1
 have HB:=za (Below.refl w.heap.size w)
 have hu26:=Try.underlying26
 go_enter Try.func21,Try.ntmps21
 go_wp2_with ((with_reducible refine gd 3 rfl ?_);refine zb 3 36 #[.slice A1 l1.length c1] (h:=?_);intro g1 hg w2 BKg1 hb)
 refine zg ?_
 replace HF0:=zfe HF0.out hg hb
 replace HF1:=zfe HF1.out hg hb
 replace HB:=zhb HB.out hb
 clear hg hb
 have j3:=MB.lz1 BKg1.out
 replace HH:=zd HH
 obtain⟨t4,At5,HH⟩:=HH
 go_wp2_with ((with_reducible refine gc 11 rfl ?_);refine zc 11 (some 9) Try.func11 #[.slice A0 l0.length c0] (h:=?_);(with_reducible refine(attrs_Check.calls k (fun k_=>(P_ k_∨w.heap.size≤k_)∧k_≠g1) _ _ l0 t4 _ HF0.out HL0.out At5.out).mono ?_);rintro e w6 ⟨rfl,hb⟩;refine⟨_,rfl,?_⟩)
 refine zg ?_
 replace HF0:=zfb HF0.out hb
 replace HF1:=zfb HF1.out hb
 replace BKg1:=zbb BKg1.out hb
 replace HB:=zhb HB.out hb
 clear hb
 clear j3
 have j7:=MB.lz1 BKg1.out
 replace HH:=zqe HH
 rcases HH with⟨HH,hk9,hk10⟩|⟨HH,hk92,hk93⟩
 ·go_wp2
  go_loopg [5,13] k (fun kq u5 u13 w'=>∃ (x11:List ByteArray) (x14:Int),u13=.int .i64 x14∧Aside0 ((attrs_Below.l0 kq x11 x14 l0 l1)=some r)∧Aside0 (kq≤k)∧Aside0 (Kd.F k26 w' (fun k_=>((P_ k_∨w.heap.size≤k_)∧some k_≠(u5:Value).ownBlock)∧k_≠g1) A0 l0.length l0)∧Aside0 (Kd.F Kd.string w' (fun k_=>((P_ k_∨w.heap.size≤k_)∧some k_≠(u5:Value).ownBlock)∧k_≠g1) A1 l1.length l1)∧Aside0 (Kd.N Kd.string 9 w' w.heap.size (fun k_=>(P_ k_∨w.heap.size≤k_)∧k_≠g1) u5 x11)∧Aside0 (w'.heap[g1]? =some (.cells #[.slice A1 l1.length c1] 36 (0,0)))∧Aside0 (Below w.heap.size w w'))
  case atStart=>exact⟨([]:List ByteArray),0,(by first|rfl|(simp;done)|(simp[*];done)),HH,⟨Nat.le_refl _⟩,⟨(Kd.F_mono (ok:=(fun k_=>(P_ k_∨w.heap.size≤k_)∧k_≠g1)) HF0.out (fun k_ hk_=>⟨⟨hk_.1,(by simp[Value.ownBlock])⟩,hk_.2⟩))⟩,⟨(Kd.F_mono (ok:=(fun k_=>(P_ k_∨w.heap.size≤k_)∧k_≠g1)) HF1.out (fun k_ hk_=>⟨⟨hk_.1,(by simp[Value.ownBlock])⟩,hk_.2⟩))⟩,⟨Kd.N_nil _ _ _ _ _⟩,⟨BKg1.out⟩,⟨HB.out⟩⟩
  case round=>
   clear j7
   clear hk9
   clear hk10
   clear HH
   clear HF0 HF1 BKg1 HB
   obtain⟨x11,x14,rfl,HA,HK0,HF0,HF1,HN13,BKg1,HB⟩:=hrel
   obtain⟨v12,rfl⟩:∃ z_:Value,z_=u5:=⟨_,rfl⟩
   obtain⟨w16,rfl⟩:∃ wo_:World,wo_=wr:=⟨_,rfl⟩
   cases gk with
   |zero=>exact absurd HA.out (by simp[attrs_Below.l0])
   |succ k15=>
    have H:=HA.out
    clear HA
    simp only[attrs_Below.l0] at H
    have HH:=za H
    clear H
    have jh:=MB.lz1 BKg1.out
    replace HH:=zqt HH
    rcases HH with⟨HH,hk19,hk20⟩|⟨HH,hk90,hk91⟩
    ·replace HH:=zqdo HH
     obtain⟨HH,hk22⟩:=HH
     have p23:0≤(x14:Int):=of_decide_eq_true (by first|(with_reducible assumption)|assumption)
     have q23:x14<(l0.length:Int):=of_decide_eq_true (by first|(with_reducible assumption)|assumption)
     obtain⟨ad23,e23,hx23_0,hx23_1,hx23_2,hx23_3,hx23_4,hx23_5⟩:=atF_T26 HF0.out x14 p23 q23
     cases e23
     replace p23:=eq_true p23
     replace q23:=eq_true q23
     go_wp2_with ((with_reducible refine gd 7 rfl ?_);refine zb 7 26 #[.string (⟨#[]⟩:ByteArray),.string (⟨#[]⟩:ByteArray),.int .i64 0,.int .i64 0,.bool false,.bool false] (h:=?_);intro g24 hg w25 BKg24 hb)
     refine zg ?_
     have GEg24:=zge hg (below_size HB.out)
     have NEg1_g24:=znq hg BKg1.out
     replace HF0:=zfe HF0.out hg hb
     replace HF1:=zfe HF1.out hg hb
     replace HN13:=zne HN13.out hg hb
     replace BKg1:=zbb BKg1.out hb
     replace HB:=zhb HB.out hb
     clear hg hb
     clear jh hx23_0 hx23_1 hx23_2 hx23_3 hx23_4 hx23_5 p23 q23
     have jq:=MB.lz1 BKg1.out
     replace cBKg24:=MB.lz6 BKg24.out
     go_wp2_with ((with_reducible refine gs 26 7 rfl ?_);refine zs 26 7 #[.string ((rd_T26 l0 x14).f0),.string ((rd_T26 l0 x14).f1),.int .i64 ((rd_T26 l0 x14).f2),.int .i64 ((rd_T26 l0 x14).f3),.bool ((rd_T26 l0 x14).f4),.bool ((rd_T26 l0 x14).f5)] BKg24.out [.string ((rd_T26 l0 x14).f0),.string ((rd_T26 l0 x14).f1),.int .i64 ((rd_T26 l0 x14).f2),.int .i64 ((rd_T26 l0 x14).f3),.bool ((rd_T26 l0 x14).f4),.bool ((rd_T26 l0 x14).f5)] (h:=?_);intro w33 hbk hg)
     refine zg ?_
     replace HF0:=zfg HF0.out hg fun k_ hk_=>hk_.2
     replace HF1:=zfg HF1.out hg fun k_ hk_=>hk_.2
     replace HN13:=zng HN13.out hg fun k_ hk_=>hk_.2
     replace BKg1:=zbg BKg1.out hg NEg1_g24
     replace HB:=zhg HB.out hg (below_size HB.out) GEg24
     replace BKg24:=hbk
     clear hg hbk
     clear jq
     have jy:=MB.lz1 BKg1.out
     replace cBKg24:=MB.lz6 BKg24.out
     replace HH:=zd HH
     obtain⟨t41,At42,HH⟩:=HH
     go_wp2_with ((with_reducible refine gc 31 rfl ?_);refine zc 31 (some 20) Try.func31 #[.slice (some ad23) l0.length c0,.string ((rd_T26 l0 x14).f0)] (h:=?_);(with_reducible refine(attrs_line.calls k15 (fun k_=>(((P_ k_∨w.heap.size≤k_)∧some k_≠(v12:Value).ownBlock)∧k_≠g1)∧k_≠g24) _ _ l0 ((rd_T26 l0 x14).f0) t41 _ HF0.out HL0.out At42.out).mono ?_);rintro e w43 ⟨v44,rfl,hn44,hb⟩;refine⟨_,rfl,?_⟩)
     refine zg ?_
     have hba:=Kd.N_base hn44
     have HN44:=znl (ok2:=(fun k_=>(((P_ k_∨w.heap.size≤k_)∧some k_≠(v12:Value).ownBlock)∧k_≠g1)∧k_≠g24)) hn44 (below_size HB.out) (fun k_ hk_=>hk_.elim (fun h_=>h_) (fun h_=>⟨⟨⟨.inr (Nat.le_trans (below_size HB.out) h_),Kd.fresh' (Kd.N_lt HN13.out) k_ h_⟩,Kd.freshB (g:=g1) BKg1.out k_ h_⟩,Kd.freshB (g:=g24) BKg24.out k_ h_⟩))
     replace HF0:=zfr (v:=v44) HF0.out hba hb
     replace HF1:=zfr (v:=v44) HF1.out hba hb
     replace HN13:=znr (u:=v44) HN13.out hba hb
     replace BKg1:=zbb BKg1.out hb
     replace BKg24:=zbb BKg24.out hb
     replace HB:=zhb HB.out hb
     clear hn44 hba hb
     clear jy
     have jJ:=MB.lz1 BKg1.out
     replace cBKg24:=MB.lz6 BKg24.out
     go_wp2_with (((with_reducible refine gate_callee (f:=32) rfl ?_);(try(refine gate_guard (by rfl) ?_;dsimp only));refine goesL_ (some 22) rfl rfl Try.func32 (by kernel_rfl) rfl #[v44,.func (.func 33) #[] #[.pointer (some ⟨g1,0,none⟩)]] rfl (by(try simp only[List.map_toArray,List.map_cons,List.map_nil]);first|done|rfl) ?_);refine stop_ ?_)
     refine zg ?_
     go_enter Try.func32,Try.ntmps32
     go_wp2_with (((with_reducible refine gate_callee (f:=43) rfl ?_);(try(refine gate_guard (by rfl) ?_;dsimp only));refine goesL_ (some 7) rfl rfl Try.func43 (by kernel_rfl) rfl #[v44,.func (.func 33) #[] #[.pointer (some ⟨g1,0,none⟩)]] rfl (by(try simp only[List.map_toArray,List.map_cons,List.map_nil]);first|done|rfl) ?_);refine stop_ ?_)
     refine zg ?_
     go_enter Try.func43,Try.ntmps43
     obtain⟨A52,cp53,he_⟩:=Kd.N_slice HN44.out
     subst he_
     go_wp2
     go_loopg [8] k15 (fun kq u8 w'=>∃ (x54:Int),u8=.int .i64 x54∧Aside0 ((attrs_Below.l1 kq x54 l0 l1 t41 x11 x14)=some r)∧Aside0 (kq≤k15)∧Aside0 (Kd.F k26 w' (fun k_=>((((P_ k_∨w.heap.size≤k_)∧some k_≠(v12:Value).ownBlock)∧some k_≠((.slice A52 t41.length cp53):Value).ownBlock)∧k_≠g1)∧k_≠g24) (some ad23) l0.length l0)∧Aside0 (Kd.F Kd.string w' (fun k_=>((((P_ k_∨w.heap.size≤k_)∧some k_≠(v12:Value).ownBlock)∧some k_≠((.slice A52 t41.length cp53):Value).ownBlock)∧k_≠g1)∧k_≠g24) A1 l1.length l1)∧Aside0 (Kd.N Kd.string 9 w' w.heap.size (fun k_=>(((P_ k_∨w.heap.size≤k_)∧some k_≠((.slice A52 t41.length cp53):Value).ownBlock)∧k_≠g1)∧k_≠g24) v12 x11)∧Aside0 (Kd.N Kd.string 9 w' w.heap.size (fun k_=>(((P_ k_∨w.heap.size≤k_)∧some k_≠(v12:Value).ownBlock)∧k_≠g1)∧k_≠g24) (.slice A52 t41.length cp53) t41)∧Aside0 (w'.heap[g1]? =some (.cells #[.slice A1 l1.length c1] 36 (0,0)))∧Aside0 (w'.heap[g24]? =some (.cells #[.string ((rd_T26 l0 x14).f0),.string ((rd_T26 l0 x14).f1),.int .i64 ((rd_T26 l0 x14).f2),.int .i64 ((rd_T26 l0 x14).f3),.bool ((rd_T26 l0 x14).f4),.bool ((rd_T26 l0 x14).f5)] 26 (0,0)))∧Aside0 (Below w.heap.size w w'))
     case atStart=>exact⟨0,(by first|rfl|(simp;done)|(simp[*];done)),HH,⟨Nat.le_refl _⟩,⟨(Kd.F_mono (ok:=(fun k_=>((((P_ k_∨w.heap.size≤k_)∧some k_≠(v12:Value).ownBlock)∧k_≠g1)∧k_≠g24)∧some k_≠((.slice A52 t41.length cp53):Value).ownBlock)) HF0.out (fun k_ hk_=>⟨⟨⟨⟨hk_.1.1.1.1,hk_.1.1.1.2⟩,hk_.2⟩,hk_.1.1.2⟩,hk_.1.2⟩))⟩,⟨(Kd.F_mono (ok:=(fun k_=>((((P_ k_∨w.heap.size≤k_)∧some k_≠(v12:Value).ownBlock)∧k_≠g1)∧k_≠g24)∧some k_≠((.slice A52 t41.length cp53):Value).ownBlock)) HF1.out (fun k_ hk_=>⟨⟨⟨⟨hk_.1.1.1.1,hk_.1.1.1.2⟩,hk_.2⟩,hk_.1.1.2⟩,hk_.1.2⟩))⟩,⟨(Kd.N_mono (ok:=(fun k_=>(((P_ k_∨w.heap.size≤k_)∧k_≠g1)∧k_≠g24)∧some k_≠((.slice A52 t41.length cp53):Value).ownBlock)) HN13.out (fun k_ hk_=>⟨⟨⟨hk_.1.1.1,hk_.2⟩,hk_.1.1.2⟩,hk_.1.2⟩))⟩,⟨(Kd.N_mono (ok:=(fun k_=>(((P_ k_∨w.heap.size≤k_)∧some k_≠(v12:Value).ownBlock)∧k_≠g1)∧k_≠g24)) HN44.out (fun k_ hk_=>hk_))⟩,⟨BKg1.out⟩,⟨BKg24.out⟩,⟨HB.out⟩⟩
     case round=>
      clear jJ
      clear hk19
      clear hk20
      clear hk22
      clear HH
      clear HF0 HF1 HN13 HN44 BKg1 BKg24 HB
      obtain⟨x54,rfl,HA,HK1,HF0,HF1,HN13,HN44,BKg1,BKg24,HB⟩:=hrel
      obtain⟨w56,rfl⟩:∃ wo_:World,wo_=wr:=⟨_,rfl⟩
      cases gk with
      |zero=>exact absurd HA.out (by simp[attrs_Below.l1])
      |succ k55=>
       have H:=HA.out
       clear HA
       simp only[attrs_Below.l1] at H
       have HH:=za H
       clear H
       have jV:=MB.lz1 BKg1.out
       replace cBKg24:=MB.lz6 BKg24.out
       replace HH:=zqt HH
       rcases HH with⟨HH,hk65,hk66⟩|⟨HH,hk87,hk88⟩
       ·replace HH:=zqdo HH
        obtain⟨HH,hk68⟩:=HH
        have p69:0≤(x54:Int):=of_decide_eq_true (by first|(with_reducible assumption)|assumption)
        have q69:x54<(t41.length:Int):=of_decide_eq_true (by first|(with_reducible assumption)|assumption)
        obtain⟨ad69,e69,hx69_0⟩:=Kd.at_string (Kd.F_now (Kd.N_F HN44.out)) x54 p69 q69
        cases e69
        replace p69:=eq_true p69
        replace q69:=eq_true q69
        go_wp2_with (((with_reducible refine gate_dst (N:=16) rfl ?_);(try(refine gate_guard (by rfl) ?_;dsimp only));refine MW.goesV_ (some 16) rfl rfl Try.func33 (by kernel_rfl) rfl #[.string (rdOf ByteArray.empty t41 x54),.pointer (some ⟨g1,0,none⟩)] rfl #[.pointer (some ⟨g1,0,none⟩)] rfl (by simp only[List.map_toArray,List.map_cons,List.map_nil,List.append_toArray,List.cons_append,List.nil_append];first|done|rfl) ?_);refine stop_ ?_)
        refine zg ?_
        go_enter Try.func33,Try.ntmps33
        replace HH:=zd HH
        obtain⟨t70,At71,HH⟩:=HH
        go_wp2_with ((with_reducible refine gc 30 rfl ?_);refine zc 30 (some 6) Try.func30 #[.slice A1 l1.length c1,.string (rdOf ByteArray.empty t41 x54)] (h:=?_);(with_reducible refine(slices_Contains_string_string.calls k55 (fun k_=>((((P_ k_∨w.heap.size≤k_)∧some k_≠(v12:Value).ownBlock)∧some k_≠((.slice (some ad69) t41.length cp53):Value).ownBlock)∧k_≠g1)∧k_≠g24) _ _ l1 (rdOf ByteArray.empty t41 x54) t70 _ HF1.out HL1.out At71.out).mono ?_);rintro e w' ⟨rfl,⟨nd,rfl⟩⟩;refine⟨_,rfl,?_⟩)
        refine zg ?_
        go_wp2
        go_ret
        refine⟨_,rfl,?_⟩
        by_cases c73:t70=true
        ·replace HH:=MW.hpos HH c73
         subst c73
         go_wp2
         go_ret
         refine⟨_,rfl,?_⟩
         go_wp2
         go_ret
         refine⟨_,rfl,?_⟩
         obtain⟨HH,LMc74⟩:=zlm HH
         obtain⟨y75,hy75⟩:∃ y_:List ByteArray,y_=(x11++[(rd_T26 l0 x14).f0]):=⟨_,rfl⟩
         have H:((attrs_Below.l0 k55 y75 (wrap64 (x14+1)) l0 l1))=some r:=by rw[hy75];exact HH.out
         replace HH:=za H
         clear H
         have NYy75:=za hy75
         clear hy75
         go_wp2_with (((with_reducible refine gate_dst (N:=27) rfl ?_);(try(refine gate_guard (by rfl) ?_;dsimp only));refine Kd.N_append Kd.string w.heap.size rfl _ _ 36 9 (.string ⟨#[]⟩) 16 rfl Try.underlying36 info9 rfl (by decide) (by decide) (v12) x11 ((rd_T26 l0 x14).f0) [.string ((rd_T26 l0 x14).f0)] (fun k_=>(((P_ k_∨w.heap.size≤k_)∧some k_≠((.slice (some ad69) t41.length cp53):Value).ownBlock)∧k_≠g1)∧k_≠g24) (fun k_=>(fun k_=>(((P_ k_∨w.heap.size≤k_)∧some k_≠((.slice (some ad69) t41.length cp53):Value).ownBlock)∧k_≠g1)∧k_≠g24) k_∧some k_≠(v12:Value).ownBlock) rfl rfl (fun _ _=>rfl) (fun _ hk_=>hk_) (fun k_ h_=>⟨⟨⟨.inr (Nat.le_trans (below_size (by repeat(first|(with_reducible first|exact HB.out|apply below_alloc|apply pw_below_drewN|apply below_drew1)|exact HB.out))) h_),Kd.fresh' (Kd.N_lt (by(with_reducible repeat(first|apply Kd.N_alloc|apply Kd.N_drewN|apply Kd.N_drew));exact HN44.out)) k_ h_⟩,Kd.freshB (g:=g1) (o:=.cells #[.slice A1 l1.length c1] 36 (0,0)) (by(with_reducible repeat(first|refine blk_drewN ?_ _|refine blk_drew ?_|refine blk_alloc ?_ _));exact BKg1.out) k_ h_⟩,Kd.freshB (g:=g24) (o:=.cells #[.string ((rd_T26 l0 x14).f0),.string ((rd_T26 l0 x14).f1),.int .i64 ((rd_T26 l0 x14).f2),.int .i64 ((rd_T26 l0 x14).f3),.bool ((rd_T26 l0 x14).f4),.bool ((rd_T26 l0 x14).f5)] 26 (0,0)) (by(with_reducible repeat(first|refine blk_drewN ?_ _|refine blk_drew ?_|refine blk_alloc ?_ _));exact BKg24.out) k_ h_⟩) (by(with_reducible repeat(first|apply Kd.N_alloc|apply Kd.N_drewN|apply Kd.N_drew));exact HN13.out) (by repeat(first|(with_reducible first|exact HB.out|apply below_alloc|apply pw_below_drewN|apply below_drew1)|exact HB.out)) (below_size (by repeat(first|(with_reducible first|exact HB.out|apply below_alloc|apply pw_below_drewN|apply below_drew1)|exact HB.out))) (by first|(have:=LMc74.out;omega)|(have:=LMc74.out;simp at *;omega)) ?_;intro v76 w77 hn1 hb1 hg1 hat1);replace hat1:=za hat1;refine stop_ ?_)
         refine zg ?_
         replace hat1:=hat1.out
         replace HF0:=za (Kd.F_mono (Kd.F_after (v:=v12) (ok:=(fun k_=>(((P_ k_∨w.heap.size≤k_)∧some k_≠((.slice (some ad69) t41.length cp53):Value).ownBlock)∧k_≠g1)∧k_≠g24)) (Kd.F_mono (ok:=(fun k_=>((((P_ k_∨w.heap.size≤k_)∧some k_≠(v12:Value).ownBlock)∧some k_≠((.slice (some ad69) t41.length cp53):Value).ownBlock)∧k_≠g1)∧k_≠g24)) (by(with_reducible repeat(first|apply Kd.F_alloc|apply Kd.F_drewN|apply Kd.F_drew));exact HF0.out) (fun k_ hk_=>⟨⟨⟨⟨hk_.1.1.1.1,hk_.1.1.2⟩,hk_.1.2⟩,hk_.2⟩,hk_.1.1.1.2⟩)) hg1 hat1) (fun k_ hk_=>hk_):Kd.F k26 _ (fun k_=>((((P_ k_∨w.heap.size≤k_)∧some k_≠((.slice (some ad69) t41.length cp53):Value).ownBlock)∧k_≠g1)∧k_≠g24)∧some k_≠(v76:Value).ownBlock) _ _ _)
         replace HF1:=za (Kd.F_mono (Kd.F_after (v:=v12) (ok:=(fun k_=>(((P_ k_∨w.heap.size≤k_)∧some k_≠((.slice (some ad69) t41.length cp53):Value).ownBlock)∧k_≠g1)∧k_≠g24)) (Kd.F_mono (ok:=(fun k_=>((((P_ k_∨w.heap.size≤k_)∧some k_≠(v12:Value).ownBlock)∧some k_≠((.slice (some ad69) t41.length cp53):Value).ownBlock)∧k_≠g1)∧k_≠g24)) (by(with_reducible repeat(first|apply Kd.F_alloc|apply Kd.F_drewN|apply Kd.F_drew));exact HF1.out) (fun k_ hk_=>⟨⟨⟨⟨hk_.1.1.1.1,hk_.1.1.2⟩,hk_.1.2⟩,hk_.2⟩,hk_.1.1.1.2⟩)) hg1 hat1) (fun k_ hk_=>hk_):Kd.F Kd.string _ (fun k_=>((((P_ k_∨w.heap.size≤k_)∧some k_≠((.slice (some ad69) t41.length cp53):Value).ownBlock)∧k_≠g1)∧k_≠g24)∧some k_≠(v76:Value).ownBlock) _ _ _)
         replace BKg1:=za (blk_grown (g:=g1) (o:=.cells #[.slice A1 l1.length c1] 36 (0,0)) (by(with_reducible repeat(first|refine blk_drewN ?_ _|refine blk_drew ?_|refine blk_alloc ?_ _));exact BKg1.out) hg1 (Kd.N_away (ok:=(fun k_=>(((P_ k_∨w.heap.size≤k_)∧some k_≠((.slice (some ad69) t41.length cp53):Value).ownBlock)∧k_≠g1)∧k_≠g24)) HN13.out (fun k_ hk_=>hk_.1.2)))
         replace BKg24:=za (blk_grown (g:=g24) (o:=.cells #[.string ((rd_T26 l0 x14).f0),.string ((rd_T26 l0 x14).f1),.int .i64 ((rd_T26 l0 x14).f2),.int .i64 ((rd_T26 l0 x14).f3),.bool ((rd_T26 l0 x14).f4),.bool ((rd_T26 l0 x14).f5)] 26 (0,0)) (by(with_reducible repeat(first|refine blk_drewN ?_ _|refine blk_drew ?_|refine blk_alloc ?_ _));exact BKg24.out) hg1 (Kd.N_away (ok:=(fun k_=>(((P_ k_∨w.heap.size≤k_)∧some k_≠((.slice (some ad69) t41.length cp53):Value).ownBlock)∧k_≠g1)∧k_≠g24)) HN13.out (fun k_ hk_=>hk_.2)))
         replace HB:=za hb1
         clear HN13
         have HN78:=za hn1
         clear hn1 hb1 hg1 hat1
         replace HN78:=za (by rw[NYy75.out];exact HN78.out:Kd.N Kd.string 9 w77 w.heap.size (fun k_=>(((P_ k_∨w.heap.size≤k_)∧some k_≠((.slice (some ad69) t41.length cp53):Value).ownBlock)∧k_≠g1)∧k_≠g24) v76 y75)
         clear jV hx69_0 p69 q69
         have j1h:=MB.lz1 BKg1.out
         replace cBKg24:=MB.lz6 BKg24.out
         go_wp2
         go_roundg k55
         case measure=>have:=HK0.out;have:=HK1.out;omega
         case rel=>exact⟨y75,wrap64 (x14+1),(by first|rfl|(simp;done)|(simp[*];done)),HH,⟨by have:=HK0.out;have:=HK1.out;omega⟩,⟨(Kd.F_mono (ok:=(fun k_=>((((P_ k_∨w.heap.size≤k_)∧some k_≠((.slice (some ad69) t41.length cp53):Value).ownBlock)∧k_≠g1)∧k_≠g24)∧some k_≠(v76:Value).ownBlock)) HF0.out (fun k_ hk_=>⟨⟨hk_.1.1.1.1,hk_.2⟩,hk_.1.1.2⟩))⟩,⟨(Kd.F_mono (ok:=(fun k_=>((((P_ k_∨w.heap.size≤k_)∧some k_≠((.slice (some ad69) t41.length cp53):Value).ownBlock)∧k_≠g1)∧k_≠g24)∧some k_≠(v76:Value).ownBlock)) HF1.out (fun k_ hk_=>⟨⟨hk_.1.1.1.1,hk_.2⟩,hk_.1.1.2⟩))⟩,⟨(Kd.N_mono (ok:=(fun k_=>(((P_ k_∨w.heap.size≤k_)∧some k_≠((.slice (some ad69) t41.length cp53):Value).ownBlock)∧k_≠g1)∧k_≠g24)) HN78.out (fun k_ hk_=>⟨hk_.1.1.1,hk_.1.2⟩))⟩,⟨BKg1.out⟩,⟨HB.out⟩⟩
        replace HH:=MW.hneg HH c73
        replace c73:=Bool.eq_false_iff.mpr c73
        subst c73
        go_wp2
        go_roundg k55
        case measure=>have:=HK0.out;have:=HK1.out;omega
        case rel=>exact⟨wrap64 (x54+1),(by first|rfl|(simp;done)|(simp[*];done)),HH,⟨by have:=HK0.out;have:=HK1.out;omega⟩,⟨(by(with_reducible repeat(first|apply Kd.F_alloc|apply Kd.F_drewN|apply Kd.F_drew));exact HF0.out)⟩,⟨(by(with_reducible repeat(first|apply Kd.F_alloc|apply Kd.F_drewN|apply Kd.F_drew));exact HF1.out)⟩,⟨(Kd.N_mono (ok:=(fun k_=>(((P_ k_∨w.heap.size≤k_)∧some k_≠((.slice (some ad69) t41.length cp53):Value).ownBlock)∧k_≠g1)∧k_≠g24)) (by(with_reducible repeat(first|apply Kd.N_alloc|apply Kd.N_drewN|apply Kd.N_drew));exact HN13.out) (fun k_ hk_=>hk_))⟩,⟨(Kd.N_mono (ok:=(fun k_=>(((P_ k_∨w.heap.size≤k_)∧some k_≠(v12:Value).ownBlock)∧k_≠g1)∧k_≠g24)) (by(with_reducible repeat(first|apply Kd.N_alloc|apply Kd.N_drewN|apply Kd.N_drew));exact HN44.out) (fun k_ hk_=>hk_))⟩,⟨(by(with_reducible repeat(first|refine blk_drewN ?_ _|refine blk_drew ?_|refine blk_alloc ?_ _));exact BKg1.out)⟩,⟨(by(with_reducible repeat(first|refine blk_drewN ?_ _|refine blk_drew ?_|refine blk_alloc ?_ _));exact BKg24.out)⟩,⟨(by repeat(first|(with_reducible first|exact HB.out|apply below_alloc|apply pw_below_drewN|apply below_drew1)|exact HB.out))⟩⟩
       go_wp2
       go_ret
       refine⟨_,rfl,?_⟩
       go_wp2
       go_ret
       refine⟨_,rfl,?_⟩
       go_wp2
       go_roundg k55
       case measure=>have:=HK0.out;have:=HK1.out;omega
       case rel=>exact⟨x11,wrap64 (x14+1),(by first|rfl|(simp;done)|(simp[*];done)),HH,⟨by have:=HK0.out;have:=HK1.out;omega⟩,⟨(Kd.F_mono (ok:=(fun k_=>((((P_ k_∨w.heap.size≤k_)∧some k_≠(v12:Value).ownBlock)∧some k_≠((.slice A52 t41.length cp53):Value).ownBlock)∧k_≠g1)∧k_≠g24)) HF0.out (fun k_ hk_=>⟨⟨hk_.1.1.1.1,hk_.1.1.1.2⟩,hk_.1.2⟩))⟩,⟨(Kd.F_mono (ok:=(fun k_=>((((P_ k_∨w.heap.size≤k_)∧some k_≠(v12:Value).ownBlock)∧some k_≠((.slice A52 t41.length cp53):Value).ownBlock)∧k_≠g1)∧k_≠g24)) HF1.out (fun k_ hk_=>⟨⟨hk_.1.1.1.1,hk_.1.1.1.2⟩,hk_.1.2⟩))⟩,⟨(Kd.N_mono (ok:=(fun k_=>(((P_ k_∨w.heap.size≤k_)∧some k_≠((.slice A52 t41.length cp53):Value).ownBlock)∧k_≠g1)∧k_≠g24)) HN13.out (fun k_ hk_=>⟨hk_.1.1.1,hk_.1.2⟩))⟩,⟨BKg1.out⟩,⟨HB.out⟩⟩
    obtain rfl:=Option.some.inj HH.out
    clear HH
    go_wp2
    go_ret
    exact⟨_,by first|rfl|(simp;done)|(simp[*];done),(Kd.N_mono (ok:=(fun k_=>(P_ k_∨w.heap.size≤k_)∧k_≠g1)) HN13.out (fun k_ hk_=>hk_.1)),HB.out⟩
 obtain rfl:=Option.some.inj HH.out
 clear HH
 go_wp2
 go_ret
 exact⟨_,by first|rfl|(simp;done)|(simp[*];done),(Kd.N_nil _ _ _ _ _),HB.out⟩
end Go.Proofs.Ytcjafemnkhifmaa.GA
