import Derived.Test.YtdjkemhmhkpmkaaGA0
import Derived.Test.YtdjkemhmhkpmkaaGM1
import Derived.Test.YtdjkemhmhkpmkaaMX
namespace Go.Proofs.Ytdjkemhmhkpmkaa.GA
open Go.RowKit Go.Proofs.Ytdjkemhmhkpmkaa Go.Proofs.Ytdjkemhmhkpmkaa.MW Go.Proofs.YtdjkemhmhkpmkaaW.PrintWords Go.Proofs.YtdjkemhmhkpmkaaW.PrintLast Go.Proofs.YtdjkemhmhkpmkaaW.PrintMore
attribute [local go_sem] max2_int min2_int max_two min_two
set_option maxHeartbeats 8000000
set_option maxRecDepth 100000
set_option linter.unusedVariables false
set_option linter.unusedSimpArgs false
def reply_result.f (k:Nat) (a0_0:Int) (a0_1:Int) (a0_2:Bool) (a0_3:Int) (a0_4:ByteArray) (a0_5:ByteArray) (a0_6:ByteArray) (l0_7:List (S46)):Option (Int × Bool × Int × ByteArray × (List (S57))):=(reply_number.f k 10 a0_3).bind fun bt40=>((reply_text.f a0_4).bind fun bt61=>((reply_text.f a0_5).bind fun bt82=>(if a0_6.toList=([]:List UInt8) then((reply_tag.f a0_1).bind fun t134=>((reply_group.f 1 t134 [(⟨bt40.1,bt40.2.1,bt40.2.2.1,bt40.2.2.2.1,bt40.2.2.2.2⟩:S57),(⟨bt61.1,bt61.2.1,bt61.2.2.1,bt61.2.2.2.1,bt61.2.2.2.2⟩:S57),(⟨bt82.1,bt82.2.1,bt82.2.2.1,bt82.2.2.2.1,bt82.2.2.2.2⟩:S57)]).bind fun bt141=>(some (bt141.1,bt141.2.1,bt141.2.2.1,bt141.2.2.2.1,bt141.2.2.2.2)))) else((prims_Text.f 2 10 a0_6).bind fun bt180=>(if [(⟨bt40.1,bt40.2.1,bt40.2.2.1,bt40.2.2.2.1,bt40.2.2.2.2⟩:S57),(⟨bt61.1,bt61.2.1,bt61.2.2.1,bt61.2.2.2.1,bt61.2.2.2.2⟩:S57),(⟨bt82.1,bt82.2.1,bt82.2.2.1,bt82.2.2.2.1,bt82.2.2.2.2⟩:S57)].length<2199023255552 then((some ([(⟨bt40.1,bt40.2.1,bt40.2.2.1,bt40.2.2.2.1,bt40.2.2.2.2⟩:S57),(⟨bt61.1,bt61.2.1,bt61.2.2.1,bt61.2.2.2.1,bt61.2.2.2.2⟩:S57),(⟨bt82.1,bt82.2.1,bt82.2.2.1,bt82.2.2.2.1,bt82.2.2.2.2⟩:S57)]++[(⟨bt180.1,bt180.2.1,bt180.2.2.1,bt180.2.2.2.1,bt180.2.2.2.2.1⟩:S57)]:List (S57))).bind fun y248=>((reply_tag.f a0_1).bind fun t270=>((reply_group.f 1 t270 y248).bind fun bt277=>(some (bt277.1,bt277.2.1,bt277.2.2.1,bt277.2.2.2.1,bt277.2.2.2.2))))) else(none))))))
theorem reply_result.mono:∀ a0_ a1_ a2_ a3_ a4_ a5_ a6_ a7_ k,LeO (reply_result.f k a0_ a1_ a2_ a3_ a4_ a5_ a6_ a7_) (reply_result.f (k+1) a0_ a1_ a2_ a3_ a4_ a5_ a6_ a7_):=by
 intro a0_ a1_ a2_ a3_ a4_ a5_ a6_ a7_ k
 unfold reply_result.f
 with_reducible repeat' first|exact reply_number.mono _ _ _|exact LeO.refl _|exact LeO.none _|refine LeO.ite ?_ ?_|refine LeO.bind ?_ (fun _=>?_)
theorem reply_result.calls (k:Nat) (P_:Nat→Prop) (a0_0:Int) (a0_1:Int) (a0_2:Bool) (a0_3:Int) (a0_4:ByteArray) (a0_5:ByteArray) (a0_6:ByteArray) (A0_7:Option Addr) (c0_7:Nat) (l0_7:List (S46)) (r1:Int) (r2:Bool) (r3:Int) (r4:ByteArray) (r5:List (S57)) (w:World) (hs0_7:Kd.F k46 w P_ A0_7 l0_7.length l0_7) (hc0_7:l0_7.length≤c0_7) (h:reply_result.f k a0_0 a0_1 a0_2 a0_3 a0_4 a0_5 a0_6 l0_7=some (r1,r2,r3,r4,r5)):
  Calls Try.prog 42 #[.agg #[.int .i64 a0_0,.int .i64 a0_1,.bool a0_2,.int .i64 a0_3,.string a0_4,.string a0_5,.string a0_6,.slice A0_7 l0_7.length c0_7]] w (fun e w'=>∃ v4_:Value,e=.returned (.agg #[.int .i64 r1,.bool r2,.int .i64 r3,.string r4,v4_])∧Kd.N k57 57 w' w.heap.size (fun k_=>P_ k_∨w.heap.size≤k_) v4_ r5∧Below w.heap.size w w'):=by
 unfold reply_result.f at h
 have HH:=za h
 clear h
 clear hs0_7 hc0_7
 have HB:=za (Below.refl w.heap.size w)
 have hu27:=Try.underlying27
 have hu57:=Try.underlying57
 go_enter Try.func42,Try.ntmps42
 go_wp2_with ((with_reducible refine gd 1 rfl ?_);refine zb 1 27 #[.int .i64 a0_0,.int .i64 a0_1,.bool a0_2,.int .i64 a0_3,.string a0_4,.string a0_5,.string a0_6,.slice A0_7 l0_7.length c0_7] (h:=?_);intro g1 hg w2 BKg1 hb)
 refine zg ?_
 replace HB:=zhb HB.out hb
 clear hg hb
 replace cBKg1:=MB.lz8 BKg1.out
 go_wp2_with ((with_reducible refine gd 2 rfl ?_);refine zb 2 57 #[.int .i64 0,.bool false,.int .i64 0,.string (⟨#[]⟩:ByteArray),.slice none 0 0] (h:=?_);intro g11 hg w12 BKg11 hb)
 refine zg ?_
 have GEg11:=zge hg (below_size HB.out)
 have NEg1_g11:=znq hg BKg1.out
 replace BKg1:=zbb BKg1.out hb
 replace HB:=zhb HB.out hb
 clear hg hb
 replace cBKg1:=MB.lz8 BKg1.out
 replace cBKg11:=MB.lz5 BKg11.out
 go_wp2
 have hwr_:∀ n_:Int,IntKind.i64.wrap n_=wrap64 n_:=fun n_=>IntWalk.i64_left n_
 refine wp_region_any (by kernel_rfl) ?_
 change wpAny _ _ _ _ 11 #[false,false,false,false,false,false,false,false,false,false,false] _ w12.drew
 obtain⟨w26,hw_⟩:∃ w_:World,w_=w12.drew:=⟨_,rfl⟩
 rw[← hw_]
 have hb:Below w12.heap.size w12 w26:=by rw[hw_];exact below_drew1 (Below.refl _ _)
 clear hw_
 replace BKg1:=zbb BKg1.out hb
 replace BKg11:=zbb BKg11.out hb
 replace HB:=zhb HB.out hb
 clear hb
 obtain⟨jr,js,jt,ju,jv,jw,jx,jy⟩:=MB.lz8 BKg1.out
 replace cBKg11:=MB.lz5 BKg11.out
 refine MW.last_in (ds:=[8,9]) (zk ju (zk jv (zk jw z0))) ?_
 refine zlp 0 (.pointer (some ⟨g1,3,none⟩)) #[_,_,_,_,_,_,_,_,_,_,_] ⟨[_,_,_,_,_,_,_,_,_,_,_,_,_,_,_,_,_,_,_,_,_,_,_,_,_,_,_,_,_,_,_,_,_,_].toArray,[]⟩ (h:=?_)
 refine zlp 3 (.pointer (some ⟨g1,4,none⟩)) #[_,_,_,_,_,_,_,_,_,_,_] ⟨[_,_,_,_,_,_,_,_,_,_,_,_,_,_,_,_,_,_,_,_,_,_,_,_,_,_,_,_,_,_,_,_,_,_].toArray,[]⟩ (h:=?_)
 refine zlp 6 (.pointer (some ⟨g1,5,none⟩)) #[_,_,_,_,_,_,_,_,_,_,_] ⟨[_,_,_,_,_,_,_,_,_,_,_,_,_,_,_,_,_,_,_,_,_,_,_,_,_,_,_,_,_,_,_,_,_,_].toArray,[]⟩ (h:=?_)
 refine MW.last_take (i:=1) (v:=.int .i64 a0_3) (listed':= #[_,_,_,_,_,_,_,_,_,_,_]) (a':=⟨[_,_,_,_,_,_,_,_,_,_,_,_,_,_,_,_,_,_,_,_,_,_,_,_,_,_,_,_,_,_,_,_,_,_].toArray,[]⟩) rfl (by kernel_rfl) (by kernel_rfl) (by kernel_rfl) (by kernel_rfl) (by kernel_rfl) (fun _ _ _ h_=>h_) (by kernel_rfl) (fun w_ hS_=>?go) (zk ju (zk jv (zk jw z0))) rfl rfl ?_
 case go=>obtain⟨hs0_,_,_,_⟩:=hS_;first|(go_simp;done)|(go_simp;rfl)
 refine MW.last_take (i:=4) (v:=.string a0_4) (listed':= #[_,_,_,_,_,_,_,_,_,_,_]) (a':=⟨[_,_,_,_,_,_,_,_,_,_,_,_,_,_,_,_,_,_,_,_,_,_,_,_,_,_,_,_,_,_,_,_,_,_].toArray,[]⟩) rfl (by kernel_rfl) (by kernel_rfl) (by kernel_rfl) (by kernel_rfl) (by kernel_rfl) (fun _ _ _ h_=>h_) (by kernel_rfl) (fun w_ hS_=>?go) (zk ju (zk jv (zk jw z0))) rfl rfl ?_
 case go=>obtain⟨_,hs1_,_,_⟩:=hS_;first|(go_simp;done)|(go_simp;rfl)
 refine MW.last_take (i:=7) (v:=.string a0_5) (listed':= #[_,_,_,_,_,_,_,_,_,_,_]) (a':=⟨[_,_,_,_,_,_,_,_,_,_,_,_,_,_,_,_,_,_,_,_,_,_,_,_,_,_,_,_,_,_,_,_,_,_].toArray,[]⟩) rfl (by kernel_rfl) (by kernel_rfl) (by kernel_rfl) (by kernel_rfl) (by kernel_rfl) (fun _ _ _ h_=>h_) (by kernel_rfl) (fun w_ hS_=>?go) (zk ju (zk jv (zk jw z0))) rfl rfl ?_
 case go=>obtain⟨_,_,hs2_,_⟩:=hS_;first|(go_simp;done)|(go_simp;rfl)
 refine MW.last_act (i:=2) (listed':= #[true,true,true,true,true,false,true,true,false,false,false]) rfl (by kernel_rfl) (by kernel_rfl) (by decide) ?_
 replace HH:=zd HH
 obtain⟨⟨t40,t41,t42,t43,t44⟩,At45,HH⟩:=HH
 dsimp only at HH
 go_wp2_with ((with_reducible refine gc 46 rfl ?_);refine zc 46 (some 8) Try.func46 #[.int .i64 10,.int .i64 a0_3] (h:=?_);(with_reducible refine(reply_number.calls k  10 a0_3 t40 t41 t42 t43 t44 _  At45.out).mono ?_);rintro e w46 ⟨v47,rfl,hn47,hb⟩;refine⟨_,rfl,?_⟩)
 refine zg ?_
 have hba:=Kd.N_base hn47
 have HN47:=znl (ok2:=(fun k_=>((P_ k_∨w.heap.size≤k_)∧k_≠g1)∧k_≠g11)) hn47 (below_size HB.out) (fun k_ h_=>⟨⟨.inr (Nat.le_trans (below_size HB.out) h_),Kd.freshB (g:=g1) BKg1.out k_ h_⟩,Kd.freshB (g:=g11) BKg11.out k_ h_⟩)
 replace BKg1:=zbb BKg1.out hb
 replace BKg11:=zbb BKg11.out hb
 replace HB:=zhb HB.out hb
 clear hn47 hba hb
 clear jr js jt ju jv jw jx jy
 obtain⟨jM,jN,jO,jP,jQ,jR,jS,jT⟩:=MB.lz8 BKg1.out
 replace cBKg11:=MB.lz5 BKg11.out
 refine wpList_nil ?_
 change MW.Cells _ _∧wpAnyLast _ _ _ _ _ _ 4 #[true,true,true,true,true,false,true,true,false,false,false] ⟨[_,_,_,_,_,_,_,_,_,_,_,_,_,_,_,_,_,_,_,_,_,_,_,_,_,_,_,_,_,_,_,_,_,_].toArray,[]⟩ _
 refine⟨(zk jP (zk jQ (zk jR z0))),?_⟩
 refine MW.last_act (i:=5) (listed':= #[true,true,true,true,true,true,true,true,false,false,false]) rfl (by kernel_rfl) (by kernel_rfl) (by decide) ?_
 replace HH:=zd HH
 obtain⟨⟨t61,t62,t63,t64,t65⟩,At66,HH⟩:=HH
 dsimp only at HH
 go_wp2_with ((with_reducible refine gc 60 rfl ?_);refine zc 60 (some 11) Try.func60 #[.string a0_4] (h:=?_);(with_reducible refine(reply_text.calls  a0_4 t61 t62 t63 t64 t65 _  At66.out).mono ?_);rintro e w67 ⟨v68,rfl,hn68,hb⟩;refine⟨_,rfl,?_⟩)
 refine zg ?_
 have hba:=Kd.N_base hn68
 have HN68:=znl (ok2:=(fun k_=>(((P_ k_∨w.heap.size≤k_)∧some k_≠(v47:Value).ownBlock)∧k_≠g1)∧k_≠g11)) hn68 (below_size HB.out) (fun k_ h_=>⟨⟨⟨.inr (Nat.le_trans (below_size HB.out) h_),Kd.fresh' (Kd.N_lt HN47.out) k_ h_⟩,Kd.freshB (g:=g1) BKg1.out k_ h_⟩,Kd.freshB (g:=g11) BKg11.out k_ h_⟩)
 replace HN47:=znr (u:=v68) HN47.out hba hb
 replace BKg1:=zbb BKg1.out hb
 replace BKg11:=zbb BKg11.out hb
 replace HB:=zhb HB.out hb
 clear hn68 hba hb
 clear jM jN jO jP jQ jR jS jT
 obtain⟨j17,j18,j19,j1a,j1b,j1c,j1d,j1e⟩:=MB.lz8 BKg1.out
 replace cBKg11:=MB.lz5 BKg11.out
 refine wpList_nil ?_
 change MW.Cells _ _∧wpAnyLast _ _ _ _ _ _ 3 #[true,true,true,true,true,true,true,true,false,false,false] ⟨[_,_,_,_,_,_,_,_,_,_,_,_,_,_,_,_,_,_,_,_,_,_,_,_,_,_,_,_,_,_,_,_,_,_].toArray,[]⟩ _
 refine⟨(zk j1a (zk j1b (zk j1c z0))),?_⟩
 refine MW.last_fin (i:=8) (listed':= #[true,true,true,true,true,true,true,true,true,false,false]) rfl (by kernel_rfl) (by kernel_rfl) (by kernel_rfl) ?_
 replace HH:=zd HH
 obtain⟨⟨t82,t83,t84,t85,t86⟩,At87,HH⟩:=HH
 dsimp only at HH
 go_wp2_with ((with_reducible refine gc 60 rfl ?_);refine zc 60 (some 14) Try.func60 #[.string a0_5] (h:=?_);(with_reducible refine(reply_text.calls  a0_5 t82 t83 t84 t85 t86 _  At87.out).mono ?_);rintro e w88 ⟨v89,rfl,hn89,hb⟩;refine⟨_,rfl,?_⟩)
 refine zg ?_
 have hba:=Kd.N_base hn89
 have HN89:=znl (ok2:=(fun k_=>((((P_ k_∨w.heap.size≤k_)∧some k_≠(v47:Value).ownBlock)∧some k_≠(v68:Value).ownBlock)∧k_≠g1)∧k_≠g11)) hn89 (below_size HB.out) (fun k_ h_=>⟨⟨⟨⟨.inr (Nat.le_trans (below_size HB.out) h_),Kd.fresh' (Kd.N_lt HN47.out) k_ h_⟩,Kd.fresh' (Kd.N_lt HN68.out) k_ h_⟩,Kd.freshB (g:=g1) BKg1.out k_ h_⟩,Kd.freshB (g:=g11) BKg11.out k_ h_⟩)
 replace HN47:=znr (u:=v89) HN47.out hba hb
 replace HN68:=znr (u:=v89) HN68.out hba hb
 replace BKg1:=zbb BKg1.out hb
 replace BKg11:=zbb BKg11.out hb
 replace HB:=zhb HB.out hb
 clear hn89 hba hb
 clear j17 j18 j19 j1a j1b j1c j1d j1e
 replace cBKg1:=MB.lz8 BKg1.out
 replace cBKg11:=MB.lz5 BKg11.out
 refine wpList_nil ?_
 change wpAnyLast _ _ _ _ _ _ 2 #[true,true,true,true,true,true,true,true,true,false,false] ⟨[_,_,_,_,_,_,_,_,_,_,_,_,_,_,_,_,_,_,_,_,_,_,_,_,_,_,_,_,_,_,_,_,_,_].toArray,[]⟩ _
 refine MW.last_fin (i:=9) (listed':= #[true,true,true,true,true,true,true,true,true,true,false]) rfl (by kernel_rfl) (by kernel_rfl) (by kernel_rfl) ?_
 obtain⟨A103,cp104,he_⟩:=Kd.N_slice HN47.out
 subst he_
 have HL106:=za (Kd.N_reads' HN47.out).2.1
 have HF105:=za (Kd.N_F HN47.out)
 clear HN47
 replace HN68:=za (Kd.N_mono (ok:=(fun k_=>((((P_ k_∨w.heap.size≤k_)∧some k_≠((.slice A103 t44.length cp104):Value).ownBlock)∧k_≠g1)∧k_≠g11)∧some k_≠(v89:Value).ownBlock)) HN68.out (fun k_ hk_=>⟨⟨⟨hk_.1.1.1.1,hk_.1.1.2⟩,hk_.1.2⟩,hk_.2⟩):Kd.N k57 _ _ _ (fun k_=>(((P_ k_∨w.heap.size≤k_)∧k_≠g1)∧k_≠g11)∧some k_≠(v89:Value).ownBlock) _ _)
 replace HN89:=za (Kd.N_mono (ok:=(fun k_=>((((P_ k_∨w.heap.size≤k_)∧some k_≠((.slice A103 t44.length cp104):Value).ownBlock)∧some k_≠(v68:Value).ownBlock)∧k_≠g1)∧k_≠g11)) HN89.out (fun k_ hk_=>⟨⟨⟨hk_.1.1.1.1,hk_.1.1.2⟩,hk_.1.2⟩,hk_.2⟩):Kd.N k57 _ _ _ (fun k_=>(((P_ k_∨w.heap.size≤k_)∧some k_≠(v68:Value).ownBlock)∧k_≠g1)∧k_≠g11) _ _)
 obtain⟨A107,cp108,he_⟩:=Kd.N_slice HN68.out
 subst he_
 have HL110:=za (Kd.N_reads' HN68.out).2.1
 have HF109:=za (Kd.N_F HN68.out)
 clear HN68
 replace HF105:=za (Kd.F_mono (ok:=(fun k_=>((((P_ k_∨w.heap.size≤k_)∧k_≠g1)∧k_≠g11)∧some k_≠((.slice A107 t65.length cp108):Value).ownBlock)∧some k_≠(v89:Value).ownBlock)) HF105.out (fun k_ hk_=>⟨⟨⟨hk_.1.1.1.1,hk_.1.1.1.2⟩,hk_.1.1.2⟩,hk_.2⟩):Kd.F k57 _ (fun k_=>(((P_ k_∨w.heap.size≤k_)∧k_≠g1)∧k_≠g11)∧some k_≠(v89:Value).ownBlock) _ _ _)
 replace HN89:=za (Kd.N_mono (ok:=(fun k_=>(((P_ k_∨w.heap.size≤k_)∧some k_≠((.slice A107 t65.length cp108):Value).ownBlock)∧k_≠g1)∧k_≠g11)) HN89.out (fun k_ hk_=>⟨⟨hk_.1.1.1,hk_.1.2⟩,hk_.2⟩):Kd.N k57 _ _ _ (fun k_=>((P_ k_∨w.heap.size≤k_)∧k_≠g1)∧k_≠g11) _ _)
 obtain⟨A111,cp112,he_⟩:=Kd.N_slice HN89.out
 subst he_
 have HL114:=za (Kd.N_reads' HN89.out).2.1
 have HF113:=za (Kd.N_F HN89.out)
 clear HN89
 replace HF105:=za (Kd.F_mono (ok:=(fun k_=>(((P_ k_∨w.heap.size≤k_)∧k_≠g1)∧k_≠g11)∧some k_≠((.slice A111 t86.length cp112):Value).ownBlock)) HF105.out (fun k_ hk_=>hk_.1):Kd.F k57 _ (fun k_=>((P_ k_∨w.heap.size≤k_)∧k_≠g1)∧k_≠g11) _ _ _)
 replace HF109:=za (Kd.F_mono (ok:=(fun k_=>(((P_ k_∨w.heap.size≤k_)∧k_≠g1)∧k_≠g11)∧some k_≠((.slice A111 t86.length cp112):Value).ownBlock)) HF109.out (fun k_ hk_=>hk_.1):Kd.F k57 _ (fun k_=>((P_ k_∨w.heap.size≤k_)∧k_≠g1)∧k_≠g11) _ _ _)
 go_wp2_with (((with_reducible refine gate_dst (N:=15) rfl ?_);(try(refine gate_guard (by rfl) ?_;dsimp only));refine Kd.N_lit k57 w.heap.size 57 rfl (N':=15) rfl (xs:=[(⟨t40,t41,t42,t43,t44⟩:S57),(⟨t61,t62,t63,t64,t65⟩:S57),(⟨t82,t83,t84,t85,t86⟩:S57)]) (inner:=[.int .i64 t40,.bool t41,.int .i64 t42,.string t43,.slice A103 t44.length cp104,.int .i64 t61,.bool t62,.int .i64 t63,.string t64,.slice A107 t65.length cp108,.int .i64 t82,.bool t83,.int .i64 t84,.string t85,.slice A111 t86.length cp112]) (ok:=(fun k_=>((P_ k_∨w.heap.size≤k_)∧k_≠g1)∧k_≠g11)) (okp:=(fun k_=>((P_ k_∨w.heap.size≤k_)∧k_≠g1)∧k_≠g11)) ?hr ?hp (fun _ hk_=>hk_) ?hf HB.out (below_size HB.out) (by first|simp|decide) ?_;(case hr=>first|(go_simp;done)|(go_simp;rfl));(case hp=>exact(Reps.c5 (k57_mkF _ _ (⟨t40,t41,t42,t43,t44⟩:S57) HL106.out HF105.out) (Reps.c5 (k57_mkF _ _ (⟨t61,t62,t63,t64,t65⟩:S57) HL110.out HF109.out) (Reps.c5 (k57_mkF _ _ (⟨t82,t83,t84,t85,t86⟩:S57) HL114.out HF113.out) (Reps.none _ _)))));(case hf=>exact(show ∀ k_,w88.heap.size≤k_→(fun k_=>((P_ k_∨w.heap.size≤k_)∧k_≠g1)∧k_≠g11) k_ from fun k_ h_=>⟨⟨.inr (Nat.le_trans (below_size HB.out) h_),Kd.freshB (g:=g1) BKg1.out k_ h_⟩,Kd.freshB (g:=g11) BKg11.out k_ h_⟩) _ (Nat.le_refl _));intro v115 w116 hn1 hb1 hg1 hat1);replace hat1:=za hat1;refine stop_ ?_)
 refine zg ?_
 replace hat1:=hat1.out
 have hbe:=MW.grown_below hg1
 have hba:=MW.base_of hat1
 replace BKg1:=za (blk_below (g:=g1) BKg1.out hbe)
 replace BKg11:=za (blk_below (g:=g11) BKg11.out hbe)
 replace HB:=za hb1
 have HN117:=za hn1
 clear hn1 hb1 hg1 hat1 hbe hba
 replace cBKg1:=MB.lz8 BKg1.out
 replace cBKg11:=MB.lz5 BKg11.out
 refine wpList_nil ?_
 change wpAnyLast _ _ _ _ _ _ 1 #[true,true,true,true,true,true,true,true,true,true,false] ⟨[_,_,_,_,_,_,_,_,_,_,_,_,_,_,_,_,_,_,_,_,_,_,_,_,_,_,_,_,_,_,_,_,_,_].toArray,[]⟩ _
 refine zlp 10 (v115) #[_,_,_,_,_,_,_,_,_,_,_] ⟨[_,_,_,_,_,_,_,_,_,_,_,_,_,_,_,_,_,_,_,_,_,_,_,_,_,_,_,_,_,_,_,_,_,_].toArray,[]⟩ (h:=?_)
 refine MW.last_done (by kernel_rfl) ?_ _
 clear hwr_
 replace HH:=zqe HH
 rcases HH with⟨HH,hk132,hk133⟩|⟨HH,hk178,hk179⟩
 ·(try simp only[hk132,Bool.not_true,Bool.not_false])
  (try simp only[hk133,Bool.not_true,Bool.not_false])
  replace HH:=zd HH
  obtain⟨t134,At135,HH⟩:=HH
  go_wp2_with ((with_reducible refine gc 22 rfl ?_);refine zc 22 (some 31) Try.func22 #[.int .i64 a0_1] (h:=?_);(with_reducible refine(reply_tag.calls  a0_1 t134 _  At135.out).mono ?_);rintro e w' ⟨rfl,⟨nd,rfl⟩⟩;refine⟨_,rfl,?_⟩)
  refine zg ?_
  obtain⟨A137,cp138,he_⟩:=Kd.N_slice HN117.out
  subst he_
  have HL140:=za (Kd.N_reads' HN117.out).2.1
  have HF139:=za (Kd.N_F HN117.out)
  clear HN117
  replace HH:=zd HH
  obtain⟨⟨t141,t142,t143,t144,t145⟩,At146,HH⟩:=HH
  dsimp only at HH
  go_wp2_with ((with_reducible refine gc 45 rfl ?_);refine zc 45 (some 33) Try.func45 #[.int .i64 1,.int .i64 t134,.slice A137 [(⟨t40,t41,t42,t43,t44⟩:S57),(⟨t61,t62,t63,t64,t65⟩:S57),(⟨t82,t83,t84,t85,t86⟩:S57)].length cp138] (h:=?_);(with_reducible refine(reply_group.calls (fun k_=>((P_ k_∨w.heap.size≤k_)∧k_≠g1)∧k_≠g11) 1 t134 _ _ [(⟨t40,t41,t42,t43,t44⟩:S57),(⟨t61,t62,t63,t64,t65⟩:S57),(⟨t82,t83,t84,t85,t86⟩:S57)] t141 t142 t143 t144 t145 _ (by(with_reducible repeat(first|apply Kd.F_alloc|apply Kd.F_drewN|apply Kd.F_drew));exact HF139.out) HL140.out At146.out).mono ?_);rintro e w147 ⟨v148,rfl,hn148,hb⟩;refine⟨_,rfl,?_⟩)
  refine zg ?_
  have hba:=Kd.N_base hn148
  have HN148:=znl (ok2:=(fun k_=>((P_ k_∨w.heap.size≤k_)∧k_≠g1)∧k_≠g11)) hn148 (below_size (by repeat(first|(with_reducible first|exact HB.out|apply below_alloc|apply pw_below_drewN|apply below_drew1)|exact HB.out))) (fun k_ hk_=>hk_.elim (fun h_=>h_) (fun h_=>⟨⟨.inr (Nat.le_trans (below_size (by repeat(first|(with_reducible first|exact HB.out|apply below_alloc|apply pw_below_drewN|apply below_drew1)|exact HB.out))) h_),Kd.freshB (g:=g1) (o:=.cells #[.int .i64 a0_0,.int .i64 a0_1,.bool a0_2,.int .i64 a0_3,.string a0_4,.string a0_5,.string a0_6,.slice A0_7 l0_7.length c0_7] 27 (0,0)) (by(with_reducible repeat(first|refine blk_drewN ?_ _|refine blk_drew ?_|refine blk_alloc ?_ _));exact BKg1.out) k_ h_⟩,Kd.freshB (g:=g11) (o:=.cells #[.int .i64 0,.bool false,.int .i64 0,.string (⟨#[]⟩:ByteArray),.slice none 0 0] 57 (0,0)) (by(with_reducible repeat(first|refine blk_drewN ?_ _|refine blk_drew ?_|refine blk_alloc ?_ _));exact BKg11.out) k_ h_⟩))
  replace BKg1:=za (blk_below (g:=g1) (o:=.cells #[.int .i64 a0_0,.int .i64 a0_1,.bool a0_2,.int .i64 a0_3,.string a0_4,.string a0_5,.string a0_6,.slice A0_7 l0_7.length c0_7] 27 (0,0)) (by(with_reducible repeat(first|refine blk_drewN ?_ _|refine blk_drew ?_|refine blk_alloc ?_ _));exact BKg1.out) hb)
  replace BKg11:=za (blk_below (g:=g11) (o:=.cells #[.int .i64 0,.bool false,.int .i64 0,.string (⟨#[]⟩:ByteArray),.slice none 0 0] 57 (0,0)) (by(with_reducible repeat(first|refine blk_drewN ?_ _|refine blk_drew ?_|refine blk_alloc ?_ _));exact BKg11.out) hb)
  replace HB:=zhb (by repeat(first|(with_reducible first|exact HB.out|apply below_alloc|apply pw_below_drewN|apply below_drew1)|exact HB.out)) hb
  clear hn148 hba hb
  replace cBKg1:=MB.lz8 BKg1.out
  replace cBKg11:=MB.lz5 BKg11.out
  obtain⟨A163,cp164,he_⟩:=Kd.N_slice HN148.out
  subst he_
  go_wp2_with ((with_reducible refine gs 57 2 rfl ?_);refine zs 57 2 #[.int .i64 t141,.bool t142,.int .i64 t143,.string t144,(.slice A163 t145.length cp164)] BKg11.out [.int .i64 t141,.bool t142,.int .i64 t143,.string t144,(.slice A163 t145.length cp164)] (h:=?_);intro w162 hbk hg)
  refine zg ?_
  replace HN148:=zng HN148.out hg fun k_ hk_=>hk_.2
  replace BKg1:=zbg BKg1.out hg NEg1_g11
  replace HB:=zhg HB.out hg (below_size HB.out) GEg11
  replace BKg11:=hbk
  clear hg hbk
  replace cBKg1:=MB.lz8 BKg1.out
  replace cBKg11:=MB.lz5 BKg11.out
  have H:=HH.out
  simp only[Option.some.injEq,Prod.mk.injEq] at H
  obtain⟨rfl,rfl,rfl,rfl,rfl⟩:=H
  clear HH
  go_wp2
  refine bodyPost_ret (MW.results_c rfl _ _ g11 57 #[.int .i64 t141,.bool t142,.int .i64 t143,.string t144,(.slice A163 t145.length cp164)] (0,0) _ rfl BKg11.out Try.underlying57 rfl (by kernel_rfl)) rfl ?_
  exact⟨_,by first|rfl|(simp;done)|(simp[*];done),(Kd.N_mono (ok:=(fun k_=>((P_ k_∨w.heap.size≤k_)∧k_≠g1)∧k_≠g11)) HN148.out (fun k_ hk_=>hk_.1.1)),HB.out⟩
 (try simp only[hk178,Bool.not_true,Bool.not_false])
 (try simp only[hk179,Bool.not_true,Bool.not_false])
 replace HH:=zd HH
 obtain⟨⟨t180,t181,t182,t183,t184,t185⟩,At186,HH⟩:=HH
 dsimp only at HH
 go_wp2_with ((with_reducible refine gc 61 rfl ?_);refine zc 61 (some 22) Try.func61 #[.int .i64 2,.int .i64 10,.string a0_6] (h:=?_);(with_reducible refine(prims_Text.calls  2 10 a0_6 t180 t181 t182 t183 t184 t185 _  At186.out).mono ?_);rintro e w187 ⟨v188,rfl,hn188,hb⟩;refine⟨_,rfl,?_⟩)
 refine zg ?_
 have hba:=Kd.N_base hn188
 have HN188:=znl (ok2:=(fun k_=>(((P_ k_∨w.heap.size≤k_)∧some k_≠(v115:Value).ownBlock)∧k_≠g1)∧k_≠g11)) hn188 (below_size HB.out) (fun k_ h_=>⟨⟨⟨.inr (Nat.le_trans (below_size HB.out) h_),Kd.fresh' (Kd.N_lt HN117.out) k_ h_⟩,Kd.freshB (g:=g1) BKg1.out k_ h_⟩,Kd.freshB (g:=g11) BKg11.out k_ h_⟩)
 replace HN117:=znr (u:=v188) HN117.out hba hb
 replace BKg1:=zbb BKg1.out hb
 replace BKg11:=zbb BKg11.out hb
 replace HB:=zhb HB.out hb
 clear hn188 hba hb
 replace cBKg1:=MB.lz8 BKg1.out
 replace cBKg11:=MB.lz5 BKg11.out
 go_wp2_with ((with_reducible refine gd 4 rfl ?_);refine zb 4 57 #[.int .i64 0,.bool false,.int .i64 0,.string (⟨#[]⟩:ByteArray),.slice none 0 0] (h:=?_);intro g202 hg w203 BKg202 hb)
 refine zg ?_
 have GEg202:=zge hg (below_size HB.out)
 have NEg1_g202:=znq hg BKg1.out
 have NEg11_g202:=znq hg BKg11.out
 have NEg202_g11:=zsy NEg11_g202
 replace HN117:=zne HN117.out hg hb
 replace HN188:=zne HN188.out hg hb
 replace BKg1:=zbb BKg1.out hb
 replace BKg11:=zbb BKg11.out hb
 replace HB:=zhb HB.out hb
 clear hg hb
 replace cBKg1:=MB.lz8 BKg1.out
 replace cBKg11:=MB.lz5 BKg11.out
 replace cBKg202:=MB.lz5 BKg202.out
 obtain⟨A223,cp224,he_⟩:=Kd.N_slice HN188.out
 subst he_
 go_wp2_with ((with_reducible refine gs 57 4 rfl ?_);refine zs 57 4 #[.int .i64 t180,.bool t181,.int .i64 t182,.string t183,(.slice A223 t184.length cp224)] BKg202.out [.int .i64 t180,.bool t181,.int .i64 t182,.string t183,(.slice A223 t184.length cp224)] (h:=?_);intro w222 hbk hg)
 refine zg ?_
 replace HN117:=zng HN117.out hg fun k_ hk_=>hk_.2
 replace HN188:=zng HN188.out hg fun k_ hk_=>hk_.2
 replace BKg1:=zbg BKg1.out hg NEg1_g202
 replace BKg11:=zbg BKg11.out hg NEg11_g202
 replace HB:=zhg HB.out hg (below_size HB.out) GEg202
 replace BKg202:=hbk
 clear hg hbk
 replace cBKg1:=MB.lz8 BKg1.out
 replace cBKg11:=MB.lz5 BKg11.out
 replace cBKg202:=MB.lz5 BKg202.out
 have HL246:=za (Kd.N_reads' HN188.out).2.1
 have HF245:=za (Kd.N_F HN188.out)
 clear HN188
 replace HN117:=za (Kd.N_mono (ok:=(fun k_=>((((P_ k_∨w.heap.size≤k_)∧k_≠g1)∧k_≠g11)∧some k_≠((.slice A223 t184.length cp224):Value).ownBlock)∧k_≠g202)) HN117.out (fun k_ hk_=>⟨⟨⟨hk_.1.1.1.1,hk_.1.1.1.2⟩,hk_.1.1.2⟩,hk_.2⟩):Kd.N k57 _ _ _ (fun k_=>(((P_ k_∨w.heap.size≤k_)∧k_≠g1)∧k_≠g11)∧k_≠g202) _ _)
 obtain⟨HH,LMc247⟩:=zlm HH
 obtain⟨y248,hy248⟩:∃ y_:List (S57),y_=([(⟨t40,t41,t42,t43,t44⟩:S57),(⟨t61,t62,t63,t64,t65⟩:S57),(⟨t82,t83,t84,t85,t86⟩:S57)]++[(⟨t180,t181,t182,t183,t184⟩:S57)]):=⟨_,rfl⟩
 have H:((reply_tag.f a0_1).bind fun t270=>((reply_group.f 1 t270 y248).bind fun bt277=>(some (bt277.1,bt277.2.1,bt277.2.2.1,bt277.2.2.2.1,bt277.2.2.2.2))))=some (r1,r2,r3,r4,r5):=by rw[hy248];exact HH.out
 replace HH:=za H
 clear H
 have NYy248:=za hy248
 clear hy248
 go_wp2_with (((with_reducible refine gate_dst (N:=28) rfl ?_);(try(refine gate_guard (by rfl) ?_;dsimp only));refine Kd.N_append k57 w.heap.size rfl _ _ 55 57 (.agg #[(.int .i64 0),(.bool false),(.int .i64 0),(.string ⟨#[]⟩),(.slice none 0 0)]) 64 rfl Try.underlying55 info57 rfl (by decide) (by decide) (v115) [(⟨t40,t41,t42,t43,t44⟩:S57),(⟨t61,t62,t63,t64,t65⟩:S57),(⟨t82,t83,t84,t85,t86⟩:S57)] (⟨t180,t181,t182,t183,t184⟩:S57) [.int .i64 t180,.bool t181,.int .i64 t182,.string t183,.slice A223 t184.length cp224] (fun k_=>(((P_ k_∨w.heap.size≤k_)∧k_≠g1)∧k_≠g11)∧k_≠g202) (fun k_=>(fun k_=>(((P_ k_∨w.heap.size≤k_)∧k_≠g1)∧k_≠g11)∧k_≠g202) k_∧some k_≠(v115:Value).ownBlock) rfl rfl (k57_mkF _ _ (⟨t180,t181,t182,t183,t184⟩:S57) HL246.out (Kd.F_mono (ok:=(fun k_=>((((P_ k_∨w.heap.size≤k_)∧some k_≠(v115:Value).ownBlock)∧k_≠g1)∧k_≠g11)∧k_≠g202)) (by(with_reducible repeat(first|apply Kd.F_alloc|apply Kd.F_drewN|apply Kd.F_drew));exact HF245.out) (fun k_ hk_=>⟨⟨⟨⟨hk_.1.1.1.1,hk_.1.1.2⟩,hk_.1.2⟩,hk_.2⟩,hk_.1.1.1.2⟩))) (fun _ hk_=>hk_) (fun k_ h_=>⟨⟨⟨.inr (Nat.le_trans (below_size (by repeat(first|(with_reducible first|exact HB.out|apply below_alloc|apply pw_below_drewN|apply below_drew1)|exact HB.out))) h_),Kd.freshB (g:=g1) (o:=.cells #[.int .i64 a0_0,.int .i64 a0_1,.bool a0_2,.int .i64 a0_3,.string a0_4,.string a0_5,.string a0_6,.slice A0_7 l0_7.length c0_7] 27 (0,0)) (by(with_reducible repeat(first|refine blk_drewN ?_ _|refine blk_drew ?_|refine blk_alloc ?_ _));exact BKg1.out) k_ h_⟩,Kd.freshB (g:=g11) (o:=.cells #[.int .i64 0,.bool false,.int .i64 0,.string (⟨#[]⟩:ByteArray),.slice none 0 0] 57 (0,0)) (by(with_reducible repeat(first|refine blk_drewN ?_ _|refine blk_drew ?_|refine blk_alloc ?_ _));exact BKg11.out) k_ h_⟩,Kd.freshB (g:=g202) (o:=.cells #[.int .i64 t180,.bool t181,.int .i64 t182,.string t183,.slice A223 t184.length cp224] 57 (0,0)) (by(with_reducible repeat(first|refine blk_drewN ?_ _|refine blk_drew ?_|refine blk_alloc ?_ _));exact BKg202.out) k_ h_⟩) (by(with_reducible repeat(first|apply Kd.N_alloc|apply Kd.N_drewN|apply Kd.N_drew));exact HN117.out) (by repeat(first|(with_reducible first|exact HB.out|apply below_alloc|apply pw_below_drewN|apply below_drew1)|exact HB.out)) (below_size (by repeat(first|(with_reducible first|exact HB.out|apply below_alloc|apply pw_below_drewN|apply below_drew1)|exact HB.out))) (by first|(have:=LMc247.out;omega)|(have:=LMc247.out;simp at *;omega)) ?_;intro v249 w250 hn1 hb1 hg1 hat1);replace hat1:=za hat1;refine stop_ ?_)
 refine zg ?_
 replace hat1:=hat1.out
 replace BKg1:=za (blk_grown (g:=g1) (o:=.cells #[.int .i64 a0_0,.int .i64 a0_1,.bool a0_2,.int .i64 a0_3,.string a0_4,.string a0_5,.string a0_6,.slice A0_7 l0_7.length c0_7] 27 (0,0)) (by(with_reducible repeat(first|refine blk_drewN ?_ _|refine blk_drew ?_|refine blk_alloc ?_ _));exact BKg1.out) hg1 (Kd.N_away (ok:=(fun k_=>(((P_ k_∨w.heap.size≤k_)∧k_≠g1)∧k_≠g11)∧k_≠g202)) HN117.out (fun k_ hk_=>hk_.1.1.2)))
 replace BKg11:=za (blk_grown (g:=g11) (o:=.cells #[.int .i64 0,.bool false,.int .i64 0,.string (⟨#[]⟩:ByteArray),.slice none 0 0] 57 (0,0)) (by(with_reducible repeat(first|refine blk_drewN ?_ _|refine blk_drew ?_|refine blk_alloc ?_ _));exact BKg11.out) hg1 (Kd.N_away (ok:=(fun k_=>(((P_ k_∨w.heap.size≤k_)∧k_≠g1)∧k_≠g11)∧k_≠g202)) HN117.out (fun k_ hk_=>hk_.1.2)))
 replace BKg202:=za (blk_grown (g:=g202) (o:=.cells #[.int .i64 t180,.bool t181,.int .i64 t182,.string t183,.slice A223 t184.length cp224] 57 (0,0)) (by(with_reducible repeat(first|refine blk_drewN ?_ _|refine blk_drew ?_|refine blk_alloc ?_ _));exact BKg202.out) hg1 (Kd.N_away (ok:=(fun k_=>(((P_ k_∨w.heap.size≤k_)∧k_≠g1)∧k_≠g11)∧k_≠g202)) HN117.out (fun k_ hk_=>hk_.2)))
 replace HB:=za hb1
 clear HN117
 have HN251:=za hn1
 clear hn1 hb1 hg1 hat1
 replace HN251:=za (by rw[NYy248.out];exact HN251.out:Kd.N k57 57 w250 w.heap.size (fun k_=>(((P_ k_∨w.heap.size≤k_)∧k_≠g1)∧k_≠g11)∧k_≠g202) v249 y248)
 replace cBKg1:=MB.lz8 BKg1.out
 replace cBKg11:=MB.lz5 BKg11.out
 replace cBKg202:=MB.lz5 BKg202.out
 replace HH:=zd HH
 obtain⟨t270,At271,HH⟩:=HH
 go_wp2_with ((with_reducible refine gc 22 rfl ?_);refine zc 22 (some 31) Try.func22 #[.int .i64 a0_1] (h:=?_);(with_reducible refine(reply_tag.calls  a0_1 t270 _  At271.out).mono ?_);rintro e w' ⟨rfl,⟨nd,rfl⟩⟩;refine⟨_,rfl,?_⟩)
 refine zg ?_
 obtain⟨A273,cp274,he_⟩:=Kd.N_slice HN251.out
 subst he_
 have HL276:=za (Kd.N_reads' HN251.out).2.1
 have HF275:=za (Kd.N_F HN251.out)
 clear HN251
 replace HH:=zd HH
 obtain⟨⟨t277,t278,t279,t280,t281⟩,At282,HH⟩:=HH
 dsimp only at HH
 go_wp2_with ((with_reducible refine gc 45 rfl ?_);refine zc 45 (some 33) Try.func45 #[.int .i64 1,.int .i64 t270,.slice A273 y248.length cp274] (h:=?_);(with_reducible refine(reply_group.calls (fun k_=>(((P_ k_∨w.heap.size≤k_)∧k_≠g1)∧k_≠g11)∧k_≠g202) 1 t270 _ _ y248 t277 t278 t279 t280 t281 _ (by(with_reducible repeat(first|apply Kd.F_alloc|apply Kd.F_drewN|apply Kd.F_drew));exact HF275.out) HL276.out At282.out).mono ?_);rintro e w283 ⟨v284,rfl,hn284,hb⟩;refine⟨_,rfl,?_⟩)
 refine zg ?_
 have hba:=Kd.N_base hn284
 have HN284:=znl (ok2:=(fun k_=>(((P_ k_∨w.heap.size≤k_)∧k_≠g1)∧k_≠g11)∧k_≠g202)) hn284 (below_size (by repeat(first|(with_reducible first|exact HB.out|apply below_alloc|apply pw_below_drewN|apply below_drew1)|exact HB.out))) (fun k_ hk_=>hk_.elim (fun h_=>h_) (fun h_=>⟨⟨⟨.inr (Nat.le_trans (below_size (by repeat(first|(with_reducible first|exact HB.out|apply below_alloc|apply pw_below_drewN|apply below_drew1)|exact HB.out))) h_),Kd.freshB (g:=g1) (o:=.cells #[.int .i64 a0_0,.int .i64 a0_1,.bool a0_2,.int .i64 a0_3,.string a0_4,.string a0_5,.string a0_6,.slice A0_7 l0_7.length c0_7] 27 (0,0)) (by(with_reducible repeat(first|refine blk_drewN ?_ _|refine blk_drew ?_|refine blk_alloc ?_ _));exact BKg1.out) k_ h_⟩,Kd.freshB (g:=g11) (o:=.cells #[.int .i64 0,.bool false,.int .i64 0,.string (⟨#[]⟩:ByteArray),.slice none 0 0] 57 (0,0)) (by(with_reducible repeat(first|refine blk_drewN ?_ _|refine blk_drew ?_|refine blk_alloc ?_ _));exact BKg11.out) k_ h_⟩,Kd.freshB (g:=g202) (o:=.cells #[.int .i64 t180,.bool t181,.int .i64 t182,.string t183,.slice A223 t184.length cp224] 57 (0,0)) (by(with_reducible repeat(first|refine blk_drewN ?_ _|refine blk_drew ?_|refine blk_alloc ?_ _));exact BKg202.out) k_ h_⟩))
 replace BKg1:=za (blk_below (g:=g1) (o:=.cells #[.int .i64 a0_0,.int .i64 a0_1,.bool a0_2,.int .i64 a0_3,.string a0_4,.string a0_5,.string a0_6,.slice A0_7 l0_7.length c0_7] 27 (0,0)) (by(with_reducible repeat(first|refine blk_drewN ?_ _|refine blk_drew ?_|refine blk_alloc ?_ _));exact BKg1.out) hb)
 replace BKg11:=za (blk_below (g:=g11) (o:=.cells #[.int .i64 0,.bool false,.int .i64 0,.string (⟨#[]⟩:ByteArray),.slice none 0 0] 57 (0,0)) (by(with_reducible repeat(first|refine blk_drewN ?_ _|refine blk_drew ?_|refine blk_alloc ?_ _));exact BKg11.out) hb)
 replace BKg202:=za (blk_below (g:=g202) (o:=.cells #[.int .i64 t180,.bool t181,.int .i64 t182,.string t183,.slice A223 t184.length cp224] 57 (0,0)) (by(with_reducible repeat(first|refine blk_drewN ?_ _|refine blk_drew ?_|refine blk_alloc ?_ _));exact BKg202.out) hb)
 replace HB:=zhb (by repeat(first|(with_reducible first|exact HB.out|apply below_alloc|apply pw_below_drewN|apply below_drew1)|exact HB.out)) hb
 clear hn284 hba hb
 replace cBKg1:=MB.lz8 BKg1.out
 replace cBKg11:=MB.lz5 BKg11.out
 replace cBKg202:=MB.lz5 BKg202.out
 obtain⟨A304,cp305,he_⟩:=Kd.N_slice HN284.out
 subst he_
 go_wp2_with ((with_reducible refine gs 57 2 rfl ?_);refine zs 57 2 #[.int .i64 t277,.bool t278,.int .i64 t279,.string t280,(.slice A304 t281.length cp305)] BKg11.out [.int .i64 t277,.bool t278,.int .i64 t279,.string t280,(.slice A304 t281.length cp305)] (h:=?_);intro w303 hbk hg)
 refine zg ?_
 replace HN284:=zng HN284.out hg fun k_ hk_=>hk_.1.2
 replace BKg1:=zbg BKg1.out hg NEg1_g11
 replace BKg202:=zbg BKg202.out hg NEg202_g11
 replace HB:=zhg HB.out hg (below_size HB.out) GEg11
 replace BKg11:=hbk
 clear hg hbk
 replace cBKg1:=MB.lz8 BKg1.out
 replace cBKg11:=MB.lz5 BKg11.out
 replace cBKg202:=MB.lz5 BKg202.out
 have H:=HH.out
 simp only[Option.some.injEq,Prod.mk.injEq] at H
 obtain⟨rfl,rfl,rfl,rfl,rfl⟩:=H
 clear HH
 go_wp2
 refine bodyPost_ret (MW.results_c rfl _ _ g11 57 #[.int .i64 t277,.bool t278,.int .i64 t279,.string t280,(.slice A304 t281.length cp305)] (0,0) _ rfl BKg11.out Try.underlying57 rfl (by kernel_rfl)) rfl ?_
 exact⟨_,by first|rfl|(simp;done)|(simp[*];done),(Kd.N_mono (ok:=(fun k_=>(((P_ k_∨w.heap.size≤k_)∧k_≠g1)∧k_≠g11)∧k_≠g202)) HN284.out (fun k_ hk_=>hk_.1.1.1)),HB.out⟩
end Go.Proofs.Ytdjkemhmhkpmkaa.GA
