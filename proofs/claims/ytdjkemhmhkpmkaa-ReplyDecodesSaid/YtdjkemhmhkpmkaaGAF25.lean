import Derived.Test.YtdjkemhmhkpmkaaGA0
import Derived.Test.YtdjkemhmhkpmkaaGAF42
import Derived.Test.YtdjkemhmhkpmkaaGAF43
import Derived.Test.YtdjkemhmhkpmkaaGM1
import Derived.Test.YtdjkemhmhkpmkaaGM2
import Derived.Test.YtdjkemhmhkpmkaaMX
namespace Go.Proofs.Ytdjkemhmhkpmkaa.GA
open Go.RowKit Go.Proofs.Ytdjkemhmhkpmkaa Go.Proofs.Ytdjkemhmhkpmkaa.MW Go.Proofs.YtdjkemhmhkpmkaaW.PrintWords Go.Proofs.YtdjkemhmhkpmkaaW.PrintLast Go.Proofs.YtdjkemhmhkpmkaaW.PrintMore
attribute [local go_sem] max2_int min2_int max_two min_two
set_option maxHeartbeats 8000000
set_option maxRecDepth 100000
set_option linter.unusedVariables false
set_option linter.unusedSimpArgs false
def reply_laid.f (k:Nat) (a0_0:Int) (a0_1:Int) (a0_2:Bool) (a0_3:Int) (a0_4:ByteArray) (a0_5:ByteArray) (a0_6:ByteArray) (l0_7:List (S46)):Option (ByteArray × Int):=if a0_2=true then((reply_number.f k 2 a0_0).bind fun bt21=>((reply_entry.f k a0_0 a0_1 true a0_3 a0_4 a0_5 a0_6 l0_7).bind fun bt37=>((reply_group.f 0 16 [(⟨bt21.1,bt21.2.1,bt21.2.2.1,bt21.2.2.2.1,bt21.2.2.2.2⟩:S57),(⟨bt37.1,bt37.2.1,bt37.2.2.1,bt37.2.2.2.1,bt37.2.2.2.2⟩:S57)]).bind fun bt76=>((ber_Encode.f k [(⟨bt76.1,bt76.2.1,bt76.2.2.1,bt76.2.2.2.1,bt76.2.2.2.2⟩:S57)]).bind fun bt111=>(some (bt111.1,bt111.2)))))) else((reply_number.f k 2 a0_0).bind fun bt132=>((reply_result.f k a0_0 a0_1 false a0_3 a0_4 a0_5 a0_6 l0_7).bind fun bt148=>((reply_group.f 0 16 [(⟨bt132.1,bt132.2.1,bt132.2.2.1,bt132.2.2.2.1,bt132.2.2.2.2⟩:S57),(⟨bt148.1,bt148.2.1,bt148.2.2.1,bt148.2.2.2.1,bt148.2.2.2.2⟩:S57)]).bind fun bt187=>((ber_Encode.f k [(⟨bt187.1,bt187.2.1,bt187.2.2.1,bt187.2.2.2.1,bt187.2.2.2.2⟩:S57)]).bind fun bt222=>(some (bt222.1,bt222.2))))))
theorem reply_laid.mono:∀ a0_ a1_ a2_ a3_ a4_ a5_ a6_ a7_ k,LeO (reply_laid.f k a0_ a1_ a2_ a3_ a4_ a5_ a6_ a7_) (reply_laid.f (k+1) a0_ a1_ a2_ a3_ a4_ a5_ a6_ a7_):=by
 intro a0_ a1_ a2_ a3_ a4_ a5_ a6_ a7_ k
 unfold reply_laid.f
 with_reducible repeat' first|exact ber_Encode.mono _ _|exact reply_entry.mono _ _ _ _ _ _ _ _ _|exact reply_number.mono _ _ _|exact reply_result.mono _ _ _ _ _ _ _ _ _|exact LeO.refl _|exact LeO.none _|refine LeO.ite ?_ ?_|refine LeO.bind ?_ (fun _=>?_)
theorem reply_laid.calls (k:Nat) (P_:Nat→Prop) (a0_0:Int) (a0_1:Int) (a0_2:Bool) (a0_3:Int) (a0_4:ByteArray) (a0_5:ByteArray) (a0_6:ByteArray) (A0_7:Option Addr) (c0_7:Nat) (l0_7:List (S46)) (r1:ByteArray) (r2:Int) (w:World) (hs0_7:Kd.F k46 w P_ A0_7 l0_7.length l0_7) (hc0_7:l0_7.length≤c0_7) (h:reply_laid.f k a0_0 a0_1 a0_2 a0_3 a0_4 a0_5 a0_6 l0_7=some (r1,r2)):
  Calls Try.prog 25 #[.agg #[.int .i64 a0_0,.int .i64 a0_1,.bool a0_2,.int .i64 a0_3,.string a0_4,.string a0_5,.string a0_6,.slice A0_7 l0_7.length c0_7]] w (fun e w'=>e=.returned (.tuple #[.string r1,.int .i64 r2])∧Below w.heap.size w w'):=by
 unfold reply_laid.f at h
 have HH:=za h
 clear h
 have HF0_7:=zfp hs0_7
 have HL0_7:=za hc0_7
 clear hs0_7 hc0_7
 have HB:=za (Below.refl w.heap.size w)
 have hu27:=Try.underlying27
 go_enter Try.func25,Try.ntmps25
 go_wp2_with ((with_reducible refine gd 1 rfl ?_);refine zb 1 27 #[.int .i64 a0_0,.int .i64 a0_1,.bool a0_2,.int .i64 a0_3,.string a0_4,.string a0_5,.string a0_6,.slice A0_7 l0_7.length c0_7] (h:=?_);intro g1 hg w2 BKg1 hb)
 refine zg ?_
 replace HF0_7:=zfe HF0_7.out hg hb
 replace HB:=zhb HB.out hb
 clear hg hb
 replace cBKg1:=MB.lz8 BKg1.out
 by_cases c11:a0_2=true
 ·replace HH:=MW.hpos HH c11
  subst c11
  go_wp2
  have hwr_:∀ n_:Int,IntKind.i64.wrap n_=wrap64 n_:=fun n_=>IntWalk.i64_left n_
  refine wp_region_any (by kernel_rfl) ?_
  change wpAny _ _ _ _ 14 #[false,false,false,false,false,false,false,false,false,false,false,false,false,false] _ w2.drew
  obtain⟨w12,hw_⟩:∃ w_:World,w_=w2.drew:=⟨_,rfl⟩
  rw[← hw_]
  have hb:Below w2.heap.size w2 w12:=by rw[hw_];exact below_drew1 (Below.refl _ _)
  clear hw_
  replace HF0_7:=zfb HF0_7.out hb
  replace BKg1:=zbb BKg1.out hb
  replace HB:=zhb HB.out hb
  clear hb
  obtain⟨jd,je,jf,jg,jh,ji,jj,jk⟩:=MB.lz8 BKg1.out
  refine MW.last_in (ds:=[5,6,7,8,9]) (zk jd (zk je (zk jf (zk jg (zk jh (zk ji (zk jj (zk jk z0)))))))) ?_
  refine zlp 0 (.pointer (some ⟨g1,0,none⟩)) #[_,_,_,_,_,_,_,_,_,_,_,_,_,_] ⟨[_,_,_,_,_,_,_,_,_,_,_,_,_,_,_,_,_,_,_].toArray,[]⟩ (h:=?_)
  refine zlp 3 (.func (.func 43) #[] #[]) #[_,_,_,_,_,_,_,_,_,_,_,_,_,_] ⟨[_,_,_,_,_,_,_,_,_,_,_,_,_,_,_,_,_,_,_].toArray,[]⟩ (h:=?_)
  refine MW.last_take (i:=1) (v:=.int .i64 a0_0) (listed':= #[_,_,_,_,_,_,_,_,_,_,_,_,_,_]) (a':=⟨[_,_,_,_,_,_,_,_,_,_,_,_,_,_,_,_,_,_,_].toArray,[]⟩) rfl (by kernel_rfl) (by kernel_rfl) (by kernel_rfl) (by kernel_rfl) (by kernel_rfl) (fun _ _ _ h_=>h_) (by kernel_rfl) (fun w_ hS_=>?go) (zk jd (zk je (zk jf (zk jg (zk jh (zk ji (zk jj (zk jk z0)))))))) rfl rfl ?_
  case go=>obtain⟨hs0_,_,_,_,_,_,_,_,_⟩:=hS_;first|(go_simp;done)|(go_simp;rfl)
  refine MW.last_take (i:=4) (v:=.agg #[.int .i64 a0_0,.int .i64 a0_1,.bool true,.int .i64 a0_3,.string a0_4,.string a0_5,.string a0_6,.slice A0_7 l0_7.length c0_7]) (listed':= #[_,_,_,_,_,_,_,_,_,_,_,_,_,_]) (a':=⟨[_,_,_,_,_,_,_,_,_,_,_,_,_,_,_,_,_,_,_].toArray,[]⟩) rfl (by kernel_rfl) (by kernel_rfl) (by kernel_rfl) (by kernel_rfl) (by kernel_rfl) (fun _ _ _ h_=>h_) (by kernel_rfl) (fun w_ hS_=>?go) (zk jd (zk je (zk jf (zk jg (zk jh (zk ji (zk jj (zk jk z0)))))))) rfl rfl ?_
  case go=>obtain⟨hs0_,hs1_,hs2_,hs3_,hs4_,hs5_,hs6_,hs7_,_⟩:=hS_;first|(go_simp;done)|(go_simp;rfl)
  refine MW.last_act (i:=2) (listed':= #[true,true,true,true,true,false,false,false,false,false,false,false,false,false]) rfl (by kernel_rfl) (by kernel_rfl) (by decide) ?_
  replace HH:=zd HH
  obtain⟨⟨t21,t22,t23,t24,t25⟩,At26,HH⟩:=HH
  dsimp only at HH
  go_wp2_with ((with_reducible refine gc 46 rfl ?_);refine zc 46 (some 9) Try.func46 #[.int .i64 2,.int .i64 a0_0] (h:=?_);(with_reducible refine(reply_number.calls k  2 a0_0 t21 t22 t23 t24 t25 _  At26.out).mono ?_);rintro e w27 ⟨v28,rfl,hn28,hb⟩;refine⟨_,rfl,?_⟩)
  refine zg ?_
  have hba:=Kd.N_base hn28
  have HN28:=znl (ok2:=(fun k_=>(P_ k_∨w.heap.size≤k_)∧k_≠g1)) hn28 (below_size HB.out) (fun k_ h_=>⟨.inr (Nat.le_trans (below_size HB.out) h_),Kd.freshB (g:=g1) BKg1.out k_ h_⟩)
  replace HF0_7:=zfr (v:=v28) HF0_7.out hba hb
  replace BKg1:=zbb BKg1.out hb
  replace HB:=zhb HB.out hb
  clear hn28 hba hb
  clear jd je jf jg jh ji jj jk
  obtain⟨jt,ju,jv,jw,jx,jy,jz,jA⟩:=MB.lz8 BKg1.out
  refine wpList_nil ?_
  change MW.Cells _ _∧wpAnyLast _ _ _ _ _ _ 9 #[true,true,true,true,true,false,false,false,false,false,false,false,false,false] ⟨[_,_,_,_,_,_,_,_,_,_,_,_,_,_,_,_,_,_,_].toArray,[]⟩ _
  refine⟨(zk jt (zk ju (zk jv (zk jw (zk jx (zk jy (zk jz (zk jA z0)))))))),?_⟩
  refine MW.last_fin (i:=5) (listed':= #[true,true,true,true,true,true,false,false,false,false,false,false,false,false]) rfl (by kernel_rfl) (by kernel_rfl) (by kernel_rfl) ?_
  replace HH:=zd HH
  obtain⟨⟨t37,t38,t39,t40,t41⟩,At42,HH⟩:=HH
  dsimp only at HH
  go_wp2_with ((with_reducible refine gd 12 rfl ?_);refine zv 12 Try.func43 #[.agg #[.int .i64 a0_0,.int .i64 a0_1,.bool true,.int .i64 a0_3,.string a0_4,.string a0_5,.string a0_6,.slice A0_7 l0_7.length c0_7]] #[] (h:=?_);(with_reducible refine(reply_entry.calls k (fun k_=>((P_ k_∨w.heap.size≤k_)∧some k_≠(v28:Value).ownBlock)∧k_≠g1) a0_0 a0_1 true a0_3 a0_4 a0_5 a0_6 _ _ l0_7 t37 t38 t39 t40 t41 _ (Kd.F_mono (ok:=(fun k_=>((P_ k_∨w.heap.size≤k_)∧k_≠g1)∧some k_≠(v28:Value).ownBlock)) HF0_7.out (fun k_ hk_=>⟨⟨hk_.1.1,hk_.2⟩,hk_.1.2⟩)) HL0_7.out At42.out).mono ?_);rintro e w43 ⟨v44,rfl,hn44,hb⟩;refine⟨_,rfl,?_⟩)
  refine zg ?_
  have hba:=Kd.N_base hn44
  have HN44:=znl (ok2:=(fun k_=>((P_ k_∨w.heap.size≤k_)∧some k_≠(v28:Value).ownBlock)∧k_≠g1)) hn44 (below_size HB.out) (fun k_ hk_=>hk_.elim (fun h_=>h_) (fun h_=>⟨⟨.inr (Nat.le_trans (below_size HB.out) h_),Kd.fresh' (Kd.N_lt HN28.out) k_ h_⟩,Kd.freshB (g:=g1) BKg1.out k_ h_⟩))
  replace HN28:=znr (u:=v44) HN28.out hba hb
  replace BKg1:=zbb BKg1.out hb
  replace HB:=zhb HB.out hb
  clear hn44 hba hb
  clear jt ju jv jw jx jy jz jA
  replace cBKg1:=MB.lz8 BKg1.out
  refine wpList_nil ?_
  change wpAnyLast _ _ _ _ _ _ 8 #[true,true,true,true,true,true,false,false,false,false,false,false,false,false] ⟨[_,_,_,_,_,_,_,_,_,_,_,_,_,_,_,_,_,_,_].toArray,[]⟩ _
  refine MW.last_fin (i:=6) (listed':= #[true,true,true,true,true,true,true,false,false,false,false,false,false,false]) rfl (by kernel_rfl) (by kernel_rfl) (by kernel_rfl) ?_
  obtain⟨A53,cp54,he_⟩:=Kd.N_slice HN28.out
  subst he_
  have HL56:=za (Kd.N_reads' HN28.out).2.1
  have HF55:=za (Kd.N_F HN28.out)
  clear HN28
  replace HN44:=za (Kd.N_mono (ok:=(fun k_=>((P_ k_∨w.heap.size≤k_)∧some k_≠((.slice A53 t25.length cp54):Value).ownBlock)∧k_≠g1)) HN44.out (fun k_ hk_=>⟨hk_.1.1,hk_.2⟩):Kd.N k57 _ _ _ (fun k_=>(P_ k_∨w.heap.size≤k_)∧k_≠g1) _ _)
  obtain⟨A57,cp58,he_⟩:=Kd.N_slice HN44.out
  subst he_
  have HL60:=za (Kd.N_reads' HN44.out).2.1
  have HF59:=za (Kd.N_F HN44.out)
  clear HN44
  replace HF55:=za (Kd.F_mono (ok:=(fun k_=>((P_ k_∨w.heap.size≤k_)∧k_≠g1)∧some k_≠((.slice A57 t41.length cp58):Value).ownBlock)) HF55.out (fun k_ hk_=>hk_.1):Kd.F k57 _ (fun k_=>(P_ k_∨w.heap.size≤k_)∧k_≠g1) _ _ _)
  go_wp2_with (((with_reducible refine gate_dst (N:=13) rfl ?_);(try(refine gate_guard (by rfl) ?_;dsimp only));refine Kd.N_lit k57 w.heap.size 57 rfl (N':=13) rfl (xs:=[(⟨t21,t22,t23,t24,t25⟩:S57),(⟨t37,t38,t39,t40,t41⟩:S57)]) (inner:=[.int .i64 t21,.bool t22,.int .i64 t23,.string t24,.slice A53 t25.length cp54,.int .i64 t37,.bool t38,.int .i64 t39,.string t40,.slice A57 t41.length cp58]) (ok:=(fun k_=>(P_ k_∨w.heap.size≤k_)∧k_≠g1)) (okp:=(fun k_=>(P_ k_∨w.heap.size≤k_)∧k_≠g1)) ?hr ?hp (fun _ hk_=>hk_) ?hf HB.out (below_size HB.out) (by first|simp|decide) ?_;(case hr=>first|(go_simp;done)|(go_simp;rfl));(case hp=>exact(Reps.c5 (k57_mkF _ _ (⟨t21,t22,t23,t24,t25⟩:S57) HL56.out HF55.out) (Reps.c5 (k57_mkF _ _ (⟨t37,t38,t39,t40,t41⟩:S57) HL60.out HF59.out) (Reps.none _ _))));(case hf=>exact(show ∀ k_,w43.heap.size≤k_→(fun k_=>(P_ k_∨w.heap.size≤k_)∧k_≠g1) k_ from fun k_ h_=>⟨.inr (Nat.le_trans (below_size HB.out) h_),Kd.freshB (g:=g1) BKg1.out k_ h_⟩) _ (Nat.le_refl _));intro v61 w62 hn1 hb1 hg1 hat1);replace hat1:=za hat1;refine stop_ ?_)
  refine zg ?_
  replace hat1:=hat1.out
  have hbe:=MW.grown_below hg1
  have hba:=MW.base_of hat1
  replace BKg1:=za (blk_below (g:=g1) BKg1.out hbe)
  replace HB:=za hb1
  have HN63:=za hn1
  clear hn1 hb1 hg1 hat1 hbe hba
  replace cBKg1:=MB.lz8 BKg1.out
  refine wpList_nil ?_
  change wpAnyLast _ _ _ _ _ _ 7 #[true,true,true,true,true,true,true,false,false,false,false,false,false,false] ⟨[_,_,_,_,_,_,_,_,_,_,_,_,_,_,_,_,_,_,_].toArray,[]⟩ _
  refine MW.last_fin (i:=7) (listed':= #[true,true,true,true,true,true,true,true,false,false,false,false,false,false]) rfl (by kernel_rfl) (by kernel_rfl) (by kernel_rfl) ?_
  obtain⟨A72,cp73,he_⟩:=Kd.N_slice HN63.out
  subst he_
  have HL75:=za (Kd.N_reads' HN63.out).2.1
  have HF74:=za (Kd.N_F HN63.out)
  clear HN63
  replace HH:=zd HH
  obtain⟨⟨t76,t77,t78,t79,t80⟩,At81,HH⟩:=HH
  dsimp only at HH
  go_wp2_with ((with_reducible refine gc 45 rfl ?_);refine zc 45 (some 14) Try.func45 #[.int .i64 0,.int .i64 16,.slice A72 [(⟨t21,t22,t23,t24,t25⟩:S57),(⟨t37,t38,t39,t40,t41⟩:S57)].length cp73] (h:=?_);(with_reducible refine(reply_group.calls (fun k_=>(P_ k_∨w.heap.size≤k_)∧k_≠g1) 0 16 _ _ [(⟨t21,t22,t23,t24,t25⟩:S57),(⟨t37,t38,t39,t40,t41⟩:S57)] t76 t77 t78 t79 t80 _ HF74.out HL75.out At81.out).mono ?_);rintro e w82 ⟨v83,rfl,hn83,hb⟩;refine⟨_,rfl,?_⟩)
  refine zg ?_
  have hba:=Kd.N_base hn83
  have HN83:=znl (ok2:=(fun k_=>(P_ k_∨w.heap.size≤k_)∧k_≠g1)) hn83 (below_size HB.out) (fun k_ hk_=>hk_.elim (fun h_=>h_) (fun h_=>⟨.inr (Nat.le_trans (below_size HB.out) h_),Kd.freshB (g:=g1) BKg1.out k_ h_⟩))
  replace BKg1:=zbb BKg1.out hb
  replace HB:=zhb HB.out hb
  clear hn83 hba hb
  replace cBKg1:=MB.lz8 BKg1.out
  refine wpList_nil ?_
  change wpAnyLast _ _ _ _ _ _ 6 #[true,true,true,true,true,true,true,true,false,false,false,false,false,false] ⟨[_,_,_,_,_,_,_,_,_,_,_,_,_,_,_,_,_,_,_].toArray,[]⟩ _
  refine MW.last_fin (i:=8) (listed':= #[true,true,true,true,true,true,true,true,true,false,false,false,false,false]) rfl (by kernel_rfl) (by kernel_rfl) (by kernel_rfl) ?_
  obtain⟨A92,cp93,he_⟩:=Kd.N_slice HN83.out
  subst he_
  have HL95:=za (Kd.N_reads' HN83.out).2.1
  have HF94:=za (Kd.N_F HN83.out)
  clear HN83
  go_wp2_with (((with_reducible refine gate_dst (N:=15) rfl ?_);(try(refine gate_guard (by rfl) ?_;dsimp only));refine Kd.N_lit k57 w.heap.size 57 rfl (N':=15) rfl (xs:=[(⟨t76,t77,t78,t79,t80⟩:S57)]) (inner:=[.int .i64 t76,.bool t77,.int .i64 t78,.string t79,.slice A92 t80.length cp93]) (ok:=(fun k_=>(P_ k_∨w.heap.size≤k_)∧k_≠g1)) (okp:=(fun k_=>(P_ k_∨w.heap.size≤k_)∧k_≠g1)) ?hr ?hp (fun _ hk_=>hk_) ?hf HB.out (below_size HB.out) (by first|simp|decide) ?_;(case hr=>first|(go_simp;done)|(go_simp;rfl));(case hp=>exact(Reps.c5 (k57_mkF _ _ (⟨t76,t77,t78,t79,t80⟩:S57) HL95.out HF94.out) (Reps.none _ _)));(case hf=>exact(show ∀ k_,w82.heap.size≤k_→(fun k_=>(P_ k_∨w.heap.size≤k_)∧k_≠g1) k_ from fun k_ h_=>⟨.inr (Nat.le_trans (below_size HB.out) h_),Kd.freshB (g:=g1) BKg1.out k_ h_⟩) _ (Nat.le_refl _));intro v96 w97 hn1 hb1 hg1 hat1);replace hat1:=za hat1;refine stop_ ?_)
  refine zg ?_
  replace hat1:=hat1.out
  have hbe:=MW.grown_below hg1
  have hba:=MW.base_of hat1
  replace BKg1:=za (blk_below (g:=g1) BKg1.out hbe)
  replace HB:=za hb1
  have HN98:=za hn1
  clear hn1 hb1 hg1 hat1 hbe hba
  replace cBKg1:=MB.lz8 BKg1.out
  refine wpList_nil ?_
  change wpAnyLast _ _ _ _ _ _ 5 #[true,true,true,true,true,true,true,true,true,false,false,false,false,false] ⟨[_,_,_,_,_,_,_,_,_,_,_,_,_,_,_,_,_,_,_].toArray,[]⟩ _
  refine MW.last_fin (i:=9) (listed':= #[true,true,true,true,true,true,true,true,true,true,false,false,false,false]) rfl (by kernel_rfl) (by kernel_rfl) (by kernel_rfl) ?_
  obtain⟨A107,cp108,he_⟩:=Kd.N_slice HN98.out
  subst he_
  have HL110:=za (Kd.N_reads' HN98.out).2.1
  have HF109:=za (Kd.N_F HN98.out)
  clear HN98
  replace HH:=zd HH
  obtain⟨⟨t111,t112⟩,At113,HH⟩:=HH
  dsimp only at HH
  go_wp2_with ((with_reducible refine gc 44 rfl ?_);refine zc 44 (some 16) Try.func44 #[.slice A107 [(⟨t76,t77,t78,t79,t80⟩:S57)].length cp108] (h:=?_);(with_reducible refine(ber_Encode.calls k (fun k_=>(P_ k_∨w.heap.size≤k_)∧k_≠g1) _ _ [(⟨t76,t77,t78,t79,t80⟩:S57)] t111 t112 _ HF109.out HL110.out At113.out).mono ?_);rintro e w114 ⟨rfl,hb⟩;refine⟨_,rfl,?_⟩)
  refine zg ?_
  replace BKg1:=zbb BKg1.out hb
  replace HB:=zhb HB.out hb
  clear hb
  replace cBKg1:=MB.lz8 BKg1.out
  refine wpList_nil ?_
  change wpAnyLast _ _ _ _ _ _ 4 #[true,true,true,true,true,true,true,true,true,true,false,false,false,false] ⟨[_,_,_,_,_,_,_,_,_,_,_,_,_,_,_,_,_,_,_].toArray,[]⟩ _
  refine zlp 10 (.string t111) #[_,_,_,_,_,_,_,_,_,_,_,_,_,_] ⟨[_,_,_,_,_,_,_,_,_,_,_,_,_,_,_,_,_,_,_].toArray,[]⟩ (h:=?_)
  refine zlp 11 (.int .i64 t112) #[_,_,_,_,_,_,_,_,_,_,_,_,_,_] ⟨[_,_,_,_,_,_,_,_,_,_,_,_,_,_,_,_,_,_,_].toArray,[]⟩ (h:=?_)
  refine zlp 12 (.string t111) #[_,_,_,_,_,_,_,_,_,_,_,_,_,_] ⟨[_,_,_,_,_,_,_,_,_,_,_,_,_,_,_,_,_,_,_].toArray,[]⟩ (h:=?_)
  refine zlp 13 (.int .i64 t112) #[_,_,_,_,_,_,_,_,_,_,_,_,_,_] ⟨[_,_,_,_,_,_,_,_,_,_,_,_,_,_,_,_,_,_,_].toArray,[]⟩ (h:=?_)
  refine MW.last_done (by kernel_rfl) ?_ _
  clear hwr_
  have H:=HH.out
  simp only[Option.some.injEq,Prod.mk.injEq] at H
  obtain⟨rfl,rfl⟩:=H
  clear HH
  go_wp2
  go_ret2
  exact zfi HB.out
 replace HH:=MW.hneg HH c11
 replace c11:=Bool.eq_false_iff.mpr c11
 subst c11
 go_wp2
 have hwr_:∀ n_:Int,IntKind.i64.wrap n_=wrap64 n_:=fun n_=>IntWalk.i64_left n_
 refine wp_region_any (by kernel_rfl) ?_
 change wpAny _ _ _ _ 14 #[false,false,false,false,false,false,false,false,false,false,false,false,false,false] _ w2.drew
 obtain⟨w123,hw_⟩:∃ w_:World,w_=w2.drew:=⟨_,rfl⟩
 rw[← hw_]
 have hb:Below w2.heap.size w2 w123:=by rw[hw_];exact below_drew1 (Below.refl _ _)
 clear hw_
 replace HF0_7:=zfb HF0_7.out hb
 replace BKg1:=zbb BKg1.out hb
 replace HB:=zhb HB.out hb
 clear hb
 obtain⟨j20,j21,j22,j23,j24,j25,j26,j27⟩:=MB.lz8 BKg1.out
 refine MW.last_in (ds:=[5,6,7,8,9]) (zk j20 (zk j21 (zk j22 (zk j23 (zk j24 (zk j25 (zk j26 (zk j27 z0)))))))) ?_
 refine zlp 0 (.pointer (some ⟨g1,0,none⟩)) #[_,_,_,_,_,_,_,_,_,_,_,_,_,_] ⟨[_,_,_,_,_,_,_,_,_,_,_,_,_,_,_,_,_,_,_].toArray,[]⟩ (h:=?_)
 refine zlp 3 (.func (.func 42) #[] #[]) #[_,_,_,_,_,_,_,_,_,_,_,_,_,_] ⟨[_,_,_,_,_,_,_,_,_,_,_,_,_,_,_,_,_,_,_].toArray,[]⟩ (h:=?_)
 refine MW.last_take (i:=1) (v:=.int .i64 a0_0) (listed':= #[_,_,_,_,_,_,_,_,_,_,_,_,_,_]) (a':=⟨[_,_,_,_,_,_,_,_,_,_,_,_,_,_,_,_,_,_,_].toArray,[]⟩) rfl (by kernel_rfl) (by kernel_rfl) (by kernel_rfl) (by kernel_rfl) (by kernel_rfl) (fun _ _ _ h_=>h_) (by kernel_rfl) (fun w_ hS_=>?go) (zk j20 (zk j21 (zk j22 (zk j23 (zk j24 (zk j25 (zk j26 (zk j27 z0)))))))) rfl rfl ?_
 case go=>obtain⟨hs0_,_,_,_,_,_,_,_,_⟩:=hS_;first|(go_simp;done)|(go_simp;rfl)
 refine MW.last_take (i:=4) (v:=.agg #[.int .i64 a0_0,.int .i64 a0_1,.bool false,.int .i64 a0_3,.string a0_4,.string a0_5,.string a0_6,.slice A0_7 l0_7.length c0_7]) (listed':= #[_,_,_,_,_,_,_,_,_,_,_,_,_,_]) (a':=⟨[_,_,_,_,_,_,_,_,_,_,_,_,_,_,_,_,_,_,_].toArray,[]⟩) rfl (by kernel_rfl) (by kernel_rfl) (by kernel_rfl) (by kernel_rfl) (by kernel_rfl) (fun _ _ _ h_=>h_) (by kernel_rfl) (fun w_ hS_=>?go) (zk j20 (zk j21 (zk j22 (zk j23 (zk j24 (zk j25 (zk j26 (zk j27 z0)))))))) rfl rfl ?_
 case go=>obtain⟨hs0_,hs1_,hs2_,hs3_,hs4_,hs5_,hs6_,hs7_,_⟩:=hS_;first|(go_simp;done)|(go_simp;rfl)
 refine MW.last_act (i:=2) (listed':= #[true,true,true,true,true,false,false,false,false,false,false,false,false,false]) rfl (by kernel_rfl) (by kernel_rfl) (by decide) ?_
 replace HH:=zd HH
 obtain⟨⟨t132,t133,t134,t135,t136⟩,At137,HH⟩:=HH
 dsimp only at HH
 go_wp2_with ((with_reducible refine gc 46 rfl ?_);refine zc 46 (some 9) Try.func46 #[.int .i64 2,.int .i64 a0_0] (h:=?_);(with_reducible refine(reply_number.calls k  2 a0_0 t132 t133 t134 t135 t136 _  At137.out).mono ?_);rintro e w138 ⟨v139,rfl,hn139,hb⟩;refine⟨_,rfl,?_⟩)
 refine zg ?_
 have hba:=Kd.N_base hn139
 have HN139:=znl (ok2:=(fun k_=>(P_ k_∨w.heap.size≤k_)∧k_≠g1)) hn139 (below_size HB.out) (fun k_ h_=>⟨.inr (Nat.le_trans (below_size HB.out) h_),Kd.freshB (g:=g1) BKg1.out k_ h_⟩)
 replace HF0_7:=zfr (v:=v139) HF0_7.out hba hb
 replace BKg1:=zbb BKg1.out hb
 replace HB:=zhb HB.out hb
 clear hn139 hba hb
 clear j20 j21 j22 j23 j24 j25 j26 j27
 obtain⟨j2g,j2h,j2i,j2j,j2k,j2l,j2m,j2n⟩:=MB.lz8 BKg1.out
 refine wpList_nil ?_
 change MW.Cells _ _∧wpAnyLast _ _ _ _ _ _ 9 #[true,true,true,true,true,false,false,false,false,false,false,false,false,false] ⟨[_,_,_,_,_,_,_,_,_,_,_,_,_,_,_,_,_,_,_].toArray,[]⟩ _
 refine⟨(zk j2g (zk j2h (zk j2i (zk j2j (zk j2k (zk j2l (zk j2m (zk j2n z0)))))))),?_⟩
 refine MW.last_fin (i:=5) (listed':= #[true,true,true,true,true,true,false,false,false,false,false,false,false,false]) rfl (by kernel_rfl) (by kernel_rfl) (by kernel_rfl) ?_
 replace HH:=zd HH
 obtain⟨⟨t148,t149,t150,t151,t152⟩,At153,HH⟩:=HH
 dsimp only at HH
 go_wp2_with ((with_reducible refine gd 12 rfl ?_);refine zv 12 Try.func42 #[.agg #[.int .i64 a0_0,.int .i64 a0_1,.bool false,.int .i64 a0_3,.string a0_4,.string a0_5,.string a0_6,.slice A0_7 l0_7.length c0_7]] #[] (h:=?_);(with_reducible refine(reply_result.calls k (fun k_=>((P_ k_∨w.heap.size≤k_)∧some k_≠(v139:Value).ownBlock)∧k_≠g1) a0_0 a0_1 false a0_3 a0_4 a0_5 a0_6 _ _ l0_7 t148 t149 t150 t151 t152 _ (Kd.F_mono (ok:=(fun k_=>((P_ k_∨w.heap.size≤k_)∧k_≠g1)∧some k_≠(v139:Value).ownBlock)) HF0_7.out (fun k_ hk_=>⟨⟨hk_.1.1,hk_.2⟩,hk_.1.2⟩)) HL0_7.out At153.out).mono ?_);rintro e w154 ⟨v155,rfl,hn155,hb⟩;refine⟨_,rfl,?_⟩)
 refine zg ?_
 have hba:=Kd.N_base hn155
 have HN155:=znl (ok2:=(fun k_=>((P_ k_∨w.heap.size≤k_)∧some k_≠(v139:Value).ownBlock)∧k_≠g1)) hn155 (below_size HB.out) (fun k_ hk_=>hk_.elim (fun h_=>h_) (fun h_=>⟨⟨.inr (Nat.le_trans (below_size HB.out) h_),Kd.fresh' (Kd.N_lt HN139.out) k_ h_⟩,Kd.freshB (g:=g1) BKg1.out k_ h_⟩))
 replace HN139:=znr (u:=v155) HN139.out hba hb
 replace BKg1:=zbb BKg1.out hb
 replace HB:=zhb HB.out hb
 clear hn155 hba hb
 clear j2g j2h j2i j2j j2k j2l j2m j2n
 replace cBKg1:=MB.lz8 BKg1.out
 refine wpList_nil ?_
 change wpAnyLast _ _ _ _ _ _ 8 #[true,true,true,true,true,true,false,false,false,false,false,false,false,false] ⟨[_,_,_,_,_,_,_,_,_,_,_,_,_,_,_,_,_,_,_].toArray,[]⟩ _
 refine MW.last_fin (i:=6) (listed':= #[true,true,true,true,true,true,true,false,false,false,false,false,false,false]) rfl (by kernel_rfl) (by kernel_rfl) (by kernel_rfl) ?_
 obtain⟨A164,cp165,he_⟩:=Kd.N_slice HN139.out
 subst he_
 have HL167:=za (Kd.N_reads' HN139.out).2.1
 have HF166:=za (Kd.N_F HN139.out)
 clear HN139
 replace HN155:=za (Kd.N_mono (ok:=(fun k_=>((P_ k_∨w.heap.size≤k_)∧some k_≠((.slice A164 t136.length cp165):Value).ownBlock)∧k_≠g1)) HN155.out (fun k_ hk_=>⟨hk_.1.1,hk_.2⟩):Kd.N k57 _ _ _ (fun k_=>(P_ k_∨w.heap.size≤k_)∧k_≠g1) _ _)
 obtain⟨A168,cp169,he_⟩:=Kd.N_slice HN155.out
 subst he_
 have HL171:=za (Kd.N_reads' HN155.out).2.1
 have HF170:=za (Kd.N_F HN155.out)
 clear HN155
 replace HF166:=za (Kd.F_mono (ok:=(fun k_=>((P_ k_∨w.heap.size≤k_)∧k_≠g1)∧some k_≠((.slice A168 t152.length cp169):Value).ownBlock)) HF166.out (fun k_ hk_=>hk_.1):Kd.F k57 _ (fun k_=>(P_ k_∨w.heap.size≤k_)∧k_≠g1) _ _ _)
 go_wp2_with (((with_reducible refine gate_dst (N:=13) rfl ?_);(try(refine gate_guard (by rfl) ?_;dsimp only));refine Kd.N_lit k57 w.heap.size 57 rfl (N':=13) rfl (xs:=[(⟨t132,t133,t134,t135,t136⟩:S57),(⟨t148,t149,t150,t151,t152⟩:S57)]) (inner:=[.int .i64 t132,.bool t133,.int .i64 t134,.string t135,.slice A164 t136.length cp165,.int .i64 t148,.bool t149,.int .i64 t150,.string t151,.slice A168 t152.length cp169]) (ok:=(fun k_=>(P_ k_∨w.heap.size≤k_)∧k_≠g1)) (okp:=(fun k_=>(P_ k_∨w.heap.size≤k_)∧k_≠g1)) ?hr ?hp (fun _ hk_=>hk_) ?hf HB.out (below_size HB.out) (by first|simp|decide) ?_;(case hr=>first|(go_simp;done)|(go_simp;rfl));(case hp=>exact(Reps.c5 (k57_mkF _ _ (⟨t132,t133,t134,t135,t136⟩:S57) HL167.out HF166.out) (Reps.c5 (k57_mkF _ _ (⟨t148,t149,t150,t151,t152⟩:S57) HL171.out HF170.out) (Reps.none _ _))));(case hf=>exact(show ∀ k_,w154.heap.size≤k_→(fun k_=>(P_ k_∨w.heap.size≤k_)∧k_≠g1) k_ from fun k_ h_=>⟨.inr (Nat.le_trans (below_size HB.out) h_),Kd.freshB (g:=g1) BKg1.out k_ h_⟩) _ (Nat.le_refl _));intro v172 w173 hn1 hb1 hg1 hat1);replace hat1:=za hat1;refine stop_ ?_)
 refine zg ?_
 replace hat1:=hat1.out
 have hbe:=MW.grown_below hg1
 have hba:=MW.base_of hat1
 replace BKg1:=za (blk_below (g:=g1) BKg1.out hbe)
 replace HB:=za hb1
 have HN174:=za hn1
 clear hn1 hb1 hg1 hat1 hbe hba
 replace cBKg1:=MB.lz8 BKg1.out
 refine wpList_nil ?_
 change wpAnyLast _ _ _ _ _ _ 7 #[true,true,true,true,true,true,true,false,false,false,false,false,false,false] ⟨[_,_,_,_,_,_,_,_,_,_,_,_,_,_,_,_,_,_,_].toArray,[]⟩ _
 refine MW.last_fin (i:=7) (listed':= #[true,true,true,true,true,true,true,true,false,false,false,false,false,false]) rfl (by kernel_rfl) (by kernel_rfl) (by kernel_rfl) ?_
 obtain⟨A183,cp184,he_⟩:=Kd.N_slice HN174.out
 subst he_
 have HL186:=za (Kd.N_reads' HN174.out).2.1
 have HF185:=za (Kd.N_F HN174.out)
 clear HN174
 replace HH:=zd HH
 obtain⟨⟨t187,t188,t189,t190,t191⟩,At192,HH⟩:=HH
 dsimp only at HH
 go_wp2_with ((with_reducible refine gc 45 rfl ?_);refine zc 45 (some 14) Try.func45 #[.int .i64 0,.int .i64 16,.slice A183 [(⟨t132,t133,t134,t135,t136⟩:S57),(⟨t148,t149,t150,t151,t152⟩:S57)].length cp184] (h:=?_);(with_reducible refine(reply_group.calls (fun k_=>(P_ k_∨w.heap.size≤k_)∧k_≠g1) 0 16 _ _ [(⟨t132,t133,t134,t135,t136⟩:S57),(⟨t148,t149,t150,t151,t152⟩:S57)] t187 t188 t189 t190 t191 _ HF185.out HL186.out At192.out).mono ?_);rintro e w193 ⟨v194,rfl,hn194,hb⟩;refine⟨_,rfl,?_⟩)
 refine zg ?_
 have hba:=Kd.N_base hn194
 have HN194:=znl (ok2:=(fun k_=>(P_ k_∨w.heap.size≤k_)∧k_≠g1)) hn194 (below_size HB.out) (fun k_ hk_=>hk_.elim (fun h_=>h_) (fun h_=>⟨.inr (Nat.le_trans (below_size HB.out) h_),Kd.freshB (g:=g1) BKg1.out k_ h_⟩))
 replace BKg1:=zbb BKg1.out hb
 replace HB:=zhb HB.out hb
 clear hn194 hba hb
 replace cBKg1:=MB.lz8 BKg1.out
 refine wpList_nil ?_
 change wpAnyLast _ _ _ _ _ _ 6 #[true,true,true,true,true,true,true,true,false,false,false,false,false,false] ⟨[_,_,_,_,_,_,_,_,_,_,_,_,_,_,_,_,_,_,_].toArray,[]⟩ _
 refine MW.last_fin (i:=8) (listed':= #[true,true,true,true,true,true,true,true,true,false,false,false,false,false]) rfl (by kernel_rfl) (by kernel_rfl) (by kernel_rfl) ?_
 obtain⟨A203,cp204,he_⟩:=Kd.N_slice HN194.out
 subst he_
 have HL206:=za (Kd.N_reads' HN194.out).2.1
 have HF205:=za (Kd.N_F HN194.out)
 clear HN194
 go_wp2_with (((with_reducible refine gate_dst (N:=15) rfl ?_);(try(refine gate_guard (by rfl) ?_;dsimp only));refine Kd.N_lit k57 w.heap.size 57 rfl (N':=15) rfl (xs:=[(⟨t187,t188,t189,t190,t191⟩:S57)]) (inner:=[.int .i64 t187,.bool t188,.int .i64 t189,.string t190,.slice A203 t191.length cp204]) (ok:=(fun k_=>(P_ k_∨w.heap.size≤k_)∧k_≠g1)) (okp:=(fun k_=>(P_ k_∨w.heap.size≤k_)∧k_≠g1)) ?hr ?hp (fun _ hk_=>hk_) ?hf HB.out (below_size HB.out) (by first|simp|decide) ?_;(case hr=>first|(go_simp;done)|(go_simp;rfl));(case hp=>exact(Reps.c5 (k57_mkF _ _ (⟨t187,t188,t189,t190,t191⟩:S57) HL206.out HF205.out) (Reps.none _ _)));(case hf=>exact(show ∀ k_,w193.heap.size≤k_→(fun k_=>(P_ k_∨w.heap.size≤k_)∧k_≠g1) k_ from fun k_ h_=>⟨.inr (Nat.le_trans (below_size HB.out) h_),Kd.freshB (g:=g1) BKg1.out k_ h_⟩) _ (Nat.le_refl _));intro v207 w208 hn1 hb1 hg1 hat1);replace hat1:=za hat1;refine stop_ ?_)
 refine zg ?_
 replace hat1:=hat1.out
 have hbe:=MW.grown_below hg1
 have hba:=MW.base_of hat1
 replace BKg1:=za (blk_below (g:=g1) BKg1.out hbe)
 replace HB:=za hb1
 have HN209:=za hn1
 clear hn1 hb1 hg1 hat1 hbe hba
 replace cBKg1:=MB.lz8 BKg1.out
 refine wpList_nil ?_
 change wpAnyLast _ _ _ _ _ _ 5 #[true,true,true,true,true,true,true,true,true,false,false,false,false,false] ⟨[_,_,_,_,_,_,_,_,_,_,_,_,_,_,_,_,_,_,_].toArray,[]⟩ _
 refine MW.last_fin (i:=9) (listed':= #[true,true,true,true,true,true,true,true,true,true,false,false,false,false]) rfl (by kernel_rfl) (by kernel_rfl) (by kernel_rfl) ?_
 obtain⟨A218,cp219,he_⟩:=Kd.N_slice HN209.out
 subst he_
 have HL221:=za (Kd.N_reads' HN209.out).2.1
 have HF220:=za (Kd.N_F HN209.out)
 clear HN209
 replace HH:=zd HH
 obtain⟨⟨t222,t223⟩,At224,HH⟩:=HH
 dsimp only at HH
 go_wp2_with ((with_reducible refine gc 44 rfl ?_);refine zc 44 (some 16) Try.func44 #[.slice A218 [(⟨t187,t188,t189,t190,t191⟩:S57)].length cp219] (h:=?_);(with_reducible refine(ber_Encode.calls k (fun k_=>(P_ k_∨w.heap.size≤k_)∧k_≠g1) _ _ [(⟨t187,t188,t189,t190,t191⟩:S57)] t222 t223 _ HF220.out HL221.out At224.out).mono ?_);rintro e w225 ⟨rfl,hb⟩;refine⟨_,rfl,?_⟩)
 refine zg ?_
 replace BKg1:=zbb BKg1.out hb
 replace HB:=zhb HB.out hb
 clear hb
 replace cBKg1:=MB.lz8 BKg1.out
 refine wpList_nil ?_
 change wpAnyLast _ _ _ _ _ _ 4 #[true,true,true,true,true,true,true,true,true,true,false,false,false,false] ⟨[_,_,_,_,_,_,_,_,_,_,_,_,_,_,_,_,_,_,_].toArray,[]⟩ _
 refine zlp 10 (.string t222) #[_,_,_,_,_,_,_,_,_,_,_,_,_,_] ⟨[_,_,_,_,_,_,_,_,_,_,_,_,_,_,_,_,_,_,_].toArray,[]⟩ (h:=?_)
 refine zlp 11 (.int .i64 t223) #[_,_,_,_,_,_,_,_,_,_,_,_,_,_] ⟨[_,_,_,_,_,_,_,_,_,_,_,_,_,_,_,_,_,_,_].toArray,[]⟩ (h:=?_)
 refine zlp 12 (.string t222) #[_,_,_,_,_,_,_,_,_,_,_,_,_,_] ⟨[_,_,_,_,_,_,_,_,_,_,_,_,_,_,_,_,_,_,_].toArray,[]⟩ (h:=?_)
 refine zlp 13 (.int .i64 t223) #[_,_,_,_,_,_,_,_,_,_,_,_,_,_] ⟨[_,_,_,_,_,_,_,_,_,_,_,_,_,_,_,_,_,_,_].toArray,[]⟩ (h:=?_)
 refine MW.last_done (by kernel_rfl) ?_ _
 clear hwr_
 have H:=HH.out
 simp only[Option.some.injEq,Prod.mk.injEq] at H
 obtain⟨rfl,rfl⟩:=H
 clear HH
 go_wp2
 go_ret2
 exact zfi HB.out
end Go.Proofs.Ytdjkemhmhkpmkaa.GA
