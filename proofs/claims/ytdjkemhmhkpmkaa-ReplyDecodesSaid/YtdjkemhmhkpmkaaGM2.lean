import Derived.Test.YtdjkemhmhkpmkaaGA0
import Derived.Test.YtdjkemhmhkpmkaaGAB
import Derived.Test.YtdjkemhmhkpmkaaGAF49
import Derived.Test.YtdjkemhmhkpmkaaGAF63
import Derived.Test.YtdjkemhmhkpmkaaGM1
import Derived.Test.YtdjkemhmhkpmkaaMX
namespace Go.Proofs.Ytdjkemhmhkpmkaa.GA
open Go.RowKit Go.Proofs.Ytdjkemhmhkpmkaa Go.Proofs.Ytdjkemhmhkpmkaa.MW Go.Proofs.YtdjkemhmhkpmkaaW.PrintWords Go.Proofs.YtdjkemhmhkpmkaaW.PrintLast Go.Proofs.YtdjkemhmhkpmkaaW.PrintMore
attribute [local go_sem] max2_int min2_int max_two min_two
set_option maxHeartbeats 8000000
set_option maxRecDepth 100000
set_option linter.unusedVariables false
set_option linter.unusedSimpArgs false
def ber_one.f (k:Nat) (a0_0:Int) (a0_1:Bool) (a0_2:Int) (a0_3:ByteArray) (l0_4:List (S57)):Option (ByteArray × Bool):=(ber_sheaf_lay.f k ([]:List Int) false a0_0 a0_1 a0_2 a0_3 l0_4).bind fun bt18=>(some (strOfNums bt18.1,!bt18.2))
theorem ber_one.mono:∀ a0_ a1_ a2_ a3_ a4_ k,LeO (ber_one.f k a0_ a1_ a2_ a3_ a4_) (ber_one.f (k+1) a0_ a1_ a2_ a3_ a4_):=by
 intro a0_ a1_ a2_ a3_ a4_ k
 unfold ber_one.f
 with_reducible repeat' first|exact ber_sheaf_lay.mono _ _ _ _ _ _ _ _|exact LeO.refl _|exact LeO.none _|refine LeO.ite ?_ ?_|refine LeO.bind ?_ (fun _=>?_)
theorem ber_one.calls (k:Nat) (P_:Nat→Prop) (a0_0:Int) (a0_1:Bool) (a0_2:Int) (a0_3:ByteArray) (A0_4:Option Addr) (c0_4:Nat) (l0_4:List (S57)) (r1:ByteArray) (r2:Bool) (w:World) (hs0_4:Kd.F k57 w P_ A0_4 l0_4.length l0_4) (hc0_4:l0_4.length≤c0_4) (h:ber_one.f k a0_0 a0_1 a0_2 a0_3 l0_4=some (r1,r2)):
  Calls Try.prog 88 #[.agg #[.int .i64 a0_0,.bool a0_1,.int .i64 a0_2,.string a0_3,.slice A0_4 l0_4.length c0_4]] w (fun e w'=>e=.returned (.tuple #[.string r1,.bool r2])∧Below w.heap.size w w'):=by
 unfold ber_one.f at h
 have HH:=za h
 clear h
 have HF0_4:=zfp hs0_4
 have HL0_4:=za hc0_4
 clear hs0_4 hc0_4
 have HB:=za (Below.refl w.heap.size w)
 have hu57:=Try.underlying57
 have hu99:=Try.underlying99
 go_enter Try.func88,Try.ntmps88
 go_wp2_with ((with_reducible refine gd 1 rfl ?_);refine zb 1 57 #[.int .i64 a0_0,.bool a0_1,.int .i64 a0_2,.string a0_3,.slice A0_4 l0_4.length c0_4] (h:=?_);intro g1 hg w2 BKg1 hb)
 refine zg ?_
 replace HF0_4:=zfe HF0_4.out hg hb
 replace HB:=zhb HB.out hb
 clear hg hb
 replace cBKg1:=MB.lz5 BKg1.out
 go_wp2_with ((with_reducible refine gd 4 rfl ?_);refine zb 4 99 #[.pointer none,.slice none 0 0,.bool false] (h:=?_);intro g8 hg w9 BKg8 hb)
 refine zg ?_
 have GEg8:=zge hg (below_size HB.out)
 have NEg1_g8:=znq hg BKg1.out
 replace HF0_4:=zfe HF0_4.out hg hb
 replace BKg1:=zbb BKg1.out hb
 replace HB:=zhb HB.out hb
 clear hg hb
 replace cBKg1:=MB.lz5 BKg1.out
 replace cBKg8:=MB.lz3 BKg8.out
 replace HH:=zd HH
 obtain⟨⟨t18,t19⟩,At20,HH⟩:=HH
 dsimp only at HH
 go_wp2_with (((with_reducible refine gc 63 rfl ?_);refine zc 63 (some 6) Try.func63 #[.pointer (some ⟨g8,0,none⟩),.agg #[.int .i64 a0_0,.bool a0_1,.int .i64 a0_2,.string a0_3,.slice A0_4 l0_4.length c0_4]] (h:=?_);refine(ber_sheaf_lay.calls k (fun k_=>((P_ k_∨w.heap.size≤k_)∧k_≠g1)∧k_≠g8) w.heap.size g8 (.pointer none) (.slice none 0 0) ([]:List Int) false a0_0 a0_1 a0_2 a0_3 _ _ l0_4 t18 t19 _ (below_size HB.out) (fun k_ hk_=>hk_.2) (fun k_ hk_=>(by simp[Value.ownBlock])) BKg8.out GEg8.out (.inl rfl) (Kd.N_nil _ _ _ _ _) HF0_4.out HL0_4.out At20.out).mono ?_;rintro e w21 ⟨v22,p23,rfl,hn1,hp1,hbk,hfr,hb⟩;refine⟨_,rfl,?_⟩);replace hbk:=za hbk;replace hfr:=za hfr;replace hp1:=za hp1)
 refine zg ?_
 replace hbk:=hbk.out
 replace hfr:=hfr.out
 replace hp1:=hp1.out
 have hat1:∀ k_:Nat,(v22:Value).ownBlock=some k_→some k_=(.slice none 0 0:Value).ownBlock∨w9.heap.size≤k_:=fun k_ h_=>(hn1.1 k_ h_).1.2
 have HN24:=za (Kd.N_mono hn1 (fun k_ hk_=>hk_.1.2.elim (fun h_=>absurd h_ (by simp[Value.ownBlock])) (fun h_=>⟨⟨.inr (Nat.le_trans (below_size HB.out) h_),Kd.freshB (g:=g1) BKg1.out k_ h_⟩,Kd.freshB (g:=g8) BKg8.out k_ h_⟩)):Kd.N (Kd.int .u8) 5 w21 w.heap.size (fun k_=>((P_ k_∨w.heap.size≤k_)∧k_≠g1)∧k_≠g8) v22 t18)
 replace BKg1:=za (MB.blk_ptr BKg1.out hfr NEg1_g8.out (by simp[Value.ownBlock]))
 replace HB:=za (Below.trans HB.out hb)
 replace BKg8:=za hbk
 have HPp23:=za hp1
 clear hbk hfr hb hp1 hn1 hat1
 replace cBKg1:=MB.lz5 BKg1.out
 replace cBKg8:=MB.lz3 BKg8.out
 go_wp2
 have hwr_:∀ n_:Int,IntKind.i64.wrap n_=wrap64 n_:=fun n_=>IntWalk.i64_left n_
 refine wp_region_any (by kernel_rfl) ?_
 change wpAny _ _ _ _ 7 #[false,false,false,false,false,false,false] _ w21.drew
 obtain⟨w33,hw_⟩:∃ w_:World,w_=w21.drew:=⟨_,rfl⟩
 rw[← hw_]
 have hb:Below w21.heap.size w21 w33:=by rw[hw_];exact below_drew1 (Below.refl _ _)
 clear hw_
 replace HN24:=znb HN24.out hb
 replace BKg1:=zbb BKg1.out hb
 replace BKg8:=zbb BKg8.out hb
 replace HB:=zhb HB.out hb
 clear hb
 replace cBKg1:=MB.lz5 BKg1.out
 replace cBKg8:=MB.lz3 BKg8.out
 refine zt 0 (.pointer (some ⟨g8,0,none⟩)) #[_,_,_,_,_,_,_] ⟨[_,_,_,_,_,_,_,_,_,_,_,_].toArray,[]⟩ (h:=?_)
 refine zt 2 (.pointer (some ⟨g8,2,none⟩)) #[_,_,_,_,_,_,_] ⟨[_,_,_,_,_,_,_,_,_,_,_,_].toArray,[]⟩ (h:=?_)
 refine MW.any_fork (i:=1) (j:=3) (vj:=.bool t19) (Li:= #[true,true,true,false,false,false,false]) (Lj:= #[true,false,true,true,false,false,false]) (aj:=⟨[(.agg #[.int .i64 a0_0,.bool a0_1,.int .i64 a0_2,.string a0_3,.slice A0_4 l0_4.length c0_4]),(.pointer (some ⟨g1,0,none⟩)),(.string (⟨#[]⟩:ByteArray)),(.bool false),(.pointer (some ⟨g8,0,none⟩)),(.agg #[.int .i64 a0_0,.bool a0_1,.int .i64 a0_2,.string a0_3,.slice A0_4 l0_4.length c0_4]),(.tuple #[]),(.pointer (some ⟨g8,0,none⟩)),undef,(.pointer (some ⟨g8,2,none⟩)),(.bool t19),undef].toArray,[]⟩) rfl rfl (by first|(left;kernel_rfl)|(right;kernel_rfl)) (by kernel_rfl) (by first|rfl|(go_simp;done)|(go_simp;rfl)) (by kernel_rfl) (by kernel_rfl) (by kernel_rfl) ?fa42 ?fb43
 case fa42=>
  obtain⟨A44,cp45,he_⟩:=Kd.N_slice HN24.out
  subst he_
  go_wp2_with (((with_reducible refine gc 64 rfl ?_);refine zc 64 (some 8) Try.func64 #[.pointer (some ⟨g8,0,none⟩)] (h:=?_);refine(bString64 g8 99 (p23) ((.slice A44 t18.length cp45)) [.bool t19] w.heap.size (fun k_=>((P_ k_∨w.heap.size≤k_)∧k_≠g1)∧k_≠g8) t18 _ BKg8.out HN24.out).mono ?_;rintro e w46 ⟨rfl,hg⟩;refine⟨_,rfl,?_⟩))
  refine zg ?_
  replace BKg1:=za (blk_grown (g:=g1) BKg1.out hg (Kd.N_away (ok:=(fun k_=>((P_ k_∨w.heap.size≤k_)∧k_≠g1)∧k_≠g8)) HN24.out (fun k_ hk_=>hk_.1.2)))
  replace BKg8:=za (blk_grown (g:=g8) BKg8.out hg (Kd.N_away (ok:=(fun k_=>((P_ k_∨w.heap.size≤k_)∧k_≠g1)∧k_≠g8)) HN24.out (fun k_ hk_=>hk_.2)))
  replace HB:=za (Below.grown HB.out hg (below_size HB.out) (Kd.N_base HN24.out))
  clear hg HN24
  replace cBKg1:=MB.lz5 BKg1.out
  replace cBKg8:=MB.lz3 BKg8.out
  refine wpList_nil ?_
  change wpAny _ _ _ _ 4 #[true,true,true,false,false,false,false] ⟨[(.agg #[.int .i64 a0_0,.bool a0_1,.int .i64 a0_2,.string a0_3,.slice A0_4 l0_4.length c0_4]),(.pointer (some ⟨g1,0,none⟩)),(.string (⟨#[]⟩:ByteArray)),(.bool false),(.pointer (some ⟨g8,0,none⟩)),(.agg #[.int .i64 a0_0,.bool a0_1,.int .i64 a0_2,.string a0_3,.slice A0_4 l0_4.length c0_4]),(.tuple #[]),(.pointer (some ⟨g8,0,none⟩)),(.string (strOfNums t18)),(.pointer (some ⟨g8,2,none⟩)),undef,undef].toArray,[]⟩ _
  refine zt 5 (.string (strOfNums t18)) #[_,_,_,_,_,_,_] ⟨[_,_,_,_,_,_,_,_,_,_,_,_].toArray,[]⟩ (h:=?_)
  refine MW.any_one (i:=3) (v:=.bool t19) (listed':= #[true,true,true,true,false,true,false]) (a':=⟨[(.agg #[.int .i64 a0_0,.bool a0_1,.int .i64 a0_2,.string a0_3,.slice A0_4 l0_4.length c0_4]),(.pointer (some ⟨g1,0,none⟩)),(.string (strOfNums t18)),(.bool false),(.pointer (some ⟨g8,0,none⟩)),(.agg #[.int .i64 a0_0,.bool a0_1,.int .i64 a0_2,.string a0_3,.slice A0_4 l0_4.length c0_4]),(.tuple #[]),(.pointer (some ⟨g8,0,none⟩)),(.string (strOfNums t18)),(.pointer (some ⟨g8,2,none⟩)),(.bool t19),undef].toArray,[]⟩) rfl (by kernel_rfl) (by kernel_rfl) (by first|rfl|(go_simp;done)|(go_simp;rfl)) (by kernel_rfl) (by kernel_rfl) ?_
  refine zt 4 (.bool (!t19)) #[_,_,_,_,_,_,_] ⟨[_,_,_,_,_,_,_,_,_,_,_,_].toArray,[]⟩ (h:=?_)
  refine zt 6 (.bool (!t19)) #[_,_,_,_,_,_,_] ⟨[_,_,_,_,_,_,_,_,_,_,_,_].toArray,[]⟩ (h:=?_)
  refine wpAny_done (by kernel_rfl) ?_ _
  clear hwr_
  have H:=HH.out
  simp only[Option.some.injEq,Prod.mk.injEq] at H
  obtain⟨rfl,rfl⟩:=H
  clear HH
  go_wp2
  go_ret2
  exact zfi HB.out
 case fb43=>
  refine zt 4 (.bool (!t19)) #[_,_,_,_,_,_,_] ⟨[_,_,_,_,_,_,_,_,_,_,_,_].toArray,[]⟩ (h:=?_)
  refine MW.any_act (i:=1) (listed':= #[true,true,true,true,true,false,false]) rfl (by kernel_rfl) (by kernel_rfl) ?_
  obtain⟨A55,cp56,he_⟩:=Kd.N_slice HN24.out
  subst he_
  go_wp2_with (((with_reducible refine gc 64 rfl ?_);refine zc 64 (some 8) Try.func64 #[.pointer (some ⟨g8,0,none⟩)] (h:=?_);refine(bString64 g8 99 (p23) ((.slice A55 t18.length cp56)) [.bool t19] w.heap.size (fun k_=>((P_ k_∨w.heap.size≤k_)∧k_≠g1)∧k_≠g8) t18 _ BKg8.out HN24.out).mono ?_;rintro e w57 ⟨rfl,hg⟩;refine⟨_,rfl,?_⟩))
  refine zg ?_
  replace BKg1:=za (blk_grown (g:=g1) BKg1.out hg (Kd.N_away (ok:=(fun k_=>((P_ k_∨w.heap.size≤k_)∧k_≠g1)∧k_≠g8)) HN24.out (fun k_ hk_=>hk_.1.2)))
  replace BKg8:=za (blk_grown (g:=g8) BKg8.out hg (Kd.N_away (ok:=(fun k_=>((P_ k_∨w.heap.size≤k_)∧k_≠g1)∧k_≠g8)) HN24.out (fun k_ hk_=>hk_.2)))
  replace HB:=za (Below.grown HB.out hg (below_size HB.out) (Kd.N_base HN24.out))
  clear hg HN24
  replace cBKg1:=MB.lz5 BKg1.out
  replace cBKg8:=MB.lz3 BKg8.out
  refine wpList_nil ?_
  change wpAny _ _ _ _ 2 #[true,true,true,true,true,false,false] ⟨[(.agg #[.int .i64 a0_0,.bool a0_1,.int .i64 a0_2,.string a0_3,.slice A0_4 l0_4.length c0_4]),(.pointer (some ⟨g1,0,none⟩)),(.string (⟨#[]⟩:ByteArray)),(.bool false),(.pointer (some ⟨g8,0,none⟩)),(.agg #[.int .i64 a0_0,.bool a0_1,.int .i64 a0_2,.string a0_3,.slice A0_4 l0_4.length c0_4]),(.tuple #[]),(.pointer (some ⟨g8,0,none⟩)),(.string (strOfNums t18)),(.pointer (some ⟨g8,2,none⟩)),(.bool t19),(.bool (!t19))].toArray,[]⟩ _
  refine zt 5 (.string (strOfNums t18)) #[_,_,_,_,_,_,_] ⟨[_,_,_,_,_,_,_,_,_,_,_,_].toArray,[]⟩ (h:=?_)
  refine zt 6 (.bool (!t19)) #[_,_,_,_,_,_,_] ⟨[_,_,_,_,_,_,_,_,_,_,_,_].toArray,[]⟩ (h:=?_)
  refine wpAny_done (by kernel_rfl) ?_ _
  clear hwr_
  have H:=HH.out
  simp only[Option.some.injEq,Prod.mk.injEq] at H
  obtain⟨rfl,rfl⟩:=H
  clear HH
  go_wp2
  go_ret2
  exact zfi HB.out

def ber_Check.f (k:Nat) (a0_0:Int) (a0_1:Bool) (a0_2:Int) (a0_3:ByteArray) (l0_4:List (S57)):Option (Int):=(ber_Deep.f k a0_0 a0_1 a0_2 a0_3 l0_4).bind fun t8=>(if t8>12 then(some 153) else((ber_sane.f k a0_0 a0_1 a0_2 a0_3 l0_4).bind fun t19=>(if t19=true then((ber_one.f k a0_0 a0_1 a0_2 a0_3 l0_4).bind fun bt28=>(if bt28.2=true then(some 0) else(some 3))) else(some 2))))
theorem ber_Check.mono:∀ a0_ a1_ a2_ a3_ a4_ k,LeO (ber_Check.f k a0_ a1_ a2_ a3_ a4_) (ber_Check.f (k+1) a0_ a1_ a2_ a3_ a4_):=by
 intro a0_ a1_ a2_ a3_ a4_ k
 unfold ber_Check.f
 with_reducible repeat' first|exact ber_Deep.mono _ _ _ _ _ _|exact ber_one.mono _ _ _ _ _ _|exact ber_sane.mono _ _ _ _ _ _|exact LeO.refl _|exact LeO.none _|refine LeO.ite ?_ ?_|refine LeO.bind ?_ (fun _=>?_)
theorem ber_Check.calls (k:Nat) (P_:Nat→Prop) (a0_0:Int) (a0_1:Bool) (a0_2:Int) (a0_3:ByteArray) (A0_4:Option Addr) (c0_4:Nat) (l0_4:List (S57)) (r:Int) (w:World) (hs0_4:Kd.F k57 w P_ A0_4 l0_4.length l0_4) (hc0_4:l0_4.length≤c0_4) (h:ber_Check.f k a0_0 a0_1 a0_2 a0_3 l0_4=some r):
  Calls Try.prog 62 #[.agg #[.int .i64 a0_0,.bool a0_1,.int .i64 a0_2,.string a0_3,.slice A0_4 l0_4.length c0_4]] w (fun e w'=>e=.returned (.int .i64 r)∧Below w.heap.size w w'):=by
 unfold ber_Check.f at h
 have HH:=za h
 clear h
 have HF0_4:=zfp hs0_4
 have HL0_4:=za hc0_4
 clear hs0_4 hc0_4
 have HB:=za (Below.refl w.heap.size w)
 have hu57:=Try.underlying57
 go_enter Try.func62,Try.ntmps62
 go_wp2_with ((with_reducible refine gd 1 rfl ?_);refine zb 1 57 #[.int .i64 a0_0,.bool a0_1,.int .i64 a0_2,.string a0_3,.slice A0_4 l0_4.length c0_4] (h:=?_);intro g1 hg w2 BKg1 hb)
 refine zg ?_
 replace HF0_4:=zfe HF0_4.out hg hb
 replace HB:=zhb HB.out hb
 clear hg hb
 replace cBKg1:=MB.lz5 BKg1.out
 replace HH:=zd HH
 obtain⟨t8,At9,HH⟩:=HH
 go_wp2_with ((with_reducible refine gc 86 rfl ?_);refine zc 86 (some 7) Try.func86 #[.agg #[.int .i64 a0_0,.bool a0_1,.int .i64 a0_2,.string a0_3,.slice A0_4 l0_4.length c0_4]] (h:=?_);(with_reducible refine(ber_Deep.calls k (fun k_=>(P_ k_∨w.heap.size≤k_)∧k_≠g1) a0_0 a0_1 a0_2 a0_3 _ _ l0_4 t8 _ HF0_4.out HL0_4.out At9.out).mono ?_);rintro e w10 ⟨rfl,hb⟩;refine⟨_,rfl,?_⟩)
 refine zg ?_
 replace HF0_4:=zfb HF0_4.out hb
 replace BKg1:=zbb BKg1.out hb
 replace HB:=zhb HB.out hb
 clear hb
 replace cBKg1:=MB.lz5 BKg1.out
 replace HH:=zqg HH
 rcases HH with⟨HH,hk17⟩|⟨HH,hk18⟩
 ·obtain rfl:=Option.some.inj HH.out
  clear HH
  go_wp2
  go_ret
  exact zfi HB.out
 replace HH:=zd HH
 obtain⟨t19,At20,HH⟩:=HH
 go_wp2_with ((with_reducible refine gc 87 rfl ?_);refine zc 87 (some 11) Try.func87 #[.agg #[.int .i64 a0_0,.bool a0_1,.int .i64 a0_2,.string a0_3,.slice A0_4 l0_4.length c0_4]] (h:=?_);(with_reducible refine(ber_sane.calls k (fun k_=>(P_ k_∨w.heap.size≤k_)∧k_≠g1) a0_0 a0_1 a0_2 a0_3 _ _ l0_4 t19 _ HF0_4.out HL0_4.out At20.out).mono ?_);rintro e w21 ⟨rfl,hb⟩;refine⟨_,rfl,?_⟩)
 refine zg ?_
 replace HF0_4:=zfb HF0_4.out hb
 replace BKg1:=zbb BKg1.out hb
 replace HB:=zhb HB.out hb
 clear hb
 replace cBKg1:=MB.lz5 BKg1.out
 by_cases c27:t19=true
 ·replace HH:=MW.hpos HH c27
  subst c27
  replace HH:=zd HH
  obtain⟨⟨t28,t29⟩,At30,HH⟩:=HH
  dsimp only at HH
  go_wp2_with ((with_reducible refine gc 88 rfl ?_);refine zc 88 (some 15) Try.func88 #[.agg #[.int .i64 a0_0,.bool a0_1,.int .i64 a0_2,.string a0_3,.slice A0_4 l0_4.length c0_4]] (h:=?_);(with_reducible refine(ber_one.calls k (fun k_=>(P_ k_∨w.heap.size≤k_)∧k_≠g1) a0_0 a0_1 a0_2 a0_3 _ _ l0_4 t28 t29 _ HF0_4.out HL0_4.out At30.out).mono ?_);rintro e w31 ⟨rfl,hb⟩;refine⟨_,rfl,?_⟩)
  refine zg ?_
  replace BKg1:=zbb BKg1.out hb
  replace HB:=zhb HB.out hb
  clear hb
  replace cBKg1:=MB.lz5 BKg1.out
  by_cases c37:t29=true
  ·replace HH:=MW.hpos HH c37
   subst c37
   obtain rfl:=Option.some.inj HH.out
   clear HH
   go_wp2
   go_ret
   exact zfi HB.out
  replace HH:=MW.hneg HH c37
  replace c37:=Bool.eq_false_iff.mpr c37
  subst c37
  obtain rfl:=Option.some.inj HH.out
  clear HH
  go_wp2
  go_ret
  exact zfi HB.out
 replace HH:=MW.hneg HH c27
 replace c27:=Bool.eq_false_iff.mpr c27
 subst c27
 obtain rfl:=Option.some.inj HH.out
 clear HH
 go_wp2
 go_ret
 exact zfi HB.out

mutual
def ber_Encode.l0:Nat→Int→(List (S57))→Option (ByteArray × Int)
 |0,_,_=>none
 |k+1,x1,l0=>if x1<(l0.length:Int) then(if 0≤x1 then((ber_Check.f k ((rd_T57 l0 x1).f0) ((rd_T57 l0 x1).f1) ((rd_T57 l0 x1).f2) ((rd_T57 l0 x1).f3) ((rd_T57 l0 x1).f4)).bind fun t23=>(if t23=0 then((ber_Encode.l0 k (wrap64 (x1+1)) l0)) else(some ((⟨#[]⟩:ByteArray),t23)))) else(none)) else((ber_Encode.l1 k 0 ([]:List Int) false l0))
def ber_Encode.l1:Nat→Int→(List Int)→Bool→(List (S57))→Option (ByteArray × Int)
 |0,_,_,_,_=>none
 |k+1,x46,x47,x49,l0=>if x46<(l0.length:Int) then(if 0≤x46 then((ber_sheaf_lay.f k x47 x49 ((rd_T57 l0 x46).f0) ((rd_T57 l0 x46).f1) ((rd_T57 l0 x46).f2) ((rd_T57 l0 x46).f3) ((rd_T57 l0 x46).f4)).bind fun bt82=>((ber_Encode.l1 k (wrap64 (x46+1)) bt82.1 bt82.2 l0))) else(none)) else(if x49=true then(some ((⟨#[]⟩:ByteArray),3)) else(some (strOfNums x47,0)))
end
def ber_Encode.f (k:Nat) (l0:List (S57)):Option (ByteArray × Int):=(ber_Encode.l0 k 0 l0)
theorem ber_Encode.mono_l:∀ k,(∀ y0 y1,LeO (ber_Encode.l0 k y0 y1) (ber_Encode.l0 (k+1) y0 y1))∧(∀ y0 y1 y2 y3,LeO (ber_Encode.l1 k y0 y1 y2 y3) (ber_Encode.l1 (k+1) y0 y1 y2 y3))
 |0=>⟨fun _ _ r h=>by simp[ber_Encode.l0] at h,fun _ _ _ _ r h=>by simp[ber_Encode.l1] at h⟩
 |k+1=>by
  obtain⟨ih0,ih1⟩:=ber_Encode.mono_l k
  refine⟨?_,?_⟩
  ·intro y0 y1
   unfold ber_Encode.l0
   with_reducible repeat' first|exact ih0 _ _|exact ih1 _ _ _ _|exact ber_Check.mono _ _ _ _ _ _|exact ber_sheaf_lay.mono _ _ _ _ _ _ _ _|exact LeO.refl _|exact LeO.none _|refine LeO.ite ?_ ?_|refine LeO.bind ?_ (fun _=>?_)
  intro y0 y1 y2 y3
  unfold ber_Encode.l1
  with_reducible repeat' first|exact ih0 _ _|exact ih1 _ _ _ _|exact ber_Check.mono _ _ _ _ _ _|exact ber_sheaf_lay.mono _ _ _ _ _ _ _ _|exact LeO.refl _|exact LeO.none _|refine LeO.ite ?_ ?_|refine LeO.bind ?_ (fun _=>?_)
theorem ber_Encode.mono:∀ a0_ k,LeO (ber_Encode.f k a0_) (ber_Encode.f (k+1) a0_):=by
 intro a0_ k
 obtain⟨ih0,ih1⟩:=ber_Encode.mono_l k
 unfold ber_Encode.f
 with_reducible repeat' first|exact ih0 _ _|exact ih1 _ _ _ _|exact ber_Check.mono _ _ _ _ _ _|exact ber_sheaf_lay.mono _ _ _ _ _ _ _ _|exact LeO.refl _|exact LeO.none _|refine LeO.ite ?_ ?_|refine LeO.bind ?_ (fun _=>?_)
theorem ber_Encode.calls (k:Nat) (P_:Nat→Prop) (A0:Option Addr) (c0:Nat) (l0:List (S57)) (r1:ByteArray) (r2:Int) (w:World) (hs0:Kd.F k57 w P_ A0 l0.length l0) (hc0:l0.length≤c0) (h:ber_Encode.f k l0=some (r1,r2)):
  Calls Try.prog 44 #[.slice A0 l0.length c0] w (fun e w'=>e=.returned (.tuple #[.string r1,.int .i64 r2])∧Below w.heap.size w w'):=by
 unfold ber_Encode.f at h
 have HH:=za h
 clear h
 have HF0:=zfp hs0
 clear hs0 hc0
 have HB:=za (Below.refl w.heap.size w)
 have hu57:=Try.underlying57
 have hu99:=Try.underlying99
 go_enter Try.func44,Try.ntmps44
 go_wp2
 go_loopg [12] k (fun kq u12 w'=>∃ (x1:Int),u12=.int .i64 x1∧Aside0 ((ber_Encode.l0 kq x1 l0)=some (r1,r2))∧Aside0 (kq≤k)∧Aside0 (Kd.F k57 w' (fun k_=>(P_ k_∨w.heap.size≤k_)) A0 l0.length l0)∧Aside0 (Below w.heap.size w w'))
 case atStart=>exact⟨0,(by first|rfl|(simp;done)|(simp[*];done)),HH,⟨Nat.le_refl _⟩,⟨HF0.out⟩,⟨HB.out⟩⟩
 case round=>
  clear HH
  clear HF0 HB
  obtain⟨x1,rfl,HA,HK0,HF0,HB⟩:=hrel
  obtain⟨w3,rfl⟩:∃ wo_:World,wo_=wr:=⟨_,rfl⟩
  cases gk with
  |zero=>exact absurd HA.out (by simp[ber_Encode.l0])
  |succ k2=>
   have H:=HA.out
   clear HA
   simp only[ber_Encode.l0] at H
   have HH:=za H
   clear H
   replace HH:=zqt HH
   rcases HH with⟨HH,hk5,hk6⟩|⟨HH,hk37,hk38⟩
   ·replace HH:=zqdo HH
    obtain⟨HH,hk8⟩:=HH
    have p9:0≤(x1:Int):=of_decide_eq_true (by first|(with_reducible assumption)|assumption)
    have q9:x1<(l0.length:Int):=of_decide_eq_true (by first|(with_reducible assumption)|assumption)
    obtain⟨ad9,A9_4,c9_4,e9,hx9_0,hx9_1,hx9_2,hx9_3,hx9_4,hl9_4,hi9_4⟩:=atF_T57 HF0.out x1 p9 q9
    cases e9
    have HF9_4:=za hi9_4
    have HL9_4:=za hl9_4
    clear hi9_4 hl9_4
    replace p9:=eq_true p9
    replace q9:=eq_true q9
    go_wp2_with ((with_reducible refine gd 5 rfl ?_);refine zb 5 57 #[.int .i64 0,.bool false,.int .i64 0,.string (⟨#[]⟩:ByteArray),.slice none 0 0] (h:=?_);intro g10 hg w11 BKg10 hb)
    refine zg ?_
    have GEg10:=zge hg (below_size HB.out)
    replace HF0:=zfe HF0.out hg hb
    replace HF9_4:=zfe HF9_4.out hg hb
    replace HB:=zhb HB.out hb
    clear hg hb
    clear hx9_0 hx9_1 hx9_2 hx9_3 hx9_4 p9 q9
    replace cBKg10:=MB.lz5 BKg10.out
    go_wp2_with ((with_reducible refine gs 57 5 rfl ?_);refine zs 57 5 #[.int .i64 ((rd_T57 l0 x1).f0),.bool ((rd_T57 l0 x1).f1),.int .i64 ((rd_T57 l0 x1).f2),.string ((rd_T57 l0 x1).f3),.slice A9_4 ((rd_T57 l0 x1).f4).length c9_4] BKg10.out [.int .i64 ((rd_T57 l0 x1).f0),.bool ((rd_T57 l0 x1).f1),.int .i64 ((rd_T57 l0 x1).f2),.string ((rd_T57 l0 x1).f3),.slice A9_4 ((rd_T57 l0 x1).f4).length c9_4] (h:=?_);intro w17 hbk hg)
    refine zg ?_
    replace HF0:=zfg HF0.out hg fun k_ hk_=>hk_.2
    replace HF9_4:=zfg HF9_4.out hg fun k_ hk_=>hk_.2
    replace HB:=zhg HB.out hg (below_size HB.out) GEg10
    replace BKg10:=hbk
    clear hg hbk
    replace cBKg10:=MB.lz5 BKg10.out
    replace HH:=zd HH
    obtain⟨t23,At24,HH⟩:=HH
    go_wp2_with ((with_reducible refine gc 62 rfl ?_);refine zc 62 (some 17) Try.func62 #[.agg #[.int .i64 ((rd_T57 l0 x1).f0),.bool ((rd_T57 l0 x1).f1),.int .i64 ((rd_T57 l0 x1).f2),.string ((rd_T57 l0 x1).f3),.slice A9_4 ((rd_T57 l0 x1).f4).length c9_4]] (h:=?_);(with_reducible refine(ber_Check.calls k2 (fun k_=>(P_ k_∨w.heap.size≤k_)∧k_≠g10) ((rd_T57 l0 x1).f0) ((rd_T57 l0 x1).f1) ((rd_T57 l0 x1).f2) ((rd_T57 l0 x1).f3) _ _ ((rd_T57 l0 x1).f4) t23 _ HF9_4.out HL9_4.out At24.out).mono ?_);rintro e w25 ⟨rfl,hb⟩;refine⟨_,rfl,?_⟩)
    refine zg ?_
    replace HF0:=zfb HF0.out hb
    replace BKg10:=zbb BKg10.out hb
    replace HB:=zhb HB.out hb
    clear hb
    replace cBKg10:=MB.lz5 BKg10.out
    replace HH:=zqe HH
    rcases HH with⟨HH,hk32,hk33⟩|⟨HH,hk34,hk35⟩
    ·go_wp2
     go_roundg k2
     case measure=>have:=HK0.out;omega
     case rel=>exact⟨wrap64 (x1+1),(by first|rfl|(simp;done)|(simp[*];done)),HH,⟨by have:=HK0.out;omega⟩,⟨(Kd.F_mono (ok:=(fun k_=>(P_ k_∨w.heap.size≤k_)∧k_≠g10)) HF0.out (fun k_ hk_=>hk_.1))⟩,⟨HB.out⟩⟩
    have H:=HH.out
    simp only[Option.some.injEq,Prod.mk.injEq] at H
    obtain⟨rfl,rfl⟩:=H
    clear HH
    go_wp2
    go_ret2
    exact zfi HB.out
   go_wp2_with ((with_reducible refine gd 7 rfl ?_);refine zb 7 99 #[.pointer none,.slice none 0 0,.bool false] (h:=?_);intro g39 hg w40 BKg39 hb)
   refine zg ?_
   have GEg39:=zge hg (below_size HB.out)
   replace HF0:=zfe HF0.out hg hb
   replace HB:=zhb HB.out hb
   clear hg hb
   replace cBKg39:=MB.lz3 BKg39.out
   go_wp2
   go_loopg [24] k2 (fun kq u24 w'=>∃ (x46:Int) (x47:List Int) (x49:Bool) (v44:Value) (p45:Value),u24=.int .i64 x46∧Aside0 ((ber_Encode.l1 kq x46 x47 x49 l0)=some (r1,r2))∧Aside0 (kq≤k2)∧Aside0 (Kd.F k57 w' (fun k_=>((P_ k_∨w.heap.size≤k_)∧some k_≠(v44:Value).ownBlock)∧k_≠g39) A0 l0.length l0)∧Aside0 (Kd.N (Kd.int .u8) 5 w' w.heap.size (fun k_=>(P_ k_∨w.heap.size≤k_)∧k_≠g39) v44 x47)∧Aside0 (p45=.pointer none∨p45=.pointer (some ⟨g39,0,none⟩))∧Aside0 (w'.heap[g39]? =some (.cells #[p45,v44,.bool x49] 99 (0,0)))∧Aside0 (Below w.heap.size w w'))
   case atStart=>exact⟨0,([]:List Int),false,.slice none 0 0,.pointer none,(by first|rfl|(simp;done)|(simp[*];done)),HH,⟨Nat.le_refl _⟩,⟨(Kd.F_mono (ok:=(fun k_=>(P_ k_∨w.heap.size≤k_)∧k_≠g39)) HF0.out (fun k_ hk_=>⟨⟨hk_.1,(by simp[Value.ownBlock])⟩,hk_.2⟩))⟩,⟨Kd.N_nil _ _ _ _ _⟩,⟨(.inl rfl)⟩,⟨BKg39.out⟩,⟨HB.out⟩⟩
   case round=>
    clear hk37
    clear hk38
    clear HH
    clear HF0 BKg39 HB
    obtain⟨x46,x47,x49,v44,p45,rfl,HA,HK1,HF0,HN48,HPp45,BKg39,HB⟩:=hrel
    obtain⟨w51,rfl⟩:∃ wo_:World,wo_=wr:=⟨_,rfl⟩
    cases gk with
    |zero=>exact absurd HA.out (by simp[ber_Encode.l1])
    |succ k50=>
     have H:=HA.out
     clear HA
     simp only[ber_Encode.l1] at H
     have HH:=za H
     clear H
     replace cBKg39:=MB.lz3 BKg39.out
     replace HH:=zqt HH
     rcases HH with⟨HH,hk56,hk57⟩|⟨HH,hk98,hk99⟩
     ·replace HH:=zqdo HH
      obtain⟨HH,hk59⟩:=HH
      have p60:0≤(x46:Int):=of_decide_eq_true (by first|(with_reducible assumption)|assumption)
      have q60:x46<(l0.length:Int):=of_decide_eq_true (by first|(with_reducible assumption)|assumption)
      obtain⟨ad60,A60_4,c60_4,e60,hx60_0,hx60_1,hx60_2,hx60_3,hx60_4,hl60_4,hi60_4⟩:=atF_T57 HF0.out x46 p60 q60
      cases e60
      have HF60_4:=za hi60_4
      have HL60_4:=za hl60_4
      clear hi60_4 hl60_4
      replace p60:=eq_true p60
      replace q60:=eq_true q60
      go_wp2_with ((with_reducible refine gd 9 rfl ?_);refine zb 9 57 #[.int .i64 0,.bool false,.int .i64 0,.string (⟨#[]⟩:ByteArray),.slice none 0 0] (h:=?_);intro g61 hg w62 BKg61 hb)
      refine zg ?_
      have GEg61:=zge hg (below_size HB.out)
      have NEg39_g61:=znq hg BKg39.out
      have NEg61_g39:=zsy NEg39_g61
      replace HF0:=zfe HF0.out hg hb
      replace HF60_4:=zfe HF60_4.out hg hb
      replace HN48:=zne HN48.out hg hb
      replace BKg39:=zbb BKg39.out hb
      replace HB:=zhb HB.out hb
      clear hg hb
      clear hx60_0 hx60_1 hx60_2 hx60_3 hx60_4 p60 q60
      replace cBKg39:=MB.lz3 BKg39.out
      replace cBKg61:=MB.lz5 BKg61.out
      go_wp2_with ((with_reducible refine gs 57 9 rfl ?_);refine zs 57 9 #[.int .i64 ((rd_T57 l0 x46).f0),.bool ((rd_T57 l0 x46).f1),.int .i64 ((rd_T57 l0 x46).f2),.string ((rd_T57 l0 x46).f3),.slice A60_4 ((rd_T57 l0 x46).f4).length c60_4] BKg61.out [.int .i64 ((rd_T57 l0 x46).f0),.bool ((rd_T57 l0 x46).f1),.int .i64 ((rd_T57 l0 x46).f2),.string ((rd_T57 l0 x46).f3),.slice A60_4 ((rd_T57 l0 x46).f4).length c60_4] (h:=?_);intro w71 hbk hg)
      refine zg ?_
      replace HF0:=zfg HF0.out hg fun k_ hk_=>hk_.2
      replace HF60_4:=zfg HF60_4.out hg fun k_ hk_=>hk_.2
      replace HN48:=zng HN48.out hg fun k_ hk_=>hk_.2
      replace BKg39:=zbg BKg39.out hg NEg39_g61
      replace HB:=zhg HB.out hg (below_size HB.out) GEg61
      replace BKg61:=hbk
      clear hg hbk
      replace cBKg39:=MB.lz3 BKg39.out
      replace cBKg61:=MB.lz5 BKg61.out
      obtain⟨A80,cp81,he_⟩:=Kd.N_slice HN48.out
      subst he_
      replace HH:=zd HH
      obtain⟨⟨t82,t83⟩,At84,HH⟩:=HH
      dsimp only at HH
      go_wp2_with (((with_reducible refine gc 63 rfl ?_);refine zc 63 (some 29) Try.func63 #[.pointer (some ⟨g39,0,none⟩),.agg #[.int .i64 ((rd_T57 l0 x46).f0),.bool ((rd_T57 l0 x46).f1),.int .i64 ((rd_T57 l0 x46).f2),.string ((rd_T57 l0 x46).f3),.slice A60_4 ((rd_T57 l0 x46).f4).length c60_4]] (h:=?_);refine(ber_sheaf_lay.calls k50 (fun k_=>(((P_ k_∨w.heap.size≤k_)∧some k_≠((.slice A80 x47.length cp81):Value).ownBlock)∧k_≠g39)∧k_≠g61) w.heap.size g39 (p45) ((.slice A80 x47.length cp81)) x47 x49 ((rd_T57 l0 x46).f0) ((rd_T57 l0 x46).f1) ((rd_T57 l0 x46).f2) ((rd_T57 l0 x46).f3) _ _ ((rd_T57 l0 x46).f4) t82 t83 _ (below_size HB.out) (fun k_ hk_=>hk_.1.2) (fun k_ hk_=>hk_.1.1.2) BKg39.out GEg39.out HPp45.out (Kd.N_mono (MB.N_only HN48.out) (fun k_ hk_=>⟨⟨trivial,.inl hk_⟩,(fun hk_=>hk_.1.2) (HN48.out.1 k_ hk_.symm)⟩)) HF60_4.out HL60_4.out At84.out).mono ?_;rintro e w85 ⟨v86,p87,rfl,hn1,hp1,hbk,hfr,hb⟩;refine⟨_,rfl,?_⟩);replace hbk:=za hbk;replace hfr:=za hfr;replace hp1:=za hp1)
      refine zg ?_
      replace hbk:=hbk.out
      replace hfr:=hfr.out
      replace hp1:=hp1.out
      have hat1:∀ k_:Nat,(v86:Value).ownBlock=some k_→some k_=((.slice A80 x47.length cp81):Value).ownBlock∨w71.heap.size≤k_:=fun k_ h_=>(hn1.1 k_ h_).1.2
      have HN88:=za (Kd.N_mono hn1 (fun k_ hk_=>hk_.1.2.elim (fun h_=>HN48.out.1 k_ h_.symm) (fun h_=>⟨⟨.inr (Nat.le_trans (below_size HB.out) h_),Kd.freshB (g:=g39) BKg39.out k_ h_⟩,Kd.freshB (g:=g61) BKg61.out k_ h_⟩)):Kd.N (Kd.int .u8) 5 w85 w.heap.size (fun k_=>((P_ k_∨w.heap.size≤k_)∧k_≠g39)∧k_≠g61) v86 t82)
      replace HF0:=za (Kd.F_mono (MB.F_ptr (ok:=(fun k_=>(((P_ k_∨w.heap.size≤k_)∧some k_≠((.slice A80 x47.length cp81):Value).ownBlock)∧k_≠g39)∧k_≠g61)) HF0.out hfr (fun k_ hk_=>hk_.1.2) (fun k_ hk_=>hk_.1.1.2)) (fun k_ hk_=>⟨⟨⟨hk_.1.1.1.1,hk_.1.1.2⟩,hk_.1.2⟩,(fun he_=>(hat1 k_ he_.symm).elim (fun h_=>absurd h_ (hk_.1.1.1.2)) (fun h_=>absurd hk_.2 (Nat.not_lt.2 h_)))⟩):Kd.F k57 _ (fun k_=>(((P_ k_∨w.heap.size≤k_)∧k_≠g39)∧k_≠g61)∧some k_≠(v86:Value).ownBlock) _ _ _)
      replace BKg61:=za (MB.blk_ptr BKg61.out hfr NEg61_g39.out (Kd.N_away (ok:=(fun k_=>((P_ k_∨w.heap.size≤k_)∧k_≠g39)∧k_≠g61)) HN48.out (fun k_ hk_=>hk_.2)))
      replace HB:=za (Below.trans HB.out hb)
      replace BKg39:=za hbk
      have HPp87:=za hp1
      clear hbk hfr hb hp1 hn1 hat1
      clear HN48
      replace cBKg39:=MB.lz3 BKg39.out
      replace cBKg61:=MB.lz5 BKg61.out
      go_wp2
      go_roundg k50
      case measure=>have:=HK0.out;have:=HK1.out;omega
      case rel=>exact⟨wrap64 (x46+1),t82,t83,v86,p87,(by first|rfl|(simp;done)|(simp[*];done)),HH,⟨by have:=HK0.out;have:=HK1.out;omega⟩,⟨(Kd.F_mono (ok:=(fun k_=>(((P_ k_∨w.heap.size≤k_)∧k_≠g39)∧k_≠g61)∧some k_≠(v86:Value).ownBlock)) HF0.out (fun k_ hk_=>⟨⟨hk_.1.1.1,hk_.2⟩,hk_.1.1.2⟩))⟩,⟨(Kd.N_mono (ok:=(fun k_=>((P_ k_∨w.heap.size≤k_)∧k_≠g39)∧k_≠g61)) HN88.out (fun k_ hk_=>⟨hk_.1.1,hk_.1.2⟩))⟩,⟨HPp87.out⟩,⟨BKg39.out⟩,⟨HB.out⟩⟩
     by_cases c100:x49=true
     ·replace HH:=MW.hpos HH c100
      subst c100
      have H:=HH.out
      simp only[Option.some.injEq,Prod.mk.injEq] at H
      obtain⟨rfl,rfl⟩:=H
      clear HH
      go_wp2
      go_ret2
      exact zfi HB.out
     replace HH:=MW.hneg HH c100
     replace c100:=Bool.eq_false_iff.mpr c100
     subst c100
     obtain⟨A101,cp102,he_⟩:=Kd.N_slice HN48.out
     subst he_
     go_wp2_with (((with_reducible refine gc 64 rfl ?_);refine zc 64 (some 34) Try.func64 #[.pointer (some ⟨g39,0,none⟩)] (h:=?_);refine(bString64 g39 99 (p45) ((.slice A101 x47.length cp102)) [.bool false] w.heap.size (fun k_=>(P_ k_∨w.heap.size≤k_)∧k_≠g39) x47 _ BKg39.out HN48.out).mono ?_;rintro e w103 ⟨rfl,hg⟩;refine⟨_,rfl,?_⟩))
     refine zg ?_
     replace BKg39:=za (blk_grown (g:=g39) BKg39.out hg (Kd.N_away (ok:=(fun k_=>(P_ k_∨w.heap.size≤k_)∧k_≠g39)) HN48.out (fun k_ hk_=>hk_.2)))
     replace HB:=za (Below.grown HB.out hg (below_size HB.out) (Kd.N_base HN48.out))
     clear hg HN48
     replace cBKg39:=MB.lz3 BKg39.out
     have H:=HH.out
     simp only[Option.some.injEq,Prod.mk.injEq] at H
     obtain⟨rfl,rfl⟩:=H
     clear HH
     go_wp2
     go_ret2
     exact zfi HB.out

def ber_Decode.f (k:Nat) (a0:ByteArray) (a1:Int):Option (Int × Bool × Int × ByteArray × (List (S57)) × Int × Int):=if a1<0 then(some (0,false,0,(⟨#[]⟩:ByteArray),([]:List (S57)),0,2)) else(if a1>(a0.size:Int) then(some (0,false,0,(⟨#[]⟩:ByteArray),([]:List (S57)),0,2)) else((ber_take.f k a0 a1 12).bind fun bt28=>(some (bt28.1,bt28.2.1,bt28.2.2.1,bt28.2.2.2.1,bt28.2.2.2.2.1,bt28.2.2.2.2.2.1,bt28.2.2.2.2.2.2))))
theorem ber_Decode.mono:∀ a0_ a1_ k,LeO (ber_Decode.f k a0_ a1_) (ber_Decode.f (k+1) a0_ a1_):=by
 intro a0_ a1_ k
 unfold ber_Decode.f
 with_reducible repeat' first|exact ber_take.mono _ _ _ _|exact LeO.refl _|exact LeO.none _|refine LeO.ite ?_ ?_|refine LeO.bind ?_ (fun _=>?_)
theorem ber_Decode.calls (k:Nat) (a0:ByteArray) (a1:Int) (r1:Int) (r2:Bool) (r3:Int) (r4:ByteArray) (r5:List (S57)) (r6:Int) (r7:Int) (w:World) (h:ber_Decode.f k a0 a1=some (r1,r2,r3,r4,r5,r6,r7)):
  Calls Try.prog 27 #[.string a0,.int .i64 a1] w (fun e w'=>∃ v4_:Value,e=.returned (.tuple #[.agg #[.int .i64 r1,.bool r2,.int .i64 r3,.string r4,v4_],.int .i64 r6,.int .i64 r7])∧Kd.N k57 57 w' w.heap.size (fun k_=>w.heap.size≤k_) v4_ r5∧Below w.heap.size w w'):=by
 unfold ber_Decode.f at h
 have HH:=za h
 clear h
 have HB:=za (Below.refl w.heap.size w)
 have hu57:=Try.underlying57
 go_enter Try.func27,Try.ntmps27
 go_wp2_with ((with_reducible refine gd 4 rfl ?_);refine zb 4 57 #[.int .i64 0,.bool false,.int .i64 0,.string (⟨#[]⟩:ByteArray),.slice none 0 0] (h:=?_);intro g1 hg w2 BKg1 hb)
 refine zg ?_
 have GEg1:=zge hg (below_size HB.out)
 replace HB:=zhb HB.out hb
 clear hg hb
 replace cBKg1:=MB.lz5 BKg1.out
 replace HH:=zqt HH
 rcases HH with⟨HH,hk9,hk10⟩|⟨HH,hk17,hk18⟩
 ·go_wp2_with ((with_reducible refine gs 57 4 rfl ?_);refine zs 57 4 #[.int .i64 0,.bool false,.int .i64 0,.string (⟨#[]⟩:ByteArray),.slice none 0 0] BKg1.out [.int .i64 0,.bool false,.int .i64 0,.string (⟨#[]⟩:ByteArray),.slice none 0 0] (h:=?_);intro w11 hbk hg)
  refine zg ?_
  replace HB:=zhg HB.out hg (below_size HB.out) GEg1
  replace BKg1:=hbk
  clear hg hbk
  replace cBKg1:=MB.lz5 BKg1.out
  have H:=HH.out
  simp only[Option.some.injEq,Prod.mk.injEq] at H
  obtain⟨rfl,rfl,rfl,rfl,rfl,rfl,rfl⟩:=H
  clear HH
  go_wp2
  refine bodyPost_ret (results_ctt rfl _ _ g1 57 #[.int .i64 0,.bool false,.int .i64 0,.string (⟨#[]⟩:ByteArray),.slice none 0 0] (0,0) _ rfl BKg1.out Try.underlying57 rfl (by kernel_rfl)) rfl ?_
  exact⟨_,by first|rfl|(simp;done)|(simp[*];done),(Kd.N_nil _ _ _ _ _),HB.out⟩
 replace HH:=zqg HH
 rcases HH with⟨HH,hk20⟩|⟨HH,hk27⟩
 ·go_wp2_with ((with_reducible refine gs 57 4 rfl ?_);refine zs 57 4 #[.int .i64 0,.bool false,.int .i64 0,.string (⟨#[]⟩:ByteArray),.slice none 0 0] BKg1.out [.int .i64 0,.bool false,.int .i64 0,.string (⟨#[]⟩:ByteArray),.slice none 0 0] (h:=?_);intro w21 hbk hg)
  refine zg ?_
  replace HB:=zhg HB.out hg (below_size HB.out) GEg1
  replace BKg1:=hbk
  clear hg hbk
  replace cBKg1:=MB.lz5 BKg1.out
  have H:=HH.out
  simp only[Option.some.injEq,Prod.mk.injEq] at H
  obtain⟨rfl,rfl,rfl,rfl,rfl,rfl,rfl⟩:=H
  clear HH
  go_wp2
  refine bodyPost_ret (results_ctt rfl _ _ g1 57 #[.int .i64 0,.bool false,.int .i64 0,.string (⟨#[]⟩:ByteArray),.slice none 0 0] (0,0) _ rfl BKg1.out Try.underlying57 rfl (by kernel_rfl)) rfl ?_
  exact⟨_,by first|rfl|(simp;done)|(simp[*];done),(Kd.N_nil _ _ _ _ _),HB.out⟩
 replace HH:=zd HH
 obtain⟨⟨t28,t29,t30,t31,t32,t33,t34⟩,At35,HH⟩:=HH
 dsimp only at HH
 go_wp2_with ((with_reducible refine gc 49 rfl ?_);refine zc 49 (some 18) Try.func49 #[.string a0,.int .i64 a1,.int .i64 12] (h:=?_);(with_reducible refine(ber_take.calls k  a0 a1 12 t28 t29 t30 t31 t32 t33 t34 _  At35.out).mono ?_);rintro e w36 ⟨v37,rfl,hn37,hb⟩;refine⟨_,rfl,?_⟩)
 refine zg ?_
 have hba:=Kd.N_base hn37
 have HN37:=znl (ok2:=(fun k_=>(w.heap.size≤k_)∧k_≠g1)) hn37 (below_size HB.out) (fun k_ h_=>⟨(Nat.le_trans (below_size HB.out) h_),Kd.freshB (g:=g1) BKg1.out k_ h_⟩)
 replace BKg1:=zbb BKg1.out hb
 replace HB:=zhb HB.out hb
 clear hn37 hba hb
 replace cBKg1:=MB.lz5 BKg1.out
 obtain⟨A44,cp45,he_⟩:=Kd.N_slice HN37.out
 subst he_
 go_wp2_with ((with_reducible refine gs 57 4 rfl ?_);refine zs 57 4 #[.int .i64 t28,.bool t29,.int .i64 t30,.string t31,(.slice A44 t32.length cp45)] BKg1.out [.int .i64 t28,.bool t29,.int .i64 t30,.string t31,(.slice A44 t32.length cp45)] (h:=?_);intro w43 hbk hg)
 refine zg ?_
 replace HN37:=zng HN37.out hg fun k_ hk_=>hk_.2
 replace HB:=zhg HB.out hg (below_size HB.out) GEg1
 replace BKg1:=hbk
 clear hg hbk
 replace cBKg1:=MB.lz5 BKg1.out
 have H:=HH.out
 simp only[Option.some.injEq,Prod.mk.injEq] at H
 obtain⟨rfl,rfl,rfl,rfl,rfl,rfl,rfl⟩:=H
 clear HH
 go_wp2
 refine bodyPost_ret (results_ctt rfl _ _ g1 57 #[.int .i64 t28,.bool t29,.int .i64 t30,.string t31,(.slice A44 t32.length cp45)] (0,0) _ rfl BKg1.out Try.underlying57 rfl (by kernel_rfl)) rfl ?_
 exact⟨_,by first|rfl|(simp;done)|(simp[*];done),(Kd.N_mono (ok:=(fun k_=>(w.heap.size≤k_)∧k_≠g1)) HN37.out (fun k_ hk_=>hk_.1)),HB.out⟩

def toponymref15_head.f (a0:ByteArray) (a1:Int):Option (Int × Int × Int):=if (wrap64 ((a0.size:Int) - a1))<1 then(some (0,0,150)) else(if 0≤a1 then(if a1<(a0.size:Int) then(if (Int.tmod (bt a0 a1) 32)=31 then(some (0,0,151)) else(if (wrap64 ((a0.size:Int) - a1))<2 then(some (0,0,150)) else(if 0≤(wrap64 (a1+1)) then(if (wrap64 (a1+1))<(a0.size:Int) then(if (wrap64 (bt a0 (wrap64 (a1+1))))<128 then(some (2,wrap64 (bt a0 (wrap64 (a1+1))),0)) else(if (wrap64 (bt a0 (wrap64 (a1+1))))=128 then(some (0,0,152)) else(if (wrap64 (bt a0 (wrap64 (a1+1))))>130 then(some (0,0,152)) else(if (wrap64 ((a0.size:Int) - a1))<(wrap64 ((wrap64 (bt a0 (wrap64 (a1+1)))) - 126)) then(some (0,0,150)) else(if (wrap64 (bt a0 (wrap64 (a1+1))))=129 then(if 0≤(wrap64 (a1+2)) then(if (wrap64 (a1+2))<(a0.size:Int) then(if (bt a0 (wrap64 (a1+2)))<128 then(some (0,0,152)) else(if (wrap64 (bt a0 (wrap64 (a1+1))))=130 then(if (bt a0 (wrap64 (a1+2)))=0 then(some (0,0,152)) else(some (3,wrap64 (bt a0 (wrap64 (a1+2))),0))) else(some (3,wrap64 (bt a0 (wrap64 (a1+2))),0)))) else(none)) else(none)) else(if (wrap64 (bt a0 (wrap64 (a1+1))))=130 then(if 0≤(wrap64 (a1+2)) then(if (wrap64 (a1+2))<(a0.size:Int) then(if (bt a0 (wrap64 (a1+2)))=0 then(some (0,0,152)) else(if 0≤(wrap64 (a1+3)) then(if (wrap64 (a1+3))<(a0.size:Int) then(some (4,wrap64 ((wrap64 (256*(wrap64 (bt a0 (wrap64 (a1+2))))))+(wrap64 (bt a0 (wrap64 (a1+3))))),0)) else(none)) else(none))) else(none)) else(none)) else(if 0≤(wrap64 (a1+2)) then(if (wrap64 (a1+2))<(a0.size:Int) then(if 0≤(wrap64 (a1+3)) then(if (wrap64 (a1+3))<(a0.size:Int) then(some (4,wrap64 ((wrap64 (256*(wrap64 (bt a0 (wrap64 (a1+2))))))+(wrap64 (bt a0 (wrap64 (a1+3))))),0)) else(none)) else(none)) else(none)) else(none)))))))) else(none)) else(none)))) else(none)) else(none))
theorem toponymref15_head.calls (a0:ByteArray) (a1:Int) (r1:Int) (r2:Int) (r3:Int) (w:World) (h:toponymref15_head.f a0 a1=some (r1,r2,r3)):
  Calls Try.prog 80 #[.string a0,.int .i64 a1] w (fun e w'=>e=.returned (.tuple #[.int .i64 r1,.int .i64 r2,.int .i64 r3])∧Drawn0 w w'):=by
 unfold toponymref15_head.f at h
 have HH:=za h
 clear h
 go_enter Try.func80,Try.ntmps80
 replace HH:=zqt HH
 rcases HH with⟨HH,hk2,hk3⟩|⟨HH,hk4,hk5⟩
 ·have H:=HH.out
  simp only[Option.some.injEq,Prod.mk.injEq] at H
  obtain⟨rfl,rfl,rfl⟩:=H
  clear HH
  go_wp2
  go_ret3
  exact⟨by first|rfl|(simp;done)|(simp[*];done),by repeat(first|exact Drawn0.refl _|apply Drawn0.step)⟩
 replace HH:=zqdo HH
 obtain⟨HH,hk7⟩:=HH
 replace HH:=zqto HH
 obtain⟨HH,hk9,hk10⟩:=HH
 have p11:0≤(a1:Int):=of_decide_eq_true (by first|(with_reducible assumption)|assumption)
 have q11:a1<(a0.size:Int):=of_decide_eq_true (by first|(with_reducible assumption)|assumption)
 have hx11:=MW.bt_at' a0 a1
 replace p11:=eq_true p11
 replace q11:=eq_true q11
 replace HH:=zqe HH
 rcases HH with⟨HH,hk13,hk14⟩|⟨HH,hk15,hk16⟩
 ·have H:=HH.out
  simp only[Option.some.injEq,Prod.mk.injEq] at H
  obtain⟨rfl,rfl,rfl⟩:=H
  clear HH
  go_wp2
  go_ret3
  exact⟨by first|rfl|(simp;done)|(simp[*];done),by repeat(first|exact Drawn0.refl _|apply Drawn0.step)⟩
 replace HH:=zqt HH
 rcases HH with⟨HH,hk18,hk19⟩|⟨HH,hk20,hk21⟩
 ·have H:=HH.out
  simp only[Option.some.injEq,Prod.mk.injEq] at H
  obtain⟨rfl,rfl,rfl⟩:=H
  clear HH
  go_wp2
  go_ret3
  exact⟨by first|rfl|(simp;done)|(simp[*];done),by repeat(first|exact Drawn0.refl _|apply Drawn0.step)⟩
 replace HH:=zqdo HH
 obtain⟨HH,hk23⟩:=HH
 replace HH:=zqto HH
 obtain⟨HH,hk25,hk26⟩:=HH
 have p27:0≤((wrap64 (a1+1)):Int):=of_decide_eq_true (by first|(with_reducible assumption)|assumption)
 have q27:(wrap64 (a1+1))<(a0.size:Int):=of_decide_eq_true (by first|(with_reducible assumption)|assumption)
 have hx27:=MW.bt_at' a0 (wrap64 (a1+1))
 replace p27:=eq_true p27
 replace q27:=eq_true q27
 replace HH:=zqt HH
 rcases HH with⟨HH,hk29,hk30⟩|⟨HH,hk31,hk32⟩
 ·have H:=HH.out
  simp only[Option.some.injEq,Prod.mk.injEq] at H
  obtain⟨rfl,rfl,rfl⟩:=H
  clear HH
  go_wp2
  go_ret3
  exact⟨by first|rfl|(simp;done)|(simp[*];done),by repeat(first|exact Drawn0.refl _|apply Drawn0.step)⟩
 replace HH:=zqe HH
 rcases HH with⟨HH,hk34,hk35⟩|⟨HH,hk36,hk37⟩
 ·have H:=HH.out
  simp only[Option.some.injEq,Prod.mk.injEq] at H
  obtain⟨rfl,rfl,rfl⟩:=H
  clear HH
  go_wp2
  go_ret3
  exact⟨by first|rfl|(simp;done)|(simp[*];done),by repeat(first|exact Drawn0.refl _|apply Drawn0.step)⟩
 replace HH:=zqg HH
 rcases HH with⟨HH,hk39⟩|⟨HH,hk40⟩
 ·have H:=HH.out
  simp only[Option.some.injEq,Prod.mk.injEq] at H
  obtain⟨rfl,rfl,rfl⟩:=H
  clear HH
  go_wp2
  go_ret3
  exact⟨by first|rfl|(simp;done)|(simp[*];done),by repeat(first|exact Drawn0.refl _|apply Drawn0.step)⟩
 replace HH:=zqt HH
 rcases HH with⟨HH,hk42,hk43⟩|⟨HH,hk44,hk45⟩
 ·have H:=HH.out
  simp only[Option.some.injEq,Prod.mk.injEq] at H
  obtain⟨rfl,rfl,rfl⟩:=H
  clear HH
  go_wp2
  go_ret3
  exact⟨by first|rfl|(simp;done)|(simp[*];done),by repeat(first|exact Drawn0.refl _|apply Drawn0.step)⟩
 replace HH:=zqe HH
 rcases HH with⟨HH,hk47,hk48⟩|⟨HH,hk73,hk74⟩
 ·replace HH:=zqdo HH
  obtain⟨HH,hk50⟩:=HH
  replace HH:=zqto HH
  obtain⟨HH,hk52,hk53⟩:=HH
  have p54:0≤((wrap64 (a1+2)):Int):=of_decide_eq_true (by first|(with_reducible assumption)|assumption)
  have q54:(wrap64 (a1+2))<(a0.size:Int):=of_decide_eq_true (by first|(with_reducible assumption)|assumption)
  have hx54:=MW.bt_at' a0 (wrap64 (a1+2))
  replace p54:=eq_true p54
  replace q54:=eq_true q54
  replace HH:=zqt HH
  rcases HH with⟨HH,hk56,hk57⟩|⟨HH,hk58,hk59⟩
  ·have H:=HH.out
   simp only[Option.some.injEq,Prod.mk.injEq] at H
   obtain⟨rfl,rfl,rfl⟩:=H
   clear HH
   go_wp2
   go_ret3
   exact⟨by first|rfl|(simp;done)|(simp[*];done),by repeat(first|exact Drawn0.refl _|apply Drawn0.step)⟩
  replace HH:=zqe HH
  rcases HH with⟨HH,hk61,hk62⟩|⟨HH,hk68,hk69⟩
  ·replace HH:=zqe HH
   rcases HH with⟨HH,hk64,hk65⟩|⟨HH,hk66,hk67⟩
   ·have H:=HH.out
    simp only[Option.some.injEq,Prod.mk.injEq] at H
    obtain⟨rfl,rfl,rfl⟩:=H
    clear HH
    go_wp2
    go_ret3
    exact⟨by first|rfl|(simp;done)|(simp[*];done),by repeat(first|exact Drawn0.refl _|apply Drawn0.step)⟩
   have H:=HH.out
   simp only[Option.some.injEq,Prod.mk.injEq] at H
   obtain⟨rfl,rfl,rfl⟩:=H
   clear HH
   go_wp2
   go_quiet (fail)
   go_wp2
   go_ret3
   exact⟨by first|rfl|(simp;done)|(simp[*];done),by repeat(first|exact Drawn0.refl _|apply Drawn0.step)⟩
  have H:=HH.out
  simp only[Option.some.injEq,Prod.mk.injEq] at H
  obtain⟨rfl,rfl,rfl⟩:=H
  clear HH
  go_wp2
  go_quiet (fail)
  go_wp2
  go_ret3
  exact⟨by first|rfl|(simp;done)|(simp[*];done),by repeat(first|exact Drawn0.refl _|apply Drawn0.step)⟩
 replace HH:=zqe HH
 rcases HH with⟨HH,hk76,hk77⟩|⟨HH,hk101,hk102⟩
 ·replace HH:=zqdo HH
  obtain⟨HH,hk79⟩:=HH
  replace HH:=zqto HH
  obtain⟨HH,hk81,hk82⟩:=HH
  have p83:0≤((wrap64 (a1+2)):Int):=of_decide_eq_true (by first|(with_reducible assumption)|assumption)
  have q83:(wrap64 (a1+2))<(a0.size:Int):=of_decide_eq_true (by first|(with_reducible assumption)|assumption)
  have hx83:=MW.bt_at' a0 (wrap64 (a1+2))
  replace p83:=eq_true p83
  replace q83:=eq_true q83
  replace HH:=zqe HH
  rcases HH with⟨HH,hk85,hk86⟩|⟨HH,hk87,hk88⟩
  ·have H:=HH.out
   simp only[Option.some.injEq,Prod.mk.injEq] at H
   obtain⟨rfl,rfl,rfl⟩:=H
   clear HH
   go_wp2
   go_ret3
   exact⟨by first|rfl|(simp;done)|(simp[*];done),by repeat(first|exact Drawn0.refl _|apply Drawn0.step)⟩
  replace HH:=zqdo HH
  obtain⟨HH,hk90⟩:=HH
  replace HH:=zqto HH
  obtain⟨HH,hk92,hk93⟩:=HH
  have p94:0≤((wrap64 (a1+3)):Int):=of_decide_eq_true (by first|(with_reducible assumption)|assumption)
  have q94:(wrap64 (a1+3))<(a0.size:Int):=of_decide_eq_true (by first|(with_reducible assumption)|assumption)
  have hx94:=MW.bt_at' a0 (wrap64 (a1+3))
  replace p94:=eq_true p94
  replace q94:=eq_true q94
  have H:=HH.out
  simp only[Option.some.injEq,Prod.mk.injEq] at H
  obtain⟨rfl,rfl,rfl⟩:=H
  clear HH
  go_wp2
  go_quiet (fail)
  go_wp2
  go_ret3
  exact⟨by first|rfl|(simp;done)|(simp[*];done),by repeat(first|exact Drawn0.refl _|apply Drawn0.step)⟩
 replace HH:=zqdo HH
 obtain⟨HH,hk104⟩:=HH
 replace HH:=zqto HH
 obtain⟨HH,hk106,hk107⟩:=HH
 have p108:0≤((wrap64 (a1+2)):Int):=of_decide_eq_true (by first|(with_reducible assumption)|assumption)
 have q108:(wrap64 (a1+2))<(a0.size:Int):=of_decide_eq_true (by first|(with_reducible assumption)|assumption)
 have hx108:=MW.bt_at' a0 (wrap64 (a1+2))
 replace p108:=eq_true p108
 replace q108:=eq_true q108
 replace HH:=zqdo HH
 obtain⟨HH,hk110⟩:=HH
 replace HH:=zqto HH
 obtain⟨HH,hk112,hk113⟩:=HH
 have p114:0≤((wrap64 (a1+3)):Int):=of_decide_eq_true (by first|(with_reducible assumption)|assumption)
 have q114:(wrap64 (a1+3))<(a0.size:Int):=of_decide_eq_true (by first|(with_reducible assumption)|assumption)
 have hx114:=MW.bt_at' a0 (wrap64 (a1+3))
 replace p114:=eq_true p114
 replace q114:=eq_true q114
 have H:=HH.out
 simp only[Option.some.injEq,Prod.mk.injEq] at H
 obtain⟨rfl,rfl,rfl⟩:=H
 clear HH
 go_wp2
 go_quiet (fail)
 go_wp2
 go_ret3
 exact⟨by first|rfl|(simp;done)|(simp[*];done),by repeat(first|exact Drawn0.refl _|apply Drawn0.step)⟩

mutual
def toponymref16_digits.l0:Nat→Int→Int→Int→Int→Option (ByteArray × Bool)
 |0,_,_,_,_=>none
 |k+1,x1,x2,a0,a1=>if x2<a1 then((toponymref16_digits.l0 k (wrap64 (x1*256)) (wrap64 (x2+1)) a0 a1)) else(if a0<(wrap64 (-x1)) then(some ((⟨#[]⟩:ByteArray),false)) else(if a0≥x1 then(some ((⟨#[]⟩:ByteArray),false)) else(if a0<0 then((toponymref16_digits.l1 k (wrap64 (a0+(wrap64 (2*x1)))) (⟨#[]⟩:ByteArray) 0 a1)) else((toponymref16_digits.l2 k a0 (⟨#[]⟩:ByteArray) 0 a1)))))
def toponymref16_digits.l1:Nat→Int→ByteArray→Int→Int→Option (ByteArray × Bool)
 |0,_,_,_,_=>none
 |k+1,x21,x22,x23,a1=>if x23<a1 then(if (strOfNums ([(Int.tmod x21 256) % 256]:List Int)).size+x22.size≤9223372036854775807 then((toponymref16_digits.l1 k (wrap64 (Int.tdiv x21 256)) ((strOfNums ([(Int.tmod x21 256) % 256]:List Int))++x22) (wrap64 (x23+1)) a1)) else(none)) else(some (x22,true))
def toponymref16_digits.l2:Nat→Int→ByteArray→Int→Int→Option (ByteArray × Bool)
 |0,_,_,_,_=>none
 |k+1,x46,x47,x48,a1=>if x48<a1 then(if (strOfNums ([(Int.tmod x46 256) % 256]:List Int)).size+x47.size≤9223372036854775807 then((toponymref16_digits.l2 k (wrap64 (Int.tdiv x46 256)) ((strOfNums ([(Int.tmod x46 256) % 256]:List Int))++x47) (wrap64 (x48+1)) a1)) else(none)) else(some (x47,true))
end
def toponymref16_digits.f (k:Nat) (a0:Int) (a1:Int):Option (ByteArray × Bool):=(toponymref16_digits.l0 k 128 1 a0 a1)
theorem toponymref16_digits.mono_l:∀ k,(∀ y0 y1 y2 y3,LeO (toponymref16_digits.l0 k y0 y1 y2 y3) (toponymref16_digits.l0 (k+1) y0 y1 y2 y3))∧(∀ y0 y1 y2 y3,LeO (toponymref16_digits.l1 k y0 y1 y2 y3) (toponymref16_digits.l1 (k+1) y0 y1 y2 y3))∧(∀ y0 y1 y2 y3,LeO (toponymref16_digits.l2 k y0 y1 y2 y3) (toponymref16_digits.l2 (k+1) y0 y1 y2 y3))
 |0=>⟨fun _ _ _ _ r h=>by simp[toponymref16_digits.l0] at h,fun _ _ _ _ r h=>by simp[toponymref16_digits.l1] at h,fun _ _ _ _ r h=>by simp[toponymref16_digits.l2] at h⟩
 |k+1=>by
  obtain⟨ih0,ih1,ih2⟩:=toponymref16_digits.mono_l k
  refine⟨?_,?_,?_⟩
  ·intro y0 y1 y2 y3
   unfold toponymref16_digits.l0
   with_reducible repeat' first|exact ih0 _ _ _ _|exact ih1 _ _ _ _|exact ih2 _ _ _ _|exact LeO.refl _|exact LeO.none _|refine LeO.ite ?_ ?_|refine LeO.bind ?_ (fun _=>?_)
  ·intro y0 y1 y2 y3
   unfold toponymref16_digits.l1
   with_reducible repeat' first|exact ih0 _ _ _ _|exact ih1 _ _ _ _|exact ih2 _ _ _ _|exact LeO.refl _|exact LeO.none _|refine LeO.ite ?_ ?_|refine LeO.bind ?_ (fun _=>?_)
  intro y0 y1 y2 y3
  unfold toponymref16_digits.l2
  with_reducible repeat' first|exact ih0 _ _ _ _|exact ih1 _ _ _ _|exact ih2 _ _ _ _|exact LeO.refl _|exact LeO.none _|refine LeO.ite ?_ ?_|refine LeO.bind ?_ (fun _=>?_)
theorem toponymref16_digits.mono:∀ a0_ a1_ k,LeO (toponymref16_digits.f k a0_ a1_) (toponymref16_digits.f (k+1) a0_ a1_):=by
 intro a0_ a1_ k
 obtain⟨ih0,ih1,ih2⟩:=toponymref16_digits.mono_l k
 unfold toponymref16_digits.f
 with_reducible repeat' first|exact ih0 _ _ _ _|exact ih1 _ _ _ _|exact ih2 _ _ _ _|exact LeO.refl _|exact LeO.none _|refine LeO.ite ?_ ?_|refine LeO.bind ?_ (fun _=>?_)
theorem toponymref16_digits.calls (k:Nat) (a0:Int) (a1:Int) (r1:ByteArray) (r2:Bool) (w:World) (h:toponymref16_digits.f k a0 a1=some (r1,r2)):
  Calls Try.prog 83 #[.int .i64 a0,.int .i64 a1] w (fun e w'=>e=.returned (.tuple #[.string r1,.bool r2])∧Below w.heap.size w w'):=by
 unfold toponymref16_digits.f at h
 have HH:=za h
 clear h
 have HB:=za (Below.refl w.heap.size w)
 go_enter Try.func83,Try.ntmps83
 go_wp2
 go_loopg [6,7] k (fun kq u6 u7 w'=>∃ (x1:Int) (x2:Int),u6=.int .i64 x1∧u7=.int .i64 x2∧Aside0 ((toponymref16_digits.l0 kq x1 x2 a0 a1)=some (r1,r2))∧Aside0 (kq≤k)∧Aside0 (Below w.heap.size w w'))
 case atStart=>exact⟨128,1,(by first|rfl|(simp;done)|(simp[*];done)),(by first|rfl|(simp;done)|(simp[*];done)),HH,⟨Nat.le_refl _⟩,⟨HB.out⟩⟩
 case round=>
  clear HH
  clear HB
  obtain⟨x1,x2,rfl,rfl,HA,HK0,HB⟩:=hrel
  obtain⟨w4,rfl⟩:∃ wo_:World,wo_=wr:=⟨_,rfl⟩
  cases gk with
  |zero=>exact absurd HA.out (by simp[toponymref16_digits.l0])
  |succ k3=>
   have H:=HA.out
   clear HA
   simp only[toponymref16_digits.l0] at H
   have HH:=za H
   clear H
   replace HH:=zqt HH
   rcases HH with⟨HH,hk6,hk7⟩|⟨HH,hk8,hk9⟩
   ·go_wp2
    go_roundg k3
    case measure=>have:=HK0.out;omega
    case rel=>exact⟨wrap64 (x1*256),wrap64 (x2+1),(by first|rfl|(simp;done)|(simp[*];done)),(by first|rfl|(simp;done)|(simp[*];done)),HH,⟨by have:=HK0.out;omega⟩,⟨HB.out⟩⟩
   replace HH:=zqt HH
   rcases HH with⟨HH,hk11,hk12⟩|⟨HH,hk13,hk14⟩
   ·have H:=HH.out
    simp only[Option.some.injEq,Prod.mk.injEq] at H
    obtain⟨rfl,rfl⟩:=H
    clear HH
    go_wp2
    go_ret2
    exact zfi HB.out
   replace HH:=zqG HH
   rcases HH with⟨HH,hk16⟩|⟨HH,hk17⟩
   ·have H:=HH.out
    simp only[Option.some.injEq,Prod.mk.injEq] at H
    obtain⟨rfl,rfl⟩:=H
    clear HH
    go_wp2
    go_ret2
    exact zfi HB.out
   replace HH:=zqt HH
   rcases HH with⟨HH,hk19,hk20⟩|⟨HH,hk44,hk45⟩
   ·go_wp2
    go_loopg [0,8,9] k3 (fun kq u0 u8 u9 w'=>∃ (x21:Int) (x22:ByteArray) (x23:Int),u0=.int .i64 x21∧u8=.string x22∧u9=.int .i64 x23∧Aside0 ((toponymref16_digits.l1 kq x21 x22 x23 a1)=some (r1,r2))∧Aside0 (kq≤k3)∧Aside0 (Below w.heap.size w w'))
    case atStart=>exact⟨wrap64 (a0+(wrap64 (2*x1))),(⟨#[]⟩:ByteArray),0,(by first|rfl|(simp;done)|(simp[*];done)),(by first|rfl|(simp;done)|(simp[*];done)),(by first|rfl|(simp;done)|(simp[*];done)),HH,⟨Nat.le_refl _⟩,⟨HB.out⟩⟩
    case round=>
     clear hk8
     clear hk9
     clear hk13
     clear hk14
     clear hk17
     clear hk19
     clear hk20
     clear HH
     clear HB
     obtain⟨x21,x22,x23,rfl,rfl,rfl,HA,HK1,HB⟩:=hrel
     obtain⟨w25,rfl⟩:∃ wo_:World,wo_=wr:=⟨_,rfl⟩
     cases gk with
     |zero=>exact absurd HA.out (by simp[toponymref16_digits.l1])
     |succ k24=>
      have H:=HA.out
      clear HA
      simp only[toponymref16_digits.l1] at H
      have HH:=za H
      clear H
      replace HH:=zqt HH
      rcases HH with⟨HH,hk27,hk28⟩|⟨HH,hk42,hk43⟩
      ·go_wp2_with (((with_reducible refine gate_dst (N:=40) rfl ?_);(try(refine gate_guard (by rfl) ?_;dsimp only));refine Kd.N_lit (Kd.int .u8) w.heap.size 5 rfl (N':=40) rfl (xs:=([(Int.tmod x21 256) % 256]:List Int)) (inner:=[.int .u8 ((Int.tmod x21 256) % 256)]) (ok:=(fun k_=>(w.heap.size≤k_))) (okp:=(fun k_=>(w.heap.size≤k_))) ?hr ?hp (fun _ hk_=>hk_) ?hf HB.out (below_size HB.out) (by first|simp|decide) ?_;(case hr=>first|(go_simp;done)|(go_simp;rfl));(case hp=>exact(Reps.one (fun _ _=>rfl) (Reps.none _ _)));(case hf=>exact(show ∀ k_,w25.heap.size≤k_→(fun k_=>(w.heap.size≤k_)) k_ from fun k_ h_=>(Nat.le_trans (below_size HB.out) h_)) _ (Nat.le_refl _));intro v29 w30 hn1 hb1 hg1 hat1);replace hat1:=za hat1;refine stop_ ?_)
       refine zg ?_
       replace hat1:=hat1.out
       have hbe:=MW.grown_below hg1
       have hba:=MW.base_of hat1
       replace HB:=za hb1
       have HN31:=za hn1
       clear hn1 hb1 hg1 hat1 hbe hba
       obtain⟨A32,cp33,he_⟩:=Kd.N_slice HN31.out
       subst he_
       have HF34:=za (Kd.N_F HN31.out)
       clear HN31
       have hcv36:=Kd.C_string (P:=Try.prog) (A:=A32) (c:=cp33) Try.underlying95 Try.underlying5 Try.underlying9 (Kd.F_now HF34.out)
       (try simp only[List.length_cons,List.length_nil,Nat.reduceAdd] at hcv36)
       by_cases c37:(strOfNums ([(Int.tmod x21 256) % 256]:List Int)).size+x22.size≤9223372036854775807
       ·replace HH:=MW.hpos HH c37
        have hk38:(9223372036854775807<(strOfNums ([(Int.tmod x21 256) % 256]:List Int)).size+x22.size)=False:=eq_false (Nat.not_lt.2 c37)
        have hk39:((strOfNums ([(Int.tmod x21 256) % 256]:List Int)).size+x22.size≤9223372036854775807)=True:=eq_true c37
        have hk40:decide ((strOfNums ([(Int.tmod x21 256) % 256]:List Int)).size+x22.size≤9223372036854775807)=true:=decide_eq_true c37
        clear c37
        go_wp2
        go_roundg k24
        case measure=>have:=HK0.out;have:=HK1.out;omega
        case rel=>exact⟨wrap64 (Int.tdiv x21 256),(strOfNums ([(Int.tmod x21 256) % 256]:List Int))++x22,wrap64 (x23+1),(by first|rfl|(simp;done)|(simp[*];done)),(by first|rfl|(simp;done)|(simp[*];done)),(by first|rfl|(simp;done)|(simp[*];done)),HH,⟨by have:=HK0.out;have:=HK1.out;omega⟩,⟨HB.out⟩⟩
       exact absurd HH.out (by rw[if_neg c37];simp)
      have H:=HH.out
      simp only[Option.some.injEq,Prod.mk.injEq] at H
      obtain⟨rfl,rfl⟩:=H
      clear HH
      go_wp2
      go_ret2
      exact zfi HB.out
   go_wp2
   go_loopg [0,8,9] k3 (fun kq u0 u8 u9 w'=>∃ (x46:Int) (x47:ByteArray) (x48:Int),u0=.int .i64 x46∧u8=.string x47∧u9=.int .i64 x48∧Aside0 ((toponymref16_digits.l2 kq x46 x47 x48 a1)=some (r1,r2))∧Aside0 (kq≤k3)∧Aside0 (Below w.heap.size w w'))
   case atStart=>exact⟨a0,(⟨#[]⟩:ByteArray),0,(by first|rfl|(simp;done)|(simp[*];done)),(by first|rfl|(simp;done)|(simp[*];done)),(by first|rfl|(simp;done)|(simp[*];done)),HH,⟨Nat.le_refl _⟩,⟨HB.out⟩⟩
   case round=>
    clear hk8
    clear hk9
    clear hk13
    clear hk14
    clear hk17
    clear hk44
    clear hk45
    clear HH
    clear HB
    obtain⟨x46,x47,x48,rfl,rfl,rfl,HA,HK2,HB⟩:=hrel
    obtain⟨w50,rfl⟩:∃ wo_:World,wo_=wr:=⟨_,rfl⟩
    cases gk with
    |zero=>exact absurd HA.out (by simp[toponymref16_digits.l2])
    |succ k49=>
     have H:=HA.out
     clear HA
     simp only[toponymref16_digits.l2] at H
     have HH:=za H
     clear H
     replace HH:=zqt HH
     rcases HH with⟨HH,hk52,hk53⟩|⟨HH,hk67,hk68⟩
     ·go_wp2_with (((with_reducible refine gate_dst (N:=40) rfl ?_);(try(refine gate_guard (by rfl) ?_;dsimp only));refine Kd.N_lit (Kd.int .u8) w.heap.size 5 rfl (N':=40) rfl (xs:=([(Int.tmod x46 256) % 256]:List Int)) (inner:=[.int .u8 ((Int.tmod x46 256) % 256)]) (ok:=(fun k_=>(w.heap.size≤k_))) (okp:=(fun k_=>(w.heap.size≤k_))) ?hr ?hp (fun _ hk_=>hk_) ?hf HB.out (below_size HB.out) (by first|simp|decide) ?_;(case hr=>first|(go_simp;done)|(go_simp;rfl));(case hp=>exact(Reps.one (fun _ _=>rfl) (Reps.none _ _)));(case hf=>exact(show ∀ k_,w50.heap.size≤k_→(fun k_=>(w.heap.size≤k_)) k_ from fun k_ h_=>(Nat.le_trans (below_size HB.out) h_)) _ (Nat.le_refl _));intro v54 w55 hn1 hb1 hg1 hat1);replace hat1:=za hat1;refine stop_ ?_)
      refine zg ?_
      replace hat1:=hat1.out
      have hbe:=MW.grown_below hg1
      have hba:=MW.base_of hat1
      replace HB:=za hb1
      have HN56:=za hn1
      clear hn1 hb1 hg1 hat1 hbe hba
      obtain⟨A57,cp58,he_⟩:=Kd.N_slice HN56.out
      subst he_
      have HF59:=za (Kd.N_F HN56.out)
      clear HN56
      have hcv61:=Kd.C_string (P:=Try.prog) (A:=A57) (c:=cp58) Try.underlying95 Try.underlying5 Try.underlying9 (Kd.F_now HF59.out)
      (try simp only[List.length_cons,List.length_nil,Nat.reduceAdd] at hcv61)
      by_cases c62:(strOfNums ([(Int.tmod x46 256) % 256]:List Int)).size+x47.size≤9223372036854775807
      ·replace HH:=MW.hpos HH c62
       have hk63:(9223372036854775807<(strOfNums ([(Int.tmod x46 256) % 256]:List Int)).size+x47.size)=False:=eq_false (Nat.not_lt.2 c62)
       have hk64:((strOfNums ([(Int.tmod x46 256) % 256]:List Int)).size+x47.size≤9223372036854775807)=True:=eq_true c62
       have hk65:decide ((strOfNums ([(Int.tmod x46 256) % 256]:List Int)).size+x47.size≤9223372036854775807)=true:=decide_eq_true c62
       clear c62
       go_wp2
       go_roundg k49
       case measure=>have:=HK0.out;have:=HK2.out;omega
       case rel=>exact⟨wrap64 (Int.tdiv x46 256),(strOfNums ([(Int.tmod x46 256) % 256]:List Int))++x47,wrap64 (x48+1),(by first|rfl|(simp;done)|(simp[*];done)),(by first|rfl|(simp;done)|(simp[*];done)),(by first|rfl|(simp;done)|(simp[*];done)),HH,⟨by have:=HK0.out;have:=HK2.out;omega⟩,⟨HB.out⟩⟩
      exact absurd HH.out (by rw[if_neg c62];simp)
     have H:=HH.out
     simp only[Option.some.injEq,Prod.mk.injEq] at H
     obtain⟨rfl,rfl⟩:=H
     clear HH
     go_wp2
     go_ret2
     exact zfi HB.out

def toponymref16_Bytes.l0:Nat→Int→Int→Option (ByteArray)
 |0,_,_=>none
 |k+1,x1,a0=>if x1≤4 then((toponymref16_digits.f k a0 x1).bind fun bt6=>(if bt6.2=true then(some bt6.1) else((toponymref16_Bytes.l0 k (wrap64 (x1+1)) a0)))) else(some (⟨#[]⟩:ByteArray))
def toponymref16_Bytes.f (k:Nat) (a0:Int):Option (ByteArray):=(toponymref16_Bytes.l0 k 1 a0)
theorem toponymref16_Bytes.mono_l:∀ k,(∀ y0 y1,LeO (toponymref16_Bytes.l0 k y0 y1) (toponymref16_Bytes.l0 (k+1) y0 y1))
 |0=>fun _ _ r h=>by simp[toponymref16_Bytes.l0] at h
 |k+1=>by
  have ih0:=toponymref16_Bytes.mono_l k
  ·intro y0 y1
   unfold toponymref16_Bytes.l0
   with_reducible repeat' first|exact ih0 _ _|exact toponymref16_digits.mono _ _ _|exact LeO.refl _|exact LeO.none _|refine LeO.ite ?_ ?_|refine LeO.bind ?_ (fun _=>?_)
theorem toponymref16_Bytes.mono:∀ a0_ k,LeO (toponymref16_Bytes.f k a0_) (toponymref16_Bytes.f (k+1) a0_):=by
 intro a0_ k
 have ih0:=toponymref16_Bytes.mono_l k
 unfold toponymref16_Bytes.f
 with_reducible repeat' first|exact ih0 _ _|exact toponymref16_digits.mono _ _ _|exact LeO.refl _|exact LeO.none _|refine LeO.ite ?_ ?_|refine LeO.bind ?_ (fun _=>?_)
theorem toponymref16_Bytes.calls (k:Nat) (a0:Int) (r:ByteArray) (w:World) (h:toponymref16_Bytes.f k a0=some r):
  Calls Try.prog 56 #[.int .i64 a0] w (fun e w'=>e=.returned (.string r)∧Below w.heap.size w w'):=by
 unfold toponymref16_Bytes.f at h
 have HH:=za h
 clear h
 have HB:=za (Below.refl w.heap.size w)
 go_enter Try.func56,Try.ntmps56
 go_wp2
 go_loopg [3] k (fun kq u3 w'=>∃ (x1:Int),u3=.int .i64 x1∧Aside0 ((toponymref16_Bytes.l0 kq x1 a0)=some r)∧Aside0 (kq≤k)∧Aside0 (Below w.heap.size w w'))
 case atStart=>exact⟨1,(by first|rfl|(simp;done)|(simp[*];done)),HH,⟨Nat.le_refl _⟩,⟨HB.out⟩⟩
 case round=>
  clear HH
  clear HB
  obtain⟨x1,rfl,HA,HK0,HB⟩:=hrel
  obtain⟨w3,rfl⟩:∃ wo_:World,wo_=wr:=⟨_,rfl⟩
  cases gk with
  |zero=>exact absurd HA.out (by simp[toponymref16_Bytes.l0])
  |succ k2=>
   have H:=HA.out
   clear HA
   simp only[toponymref16_Bytes.l0] at H
   have HH:=za H
   clear H
   replace HH:=zqd HH
   rcases HH with⟨HH,hk5⟩|⟨HH,hk11⟩
   ·replace HH:=zd HH
    obtain⟨⟨t6,t7⟩,At8,HH⟩:=HH
    dsimp only at HH
    go_wp2_with ((with_reducible refine gc 83 rfl ?_);refine zc 83 (some 13) Try.func83 #[.int .i64 a0,.int .i64 x1] (h:=?_);(with_reducible refine(toponymref16_digits.calls k2  a0 x1 t6 t7 _  At8.out).mono ?_);rintro e w9 ⟨rfl,hb⟩;refine⟨_,rfl,?_⟩)
    refine zg ?_
    replace HB:=zhb HB.out hb
    clear hb
    by_cases c10:t7=true
    ·replace HH:=MW.hpos HH c10
     subst c10
     obtain rfl:=Option.some.inj HH.out
     clear HH
     go_wp2
     go_ret
     exact zfi HB.out
    replace HH:=MW.hneg HH c10
    replace c10:=Bool.eq_false_iff.mpr c10
    subst c10
    go_wp2
    go_roundg k2
    case measure=>have:=HK0.out;omega
    case rel=>exact⟨wrap64 (x1+1),(by first|rfl|(simp;done)|(simp[*];done)),HH,⟨by have:=HK0.out;omega⟩,⟨HB.out⟩⟩
   obtain rfl:=Option.some.inj HH.out
   clear HH
   go_wp2
   go_ret
   exact zfi HB.out

def toponymref16_AsInt.l0:Nat→Int→Int→Int→ByteArray→Option (Int × Int)
 |0,_,_,_,_=>none
 |k+1,x26,x27,x28,a0_3=>if x28<(a0_3.size:Int) then(if 0≤x28 then((toponymref16_AsInt.l0 k (wrap64 ((wrap64 (256*x26))+(wrap64 (bt a0_3 x28)))) (wrap64 (256*x27)) (wrap64 (x28+1)) a0_3)) else(none)) else(if 0<(a0_3.size:Int) then(if (bt a0_3 0)>127 then((toponymref16_Bytes.f k (wrap64 (x26 - x27))).bind fun t53=>(if t53.toList=a0_3.toList then(some (wrap64 (x26 - x27),0)) else(some (0,160)))) else((toponymref16_Bytes.f k x26).bind fun t67=>(if t67.toList=a0_3.toList then(some (x26,0)) else(some (0,160))))) else(none))
def toponymref16_AsInt.f (k:Nat) (a0_0:Int) (a0_1:Bool) (a0_2:Int) (a0_3:ByteArray) (l0_4:List (S57)):Option (Int × Int):=if a0_1=true then(some (0,160)) else(if (l0_4.length:Int)>0 then(some (0,160)) else(if (a0_3.size:Int)<1 then(some (0,160)) else(if (a0_3.size:Int)>4 then(some (0,160)) else((toponymref16_AsInt.l0 k 0 1 0 a0_3)))))
theorem toponymref16_AsInt.mono_l:∀ k,(∀ y0 y1 y2 y3,LeO (toponymref16_AsInt.l0 k y0 y1 y2 y3) (toponymref16_AsInt.l0 (k+1) y0 y1 y2 y3))
 |0=>fun _ _ _ _ r h=>by simp[toponymref16_AsInt.l0] at h
 |k+1=>by
  have ih0:=toponymref16_AsInt.mono_l k
  ·intro y0 y1 y2 y3
   unfold toponymref16_AsInt.l0
   with_reducible repeat' first|exact ih0 _ _ _ _|exact toponymref16_Bytes.mono _ _|exact LeO.refl _|exact LeO.none _|refine LeO.ite ?_ ?_|refine LeO.bind ?_ (fun _=>?_)
theorem toponymref16_AsInt.mono:∀ a0_ a1_ a2_ a3_ a4_ k,LeO (toponymref16_AsInt.f k a0_ a1_ a2_ a3_ a4_) (toponymref16_AsInt.f (k+1) a0_ a1_ a2_ a3_ a4_):=by
 intro a0_ a1_ a2_ a3_ a4_ k
 have ih0:=toponymref16_AsInt.mono_l k
 unfold toponymref16_AsInt.f
 with_reducible repeat' first|exact ih0 _ _ _ _|exact toponymref16_Bytes.mono _ _|exact LeO.refl _|exact LeO.none _|refine LeO.ite ?_ ?_|refine LeO.bind ?_ (fun _=>?_)
theorem toponymref16_AsInt.calls (k:Nat) (P_:Nat→Prop) (a0_0:Int) (a0_1:Bool) (a0_2:Int) (a0_3:ByteArray) (A0_4:Option Addr) (c0_4:Nat) (l0_4:List (S57)) (r1:Int) (r2:Int) (w:World) (hs0_4:Kd.F k57 w P_ A0_4 l0_4.length l0_4) (hc0_4:l0_4.length≤c0_4) (h:toponymref16_AsInt.f k a0_0 a0_1 a0_2 a0_3 l0_4=some (r1,r2)):
  Calls Try.prog 33 #[.agg #[.int .i64 a0_0,.bool a0_1,.int .i64 a0_2,.string a0_3,.slice A0_4 l0_4.length c0_4]] w (fun e w'=>e=.returned (.tuple #[.int .i64 r1,.int .i64 r2])∧Below w.heap.size w w'):=by
 unfold toponymref16_AsInt.f at h
 have HH:=za h
 clear h
 have HF0_4:=zfp hs0_4
 clear hs0_4 hc0_4
 have HB:=za (Below.refl w.heap.size w)
 have hu57:=Try.underlying57
 go_enter Try.func33,Try.ntmps33
 go_wp2_with ((with_reducible refine gd 1 rfl ?_);refine zb 1 57 #[.int .i64 a0_0,.bool a0_1,.int .i64 a0_2,.string a0_3,.slice A0_4 l0_4.length c0_4] (h:=?_);intro g1 hg w2 BKg1 hb)
 refine zg ?_
 replace HF0_4:=zfe HF0_4.out hg hb
 replace HB:=zhb HB.out hb
 clear hg hb
 replace cBKg1:=MB.lz5 BKg1.out
 by_cases c8:a0_1=true
 ·replace HH:=MW.hpos HH c8
  subst c8
  have H:=HH.out
  simp only[Option.some.injEq,Prod.mk.injEq] at H
  obtain⟨rfl,rfl⟩:=H
  clear HH
  go_wp2
  go_ret2
  exact zfi HB.out
 replace HH:=MW.hneg HH c8
 replace c8:=Bool.eq_false_iff.mpr c8
 subst c8
 replace HH:=zqK 0 HH
 rcases HH with⟨HH,hk10,hk11⟩|⟨HH,hk12,hk13⟩
 ·have H:=HH.out
  simp only[Option.some.injEq,Prod.mk.injEq] at H
  obtain⟨rfl,rfl⟩:=H
  clear HH
  go_wp2
  go_ret2
  exact zfi HB.out
 replace HH:=zqN 1 HH
 rcases HH with⟨HH,hk15,hk16,hk17⟩|⟨HH,hk18,hk19,hk20⟩
 ·have H:=HH.out
  simp only[Option.some.injEq,Prod.mk.injEq] at H
  obtain⟨rfl,rfl⟩:=H
  clear HH
  go_wp2
  go_ret2
  exact zfi HB.out
 replace HH:=zqK 4 HH
 rcases HH with⟨HH,hk22,hk23⟩|⟨HH,hk24,hk25⟩
 ·have H:=HH.out
  simp only[Option.some.injEq,Prod.mk.injEq] at H
  obtain⟨rfl,rfl⟩:=H
  clear HH
  go_wp2
  go_ret2
  exact zfi HB.out
 go_wp2
 go_loopg [5,6,7] k (fun kq u5 u6 u7 w'=>∃ (x26:Int) (x27:Int) (x28:Int),u5=.int .i64 x26∧u6=.int .i64 x27∧u7=.int .i64 x28∧Aside0 ((toponymref16_AsInt.l0 kq x26 x27 x28 a0_3)=some (r1,r2))∧Aside0 (kq≤k)∧Aside0 (Kd.F k57 w' (fun k_=>(P_ k_∨w.heap.size≤k_)∧k_≠g1) A0_4 l0_4.length l0_4)∧Aside0 (w'.heap[g1]? =some (.cells #[.int .i64 a0_0,.bool false,.int .i64 a0_2,.string a0_3,.slice A0_4 l0_4.length c0_4] 57 (0,0)))∧Aside0 (Below w.heap.size w w'))
 case atStart=>exact⟨0,1,0,(by first|rfl|(simp;done)|(simp[*];done)),(by first|rfl|(simp;done)|(simp[*];done)),(by first|rfl|(simp;done)|(simp[*];done)),HH,⟨Nat.le_refl _⟩,⟨HF0_4.out⟩,⟨BKg1.out⟩,⟨HB.out⟩⟩
 case round=>
  clear hk12
  clear hk13
  clear hk18
  clear hk19
  clear hk20
  clear hk24
  clear hk25
  clear HH
  clear HF0_4 BKg1 HB
  obtain⟨x26,x27,x28,rfl,rfl,rfl,HA,HK0,HF0_4,BKg1,HB⟩:=hrel
  obtain⟨w30,rfl⟩:∃ wo_:World,wo_=wr:=⟨_,rfl⟩
  cases gk with
  |zero=>exact absurd HA.out (by simp[toponymref16_AsInt.l0])
  |succ k29=>
   have H:=HA.out
   clear HA
   simp only[toponymref16_AsInt.l0] at H
   have HH:=za H
   clear H
   replace cBKg1:=MB.lz5 BKg1.out
   replace HH:=zqt HH
   rcases HH with⟨HH,hk37,hk38⟩|⟨HH,hk43,hk44⟩
   ·replace HH:=zqdo HH
    obtain⟨HH,hk40⟩:=HH
    have p41:0≤(x28:Int):=of_decide_eq_true (by first|(with_reducible assumption)|assumption)
    have q41:x28<(a0_3.size:Int):=of_decide_eq_true (by first|(with_reducible assumption)|assumption)
    have hx41:=MW.bt_at' a0_3 x28
    replace p41:=eq_true p41
    replace q41:=eq_true q41
    go_wp2
    go_roundg k29
    case measure=>have:=HK0.out;omega
    case rel=>exact⟨wrap64 ((wrap64 (256*x26))+(wrap64 (bt a0_3 x28))),wrap64 (256*x27),wrap64 (x28+1),(by first|rfl|(simp;done)|(simp[*];done)),(by first|rfl|(simp;done)|(simp[*];done)),(by first|rfl|(simp;done)|(simp[*];done)),HH,⟨by have:=HK0.out;omega⟩,⟨HF0_4.out⟩,⟨BKg1.out⟩,⟨HB.out⟩⟩
   replace HH:=zqno 0 HH
   obtain⟨HH,hk46,hk47,hk48,hk49⟩:=HH
   have p50:0≤(0:Int):=(by omega)
   have q50:0<a0_3.size:=(by have:(0:Int)<(a0_3.size:Int):=of_decide_eq_true (by first|(with_reducible assumption)|assumption);omega)
   have hx50:∀ h:0<a0_3.size,((a0_3[0]'h).toNat:Int)=bt a0_3 0:=MW.bt_at' a0_3 0
   clear p50
   have qi50:(0<(a0_3.size:Int))=True:=eq_true (of_decide_eq_true (by first|(with_reducible assumption)|assumption))
   replace q50:=eq_true q50
   replace HH:=zqg HH
   rcases HH with⟨HH,hk52⟩|⟨HH,hk66⟩
   ·replace HH:=zd HH
    obtain⟨t53,At54,HH⟩:=HH
    go_wp2_with ((with_reducible refine gc 56 rfl ?_);refine zc 56 (some 50) Try.func56 #[.int .i64 (wrap64 (x26 - x27))] (h:=?_);(with_reducible refine(toponymref16_Bytes.calls k29  (wrap64 (x26 - x27)) t53 _  At54.out).mono ?_);rintro e w55 ⟨rfl,hb⟩;refine⟨_,rfl,?_⟩)
    refine zg ?_
    replace BKg1:=zbb BKg1.out hb
    replace HB:=zhb HB.out hb
    clear hb
    replace cBKg1:=MB.lz5 BKg1.out
    replace HH:=zqe HH
    rcases HH with⟨HH,hk62,hk63⟩|⟨HH,hk64,hk65⟩
    ·have H:=HH.out
     simp only[Option.some.injEq,Prod.mk.injEq] at H
     obtain⟨rfl,rfl⟩:=H
     clear HH
     go_wp2
     go_ret2
     exact zfi HB.out
    have H:=HH.out
    simp only[Option.some.injEq,Prod.mk.injEq] at H
    obtain⟨rfl,rfl⟩:=H
    clear HH
    go_wp2
    go_ret2
    exact zfi HB.out
   replace HH:=zd HH
   obtain⟨t67,At68,HH⟩:=HH
   go_wp2_with ((with_reducible refine gc 56 rfl ?_);refine zc 56 (some 50) Try.func56 #[.int .i64 x26] (h:=?_);(with_reducible refine(toponymref16_Bytes.calls k29  x26 t67 _  At68.out).mono ?_);rintro e w69 ⟨rfl,hb⟩;refine⟨_,rfl,?_⟩)
   refine zg ?_
   replace BKg1:=zbb BKg1.out hb
   replace HB:=zhb HB.out hb
   clear hb
   replace cBKg1:=MB.lz5 BKg1.out
   replace HH:=zqe HH
   rcases HH with⟨HH,hk76,hk77⟩|⟨HH,hk78,hk79⟩
   ·have H:=HH.out
    simp only[Option.some.injEq,Prod.mk.injEq] at H
    obtain⟨rfl,rfl⟩:=H
    clear HH
    go_wp2
    go_ret2
    exact zfi HB.out
   have H:=HH.out
   simp only[Option.some.injEq,Prod.mk.injEq] at H
   obtain⟨rfl,rfl⟩:=H
   clear HH
   go_wp2
   go_ret2
   exact zfi HB.out

def toponymref16_AsBool.f (a0_0:Int) (a0_1:Bool) (a0_2:Int) (a0_3:ByteArray) (l0_4:List (S57)):Option (Bool × Int):=if a0_1=true then(some (false,160)) else(if (l0_4.length:Int)>0 then(some (false,160)) else(if (a0_3.size:Int)=1 then(if 0<(a0_3.size:Int) then(some (((bt a0_3 0) != 0),0)) else(none)) else(some (false,160))))
theorem toponymref16_AsBool.calls (P_:Nat→Prop) (a0_0:Int) (a0_1:Bool) (a0_2:Int) (a0_3:ByteArray) (A0_4:Option Addr) (c0_4:Nat) (l0_4:List (S57)) (r1:Bool) (r2:Int) (w:World) (hs0_4:Kd.F k57 w P_ A0_4 l0_4.length l0_4) (hc0_4:l0_4.length≤c0_4) (h:toponymref16_AsBool.f a0_0 a0_1 a0_2 a0_3 l0_4=some (r1,r2)):
  Calls Try.prog 82 #[.agg #[.int .i64 a0_0,.bool a0_1,.int .i64 a0_2,.string a0_3,.slice A0_4 l0_4.length c0_4]] w (fun e w'=>e=.returned (.tuple #[.bool r1,.int .i64 r2])∧Below w.heap.size w w'):=by
 unfold toponymref16_AsBool.f at h
 have HH:=za h
 clear h
 clear hs0_4 hc0_4
 have HB:=za (Below.refl w.heap.size w)
 have hu57:=Try.underlying57
 go_enter Try.func82,Try.ntmps82
 go_wp2_with ((with_reducible refine gd 1 rfl ?_);refine zb 1 57 #[.int .i64 a0_0,.bool a0_1,.int .i64 a0_2,.string a0_3,.slice A0_4 l0_4.length c0_4] (h:=?_);intro g1 hg w2 BKg1 hb)
 refine zg ?_
 replace HB:=zhb HB.out hb
 clear hg hb
 replace cBKg1:=MB.lz5 BKg1.out
 by_cases c8:a0_1=true
 ·replace HH:=MW.hpos HH c8
  subst c8
  have H:=HH.out
  simp only[Option.some.injEq,Prod.mk.injEq] at H
  obtain⟨rfl,rfl⟩:=H
  clear HH
  go_wp2
  go_ret2
  exact zfi HB.out
 replace HH:=MW.hneg HH c8
 replace c8:=Bool.eq_false_iff.mpr c8
 subst c8
 replace HH:=zqK 0 HH
 rcases HH with⟨HH,hk10,hk11⟩|⟨HH,hk12,hk13⟩
 ·have H:=HH.out
  simp only[Option.some.injEq,Prod.mk.injEq] at H
  obtain⟨rfl,rfl⟩:=H
  clear HH
  go_wp2
  go_ret2
  exact zfi HB.out
 replace HH:=zqe HH
 rcases HH with⟨HH,hk15,hk16⟩|⟨HH,hk27,hk28⟩
 ·replace HH:=zqno 0 HH
  obtain⟨HH,hk18,hk19,hk20,hk21⟩:=HH
  have p22:0≤(0:Int):=(by omega)
  have q22:0<a0_3.size:=(by have:(0:Int)<(a0_3.size:Int):=of_decide_eq_true (by first|(with_reducible assumption)|assumption);omega)
  have hx22:∀ h:0<a0_3.size,((a0_3[0]'h).toNat:Int)=bt a0_3 0:=MW.bt_at' a0_3 0
  clear p22
  have qi22:(0<(a0_3.size:Int))=True:=eq_true (of_decide_eq_true (by first|(with_reducible assumption)|assumption))
  replace q22:=eq_true q22
  have H:=HH.out
  simp only[Option.some.injEq,Prod.mk.injEq] at H
  obtain⟨rfl,rfl⟩:=H
  clear HH
  go_wp2
  go_ret2
  exact zfi HB.out
 have H:=HH.out
 simp only[Option.some.injEq,Prod.mk.injEq] at H
 obtain⟨rfl,rfl⟩:=H
 clear HH
 go_wp2
 go_ret2
 exact zfi HB.out

def toponymref26_shape.f (k:Nat) (a0_0:Int) (a0_1:Bool) (a0_2:Int) (a0_3:ByteArray) (l0_4:List (S57)) (a1:Int):Option (Bool):=(toponymref16_AsInt.f k a0_0 a0_1 a0_2 a0_3 l0_4).bind fun bt8=>((toponymref16_AsBool.f a0_0 a0_1 a0_2 a0_3 l0_4).bind fun bt17=>(if a1=116 then(if a0_0=0 then(if a0_2=4 then(some (!a0_1)) else(some false)) else(some false)) else(if a1=105 then(if a0_0=0 then(if a0_2=2 then(some (bt8.2==0)) else(some false)) else(some false)) else(if a1=101 then(if a0_0=0 then(if a0_2=10 then(some (bt8.2==0)) else(some false)) else(some false)) else(if a1=98 then(if a0_0=0 then(if a0_2=1 then(some (bt17.2==0)) else(some false)) else(some false)) else(if a1=103 then(if a0_0=0 then(if a0_2=16 then(some a0_1) else(some false)) else(some false)) else(if a1=115 then(if a0_0=0 then(if a0_2=17 then(some a0_1) else(some false)) else(some false)) else(some true))))))))
theorem toponymref26_shape.mono:∀ a0_ a1_ a2_ a3_ a4_ a5_ k,LeO (toponymref26_shape.f k a0_ a1_ a2_ a3_ a4_ a5_) (toponymref26_shape.f (k+1) a0_ a1_ a2_ a3_ a4_ a5_):=by
 intro a0_ a1_ a2_ a3_ a4_ a5_ k
 unfold toponymref26_shape.f
 with_reducible repeat' first|exact toponymref16_AsInt.mono _ _ _ _ _ _|exact LeO.refl _|exact LeO.none _|refine LeO.ite ?_ ?_|refine LeO.bind ?_ (fun _=>?_)
theorem toponymref26_shape.calls (k:Nat) (P_:Nat→Prop) (a0_0:Int) (a0_1:Bool) (a0_2:Int) (a0_3:ByteArray) (A0_4:Option Addr) (c0_4:Nat) (l0_4:List (S57)) (a1:Int) (r:Bool) (w:World) (hs0_4:Kd.F k57 w P_ A0_4 l0_4.length l0_4) (hc0_4:l0_4.length≤c0_4) (h:toponymref26_shape.f k a0_0 a0_1 a0_2 a0_3 l0_4 a1=some r):
  Calls Try.prog 54 #[.agg #[.int .i64 a0_0,.bool a0_1,.int .i64 a0_2,.string a0_3,.slice A0_4 l0_4.length c0_4],.int .u8 a1] w (fun e w'=>e=.returned (.bool r)∧Below w.heap.size w w'):=by
 unfold toponymref26_shape.f at h
 have HH:=za h
 clear h
 have HF0_4:=zfp hs0_4
 have HL0_4:=za hc0_4
 clear hs0_4 hc0_4
 have HB:=za (Below.refl w.heap.size w)
 have hu57:=Try.underlying57
 go_enter Try.func54,Try.ntmps54
 go_wp2_with ((with_reducible refine gd 2 rfl ?_);refine zb 2 57 #[.int .i64 a0_0,.bool a0_1,.int .i64 a0_2,.string a0_3,.slice A0_4 l0_4.length c0_4] (h:=?_);intro g1 hg w2 BKg1 hb)
 refine zg ?_
 replace HF0_4:=zfe HF0_4.out hg hb
 replace HB:=zhb HB.out hb
 clear hg hb
 replace cBKg1:=MB.lz5 BKg1.out
 replace HH:=zd HH
 obtain⟨⟨t8,t9⟩,At10,HH⟩:=HH
 dsimp only at HH
 go_wp2_with ((with_reducible refine gc 33 rfl ?_);refine zc 33 (some 11) Try.func33 #[.agg #[.int .i64 a0_0,.bool a0_1,.int .i64 a0_2,.string a0_3,.slice A0_4 l0_4.length c0_4]] (h:=?_);(with_reducible refine(toponymref16_AsInt.calls k (fun k_=>(P_ k_∨w.heap.size≤k_)∧k_≠g1) a0_0 a0_1 a0_2 a0_3 _ _ l0_4 t8 t9 _ HF0_4.out HL0_4.out At10.out).mono ?_);rintro e w11 ⟨rfl,hb⟩;refine⟨_,rfl,?_⟩)
 refine zg ?_
 replace HF0_4:=zfb HF0_4.out hb
 replace BKg1:=zbb BKg1.out hb
 replace HB:=zhb HB.out hb
 clear hb
 replace cBKg1:=MB.lz5 BKg1.out
 replace HH:=zd HH
 obtain⟨⟨t17,t18⟩,At19,HH⟩:=HH
 dsimp only at HH
 go_wp2_with ((with_reducible refine gc 82 rfl ?_);refine zc 82 (some 16) Try.func82 #[.agg #[.int .i64 a0_0,.bool a0_1,.int .i64 a0_2,.string a0_3,.slice A0_4 l0_4.length c0_4]] (h:=?_);(with_reducible refine(toponymref16_AsBool.calls (fun k_=>(P_ k_∨w.heap.size≤k_)∧k_≠g1) a0_0 a0_1 a0_2 a0_3 _ _ l0_4 t17 t18 _ HF0_4.out HL0_4.out At19.out).mono ?_);rintro e w20 ⟨rfl,hb⟩;refine⟨_,rfl,?_⟩)
 refine zg ?_
 replace BKg1:=zbb BKg1.out hb
 replace HB:=zhb HB.out hb
 clear hb
 replace cBKg1:=MB.lz5 BKg1.out
 replace HH:=zqe HH
 rcases HH with⟨HH,hk27,hk28⟩|⟨HH,hk39,hk40⟩
 ·replace HH:=zqe HH
  rcases HH with⟨HH,hk30,hk31⟩|⟨HH,hk37,hk38⟩
  ·replace HH:=zqe HH
   rcases HH with⟨HH,hk33,hk34⟩|⟨HH,hk35,hk36⟩
   ·obtain rfl:=Option.some.inj HH.out
    clear HH
    go_wp2
    go_ret
    exact zfi HB.out
   obtain rfl:=Option.some.inj HH.out
   clear HH
   go_wp2
   go_ret
   exact zfi HB.out
  obtain rfl:=Option.some.inj HH.out
  clear HH
  go_wp2
  go_ret
  exact zfi HB.out
 replace HH:=zqe HH
 rcases HH with⟨HH,hk42,hk43⟩|⟨HH,hk54,hk55⟩
 ·replace HH:=zqe HH
  rcases HH with⟨HH,hk45,hk46⟩|⟨HH,hk52,hk53⟩
  ·replace HH:=zqe HH
   rcases HH with⟨HH,hk48,hk49⟩|⟨HH,hk50,hk51⟩
   ·obtain rfl:=Option.some.inj HH.out
    clear HH
    go_wp2
    go_ret
    exact zfi HB.out
   obtain rfl:=Option.some.inj HH.out
   clear HH
   go_wp2
   go_ret
   exact zfi HB.out
  obtain rfl:=Option.some.inj HH.out
  clear HH
  go_wp2
  go_ret
  exact zfi HB.out
 replace HH:=zqe HH
 rcases HH with⟨HH,hk57,hk58⟩|⟨HH,hk69,hk70⟩
 ·replace HH:=zqe HH
  rcases HH with⟨HH,hk60,hk61⟩|⟨HH,hk67,hk68⟩
  ·replace HH:=zqe HH
   rcases HH with⟨HH,hk63,hk64⟩|⟨HH,hk65,hk66⟩
   ·obtain rfl:=Option.some.inj HH.out
    clear HH
    go_wp2
    go_ret
    exact zfi HB.out
   obtain rfl:=Option.some.inj HH.out
   clear HH
   go_wp2
   go_ret
   exact zfi HB.out
  obtain rfl:=Option.some.inj HH.out
  clear HH
  go_wp2
  go_ret
  exact zfi HB.out
 replace HH:=zqe HH
 rcases HH with⟨HH,hk72,hk73⟩|⟨HH,hk84,hk85⟩
 ·replace HH:=zqe HH
  rcases HH with⟨HH,hk75,hk76⟩|⟨HH,hk82,hk83⟩
  ·replace HH:=zqe HH
   rcases HH with⟨HH,hk78,hk79⟩|⟨HH,hk80,hk81⟩
   ·obtain rfl:=Option.some.inj HH.out
    clear HH
    go_wp2
    go_ret
    exact zfi HB.out
   obtain rfl:=Option.some.inj HH.out
   clear HH
   go_wp2
   go_ret
   exact zfi HB.out
  obtain rfl:=Option.some.inj HH.out
  clear HH
  go_wp2
  go_ret
  exact zfi HB.out
 replace HH:=zqe HH
 rcases HH with⟨HH,hk87,hk88⟩|⟨HH,hk99,hk100⟩
 ·replace HH:=zqe HH
  rcases HH with⟨HH,hk90,hk91⟩|⟨HH,hk97,hk98⟩
  ·replace HH:=zqe HH
   rcases HH with⟨HH,hk93,hk94⟩|⟨HH,hk95,hk96⟩
   ·obtain rfl:=Option.some.inj HH.out
    clear HH
    go_wp2
    go_ret
    exact zfi HB.out
   obtain rfl:=Option.some.inj HH.out
   clear HH
   go_wp2
   go_ret
   exact zfi HB.out
  obtain rfl:=Option.some.inj HH.out
  clear HH
  go_wp2
  go_ret
  exact zfi HB.out
 replace HH:=zqe HH
 rcases HH with⟨HH,hk102,hk103⟩|⟨HH,hk114,hk115⟩
 ·replace HH:=zqe HH
  rcases HH with⟨HH,hk105,hk106⟩|⟨HH,hk112,hk113⟩
  ·replace HH:=zqe HH
   rcases HH with⟨HH,hk108,hk109⟩|⟨HH,hk110,hk111⟩
   ·obtain rfl:=Option.some.inj HH.out
    clear HH
    go_wp2
    go_ret
    exact zfi HB.out
   obtain rfl:=Option.some.inj HH.out
   clear HH
   go_wp2
   go_ret
   exact zfi HB.out
  obtain rfl:=Option.some.inj HH.out
  clear HH
  go_wp2
  go_ret
  exact zfi HB.out
 obtain rfl:=Option.some.inj HH.out
 clear HH
 go_wp2
 go_ret
 exact zfi HB.out

def toponymref26_Shape.l0:Nat→Int→ByteArray→(List (S57))→Option (Bool)
 |0,_,_,_=>none
 |k+1,x5,a1,l0=>if x5<(l0.length:Int) then(if 0≤x5 then(if x5<(a1.size:Int) then((toponymref26_shape.f k ((rd_T57 l0 x5).f0) ((rd_T57 l0 x5).f1) ((rd_T57 l0 x5).f2) ((rd_T57 l0 x5).f3) ((rd_T57 l0 x5).f4) (bt a1 x5)).bind fun t19=>(if t19=true then((toponymref26_Shape.l0 k (wrap64 (x5+1)) a1 l0)) else(some false))) else(none)) else(none)) else(some true)
def toponymref26_Shape.f (k:Nat) (l0:List (S57)) (a1:ByteArray):Option (Bool):=if (l0.length:Int)=(a1.size:Int) then((toponymref26_Shape.l0 k 0 a1 l0)) else(some false)
theorem toponymref26_Shape.mono_l:∀ k,(∀ y0 y1 y2,LeO (toponymref26_Shape.l0 k y0 y1 y2) (toponymref26_Shape.l0 (k+1) y0 y1 y2))
 |0=>fun _ _ _ r h=>by simp[toponymref26_Shape.l0] at h
 |k+1=>by
  have ih0:=toponymref26_Shape.mono_l k
  ·intro y0 y1 y2
   unfold toponymref26_Shape.l0
   with_reducible repeat' first|exact ih0 _ _ _|exact toponymref26_shape.mono _ _ _ _ _ _ _|exact LeO.refl _|exact LeO.none _|refine LeO.ite ?_ ?_|refine LeO.bind ?_ (fun _=>?_)
theorem toponymref26_Shape.mono:∀ a0_ a1_ k,LeO (toponymref26_Shape.f k a0_ a1_) (toponymref26_Shape.f (k+1) a0_ a1_):=by
 intro a0_ a1_ k
 have ih0:=toponymref26_Shape.mono_l k
 unfold toponymref26_Shape.f
 with_reducible repeat' first|exact ih0 _ _ _|exact toponymref26_shape.mono _ _ _ _ _ _ _|exact LeO.refl _|exact LeO.none _|refine LeO.ite ?_ ?_|refine LeO.bind ?_ (fun _=>?_)
theorem toponymref26_Shape.calls (k:Nat) (P_:Nat→Prop) (A0:Option Addr) (c0:Nat) (l0:List (S57)) (a1:ByteArray) (r:Bool) (w:World) (hs0:Kd.F k57 w P_ A0 l0.length l0) (hc0:l0.length≤c0) (h:toponymref26_Shape.f k l0 a1=some r):
  Calls Try.prog 30 #[.slice A0 l0.length c0,.string a1] w (fun e w'=>e=.returned (.bool r)∧Below w.heap.size w w'):=by
 unfold toponymref26_Shape.f at h
 have HH:=za h
 clear h
 have HF0:=zfp hs0
 clear hs0 hc0
 have HB:=za (Below.refl w.heap.size w)
 have hu57:=Try.underlying57
 go_enter Try.func30,Try.ntmps30
 by_cases c1:(l0.length:Int)=(a1.size:Int)
 ·replace HH:=MW.hpos HH c1
  have hk2:((l0.length:Int)==(a1.size:Int))=true:=beq_iff_eq.mpr c1
  have hk3:((l0.length:Int) != (a1.size:Int))=false:=bne_eq_false_iff_eq.mpr c1
  have hk4:(l0.length==a1.size)=true:=by first|simpa using c1|(simp at c1 ⊢;omega)
  clear c1
  go_wp2
  go_loopg [5] k (fun kq u5 w'=>∃ (x5:Int),u5=.int .i64 x5∧Aside0 ((toponymref26_Shape.l0 kq x5 a1 l0)=some r)∧Aside0 (kq≤k)∧Aside0 (Kd.F k57 w' (fun k_=>(P_ k_∨w.heap.size≤k_)) A0 l0.length l0)∧Aside0 (Below w.heap.size w w'))
  case atStart=>exact⟨0,(by first|rfl|(simp;done)|(simp[*];done)),HH,⟨Nat.le_refl _⟩,⟨HF0.out⟩,⟨HB.out⟩⟩
  case round=>
   clear hk2
   clear hk3
   clear hk4
   clear HH
   clear HF0 HB
   obtain⟨x5,rfl,HA,HK0,HF0,HB⟩:=hrel
   obtain⟨w7,rfl⟩:∃ wo_:World,wo_=wr:=⟨_,rfl⟩
   cases gk with
   |zero=>exact absurd HA.out (by simp[toponymref26_Shape.l0])
   |succ k6=>
    have H:=HA.out
    clear HA
    simp only[toponymref26_Shape.l0] at H
    have HH:=za H
    clear H
    replace HH:=zqt HH
    rcases HH with⟨HH,hk9,hk10⟩|⟨HH,hk26,hk27⟩
    ·replace HH:=zqdo HH
     obtain⟨HH,hk12⟩:=HH
     have p13:0≤(x5:Int):=of_decide_eq_true (by first|(with_reducible assumption)|assumption)
     have q13:x5<(l0.length:Int):=of_decide_eq_true (by first|(with_reducible assumption)|assumption)
     obtain⟨ad13,A13_4,c13_4,e13,hx13_0,hx13_1,hx13_2,hx13_3,hx13_4,hl13_4,hi13_4⟩:=atF_T57 HF0.out x5 p13 q13
     cases e13
     have HF13_4:=za hi13_4
     have HL13_4:=za hl13_4
     clear hi13_4 hl13_4
     replace p13:=eq_true p13
     replace q13:=eq_true q13
     replace HH:=zqto HH
     obtain⟨HH,hk15,hk16⟩:=HH
     have p17:0≤(x5:Int):=of_decide_eq_true (by first|(with_reducible assumption)|assumption)
     have q17:x5<(a1.size:Int):=of_decide_eq_true (by first|(with_reducible assumption)|assumption)
     have hx17:=MW.bt_at' a1 x5
     replace p17:=eq_true p17
     replace q17:=eq_true q17
     go_wp2
     have hwr_:∀ n_:Int,IntKind.i64.wrap n_=wrap64 n_:=fun n_=>IntWalk.i64_left n_
     go_still_tail 7,(by kernel_rfl)
     clear hwr_
     change wpList _ _ _ _ _ w7.drew
     obtain⟨w18,hw_⟩:∃ w_:World,w_=w7.drew:=⟨_,rfl⟩
     rw[← hw_]
     have hb:Below w7.heap.size w7 w18:=by rw[hw_];exact below_drew1 (Below.refl _ _)
     clear hw_
     replace HF0:=zfb HF0.out hb
     replace HF13_4:=zfb HF13_4.out hb
     replace HB:=zhb HB.out hb
     clear hb
     clear hx13_0 hx13_1 hx13_2 hx13_3 hx13_4 p13 q13
     replace HH:=zd HH
     obtain⟨t19,At20,HH⟩:=HH
     go_wp2_with ((with_reducible refine gc 54 rfl ?_);refine zc 54 (some 24) Try.func54 #[.agg #[.int .i64 ((rd_T57 l0 x5).f0),.bool ((rd_T57 l0 x5).f1),.int .i64 ((rd_T57 l0 x5).f2),.string ((rd_T57 l0 x5).f3),.slice A13_4 ((rd_T57 l0 x5).f4).length c13_4],.int .u8 (bt a1 x5)] (h:=?_);(with_reducible refine(toponymref26_shape.calls k6 (fun k_=>(P_ k_∨w.heap.size≤k_)) ((rd_T57 l0 x5).f0) ((rd_T57 l0 x5).f1) ((rd_T57 l0 x5).f2) ((rd_T57 l0 x5).f3) _ _ ((rd_T57 l0 x5).f4) (bt a1 x5) t19 _ HF13_4.out HL13_4.out At20.out).mono ?_);rintro e w21 ⟨rfl,hb⟩;refine⟨_,rfl,?_⟩)
     refine zg ?_
     replace HF0:=zfb HF0.out hb
     replace HB:=zhb HB.out hb
     clear hb
     by_cases c22:t19=true
     ·replace HH:=MW.hpos HH c22
      subst c22
      go_wp2
      go_roundg k6
      case measure=>have:=HK0.out;omega
      case rel=>exact⟨wrap64 (x5+1),(by first|rfl|(simp;done)|(simp[*];done)),HH,⟨by have:=HK0.out;omega⟩,⟨HF0.out⟩,⟨HB.out⟩⟩
     replace HH:=MW.hneg HH c22
     replace c22:=Bool.eq_false_iff.mpr c22
     subst c22
     obtain rfl:=Option.some.inj HH.out
     clear HH
     go_wp2
     go_ret
     exact zfi HB.out
    obtain rfl:=Option.some.inj HH.out
    clear HH
    go_wp2
    go_ret
    exact zfi HB.out
 replace HH:=MW.hneg HH c1
 have hk28:((l0.length:Int)==(a1.size:Int))=false:=beq_eq_false_iff_ne.mpr c1
 have hk29:((l0.length:Int) != (a1.size:Int))=true:=bne_iff_ne.mpr c1
 have hk30:(l0.length==a1.size)=false:=by first|simpa using c1|(simp at c1 ⊢;omega)
 clear c1
 obtain rfl:=Option.some.inj HH.out
 clear HH
 go_wp2
 go_ret
 exact zfi HB.out

def toponymref16_Texts.l0:Nat→(List ByteArray)→Int→Bool→(List (S57))→Option (List ByteArray × Int)
 |0,_,_,_,_=>none
 |k+1,x8,x11,a0_1,l0_4=>if x11<(l0_4.length:Int) then(if 0≤x11 then(if ((rd_T57 l0_4 x11).f0)=0 then(if ((rd_T57 l0_4 x11).f2)=4 then(if (rd_T57 l0_4 x11).f1=true then(some (([]:List ByteArray),160)) else(if x8.length<8796093022208 then((some (x8++[(rd_T57 l0_4 x11).f3]:List ByteArray)).bind fun y58=>((toponymref16_Texts.l0 k y58 (wrap64 (x11+1)) a0_1 l0_4))) else(none))) else(some (([]:List ByteArray),160))) else(some (([]:List ByteArray),160))) else(none)) else(if a0_1=true then(some (x8,0)) else(some (([]:List ByteArray),160)))
def toponymref16_Texts.f (k:Nat) (a0_0:Int) (a0_1:Bool) (a0_2:Int) (a0_3:ByteArray) (l0_4:List (S57)):Option (List ByteArray × Int):=(toponymref16_Texts.l0 k ([]:List ByteArray) 0 a0_1 l0_4)
theorem toponymref16_Texts.mono_l:∀ k,(∀ y0 y1 y2 y3,LeO (toponymref16_Texts.l0 k y0 y1 y2 y3) (toponymref16_Texts.l0 (k+1) y0 y1 y2 y3))
 |0=>fun _ _ _ _ r h=>by simp[toponymref16_Texts.l0] at h
 |k+1=>by
  have ih0:=toponymref16_Texts.mono_l k
  ·intro y0 y1 y2 y3
   unfold toponymref16_Texts.l0
   with_reducible repeat' first|exact ih0 _ _ _ _|exact LeO.refl _|exact LeO.none _|refine LeO.ite ?_ ?_|refine LeO.bind ?_ (fun _=>?_)
theorem toponymref16_Texts.mono:∀ a0_ a1_ a2_ a3_ a4_ k,LeO (toponymref16_Texts.f k a0_ a1_ a2_ a3_ a4_) (toponymref16_Texts.f (k+1) a0_ a1_ a2_ a3_ a4_):=by
 intro a0_ a1_ a2_ a3_ a4_ k
 have ih0:=toponymref16_Texts.mono_l k
 unfold toponymref16_Texts.f
 with_reducible repeat' first|exact ih0 _ _ _ _|exact LeO.refl _|exact LeO.none _|refine LeO.ite ?_ ?_|refine LeO.bind ?_ (fun _=>?_)
theorem toponymref16_Texts.calls (k:Nat) (P_:Nat→Prop) (a0_0:Int) (a0_1:Bool) (a0_2:Int) (a0_3:ByteArray) (A0_4:Option Addr) (c0_4:Nat) (l0_4:List (S57)) (r1:List ByteArray) (r2:Int) (w:World) (hs0_4:Kd.F k57 w P_ A0_4 l0_4.length l0_4) (hc0_4:l0_4.length≤c0_4) (h:toponymref16_Texts.f k a0_0 a0_1 a0_2 a0_3 l0_4=some (r1,r2)):
  Calls Try.prog 55 #[.agg #[.int .i64 a0_0,.bool a0_1,.int .i64 a0_2,.string a0_3,.slice A0_4 l0_4.length c0_4]] w (fun e w'=>∃ v0_:Value,e=.returned (.tuple #[v0_,.int .i64 r2])∧Kd.N Kd.string 9 w' w.heap.size (fun k_=>P_ k_∨w.heap.size≤k_) v0_ r1∧Below w.heap.size w w'):=by
 unfold toponymref16_Texts.f at h
 have HH:=za h
 clear h
 have HF0_4:=zfp hs0_4
 clear hs0_4 hc0_4
 have HB:=za (Below.refl w.heap.size w)
 have hu57:=Try.underlying57
 go_enter Try.func55,Try.ntmps55
 go_wp2_with ((with_reducible refine gd 1 rfl ?_);refine zb 1 57 #[.int .i64 a0_0,.bool a0_1,.int .i64 a0_2,.string a0_3,.slice A0_4 l0_4.length c0_4] (h:=?_);intro g1 hg w2 BKg1 hb)
 refine zg ?_
 replace HF0_4:=zfe HF0_4.out hg hb
 replace HB:=zhb HB.out hb
 clear hg hb
 replace cBKg1:=MB.lz5 BKg1.out
 go_wp2
 go_loopg [4,5] k (fun kq u4 u5 w'=>∃ (x8:List ByteArray) (x11:Int),u5=.int .i64 x11∧Aside0 ((toponymref16_Texts.l0 kq x8 x11 a0_1 l0_4)=some (r1,r2))∧Aside0 (kq≤k)∧Aside0 (Kd.F k57 w' (fun k_=>((P_ k_∨w.heap.size≤k_)∧some k_≠(u4:Value).ownBlock)∧k_≠g1) A0_4 l0_4.length l0_4)∧Aside0 (Kd.N Kd.string 9 w' w.heap.size (fun k_=>(P_ k_∨w.heap.size≤k_)∧k_≠g1) u4 x8)∧Aside0 (w'.heap[g1]? =some (.cells #[.int .i64 a0_0,.bool a0_1,.int .i64 a0_2,.string a0_3,.slice A0_4 l0_4.length c0_4] 57 (0,0)))∧Aside0 (Below w.heap.size w w'))
 case atStart=>exact⟨([]:List ByteArray),0,(by first|rfl|(simp;done)|(simp[*];done)),HH,⟨Nat.le_refl _⟩,⟨(Kd.F_mono (ok:=(fun k_=>(P_ k_∨w.heap.size≤k_)∧k_≠g1)) HF0_4.out (fun k_ hk_=>⟨⟨hk_.1,(by simp[Value.ownBlock])⟩,hk_.2⟩))⟩,⟨Kd.N_nil _ _ _ _ _⟩,⟨BKg1.out⟩,⟨HB.out⟩⟩
 case round=>
  clear HH
  clear HF0_4 BKg1 HB
  obtain⟨x8,x11,rfl,HA,HK0,HF0_4,HN10,BKg1,HB⟩:=hrel
  obtain⟨v9,rfl⟩:∃ z_:Value,z_=u4:=⟨_,rfl⟩
  obtain⟨w13,rfl⟩:∃ wo_:World,wo_=wr:=⟨_,rfl⟩
  cases gk with
  |zero=>exact absurd HA.out (by simp[toponymref16_Texts.l0])
  |succ k12=>
   have H:=HA.out
   clear HA
   simp only[toponymref16_Texts.l0] at H
   have HH:=za H
   clear H
   replace cBKg1:=MB.lz5 BKg1.out
   replace HH:=zqt HH
   rcases HH with⟨HH,hk20,hk21⟩|⟨HH,hk77,hk78⟩
   ·replace HH:=zqdo HH
    obtain⟨HH,hk23⟩:=HH
    have p24:0≤(x11:Int):=of_decide_eq_true (by first|(with_reducible assumption)|assumption)
    have q24:x11<(l0_4.length:Int):=of_decide_eq_true (by first|(with_reducible assumption)|assumption)
    obtain⟨ad24,A24_4,c24_4,e24,hx24_0,hx24_1,hx24_2,hx24_3,hx24_4,hl24_4,hi24_4⟩:=atF_T57 HF0_4.out x11 p24 q24
    cases e24
    clear hi24_4 hl24_4
    replace p24:=eq_true p24
    replace q24:=eq_true q24
    go_wp2_with ((with_reducible refine gd 6 rfl ?_);refine zb 6 57 #[.int .i64 0,.bool false,.int .i64 0,.string (⟨#[]⟩:ByteArray),.slice none 0 0] (h:=?_);intro g25 hg w26 BKg25 hb)
    refine zg ?_
    have GEg25:=zge hg (below_size HB.out)
    have NEg1_g25:=znq hg BKg1.out
    replace HF0_4:=zfe HF0_4.out hg hb
    replace HN10:=zne HN10.out hg hb
    replace BKg1:=zbb BKg1.out hb
    replace HB:=zhb HB.out hb
    clear hg hb
    clear hx24_0 hx24_1 hx24_2 hx24_3 hx24_4 p24 q24
    replace cBKg1:=MB.lz5 BKg1.out
    replace cBKg25:=MB.lz5 BKg25.out
    go_wp2_with ((with_reducible refine gs 57 6 rfl ?_);refine zs 57 6 #[.int .i64 ((rd_T57 l0_4 x11).f0),.bool ((rd_T57 l0_4 x11).f1),.int .i64 ((rd_T57 l0_4 x11).f2),.string ((rd_T57 l0_4 x11).f3),.slice A24_4 ((rd_T57 l0_4 x11).f4).length c24_4] BKg25.out [.int .i64 ((rd_T57 l0_4 x11).f0),.bool ((rd_T57 l0_4 x11).f1),.int .i64 ((rd_T57 l0_4 x11).f2),.string ((rd_T57 l0_4 x11).f3),.slice A24_4 ((rd_T57 l0_4 x11).f4).length c24_4] (h:=?_);intro w37 hbk hg)
    refine zg ?_
    replace HF0_4:=zfg HF0_4.out hg fun k_ hk_=>hk_.2
    replace HN10:=zng HN10.out hg fun k_ hk_=>hk_.2
    replace BKg1:=zbg BKg1.out hg NEg1_g25
    replace HB:=zhg HB.out hg (below_size HB.out) GEg25
    replace BKg25:=hbk
    clear hg hbk
    replace cBKg1:=MB.lz5 BKg1.out
    replace cBKg25:=MB.lz5 BKg25.out
    replace HH:=zqe HH
    rcases HH with⟨HH,hk49,hk50⟩|⟨HH,hk74,hk75⟩
    ·replace HH:=zqe HH
     rcases HH with⟨HH,hk52,hk53⟩|⟨HH,hk72,hk73⟩
     ·by_cases c54:(rd_T57 l0_4 x11).f1=true
      ·replace HH:=MW.hpos HH c54
       have hk55:(rd_T57 l0_4 x11).f1=true:=c54
       clear c54
       have H:=HH.out
       simp only[Option.some.injEq,Prod.mk.injEq] at H
       obtain⟨rfl,rfl⟩:=H
       clear HH
       go_wp2
       go_ret2
       exact⟨_,by first|rfl|(simp;done)|(simp[*];done),(Kd.N_nil _ _ _ _ _),HB.out⟩
      replace HH:=MW.hneg HH c54
      have hk56:(rd_T57 l0_4 x11).f1=false:=by simpa using c54
      clear c54
      obtain⟨HH,LMc57⟩:=zlm HH
      obtain⟨y58,hy58⟩:∃ y_:List ByteArray,y_=(x8++[(rd_T57 l0_4 x11).f3]):=⟨_,rfl⟩
      have H:((toponymref16_Texts.l0 k12 y58 (wrap64 (x11+1)) a0_1 l0_4))=some (r1,r2):=by rw[hy58];exact HH.out
      replace HH:=za H
      clear H
      have NYy58:=za hy58
      clear hy58
      go_wp2_with (((with_reducible refine gate_dst (N:=35) rfl ?_);(try(refine gate_guard (by rfl) ?_;dsimp only));refine Kd.N_append Kd.string w.heap.size rfl _ _ 31 9 (.string ⟨#[]⟩) 16 rfl Try.underlying31 info9 rfl (by decide) (by decide) (v9) x8 ((rd_T57 l0_4 x11).f3) [.string ((rd_T57 l0_4 x11).f3)] (fun k_=>((P_ k_∨w.heap.size≤k_)∧k_≠g1)∧k_≠g25) (fun k_=>(fun k_=>((P_ k_∨w.heap.size≤k_)∧k_≠g1)∧k_≠g25) k_∧some k_≠(v9:Value).ownBlock) rfl rfl (fun _ _=>rfl) (fun _ hk_=>hk_) (fun k_ h_=>⟨⟨.inr (Nat.le_trans (below_size (by repeat(first|(with_reducible first|exact HB.out|apply below_alloc|apply pw_below_drewN|apply below_drew1)|exact HB.out))) h_),Kd.freshB (g:=g1) (o:=.cells #[.int .i64 a0_0,.bool a0_1,.int .i64 a0_2,.string a0_3,.slice (some ad24) l0_4.length c0_4] 57 (0,0)) (by(with_reducible repeat(first|refine blk_drewN ?_ _|refine blk_drew ?_|refine blk_alloc ?_ _));exact BKg1.out) k_ h_⟩,Kd.freshB (g:=g25) (o:=.cells #[.int .i64 ((rd_T57 l0_4 x11).f0),.bool ((rd_T57 l0_4 x11).f1),.int .i64 ((rd_T57 l0_4 x11).f2),.string ((rd_T57 l0_4 x11).f3),.slice A24_4 ((rd_T57 l0_4 x11).f4).length c24_4] 57 (0,0)) (by(with_reducible repeat(first|refine blk_drewN ?_ _|refine blk_drew ?_|refine blk_alloc ?_ _));exact BKg25.out) k_ h_⟩) (by(with_reducible repeat(first|apply Kd.N_alloc|apply Kd.N_drewN|apply Kd.N_drew));exact HN10.out) (by repeat(first|(with_reducible first|exact HB.out|apply below_alloc|apply pw_below_drewN|apply below_drew1)|exact HB.out)) (below_size (by repeat(first|(with_reducible first|exact HB.out|apply below_alloc|apply pw_below_drewN|apply below_drew1)|exact HB.out))) (by first|(have:=LMc57.out;omega)|(have:=LMc57.out;simp at *;omega)) ?_;intro v59 w60 hn1 hb1 hg1 hat1);replace hat1:=za hat1;refine stop_ ?_)
      refine zg ?_
      replace hat1:=hat1.out
      replace HF0_4:=za (Kd.F_mono (Kd.F_after (v:=v9) (ok:=(fun k_=>((P_ k_∨w.heap.size≤k_)∧k_≠g1)∧k_≠g25)) (Kd.F_mono (ok:=(fun k_=>(((P_ k_∨w.heap.size≤k_)∧some k_≠(v9:Value).ownBlock)∧k_≠g1)∧k_≠g25)) (by(with_reducible repeat(first|apply Kd.F_alloc|apply Kd.F_drewN|apply Kd.F_drew));exact HF0_4.out) (fun k_ hk_=>⟨⟨⟨hk_.1.1.1,hk_.1.2⟩,hk_.2⟩,hk_.1.1.2⟩)) hg1 hat1) (fun k_ hk_=>hk_):Kd.F k57 _ (fun k_=>(((P_ k_∨w.heap.size≤k_)∧k_≠g1)∧k_≠g25)∧some k_≠(v59:Value).ownBlock) _ _ _)
      replace BKg1:=za (blk_grown (g:=g1) (o:=.cells #[.int .i64 a0_0,.bool a0_1,.int .i64 a0_2,.string a0_3,.slice (some ad24) l0_4.length c0_4] 57 (0,0)) (by(with_reducible repeat(first|refine blk_drewN ?_ _|refine blk_drew ?_|refine blk_alloc ?_ _));exact BKg1.out) hg1 (Kd.N_away (ok:=(fun k_=>((P_ k_∨w.heap.size≤k_)∧k_≠g1)∧k_≠g25)) HN10.out (fun k_ hk_=>hk_.1.2)))
      replace BKg25:=za (blk_grown (g:=g25) (o:=.cells #[.int .i64 ((rd_T57 l0_4 x11).f0),.bool ((rd_T57 l0_4 x11).f1),.int .i64 ((rd_T57 l0_4 x11).f2),.string ((rd_T57 l0_4 x11).f3),.slice A24_4 ((rd_T57 l0_4 x11).f4).length c24_4] 57 (0,0)) (by(with_reducible repeat(first|refine blk_drewN ?_ _|refine blk_drew ?_|refine blk_alloc ?_ _));exact BKg25.out) hg1 (Kd.N_away (ok:=(fun k_=>((P_ k_∨w.heap.size≤k_)∧k_≠g1)∧k_≠g25)) HN10.out (fun k_ hk_=>hk_.2)))
      replace HB:=za hb1
      clear HN10
      have HN61:=za hn1
      clear hn1 hb1 hg1 hat1
      replace HN61:=za (by rw[NYy58.out];exact HN61.out:Kd.N Kd.string 9 w60 w.heap.size (fun k_=>((P_ k_∨w.heap.size≤k_)∧k_≠g1)∧k_≠g25) v59 y58)
      replace cBKg1:=MB.lz5 BKg1.out
      replace cBKg25:=MB.lz5 BKg25.out
      go_wp2
      go_roundg k12
      case measure=>have:=HK0.out;omega
      case rel=>exact⟨y58,wrap64 (x11+1),(by first|rfl|(simp;done)|(simp[*];done)),HH,⟨by have:=HK0.out;omega⟩,⟨(Kd.F_mono (ok:=(fun k_=>(((P_ k_∨w.heap.size≤k_)∧k_≠g1)∧k_≠g25)∧some k_≠(v59:Value).ownBlock)) HF0_4.out (fun k_ hk_=>⟨⟨hk_.1.1.1,hk_.2⟩,hk_.1.1.2⟩))⟩,⟨(Kd.N_mono (ok:=(fun k_=>((P_ k_∨w.heap.size≤k_)∧k_≠g1)∧k_≠g25)) HN61.out (fun k_ hk_=>⟨hk_.1.1,hk_.1.2⟩))⟩,⟨BKg1.out⟩,⟨HB.out⟩⟩
     have H:=HH.out
     simp only[Option.some.injEq,Prod.mk.injEq] at H
     obtain⟨rfl,rfl⟩:=H
     clear HH
     go_wp2
     go_ret2
     exact⟨_,by first|rfl|(simp;done)|(simp[*];done),(Kd.N_nil _ _ _ _ _),HB.out⟩
    have H:=HH.out
    simp only[Option.some.injEq,Prod.mk.injEq] at H
    obtain⟨rfl,rfl⟩:=H
    clear HH
    go_wp2
    go_ret2
    exact⟨_,by first|rfl|(simp;done)|(simp[*];done),(Kd.N_nil _ _ _ _ _),HB.out⟩
   by_cases c79:a0_1=true
   ·replace HH:=MW.hpos HH c79
    subst c79
    have H:=HH.out
    simp only[Option.some.injEq,Prod.mk.injEq] at H
    obtain⟨rfl,rfl⟩:=H
    clear HH
    go_wp2
    go_ret2
    exact⟨_,by first|rfl|(simp;done)|(simp[*];done),(Kd.N_mono (ok:=(fun k_=>(P_ k_∨w.heap.size≤k_)∧k_≠g1)) HN10.out (fun k_ hk_=>hk_.1)),HB.out⟩
   replace HH:=MW.hneg HH c79
   replace c79:=Bool.eq_false_iff.mpr c79
   subst c79
   have H:=HH.out
   simp only[Option.some.injEq,Prod.mk.injEq] at H
   obtain⟨rfl,rfl⟩:=H
   clear HH
   go_wp2
   go_ret2
   exact⟨_,by first|rfl|(simp;done)|(simp[*];done),(Kd.N_nil _ _ _ _ _),HB.out⟩

def toponymref26_SameValues.l0:Nat→Int→(List (S46))→(List (S46))→Option (Bool)
 |0,_,_,_=>none
 |k+1,x5,l0,l1=>if x5<(l0.length:Int) then(if 0≤x5 then(if x5<(l1.length:Int) then(if ((rd_T46 l0 x5).f0).toList=((rd_T46 l1 x5).f0).toList then((toponymref16_SameTexts.f k ((rd_T46 l0 x5).f1) ((rd_T46 l1 x5).f1)).bind fun t22=>(if t22=true then((toponymref26_SameValues.l0 k (wrap64 (x5+1)) l0 l1)) else(some false))) else(some false)) else(none)) else(none)) else(some true)
def toponymref26_SameValues.f (k:Nat) (l0:List (S46)) (l1:List (S46)):Option (Bool):=if (l0.length:Int)=(l1.length:Int) then((toponymref26_SameValues.l0 k 0 l0 l1)) else(some false)
theorem toponymref26_SameValues.mono_l:∀ k,(∀ y0 y1 y2,LeO (toponymref26_SameValues.l0 k y0 y1 y2) (toponymref26_SameValues.l0 (k+1) y0 y1 y2))
 |0=>fun _ _ _ r h=>by simp[toponymref26_SameValues.l0] at h
 |k+1=>by
  have ih0:=toponymref26_SameValues.mono_l k
  ·intro y0 y1 y2
   unfold toponymref26_SameValues.l0
   with_reducible repeat' first|exact ih0 _ _ _|exact toponymref16_SameTexts.mono _ _ _|exact LeO.refl _|exact LeO.none _|refine LeO.ite ?_ ?_|refine LeO.bind ?_ (fun _=>?_)
theorem toponymref26_SameValues.mono:∀ a0_ a1_ k,LeO (toponymref26_SameValues.f k a0_ a1_) (toponymref26_SameValues.f (k+1) a0_ a1_):=by
 intro a0_ a1_ k
 have ih0:=toponymref26_SameValues.mono_l k
 unfold toponymref26_SameValues.f
 with_reducible repeat' first|exact ih0 _ _ _|exact toponymref16_SameTexts.mono _ _ _|exact LeO.refl _|exact LeO.none _|refine LeO.ite ?_ ?_|refine LeO.bind ?_ (fun _=>?_)
theorem toponymref26_SameValues.calls (k:Nat) (P_:Nat→Prop) (A0:Option Addr) (c0:Nat) (l0:List (S46)) (A1:Option Addr) (c1:Nat) (l1:List (S46)) (r:Bool) (w:World) (hs0:Kd.F k46 w P_ A0 l0.length l0) (hc0:l0.length≤c0) (hs1:Kd.F k46 w P_ A1 l1.length l1) (hc1:l1.length≤c1) (h:toponymref26_SameValues.f k l0 l1=some r):
  Calls Try.prog 34 #[.slice A0 l0.length c0,.slice A1 l1.length c1] w (fun e w'=>e=.returned (.bool r)∧Below w.heap.size w w'):=by
 unfold toponymref26_SameValues.f at h
 have HH:=za h
 clear h
 have HF0:=zfp hs0
 clear hs0 hc0
 have HF1:=zfp hs1
 clear hs1 hc1
 have HB:=za (Below.refl w.heap.size w)
 go_enter Try.func34,Try.ntmps34
 by_cases c1:(l0.length:Int)=(l1.length:Int)
 ·replace HH:=MW.hpos HH c1
  have hk2:((l0.length:Int)==(l1.length:Int))=true:=beq_iff_eq.mpr c1
  have hk3:((l0.length:Int) != (l1.length:Int))=false:=bne_eq_false_iff_eq.mpr c1
  have hk4:(l0.length==l1.length)=true:=by first|simpa using c1|(simp at c1 ⊢;omega)
  clear c1
  go_wp2
  go_loopg [5] k (fun kq u5 w'=>∃ (x5:Int),u5=.int .i64 x5∧Aside0 ((toponymref26_SameValues.l0 kq x5 l0 l1)=some r)∧Aside0 (kq≤k)∧Aside0 (Kd.F k46 w' (fun k_=>(P_ k_∨w.heap.size≤k_)) A0 l0.length l0)∧Aside0 (Kd.F k46 w' (fun k_=>(P_ k_∨w.heap.size≤k_)) A1 l1.length l1)∧Aside0 (Below w.heap.size w w'))
  case atStart=>exact⟨0,(by first|rfl|(simp;done)|(simp[*];done)),HH,⟨Nat.le_refl _⟩,⟨HF0.out⟩,⟨HF1.out⟩,⟨HB.out⟩⟩
  case round=>
   clear hk2
   clear hk3
   clear hk4
   clear HH
   clear HF0 HF1 HB
   obtain⟨x5,rfl,HA,HK0,HF0,HF1,HB⟩:=hrel
   obtain⟨w7,rfl⟩:∃ wo_:World,wo_=wr:=⟨_,rfl⟩
   cases gk with
   |zero=>exact absurd HA.out (by simp[toponymref26_SameValues.l0])
   |succ k6=>
    have H:=HA.out
    clear HA
    simp only[toponymref26_SameValues.l0] at H
    have HH:=za H
    clear H
    replace HH:=zqt HH
    rcases HH with⟨HH,hk9,hk10⟩|⟨HH,hk31,hk32⟩
    ·go_wp2
     have hwr_:∀ n_:Int,IntKind.i64.wrap n_=wrap64 n_:=fun n_=>IntWalk.i64_left n_
     refine wp_region_any (by kernel_rfl) ?_
     change wpAny _ _ _ _ 25 #[false,false,false,false,false,false,false,false,false,false,false,false,false,false,false,false,false,false,false,false,false,false,false,false,false] _ w7.drew
     obtain⟨w11,hw_⟩:∃ w_:World,w_=w7.drew:=⟨_,rfl⟩
     rw[← hw_]
     have hb:Below w7.heap.size w7 w11:=by rw[hw_];exact below_drew1 (Below.refl _ _)
     clear hw_
     replace HF0:=zfb HF0.out hb
     replace HF1:=zfb HF1.out hb
     replace HB:=zhb HB.out hb
     clear hb
     replace HH:=zqdo HH
     obtain⟨HH,hk13⟩:=HH
     have p14:0≤(x5:Int):=of_decide_eq_true (by first|(with_reducible assumption)|assumption)
     have q14:x5<(l0.length:Int):=of_decide_eq_true (by first|(with_reducible assumption)|assumption)
     obtain⟨ad14,A14_1,c14_1,e14,hx14_0,hx14_1,hl14_1,hi14_1⟩:=atF_T46 HF0.out x5 p14 q14
     cases e14
     have HF14_1:=za hi14_1
     have HL14_1:=za hl14_1
     clear hi14_1 hl14_1
     replace p14:=eq_true p14
     replace q14:=eq_true q14
     replace HH:=zqto HH
     obtain⟨HH,hk16,hk17⟩:=HH
     have p18:0≤(x5:Int):=of_decide_eq_true (by first|(with_reducible assumption)|assumption)
     have q18:x5<(l1.length:Int):=of_decide_eq_true (by first|(with_reducible assumption)|assumption)
     obtain⟨ad18,A18_1,c18_1,e18,hx18_0,hx18_1,hl18_1,hi18_1⟩:=atF_T46 HF1.out x5 p18 q18
     cases e18
     have HF18_1:=za hi18_1
     have HL18_1:=za hl18_1
     clear hi18_1 hl18_1
     replace p18:=eq_true p18
     replace q18:=eq_true q18
     refine MW.last_in (ds:=[22]) (zk hx14_0 (zk hx14_1 (zk hx18_0 (zk hx18_1 z0)))) ?_
     refine zlp 0 (.slice (some ad14) l0.length c0) #[_,_,_,_,_,_,_,_,_,_,_,_,_,_,_,_,_,_,_,_,_,_,_,_,_] ⟨[_,_,_,_,_,_,_,_,_,_,_,_,_,_,_,_,_,_,_,_,_,_,_,_,_,_,_,_,_,_,_,_,_,_,_,_,_,_,_,_,_,_].toArray,[]⟩ (h:=?_)
     refine zlp 1 (.int .i64 x5) #[_,_,_,_,_,_,_,_,_,_,_,_,_,_,_,_,_,_,_,_,_,_,_,_,_] ⟨[_,_,_,_,_,_,_,_,_,_,_,_,_,_,_,_,_,_,_,_,_,_,_,_,_,_,_,_,_,_,_,_,_,_,_,_,_,_,_,_,_,_].toArray,[]⟩ (h:=?_)
     refine zlp 2 (.pointer (some (ad14.add (x5.toNat*2)))) #[_,_,_,_,_,_,_,_,_,_,_,_,_,_,_,_,_,_,_,_,_,_,_,_,_] ⟨[_,_,_,_,_,_,_,_,_,_,_,_,_,_,_,_,_,_,_,_,_,_,_,_,_,_,_,_,_,_,_,_,_,_,_,_,_,_,_,_,_,_].toArray,[]⟩ (h:=?_)
     refine zlp 3 (.pointer (some (ad14.add (x5.toNat*2)))) #[_,_,_,_,_,_,_,_,_,_,_,_,_,_,_,_,_,_,_,_,_,_,_,_,_] ⟨[_,_,_,_,_,_,_,_,_,_,_,_,_,_,_,_,_,_,_,_,_,_,_,_,_,_,_,_,_,_,_,_,_,_,_,_,_,_,_,_,_,_].toArray,[]⟩ (h:=?_)
     refine zlp 5 (.slice (some ad18) l1.length c1) #[_,_,_,_,_,_,_,_,_,_,_,_,_,_,_,_,_,_,_,_,_,_,_,_,_] ⟨[_,_,_,_,_,_,_,_,_,_,_,_,_,_,_,_,_,_,_,_,_,_,_,_,_,_,_,_,_,_,_,_,_,_,_,_,_,_,_,_,_,_].toArray,[]⟩ (h:=?_)
     refine zlp 6 (.int .i64 x5) #[_,_,_,_,_,_,_,_,_,_,_,_,_,_,_,_,_,_,_,_,_,_,_,_,_] ⟨[_,_,_,_,_,_,_,_,_,_,_,_,_,_,_,_,_,_,_,_,_,_,_,_,_,_,_,_,_,_,_,_,_,_,_,_,_,_,_,_,_,_].toArray,[]⟩ (h:=?_)
     refine zlp 7 (.pointer (some (ad18.add (x5.toNat*2)))) #[_,_,_,_,_,_,_,_,_,_,_,_,_,_,_,_,_,_,_,_,_,_,_,_,_] ⟨[_,_,_,_,_,_,_,_,_,_,_,_,_,_,_,_,_,_,_,_,_,_,_,_,_,_,_,_,_,_,_,_,_,_,_,_,_,_,_,_,_,_].toArray,[]⟩ (h:=?_)
     refine zlp 8 (.pointer (some (ad18.add (x5.toNat*2)))) #[_,_,_,_,_,_,_,_,_,_,_,_,_,_,_,_,_,_,_,_,_,_,_,_,_] ⟨[_,_,_,_,_,_,_,_,_,_,_,_,_,_,_,_,_,_,_,_,_,_,_,_,_,_,_,_,_,_,_,_,_,_,_,_,_,_,_,_,_,_].toArray,[]⟩ (h:=?_)
     refine MW.last_take (i:=4) (v:=.string ((rd_T46 l0 x5).f0)) (listed':= #[_,_,_,_,_,_,_,_,_,_,_,_,_,_,_,_,_,_,_,_,_,_,_,_,_]) (a':=⟨[_,_,_,_,_,_,_,_,_,_,_,_,_,_,_,_,_,_,_,_,_,_,_,_,_,_,_,_,_,_,_,_,_,_,_,_,_,_,_,_,_,_].toArray,[]⟩) rfl (by kernel_rfl) (by kernel_rfl) (by kernel_rfl) (by kernel_rfl) (by kernel_rfl) (fun _ _ _ h_=>h_) (by kernel_rfl) (fun w_ hS_=>?go) (zk hx14_0 (zk hx14_1 (zk hx18_0 (zk hx18_1 z0)))) rfl rfl ?_
     case go=>obtain⟨hs0_,_,_,_,_⟩:=hS_;first|(go_simp;done)|(go_simp;rfl)
     refine MW.last_take (i:=9) (v:=.string ((rd_T46 l1 x5).f0)) (listed':= #[_,_,_,_,_,_,_,_,_,_,_,_,_,_,_,_,_,_,_,_,_,_,_,_,_]) (a':=⟨[_,_,_,_,_,_,_,_,_,_,_,_,_,_,_,_,_,_,_,_,_,_,_,_,_,_,_,_,_,_,_,_,_,_,_,_,_,_,_,_,_,_].toArray,[]⟩) rfl (by kernel_rfl) (by kernel_rfl) (by kernel_rfl) (by kernel_rfl) (by kernel_rfl) (fun _ _ _ h_=>h_) (by kernel_rfl) (fun w_ hS_=>?go) (zk hx14_0 (zk hx14_1 (zk hx18_0 (zk hx18_1 z0)))) rfl rfl ?_
     case go=>obtain⟨_,_,hs2_,_,_⟩:=hS_;first|(go_simp;done)|(go_simp;rfl)
     refine zlp 10 (.bool (((rd_T46 l0 x5).f0).toList != ((rd_T46 l1 x5).f0).toList)) #[_,_,_,_,_,_,_,_,_,_,_,_,_,_,_,_,_,_,_,_,_,_,_,_,_] ⟨[_,_,_,_,_,_,_,_,_,_,_,_,_,_,_,_,_,_,_,_,_,_,_,_,_,_,_,_,_,_,_,_,_,_,_,_,_,_,_,_,_,_].toArray,[]⟩ (h:=?_)
     refine zlp 11 (.bool (((rd_T46 l0 x5).f0).toList != ((rd_T46 l1 x5).f0).toList)) #[_,_,_,_,_,_,_,_,_,_,_,_,_,_,_,_,_,_,_,_,_,_,_,_,_] ⟨[_,_,_,_,_,_,_,_,_,_,_,_,_,_,_,_,_,_,_,_,_,_,_,_,_,_,_,_,_,_,_,_,_,_,_,_,_,_,_,_,_,_].toArray,[]⟩ (h:=?_)
     replace HH:=zqe HH
     rcases HH with⟨HH,hk20,hk21⟩|⟨HH,hk26,hk27⟩
     ·(try simp only[hk20,Bool.not_true,Bool.not_false])
      (try simp only[hk21,Bool.not_true,Bool.not_false])
      refine zlp 12 (.slice (some ad14) l0.length c0) #[_,_,_,_,_,_,_,_,_,_,_,_,_,_,_,_,_,_,_,_,_,_,_,_,_] ⟨[_,_,_,_,_,_,_,_,_,_,_,_,_,_,_,_,_,_,_,_,_,_,_,_,_,_,_,_,_,_,_,_,_,_,_,_,_,_,_,_,_,_].toArray,[]⟩ (h:=?_)
      refine zlp 13 (.int .i64 x5) #[_,_,_,_,_,_,_,_,_,_,_,_,_,_,_,_,_,_,_,_,_,_,_,_,_] ⟨[_,_,_,_,_,_,_,_,_,_,_,_,_,_,_,_,_,_,_,_,_,_,_,_,_,_,_,_,_,_,_,_,_,_,_,_,_,_,_,_,_,_].toArray,[]⟩ (h:=?_)
      refine zlp 14 (.pointer (some (ad14.add (x5.toNat*2)))) #[_,_,_,_,_,_,_,_,_,_,_,_,_,_,_,_,_,_,_,_,_,_,_,_,_] ⟨[_,_,_,_,_,_,_,_,_,_,_,_,_,_,_,_,_,_,_,_,_,_,_,_,_,_,_,_,_,_,_,_,_,_,_,_,_,_,_,_,_,_].toArray,[]⟩ (h:=?_)
      refine zlp 15 (.pointer (some ⟨(ad14.add (x5.toNat*2)).block,(ad14.add (x5.toNat*2)).off+1,none⟩)) #[_,_,_,_,_,_,_,_,_,_,_,_,_,_,_,_,_,_,_,_,_,_,_,_,_] ⟨[_,_,_,_,_,_,_,_,_,_,_,_,_,_,_,_,_,_,_,_,_,_,_,_,_,_,_,_,_,_,_,_,_,_,_,_,_,_,_,_,_,_].toArray,[]⟩ (h:=?_)
      refine zlp 17 (.slice (some ad18) l1.length c1) #[_,_,_,_,_,_,_,_,_,_,_,_,_,_,_,_,_,_,_,_,_,_,_,_,_] ⟨[_,_,_,_,_,_,_,_,_,_,_,_,_,_,_,_,_,_,_,_,_,_,_,_,_,_,_,_,_,_,_,_,_,_,_,_,_,_,_,_,_,_].toArray,[]⟩ (h:=?_)
      refine zlp 18 (.int .i64 x5) #[_,_,_,_,_,_,_,_,_,_,_,_,_,_,_,_,_,_,_,_,_,_,_,_,_] ⟨[_,_,_,_,_,_,_,_,_,_,_,_,_,_,_,_,_,_,_,_,_,_,_,_,_,_,_,_,_,_,_,_,_,_,_,_,_,_,_,_,_,_].toArray,[]⟩ (h:=?_)
      refine zlp 19 (.pointer (some (ad18.add (x5.toNat*2)))) #[_,_,_,_,_,_,_,_,_,_,_,_,_,_,_,_,_,_,_,_,_,_,_,_,_] ⟨[_,_,_,_,_,_,_,_,_,_,_,_,_,_,_,_,_,_,_,_,_,_,_,_,_,_,_,_,_,_,_,_,_,_,_,_,_,_,_,_,_,_].toArray,[]⟩ (h:=?_)
      refine zlp 20 (.pointer (some ⟨(ad18.add (x5.toNat*2)).block,(ad18.add (x5.toNat*2)).off+1,none⟩)) #[_,_,_,_,_,_,_,_,_,_,_,_,_,_,_,_,_,_,_,_,_,_,_,_,_] ⟨[_,_,_,_,_,_,_,_,_,_,_,_,_,_,_,_,_,_,_,_,_,_,_,_,_,_,_,_,_,_,_,_,_,_,_,_,_,_,_,_,_,_].toArray,[]⟩ (h:=?_)
      refine MW.last_take (i:=16) (v:=.slice A14_1 ((rd_T46 l0 x5).f1).length c14_1) (listed':= #[_,_,_,_,_,_,_,_,_,_,_,_,_,_,_,_,_,_,_,_,_,_,_,_,_]) (a':=⟨[_,_,_,_,_,_,_,_,_,_,_,_,_,_,_,_,_,_,_,_,_,_,_,_,_,_,_,_,_,_,_,_,_,_,_,_,_,_,_,_,_,_].toArray,[]⟩) rfl (by kernel_rfl) (by kernel_rfl) (by kernel_rfl) (by kernel_rfl) (by kernel_rfl) (fun _ _ _ h_=>h_) (by kernel_rfl) (fun w_ hS_=>?go) (zk hx14_0 (zk hx14_1 (zk hx18_0 (zk hx18_1 z0)))) rfl rfl ?_
      case go=>obtain⟨_,hs1_,_,_,_⟩:=hS_;first|(go_simp;done)|(go_simp;rfl)
      refine MW.last_take (i:=21) (v:=.slice A18_1 ((rd_T46 l1 x5).f1).length c18_1) (listed':= #[_,_,_,_,_,_,_,_,_,_,_,_,_,_,_,_,_,_,_,_,_,_,_,_,_]) (a':=⟨[_,_,_,_,_,_,_,_,_,_,_,_,_,_,_,_,_,_,_,_,_,_,_,_,_,_,_,_,_,_,_,_,_,_,_,_,_,_,_,_,_,_].toArray,[]⟩) rfl (by kernel_rfl) (by kernel_rfl) (by kernel_rfl) (by kernel_rfl) (by kernel_rfl) (fun _ _ _ h_=>h_) (by kernel_rfl) (fun w_ hS_=>?go) (zk hx14_0 (zk hx14_1 (zk hx18_0 (zk hx18_1 z0)))) rfl rfl ?_
      case go=>obtain⟨_,_,_,hs3_,_⟩:=hS_;first|(go_simp;done)|(go_simp;rfl)
      refine MW.last_fin (i:=22) (listed':= #[true,true,true,true,true,true,true,true,true,true,true,true,true,true,true,true,true,true,true,true,true,true,true,false,false]) rfl (by kernel_rfl) (by kernel_rfl) (by kernel_rfl) ?_
      replace HH:=zd HH
      obtain⟨t22,At23,HH⟩:=HH
      go_wp2_with ((with_reducible refine gc 14 rfl ?_);refine zc 14 (some 39) Try.func14 #[.slice A14_1 ((rd_T46 l0 x5).f1).length c14_1,.slice A18_1 ((rd_T46 l1 x5).f1).length c18_1] (h:=?_);(with_reducible refine(toponymref16_SameTexts.calls k6 (fun k_=>(P_ k_∨w.heap.size≤k_)) _ _ ((rd_T46 l0 x5).f1) _ _ ((rd_T46 l1 x5).f1) t22 _ HF14_1.out HL14_1.out HF18_1.out HL18_1.out At23.out).mono ?_);rintro e w' ⟨rfl,⟨nd,rfl⟩⟩;refine⟨_,rfl,?_⟩)
      refine zg ?_
      refine wpList_nil ?_
      change wpAnyLast _ _ _ _ _ _ 2 #[true,true,true,true,true,true,true,true,true,true,true,true,true,true,true,true,true,true,true,true,true,true,true,false,false] ⟨[_,_,_,_,_,_,_,_,_,_,_,_,_,_,_,_,_,_,_,_,_,_,_,_,_,_,_,_,_,_,_,_,_,_,_,_,_,_,_,_,_,_].toArray,[]⟩ _
      refine zlp 23 (.bool (!t22)) #[_,_,_,_,_,_,_,_,_,_,_,_,_,_,_,_,_,_,_,_,_,_,_,_,_] ⟨[_,_,_,_,_,_,_,_,_,_,_,_,_,_,_,_,_,_,_,_,_,_,_,_,_,_,_,_,_,_,_,_,_,_,_,_,_,_,_,_,_,_].toArray,[]⟩ (h:=?_)
      refine zlp 24 (.bool (!t22)) #[_,_,_,_,_,_,_,_,_,_,_,_,_,_,_,_,_,_,_,_,_,_,_,_,_] ⟨[_,_,_,_,_,_,_,_,_,_,_,_,_,_,_,_,_,_,_,_,_,_,_,_,_,_,_,_,_,_,_,_,_,_,_,_,_,_,_,_,_,_].toArray,[]⟩ (h:=?_)
      refine MW.last_done (by kernel_rfl) ?_ _
      clear hwr_
      by_cases c25:t22=true
      ·replace HH:=MW.hpos HH c25
       subst c25
       go_wp2
       go_roundg k6
       case measure=>have:=HK0.out;omega
       case rel=>exact⟨wrap64 (x5+1),(by first|rfl|(simp;done)|(simp[*];done)),HH,⟨by have:=HK0.out;omega⟩,⟨(by(with_reducible repeat(first|apply Kd.F_alloc|apply Kd.F_drewN|apply Kd.F_drew));exact HF0.out)⟩,⟨(by(with_reducible repeat(first|apply Kd.F_alloc|apply Kd.F_drewN|apply Kd.F_drew));exact HF1.out)⟩,⟨(by repeat(first|(with_reducible first|exact HB.out|apply below_alloc|apply pw_below_drewN|apply below_drew1)|exact HB.out))⟩⟩
      replace HH:=MW.hneg HH c25
      replace c25:=Bool.eq_false_iff.mpr c25
      subst c25
      obtain rfl:=Option.some.inj HH.out
      clear HH
      go_wp2
      go_ret
      exact zfi (by repeat(first|(with_reducible first|exact HB.out|apply below_alloc|apply pw_below_drewN|apply below_drew1)|exact HB.out))
     (try simp only[hk26,Bool.not_true,Bool.not_false])
     (try simp only[hk27,Bool.not_true,Bool.not_false])
     refine MW.last_pure (i:=12) (v:=undef) (listed':= #[true,true,true,true,true,true,true,true,true,true,true,true,true,false,false,false,false,false,false,false,false,false,false,false,false]) (a':=⟨[_,_,_,_,_,_,_,_,_,_,_,_,_,_,_,_,_,_,_,_,_,_,_,_,_,_,_,_,_,_,_,_,_,_,_,_,_,_,_,_,_,_].toArray,[]⟩) rfl (by kernel_rfl) (by kernel_rfl) (by kernel_rfl) (fun _ _ _ h_=>h_) (.inr ⟨(by kernel_rfl),rfl⟩) (by kernel_rfl) rfl ?_
     refine MW.last_pure (i:=13) (v:=undef) (listed':= #[true,true,true,true,true,true,true,true,true,true,true,true,true,true,false,false,false,false,false,false,false,false,false,false,false]) (a':=⟨[_,_,_,_,_,_,_,_,_,_,_,_,_,_,_,_,_,_,_,_,_,_,_,_,_,_,_,_,_,_,_,_,_,_,_,_,_,_,_,_,_,_].toArray,[]⟩) rfl (by kernel_rfl) (by kernel_rfl) (by kernel_rfl) (fun _ _ _ h_=>h_) (.inr ⟨(by kernel_rfl),rfl⟩) (by kernel_rfl) rfl ?_
     refine MW.last_pure (i:=14) (v:=undef) (listed':= #[true,true,true,true,true,true,true,true,true,true,true,true,true,true,true,false,false,false,false,false,false,false,false,false,false]) (a':=⟨[_,_,_,_,_,_,_,_,_,_,_,_,_,_,_,_,_,_,_,_,_,_,_,_,_,_,_,_,_,_,_,_,_,_,_,_,_,_,_,_,_,_].toArray,[]⟩) rfl (by kernel_rfl) (by kernel_rfl) (by kernel_rfl) (fun _ _ _ h_=>h_) (.inr ⟨(by kernel_rfl),rfl⟩) (by kernel_rfl) rfl ?_
     refine MW.last_pure (i:=15) (v:=undef) (listed':= #[true,true,true,true,true,true,true,true,true,true,true,true,true,true,true,true,false,false,false,false,false,false,false,false,false]) (a':=⟨[_,_,_,_,_,_,_,_,_,_,_,_,_,_,_,_,_,_,_,_,_,_,_,_,_,_,_,_,_,_,_,_,_,_,_,_,_,_,_,_,_,_].toArray,[]⟩) rfl (by kernel_rfl) (by kernel_rfl) (by kernel_rfl) (fun _ _ _ h_=>h_) (.inr ⟨(by kernel_rfl),rfl⟩) (by kernel_rfl) rfl ?_
     refine MW.last_pure (i:=16) (v:=undef) (listed':= #[true,true,true,true,true,true,true,true,true,true,true,true,true,true,true,true,true,false,false,false,false,false,false,false,false]) (a':=⟨[_,_,_,_,_,_,_,_,_,_,_,_,_,_,_,_,_,_,_,_,_,_,_,_,_,_,_,_,_,_,_,_,_,_,_,_,_,_,_,_,_,_].toArray,[]⟩) rfl (by kernel_rfl) (by kernel_rfl) (by kernel_rfl) (fun _ _ _ h_=>h_) (.inr ⟨(by kernel_rfl),rfl⟩) (by kernel_rfl) rfl ?_
     refine MW.last_pure (i:=17) (v:=undef) (listed':= #[true,true,true,true,true,true,true,true,true,true,true,true,true,true,true,true,true,true,false,false,false,false,false,false,false]) (a':=⟨[_,_,_,_,_,_,_,_,_,_,_,_,_,_,_,_,_,_,_,_,_,_,_,_,_,_,_,_,_,_,_,_,_,_,_,_,_,_,_,_,_,_].toArray,[]⟩) rfl (by kernel_rfl) (by kernel_rfl) (by kernel_rfl) (fun _ _ _ h_=>h_) (.inr ⟨(by kernel_rfl),rfl⟩) (by kernel_rfl) rfl ?_
     refine MW.last_pure (i:=18) (v:=undef) (listed':= #[true,true,true,true,true,true,true,true,true,true,true,true,true,true,true,true,true,true,true,false,false,false,false,false,false]) (a':=⟨[_,_,_,_,_,_,_,_,_,_,_,_,_,_,_,_,_,_,_,_,_,_,_,_,_,_,_,_,_,_,_,_,_,_,_,_,_,_,_,_,_,_].toArray,[]⟩) rfl (by kernel_rfl) (by kernel_rfl) (by kernel_rfl) (fun _ _ _ h_=>h_) (.inr ⟨(by kernel_rfl),rfl⟩) (by kernel_rfl) rfl ?_
     refine MW.last_pure (i:=19) (v:=undef) (listed':= #[true,true,true,true,true,true,true,true,true,true,true,true,true,true,true,true,true,true,true,true,false,false,false,false,false]) (a':=⟨[_,_,_,_,_,_,_,_,_,_,_,_,_,_,_,_,_,_,_,_,_,_,_,_,_,_,_,_,_,_,_,_,_,_,_,_,_,_,_,_,_,_].toArray,[]⟩) rfl (by kernel_rfl) (by kernel_rfl) (by kernel_rfl) (fun _ _ _ h_=>h_) (.inr ⟨(by kernel_rfl),rfl⟩) (by kernel_rfl) rfl ?_
     refine MW.last_pure (i:=20) (v:=undef) (listed':= #[true,true,true,true,true,true,true,true,true,true,true,true,true,true,true,true,true,true,true,true,true,false,false,false,false]) (a':=⟨[_,_,_,_,_,_,_,_,_,_,_,_,_,_,_,_,_,_,_,_,_,_,_,_,_,_,_,_,_,_,_,_,_,_,_,_,_,_,_,_,_,_].toArray,[]⟩) rfl (by kernel_rfl) (by kernel_rfl) (by kernel_rfl) (fun _ _ _ h_=>h_) (.inr ⟨(by kernel_rfl),rfl⟩) (by kernel_rfl) rfl ?_
     refine MW.last_pure (i:=21) (v:=undef) (listed':= #[true,true,true,true,true,true,true,true,true,true,true,true,true,true,true,true,true,true,true,true,true,true,false,false,false]) (a':=⟨[_,_,_,_,_,_,_,_,_,_,_,_,_,_,_,_,_,_,_,_,_,_,_,_,_,_,_,_,_,_,_,_,_,_,_,_,_,_,_,_,_,_].toArray,[]⟩) rfl (by kernel_rfl) (by kernel_rfl) (by kernel_rfl) (fun _ _ _ h_=>h_) (.inr ⟨(by kernel_rfl),rfl⟩) (by kernel_rfl) rfl ?_
     refine MW.last_pure (i:=22) (v:=undef) (listed':= #[true,true,true,true,true,true,true,true,true,true,true,true,true,true,true,true,true,true,true,true,true,true,true,false,false]) (a':=⟨[_,_,_,_,_,_,_,_,_,_,_,_,_,_,_,_,_,_,_,_,_,_,_,_,_,_,_,_,_,_,_,_,_,_,_,_,_,_,_,_,_,_].toArray,[]⟩) rfl (by kernel_rfl) (by kernel_rfl) (by kernel_rfl) (fun _ _ _ h_=>h_) (.inr ⟨(by kernel_rfl),rfl⟩) (by kernel_rfl) rfl ?_
     refine MW.last_pure (i:=23) (v:=undef) (listed':= #[true,true,true,true,true,true,true,true,true,true,true,true,true,true,true,true,true,true,true,true,true,true,true,true,false]) (a':=⟨[_,_,_,_,_,_,_,_,_,_,_,_,_,_,_,_,_,_,_,_,_,_,_,_,_,_,_,_,_,_,_,_,_,_,_,_,_,_,_,_,_,_].toArray,[]⟩) rfl (by kernel_rfl) (by kernel_rfl) (by kernel_rfl) (fun _ _ _ h_=>h_) (.inr ⟨(by kernel_rfl),rfl⟩) (by kernel_rfl) rfl ?_
     refine zlp 24 (.bool true) #[_,_,_,_,_,_,_,_,_,_,_,_,_,_,_,_,_,_,_,_,_,_,_,_,_] ⟨[_,_,_,_,_,_,_,_,_,_,_,_,_,_,_,_,_,_,_,_,_,_,_,_,_,_,_,_,_,_,_,_,_,_,_,_,_,_,_,_,_,_].toArray,[]⟩ (h:=?_)
     refine MW.last_done (by kernel_rfl) ?_ _
     clear hwr_
     obtain rfl:=Option.some.inj HH.out
     clear HH
     go_wp2
     go_ret
     exact zfi HB.out
    obtain rfl:=Option.some.inj HH.out
    clear HH
    go_wp2
    go_ret
    exact zfi HB.out
 replace HH:=MW.hneg HH c1
 have hk33:((l0.length:Int)==(l1.length:Int))=false:=beq_eq_false_iff_ne.mpr c1
 have hk34:((l0.length:Int) != (l1.length:Int))=true:=bne_iff_ne.mpr c1
 have hk35:(l0.length==l1.length)=false:=by first|simpa using c1|(simp at c1 ⊢;omega)
 clear c1
 obtain rfl:=Option.some.inj HH.out
 clear HH
 go_wp2
 go_ret
 exact zfi HB.out

def toponymref27_Same.f (k:Nat) (a0_0:Int) (a0_1:Int) (a0_2:Bool) (a0_3:Int) (a0_4:ByteArray) (a0_5:ByteArray) (a0_6:ByteArray) (l0_7:List (S46)) (a1_0:Int) (a1_1:Int) (a1_2:Bool) (a1_3:Int) (a1_4:ByteArray) (a1_5:ByteArray) (a1_6:ByteArray) (l1_7:List (S46)):Option (Bool):=if a0_0=a1_0 then(if a0_1=a1_1 then(if (a0_2==a1_2)=true then(if a0_3=a1_3 then(if a0_4.toList=a1_4.toList then(if a0_5.toList=a1_5.toList then(if a0_6.toList=a1_6.toList then((toponymref26_SameValues.f k l0_7 l1_7).bind fun t51=>(some t51)) else(some false)) else(some false)) else(some false)) else(some false)) else(some false)) else(some false)) else(some false)
theorem toponymref27_Same.mono:∀ a0_ a1_ a2_ a3_ a4_ a5_ a6_ a7_ a8_ a9_ a10_ a11_ a12_ a13_ a14_ a15_ k,LeO (toponymref27_Same.f k a0_ a1_ a2_ a3_ a4_ a5_ a6_ a7_ a8_ a9_ a10_ a11_ a12_ a13_ a14_ a15_) (toponymref27_Same.f (k+1) a0_ a1_ a2_ a3_ a4_ a5_ a6_ a7_ a8_ a9_ a10_ a11_ a12_ a13_ a14_ a15_):=by
 intro a0_ a1_ a2_ a3_ a4_ a5_ a6_ a7_ a8_ a9_ a10_ a11_ a12_ a13_ a14_ a15_ k
 unfold toponymref27_Same.f
 with_reducible repeat' first|exact toponymref26_SameValues.mono _ _ _|exact LeO.refl _|exact LeO.none _|refine LeO.ite ?_ ?_|refine LeO.bind ?_ (fun _=>?_)
theorem toponymref27_Same.calls (k:Nat) (P_:Nat→Prop) (a0_0:Int) (a0_1:Int) (a0_2:Bool) (a0_3:Int) (a0_4:ByteArray) (a0_5:ByteArray) (a0_6:ByteArray) (A0_7:Option Addr) (c0_7:Nat) (l0_7:List (S46)) (a1_0:Int) (a1_1:Int) (a1_2:Bool) (a1_3:Int) (a1_4:ByteArray) (a1_5:ByteArray) (a1_6:ByteArray) (A1_7:Option Addr) (c1_7:Nat) (l1_7:List (S46)) (r:Bool) (w:World) (hs0_7:Kd.F k46 w P_ A0_7 l0_7.length l0_7) (hc0_7:l0_7.length≤c0_7) (hs1_7:Kd.F k46 w P_ A1_7 l1_7.length l1_7) (hc1_7:l1_7.length≤c1_7) (h:toponymref27_Same.f k a0_0 a0_1 a0_2 a0_3 a0_4 a0_5 a0_6 l0_7 a1_0 a1_1 a1_2 a1_3 a1_4 a1_5 a1_6 l1_7=some r):
  Calls Try.prog 17 #[.agg #[.int .i64 a0_0,.int .i64 a0_1,.bool a0_2,.int .i64 a0_3,.string a0_4,.string a0_5,.string a0_6,.slice A0_7 l0_7.length c0_7],.agg #[.int .i64 a1_0,.int .i64 a1_1,.bool a1_2,.int .i64 a1_3,.string a1_4,.string a1_5,.string a1_6,.slice A1_7 l1_7.length c1_7]] w (fun e w'=>e=.returned (.bool r)∧Below w.heap.size w w'):=by
 unfold toponymref27_Same.f at h
 have HH:=za h
 clear h
 have HF0_7:=zfp hs0_7
 have HL0_7:=za hc0_7
 clear hs0_7 hc0_7
 have HF1_7:=zfp hs1_7
 have HL1_7:=za hc1_7
 clear hs1_7 hc1_7
 have HB:=za (Below.refl w.heap.size w)
 have hu27:=Try.underlying27
 go_enter Try.func17,Try.ntmps17
 go_wp2_with ((with_reducible refine gd 2 rfl ?_);refine zb 2 27 #[.int .i64 a0_0,.int .i64 a0_1,.bool a0_2,.int .i64 a0_3,.string a0_4,.string a0_5,.string a0_6,.slice A0_7 l0_7.length c0_7] (h:=?_);intro g1 hg w2 BKg1 hb)
 refine zg ?_
 replace HF0_7:=zfe HF0_7.out hg hb
 replace HF1_7:=zfe HF1_7.out hg hb
 replace HB:=zhb HB.out hb
 clear hg hb
 replace cBKg1:=MB.lz8 BKg1.out
 go_wp2_with ((with_reducible refine gd 3 rfl ?_);refine zb 3 27 #[.int .i64 a1_0,.int .i64 a1_1,.bool a1_2,.int .i64 a1_3,.string a1_4,.string a1_5,.string a1_6,.slice A1_7 l1_7.length c1_7] (h:=?_);intro g11 hg w12 BKg11 hb)
 refine zg ?_
 replace HF0_7:=zfe HF0_7.out hg hb
 replace HF1_7:=zfe HF1_7.out hg hb
 replace BKg1:=zbb BKg1.out hb
 replace HB:=zhb HB.out hb
 clear hg hb
 replace cBKg1:=MB.lz8 BKg1.out
 replace cBKg11:=MB.lz8 BKg11.out
 replace HH:=zqe HH
 rcases HH with⟨HH,hk30,hk31⟩|⟨HH,hk84,hk85⟩
 ·replace HH:=zqe HH
  rcases HH with⟨HH,hk33,hk34⟩|⟨HH,hk82,hk83⟩
  ·by_cases c35:(a0_2==a1_2)=true
   ·replace HH:=MW.hpos HH c35
    have hk36:(a0_2==a1_2)=true:=c35
    try have hk37:decide (a0_2=a1_2)=true:=by simpa using c35
    try have hk38:(a0_2==a1_2)=true:=by simpa using c35
    clear c35
    replace HH:=zqe HH
    rcases HH with⟨HH,hk40,hk41⟩|⟨HH,hk76,hk77⟩
    ·replace HH:=zqe HH
     rcases HH with⟨HH,hk43,hk44⟩|⟨HH,hk74,hk75⟩
     ·replace HH:=zqe HH
      rcases HH with⟨HH,hk46,hk47⟩|⟨HH,hk72,hk73⟩
      ·replace HH:=zqe HH
       rcases HH with⟨HH,hk49,hk50⟩|⟨HH,hk70,hk71⟩
       ·replace HH:=zd HH
        obtain⟨t51,At52,HH⟩:=HH
        go_wp2_with ((with_reducible refine gc 34 rfl ?_);refine zc 34 (some 57) Try.func34 #[.slice A0_7 l0_7.length c0_7,.slice A1_7 l1_7.length c1_7] (h:=?_);(with_reducible refine(toponymref26_SameValues.calls k (fun k_=>((P_ k_∨w.heap.size≤k_)∧k_≠g1)∧k_≠g11) _ _ l0_7 _ _ l1_7 t51 _ HF0_7.out HL0_7.out HF1_7.out HL1_7.out At52.out).mono ?_);rintro e w53 ⟨rfl,hb⟩;refine⟨_,rfl,?_⟩)
        refine zg ?_
        replace BKg1:=zbb BKg1.out hb
        replace BKg11:=zbb BKg11.out hb
        replace HB:=zhb HB.out hb
        clear hb
        replace cBKg1:=MB.lz8 BKg1.out
        replace cBKg11:=MB.lz8 BKg11.out
        obtain rfl:=Option.some.inj HH.out
        clear HH
        go_wp2
        go_ret
        exact zfi HB.out
       obtain rfl:=Option.some.inj HH.out
       clear HH
       go_wp2
       go_ret
       exact zfi HB.out
      obtain rfl:=Option.some.inj HH.out
      clear HH
      go_wp2
      go_ret
      exact zfi HB.out
     obtain rfl:=Option.some.inj HH.out
     clear HH
     go_wp2
     go_ret
     exact zfi HB.out
    obtain rfl:=Option.some.inj HH.out
    clear HH
    go_wp2
    go_ret
    exact zfi HB.out
   replace HH:=MW.hneg HH c35
   have hk78:(a0_2==a1_2)=false:=by simpa using c35
   try have hk79:decide (a0_2=a1_2)=false:=by simpa using c35
   try have hk80:(a0_2==a1_2)=false:=by simpa using c35
   try have hk81: ¬ (a0_2=a1_2):=by simpa using c35
   clear c35
   obtain rfl:=Option.some.inj HH.out
   clear HH
   go_wp2
   go_ret
   exact zfi HB.out
  obtain rfl:=Option.some.inj HH.out
  clear HH
  go_wp2
  go_ret
  exact zfi HB.out
 obtain rfl:=Option.some.inj HH.out
 clear HH
 go_wp2
 go_ret
 exact zfi HB.out

def slices_Equal_string_string.l0:Nat→Int→(List ByteArray)→(List ByteArray)→Option (Bool)
 |0,_,_,_=>none
 |k+1,x5,l0,l1=>if x5<(l0.length:Int) then(if 0≤x5 then(if x5<(l1.length:Int) then(if (rdOf ByteArray.empty l0 x5).toList=(rdOf ByteArray.empty l1 x5).toList then((slices_Equal_string_string.l0 k (wrap64 (x5+1)) l0 l1)) else(some false)) else(none)) else(none)) else(some true)
def slices_Equal_string_string.f (k:Nat) (l0:List ByteArray) (l1:List ByteArray):Option (Bool):=if (l0.length:Int)=(l1.length:Int) then((slices_Equal_string_string.l0 k 0 l0 l1)) else(some false)
theorem slices_Equal_string_string.mono_l:∀ k,(∀ y0 y1 y2,LeO (slices_Equal_string_string.l0 k y0 y1 y2) (slices_Equal_string_string.l0 (k+1) y0 y1 y2))
 |0=>fun _ _ _ r h=>by simp[slices_Equal_string_string.l0] at h
 |k+1=>by
  have ih0:=slices_Equal_string_string.mono_l k
  ·intro y0 y1 y2
   unfold slices_Equal_string_string.l0
   with_reducible repeat' first|exact ih0 _ _ _|exact LeO.refl _|exact LeO.none _|refine LeO.ite ?_ ?_|refine LeO.bind ?_ (fun _=>?_)
theorem slices_Equal_string_string.mono:∀ a0_ a1_ k,LeO (slices_Equal_string_string.f k a0_ a1_) (slices_Equal_string_string.f (k+1) a0_ a1_):=by
 intro a0_ a1_ k
 have ih0:=slices_Equal_string_string.mono_l k
 unfold slices_Equal_string_string.f
 with_reducible repeat' first|exact ih0 _ _ _|exact LeO.refl _|exact LeO.none _|refine LeO.ite ?_ ?_|refine LeO.bind ?_ (fun _=>?_)
theorem slices_Equal_string_string.calls (k:Nat) (P_:Nat→Prop) (A0:Option Addr) (c0:Nat) (l0:List ByteArray) (A1:Option Addr) (c1:Nat) (l1:List ByteArray) (r:Bool) (w:World) (hs0:Kd.F Kd.string w P_ A0 l0.length l0) (hc0:l0.length≤c0) (hs1:Kd.F Kd.string w P_ A1 l1.length l1) (hc1:l1.length≤c1) (h:slices_Equal_string_string.f k l0 l1=some r):
  Calls Try.prog 57 #[.slice A0 l0.length c0,.slice A1 l1.length c1] w (fun e w'=>e=.returned (.bool r)∧Drawn0 w w'):=by
 unfold slices_Equal_string_string.f at h
 have HH:=za h
 clear h
 have HF0:=zfp hs0
 clear hs0 hc0
 have HF1:=zfp hs1
 clear hs1 hc1
 go_enter Try.func57,Try.ntmps57
 by_cases c1:(l0.length:Int)=(l1.length:Int)
 ·replace HH:=MW.hpos HH c1
  have hk2:((l0.length:Int)==(l1.length:Int))=true:=beq_iff_eq.mpr c1
  have hk3:((l0.length:Int) != (l1.length:Int))=false:=bne_eq_false_iff_eq.mpr c1
  have hk4:(l0.length==l1.length)=true:=by first|simpa using c1|(simp at c1 ⊢;omega)
  clear c1
  go_wp2
  go_loopg [13] k (fun kq u13 w'=>∃ (x5:Int),u13=.int .i64 x5∧Aside0 ((slices_Equal_string_string.l0 kq x5 l0 l1)=some r)∧Aside0 (kq≤k)∧Drawn0 w w')
  case atStart=>exact⟨0,(by first|rfl|(simp;done)|(simp[*];done)),HH,⟨Nat.le_refl _⟩,by repeat(first|exact Drawn0.refl _|apply Drawn0.step)⟩
  case round=>
   clear hk2
   clear hk3
   clear hk4
   clear HH
   obtain⟨x5,rfl,HA,HK0,⟨m0_,rfl⟩⟩:=hrel
   cases gk with
   |zero=>exact absurd HA.out (by simp[slices_Equal_string_string.l0])
   |succ k6=>
    have H:=HA.out
    clear HA
    simp only[slices_Equal_string_string.l0] at H
    have HH:=za H
    clear H
    replace HH:=zqt HH
    rcases HH with⟨HH,hk9,hk10⟩|⟨HH,hk26,hk27⟩
    ·replace HH:=zqdo HH
     obtain⟨HH,hk12⟩:=HH
     have p13:0≤(x5:Int):=of_decide_eq_true (by first|(with_reducible assumption)|assumption)
     have q13:x5<(l0.length:Int):=of_decide_eq_true (by first|(with_reducible assumption)|assumption)
     obtain⟨ad13,e13,hx13_0⟩:=Kd.at_string (Kd.F_now HF0.out) x5 p13 q13
     cases e13
     replace p13:=eq_true p13
     replace q13:=eq_true q13
     replace HH:=zqto HH
     obtain⟨HH,hk15,hk16⟩:=HH
     have p17:0≤(x5:Int):=of_decide_eq_true (by first|(with_reducible assumption)|assumption)
     have q17:x5<(l1.length:Int):=of_decide_eq_true (by first|(with_reducible assumption)|assumption)
     obtain⟨ad17,e17,hx17_0⟩:=Kd.at_string (Kd.F_now HF1.out) x5 p17 q17
     cases e17
     replace p17:=eq_true p17
     replace q17:=eq_true q17
     replace HH:=zqe HH
     rcases HH with⟨HH,hk19,hk20⟩|⟨HH,hk21,hk22⟩
     ·go_wp2
      go_quiet (fail)
      go_wp2
      go_roundg k6
      case measure=>have:=HK0.out;omega
      case rel=>exact⟨wrap64 (x5+1),(by first|rfl|(simp;done)|(simp[*];done)),HH,⟨by have:=HK0.out;omega⟩,by repeat(first|exact Drawn0.refl _|apply Drawn0.step)⟩
     obtain rfl:=Option.some.inj HH.out
     clear HH
     go_wp2
     go_quiet (fail)
     go_wp2
     go_ret
     exact⟨by first|rfl|(simp;done)|(simp[*];done),by repeat(first|exact Drawn0.refl _|apply Drawn0.step)⟩
    obtain rfl:=Option.some.inj HH.out
    clear HH
    go_wp2
    go_ret
    exact⟨by first|rfl|(simp;done)|(simp[*];done),by repeat(first|exact Drawn0.refl _|apply Drawn0.step)⟩
 replace HH:=MW.hneg HH c1
 have hk28:((l0.length:Int)==(l1.length:Int))=false:=beq_eq_false_iff_ne.mpr c1
 have hk29:((l0.length:Int) != (l1.length:Int))=true:=bne_iff_ne.mpr c1
 have hk30:(l0.length==l1.length)=false:=by first|simpa using c1|(simp at c1 ⊢;omega)
 clear c1
 obtain rfl:=Option.some.inj HH.out
 clear HH
 go_wp2
 go_ret
 exact⟨by first|rfl|(simp;done)|(simp[*];done),by repeat(first|exact Drawn0.refl _|apply Drawn0.step)⟩

def reply_same.f (k:Nat) (a0_0:ByteArray) (l0_1:List ByteArray) (a1_0:ByteArray) (l1_1:List ByteArray):Option (Bool):=if a0_0.toList=a1_0.toList then((slices_Equal_string_string.f k l0_1 l1_1).bind fun t14=>(some t14)) else(some false)
theorem reply_same.mono:∀ a0_ a1_ a2_ a3_ k,LeO (reply_same.f k a0_ a1_ a2_ a3_) (reply_same.f (k+1) a0_ a1_ a2_ a3_):=by
 intro a0_ a1_ a2_ a3_ k
 unfold reply_same.f
 with_reducible repeat' first|exact slices_Equal_string_string.mono _ _ _|exact LeO.refl _|exact LeO.none _|refine LeO.ite ?_ ?_|refine LeO.bind ?_ (fun _=>?_)
theorem reply_same.calls (k:Nat) (P_:Nat→Prop) (a0_0:ByteArray) (A0_1:Option Addr) (c0_1:Nat) (l0_1:List ByteArray) (a1_0:ByteArray) (A1_1:Option Addr) (c1_1:Nat) (l1_1:List ByteArray) (r:Bool) (w:World) (hs0_1:Kd.F Kd.string w P_ A0_1 l0_1.length l0_1) (hc0_1:l0_1.length≤c0_1) (hs1_1:Kd.F Kd.string w P_ A1_1 l1_1.length l1_1) (hc1_1:l1_1.length≤c1_1) (h:reply_same.f k a0_0 l0_1 a1_0 l1_1=some r):
  Calls Try.prog 36 #[.agg #[.string a0_0,.slice A0_1 l0_1.length c0_1],.agg #[.string a1_0,.slice A1_1 l1_1.length c1_1]] w (fun e w'=>e=.returned (.bool r)∧Below w.heap.size w w'):=by
 unfold reply_same.f at h
 have HH:=za h
 clear h
 have HF0_1:=zfp hs0_1
 have HL0_1:=za hc0_1
 clear hs0_1 hc0_1
 have HF1_1:=zfp hs1_1
 have HL1_1:=za hc1_1
 clear hs1_1 hc1_1
 have HB:=za (Below.refl w.heap.size w)
 have hu46:=Try.underlying46
 go_enter Try.func36,Try.ntmps36
 go_wp2_with ((with_reducible refine gd 2 rfl ?_);refine zb 2 46 #[.string a0_0,.slice A0_1 l0_1.length c0_1] (h:=?_);intro g1 hg w2 BKg1 hb)
 refine zg ?_
 replace HF0_1:=zfe HF0_1.out hg hb
 replace HF1_1:=zfe HF1_1.out hg hb
 replace HB:=zhb HB.out hb
 clear hg hb
 replace cBKg1:=MB.lz2 BKg1.out
 go_wp2_with ((with_reducible refine gd 3 rfl ?_);refine zb 3 46 #[.string a1_0,.slice A1_1 l1_1.length c1_1] (h:=?_);intro g5 hg w6 BKg5 hb)
 refine zg ?_
 replace HF0_1:=zfe HF0_1.out hg hb
 replace HF1_1:=zfe HF1_1.out hg hb
 replace BKg1:=zbb BKg1.out hb
 replace HB:=zhb HB.out hb
 clear hg hb
 replace cBKg1:=MB.lz2 BKg1.out
 replace cBKg5:=MB.lz2 BKg5.out
 replace HH:=zqe HH
 rcases HH with⟨HH,hk12,hk13⟩|⟨HH,hk17,hk18⟩
 ·replace HH:=zd HH
  obtain⟨t14,At15,HH⟩:=HH
  go_wp2_with ((with_reducible refine gc 57 rfl ?_);refine zc 57 (some 15) Try.func57 #[.slice A0_1 l0_1.length c0_1,.slice A1_1 l1_1.length c1_1] (h:=?_);(with_reducible refine(slices_Equal_string_string.calls k (fun k_=>((P_ k_∨w.heap.size≤k_)∧k_≠g1)∧k_≠g5) _ _ l0_1 _ _ l1_1 t14 _ HF0_1.out HL0_1.out HF1_1.out HL1_1.out At15.out).mono ?_);rintro e w' ⟨rfl,⟨nd,rfl⟩⟩;refine⟨_,rfl,?_⟩)
  refine zg ?_
  obtain rfl:=Option.some.inj HH.out
  clear HH
  go_wp2
  go_ret
  exact zfi (by repeat(first|(with_reducible first|exact HB.out|apply below_alloc|apply pw_below_drewN|apply below_drew1)|exact HB.out))
 obtain rfl:=Option.some.inj HH.out
 clear HH
 go_wp2
 go_ret
 exact zfi HB.out

def reply_Same.l0:Nat→Int→(List (S46))→(List (S46))→Option (Bool)
 |0,_,_,_=>none
 |k+1,x55,l0_7,l1_7=>if x55<(l0_7.length:Int) then(if 0≤x55 then(if x55<(l1_7.length:Int) then((reply_same.f k ((rd_T46 l0_7 x55).f0) ((rd_T46 l0_7 x55).f1) ((rd_T46 l1_7 x55).f0) ((rd_T46 l1_7 x55).f1)).bind fun t167=>(if t167=true then((reply_Same.l0 k (wrap64 (x55+1)) l0_7 l1_7)) else(some false))) else(none)) else(none)) else(some true)
def reply_Same.f (k:Nat) (a0_0:Int) (a0_1:Int) (a0_2:Bool) (a0_3:Int) (a0_4:ByteArray) (a0_5:ByteArray) (a0_6:ByteArray) (l0_7:List (S46)) (a1_0:Int) (a1_1:Int) (a1_2:Bool) (a1_3:Int) (a1_4:ByteArray) (a1_5:ByteArray) (a1_6:ByteArray) (l1_7:List (S46)):Option (Bool):=if a0_0=a1_0 then(if a0_1=a1_1 then(if (a0_2==a1_2)=true then(if a0_3=a1_3 then(if a0_4.toList=a1_4.toList then(if a0_5.toList=a1_5.toList then(if a0_6.toList=a1_6.toList then(if (l0_7.length:Int)=(l1_7.length:Int) then((reply_Same.l0 k 0 l0_7 l1_7)) else(some false)) else(some false)) else(some false)) else(some false)) else(some false)) else(some false)) else(some false)) else(some false)
theorem reply_Same.mono_l:∀ k,(∀ y0 y1 y2,LeO (reply_Same.l0 k y0 y1 y2) (reply_Same.l0 (k+1) y0 y1 y2))
 |0=>fun _ _ _ r h=>by simp[reply_Same.l0] at h
 |k+1=>by
  have ih0:=reply_Same.mono_l k
  ·intro y0 y1 y2
   unfold reply_Same.l0
   with_reducible repeat' first|exact ih0 _ _ _|exact reply_same.mono _ _ _ _ _|exact LeO.refl _|exact LeO.none _|refine LeO.ite ?_ ?_|refine LeO.bind ?_ (fun _=>?_)
theorem reply_Same.mono:∀ a0_ a1_ a2_ a3_ a4_ a5_ a6_ a7_ a8_ a9_ a10_ a11_ a12_ a13_ a14_ a15_ k,LeO (reply_Same.f k a0_ a1_ a2_ a3_ a4_ a5_ a6_ a7_ a8_ a9_ a10_ a11_ a12_ a13_ a14_ a15_) (reply_Same.f (k+1) a0_ a1_ a2_ a3_ a4_ a5_ a6_ a7_ a8_ a9_ a10_ a11_ a12_ a13_ a14_ a15_):=by
 intro a0_ a1_ a2_ a3_ a4_ a5_ a6_ a7_ a8_ a9_ a10_ a11_ a12_ a13_ a14_ a15_ k
 have ih0:=reply_Same.mono_l k
 unfold reply_Same.f
 with_reducible repeat' first|exact ih0 _ _ _|exact reply_same.mono _ _ _ _ _|exact LeO.refl _|exact LeO.none _|refine LeO.ite ?_ ?_|refine LeO.bind ?_ (fun _=>?_)
theorem reply_Same.calls (k:Nat) (P_:Nat→Prop) (a0_0:Int) (a0_1:Int) (a0_2:Bool) (a0_3:Int) (a0_4:ByteArray) (a0_5:ByteArray) (a0_6:ByteArray) (A0_7:Option Addr) (c0_7:Nat) (l0_7:List (S46)) (a1_0:Int) (a1_1:Int) (a1_2:Bool) (a1_3:Int) (a1_4:ByteArray) (a1_5:ByteArray) (a1_6:ByteArray) (A1_7:Option Addr) (c1_7:Nat) (l1_7:List (S46)) (r:Bool) (w:World) (hs0_7:Kd.F k46 w P_ A0_7 l0_7.length l0_7) (hc0_7:l0_7.length≤c0_7) (hs1_7:Kd.F k46 w P_ A1_7 l1_7.length l1_7) (hc1_7:l1_7.length≤c1_7) (h:reply_Same.f k a0_0 a0_1 a0_2 a0_3 a0_4 a0_5 a0_6 l0_7 a1_0 a1_1 a1_2 a1_3 a1_4 a1_5 a1_6 l1_7=some r):
  Calls Try.prog 18 #[.agg #[.int .i64 a0_0,.int .i64 a0_1,.bool a0_2,.int .i64 a0_3,.string a0_4,.string a0_5,.string a0_6,.slice A0_7 l0_7.length c0_7],.agg #[.int .i64 a1_0,.int .i64 a1_1,.bool a1_2,.int .i64 a1_3,.string a1_4,.string a1_5,.string a1_6,.slice A1_7 l1_7.length c1_7]] w (fun e w'=>e=.returned (.bool r)∧Below w.heap.size w w'):=by
 unfold reply_Same.f at h
 have HH:=za h
 clear h
 have HF0_7:=zfp hs0_7
 clear hs0_7 hc0_7
 have HF1_7:=zfp hs1_7
 clear hs1_7 hc1_7
 have HB:=za (Below.refl w.heap.size w)
 have hu27:=Try.underlying27
 go_enter Try.func18,Try.ntmps18
 go_wp2_with ((with_reducible refine gd 2 rfl ?_);refine zb 2 27 #[.int .i64 a0_0,.int .i64 a0_1,.bool a0_2,.int .i64 a0_3,.string a0_4,.string a0_5,.string a0_6,.slice A0_7 l0_7.length c0_7] (h:=?_);intro g1 hg w2 BKg1 hb)
 refine zg ?_
 replace HF0_7:=zfe HF0_7.out hg hb
 replace HF1_7:=zfe HF1_7.out hg hb
 replace HB:=zhb HB.out hb
 clear hg hb
 replace cBKg1:=MB.lz8 BKg1.out
 go_wp2_with ((with_reducible refine gd 3 rfl ?_);refine zb 3 27 #[.int .i64 a1_0,.int .i64 a1_1,.bool a1_2,.int .i64 a1_3,.string a1_4,.string a1_5,.string a1_6,.slice A1_7 l1_7.length c1_7] (h:=?_);intro g11 hg w12 BKg11 hb)
 refine zg ?_
 replace HF0_7:=zfe HF0_7.out hg hb
 replace HF1_7:=zfe HF1_7.out hg hb
 replace BKg1:=zbb BKg1.out hb
 replace HB:=zhb HB.out hb
 clear hg hb
 replace cBKg1:=MB.lz8 BKg1.out
 replace cBKg11:=MB.lz8 BKg11.out
 replace HH:=zqe HH
 rcases HH with⟨HH,hk30,hk31⟩|⟨HH,hk213,hk214⟩
 ·replace HH:=zqe HH
  rcases HH with⟨HH,hk33,hk34⟩|⟨HH,hk211,hk212⟩
  ·by_cases c35:(a0_2==a1_2)=true
   ·replace HH:=MW.hpos HH c35
    have hk36:(a0_2==a1_2)=true:=c35
    try have hk37:decide (a0_2=a1_2)=true:=by simpa using c35
    try have hk38:(a0_2==a1_2)=true:=by simpa using c35
    clear c35
    replace HH:=zqe HH
    rcases HH with⟨HH,hk40,hk41⟩|⟨HH,hk205,hk206⟩
    ·replace HH:=zqe HH
     rcases HH with⟨HH,hk43,hk44⟩|⟨HH,hk203,hk204⟩
     ·replace HH:=zqe HH
      rcases HH with⟨HH,hk46,hk47⟩|⟨HH,hk201,hk202⟩
      ·replace HH:=zqe HH
       rcases HH with⟨HH,hk49,hk50⟩|⟨HH,hk199,hk200⟩
       ·go_wp2_with (((with_reducible refine gate_callee (f:=35) rfl ?_);(try(refine gate_guard (by rfl) ?_;dsimp only));refine goesL_ (some 57) rfl rfl Try.func35 (by kernel_rfl) rfl #[.slice A0_7 l0_7.length c0_7,.slice A1_7 l1_7.length c1_7,.func (.func 36) #[] #[]] rfl (by(try simp only[List.map_toArray,List.map_cons,List.map_nil]);first|done|rfl) ?_);refine stop_ ?_)
        refine zg ?_
        go_enter Try.func35,Try.ntmps35
        by_cases c51:(l0_7.length:Int)=(l1_7.length:Int)
        ·replace HH:=MW.hpos HH c51
         have hk52:((l0_7.length:Int)==(l1_7.length:Int))=true:=beq_iff_eq.mpr c51
         have hk53:((l0_7.length:Int) != (l1_7.length:Int))=false:=bne_eq_false_iff_eq.mpr c51
         have hk54:(l0_7.length==l1_7.length)=true:=by first|simpa using c51|(simp at c51 ⊢;omega)
         clear c51
         go_wp2
         go_loopg [17] k (fun kq u17 w'=>∃ (x55:Int),u17=.int .i64 x55∧Aside0 ((reply_Same.l0 kq x55 l0_7 l1_7)=some r)∧Aside0 (kq≤k)∧Aside0 (Kd.F k46 w' (fun k_=>((P_ k_∨w.heap.size≤k_)∧k_≠g1)∧k_≠g11) A0_7 l0_7.length l0_7)∧Aside0 (Kd.F k46 w' (fun k_=>((P_ k_∨w.heap.size≤k_)∧k_≠g1)∧k_≠g11) A1_7 l1_7.length l1_7)∧Aside0 (w'.heap[g1]? =some (.cells #[.int .i64 a0_0,.int .i64 a0_1,.bool a0_2,.int .i64 a0_3,.string a0_4,.string a0_5,.string a0_6,.slice A0_7 l0_7.length c0_7] 27 (0,0)))∧Aside0 (w'.heap[g11]? =some (.cells #[.int .i64 a1_0,.int .i64 a1_1,.bool a1_2,.int .i64 a1_3,.string a1_4,.string a1_5,.string a1_6,.slice A1_7 l1_7.length c1_7] 27 (0,0)))∧Aside0 (Below w.heap.size w w'))
         case atStart=>exact⟨0,(by first|rfl|(simp;done)|(simp[*];done)),HH,⟨Nat.le_refl _⟩,⟨HF0_7.out⟩,⟨HF1_7.out⟩,⟨BKg1.out⟩,⟨BKg11.out⟩,⟨HB.out⟩⟩
         case round=>
          clear hk30
          clear hk31
          clear hk33
          clear hk34
          clear hk36
          try clear hk37
          try clear hk38
          clear hk40
          clear hk41
          clear hk43
          clear hk44
          clear hk46
          clear hk47
          clear hk49
          clear hk50
          clear hk52
          clear hk53
          clear hk54
          clear HH
          clear HF0_7 HF1_7 BKg1 BKg11 HB
          obtain⟨x55,rfl,HA,HK0,HF0_7,HF1_7,BKg1,BKg11,HB⟩:=hrel
          obtain⟨w57,rfl⟩:∃ wo_:World,wo_=wr:=⟨_,rfl⟩
          cases gk with
          |zero=>exact absurd HA.out (by simp[reply_Same.l0])
          |succ k58=>
           have H:=HA.out
           clear HA
           simp only[reply_Same.l0] at H
           have HH:=za H
           clear H
           replace cBKg1:=MB.lz8 BKg1.out
           replace cBKg11:=MB.lz8 BKg11.out
           replace HH:=zqt HH
           rcases HH with⟨HH,hk76,hk77⟩|⟨HH,hk194,hk195⟩
           ·replace HH:=zqdo HH
            obtain⟨HH,hk79⟩:=HH
            have p80:0≤(x55:Int):=of_decide_eq_true (by first|(with_reducible assumption)|assumption)
            have q80:x55<(l0_7.length:Int):=of_decide_eq_true (by first|(with_reducible assumption)|assumption)
            obtain⟨ad80,A80_1,c80_1,e80,hx80_0,hx80_1,hl80_1,hi80_1⟩:=atF_T46 HF0_7.out x55 p80 q80
            cases e80
            have HF80_1:=za hi80_1
            have HL80_1:=za hl80_1
            clear hi80_1 hl80_1
            replace p80:=eq_true p80
            replace q80:=eq_true q80
            go_wp2_with ((with_reducible refine gd 8 rfl ?_);refine zb 8 46 #[.string (⟨#[]⟩:ByteArray),.slice none 0 0] (h:=?_);intro g81 hg w82 BKg81 hb)
            refine zg ?_
            have GEg81:=zge hg (below_size HB.out)
            have NEg1_g81:=znq hg BKg1.out
            have NEg11_g81:=znq hg BKg11.out
            replace HF0_7:=zfe HF0_7.out hg hb
            replace HF1_7:=zfe HF1_7.out hg hb
            replace HF80_1:=zfe HF80_1.out hg hb
            replace BKg1:=zbb BKg1.out hb
            replace BKg11:=zbb BKg11.out hb
            replace HB:=zhb HB.out hb
            clear hg hb
            clear hx80_0 hx80_1 p80 q80
            replace cBKg1:=MB.lz8 BKg1.out
            replace cBKg11:=MB.lz8 BKg11.out
            replace cBKg81:=MB.lz2 BKg81.out
            go_wp2_with ((with_reducible refine gs 46 8 rfl ?_);refine zs 46 8 #[.string ((rd_T46 l0_7 x55).f0),.slice A80_1 ((rd_T46 l0_7 x55).f1).length c80_1] BKg81.out [.string ((rd_T46 l0_7 x55).f0),.slice A80_1 ((rd_T46 l0_7 x55).f1).length c80_1] (h:=?_);intro w101 hbk hg)
            refine zg ?_
            replace HF0_7:=zfg HF0_7.out hg fun k_ hk_=>hk_.2
            replace HF1_7:=zfg HF1_7.out hg fun k_ hk_=>hk_.2
            replace HF80_1:=zfg HF80_1.out hg fun k_ hk_=>hk_.2
            replace BKg1:=zbg BKg1.out hg NEg1_g81
            replace BKg11:=zbg BKg11.out hg NEg11_g81
            replace HB:=zhg HB.out hg (below_size HB.out) GEg81
            replace BKg81:=hbk
            clear hg hbk
            replace cBKg1:=MB.lz8 BKg1.out
            replace cBKg11:=MB.lz8 BKg11.out
            replace cBKg81:=MB.lz2 BKg81.out
            replace HH:=zqto HH
            obtain⟨HH,hk121,hk122⟩:=HH
            have p123:0≤(x55:Int):=of_decide_eq_true (by first|(with_reducible assumption)|assumption)
            have q123:x55<(l1_7.length:Int):=of_decide_eq_true (by first|(with_reducible assumption)|assumption)
            obtain⟨ad123,A123_1,c123_1,e123,hx123_0,hx123_1,hl123_1,hi123_1⟩:=atF_T46 HF1_7.out x55 p123 q123
            cases e123
            have HF123_1:=za hi123_1
            have HL123_1:=za hl123_1
            clear hi123_1 hl123_1
            replace p123:=eq_true p123
            replace q123:=eq_true q123
            go_wp2_with ((with_reducible refine gd 9 rfl ?_);refine zb 9 46 #[.string (⟨#[]⟩:ByteArray),.slice none 0 0] (h:=?_);intro g124 hg w125 BKg124 hb)
            refine zg ?_
            have GEg124:=zge hg (below_size HB.out)
            have NEg1_g124:=znq hg BKg1.out
            have NEg11_g124:=znq hg BKg11.out
            have NEg81_g124:=znq hg BKg81.out
            replace HF0_7:=zfe HF0_7.out hg hb
            replace HF1_7:=zfe HF1_7.out hg hb
            replace HF80_1:=zfe HF80_1.out hg hb
            replace HF123_1:=zfe HF123_1.out hg hb
            replace BKg1:=zbb BKg1.out hb
            replace BKg11:=zbb BKg11.out hb
            replace BKg81:=zbb BKg81.out hb
            replace HB:=zhb HB.out hb
            clear hg hb
            clear hx123_0 hx123_1 p123 q123
            replace cBKg1:=MB.lz8 BKg1.out
            replace cBKg11:=MB.lz8 BKg11.out
            replace cBKg81:=MB.lz2 BKg81.out
            replace cBKg124:=MB.lz2 BKg124.out
            go_wp2_with ((with_reducible refine gs 46 9 rfl ?_);refine zs 46 9 #[.string ((rd_T46 l1_7 x55).f0),.slice A123_1 ((rd_T46 l1_7 x55).f1).length c123_1] BKg124.out [.string ((rd_T46 l1_7 x55).f0),.slice A123_1 ((rd_T46 l1_7 x55).f1).length c123_1] (h:=?_);intro w146 hbk hg)
            refine zg ?_
            replace HF0_7:=zfg HF0_7.out hg fun k_ hk_=>hk_.2
            replace HF1_7:=zfg HF1_7.out hg fun k_ hk_=>hk_.2
            replace HF80_1:=zfg HF80_1.out hg fun k_ hk_=>hk_.2
            replace HF123_1:=zfg HF123_1.out hg fun k_ hk_=>hk_.2
            replace BKg1:=zbg BKg1.out hg NEg1_g124
            replace BKg11:=zbg BKg11.out hg NEg11_g124
            replace BKg81:=zbg BKg81.out hg NEg81_g124
            replace HB:=zhg HB.out hg (below_size HB.out) GEg124
            replace BKg124:=hbk
            clear hg hbk
            replace cBKg1:=MB.lz8 BKg1.out
            replace cBKg11:=MB.lz8 BKg11.out
            replace cBKg81:=MB.lz2 BKg81.out
            replace cBKg124:=MB.lz2 BKg124.out
            replace HH:=zd HH
            obtain⟨t167,At168,HH⟩:=HH
            go_wp2_with ((with_reducible refine gd 29 rfl ?_);refine zv 29 Try.func36 #[.agg #[.string ((rd_T46 l0_7 x55).f0),.slice A80_1 ((rd_T46 l0_7 x55).f1).length c80_1],.agg #[.string ((rd_T46 l1_7 x55).f0),.slice A123_1 ((rd_T46 l1_7 x55).f1).length c123_1]] #[] (h:=?_);(with_reducible refine(reply_same.calls k58 (fun k_=>((((P_ k_∨w.heap.size≤k_)∧k_≠g1)∧k_≠g11)∧k_≠g81)∧k_≠g124) ((rd_T46 l0_7 x55).f0) _ _ ((rd_T46 l0_7 x55).f1) ((rd_T46 l1_7 x55).f0) _ _ ((rd_T46 l1_7 x55).f1) t167 _ HF80_1.out HL80_1.out HF123_1.out HL123_1.out At168.out).mono ?_);rintro e w169 ⟨rfl,hb⟩;refine⟨_,rfl,?_⟩)
            refine zg ?_
            replace HF0_7:=zfb HF0_7.out hb
            replace HF1_7:=zfb HF1_7.out hb
            replace BKg1:=zbb BKg1.out hb
            replace BKg11:=zbb BKg11.out hb
            replace BKg81:=zbb BKg81.out hb
            replace BKg124:=zbb BKg124.out hb
            replace HB:=zhb HB.out hb
            clear hb
            replace cBKg1:=MB.lz8 BKg1.out
            replace cBKg11:=MB.lz8 BKg11.out
            replace cBKg81:=MB.lz2 BKg81.out
            replace cBKg124:=MB.lz2 BKg124.out
            by_cases c190:t167=true
            ·replace HH:=MW.hpos HH c190
             subst c190
             go_wp2
             go_roundg k58
             case measure=>have:=HK0.out;omega
             case rel=>exact⟨wrap64 (x55+1),(by first|rfl|(simp;done)|(simp[*];done)),HH,⟨by have:=HK0.out;omega⟩,⟨(Kd.F_mono (ok:=(fun k_=>((((P_ k_∨w.heap.size≤k_)∧k_≠g1)∧k_≠g11)∧k_≠g81)∧k_≠g124)) HF0_7.out (fun k_ hk_=>⟨⟨hk_.1.1.1.1,hk_.1.1.1.2⟩,hk_.1.1.2⟩))⟩,⟨(Kd.F_mono (ok:=(fun k_=>((((P_ k_∨w.heap.size≤k_)∧k_≠g1)∧k_≠g11)∧k_≠g81)∧k_≠g124)) HF1_7.out (fun k_ hk_=>⟨⟨hk_.1.1.1.1,hk_.1.1.1.2⟩,hk_.1.1.2⟩))⟩,⟨BKg1.out⟩,⟨BKg11.out⟩,⟨HB.out⟩⟩
            replace HH:=MW.hneg HH c190
            replace c190:=Bool.eq_false_iff.mpr c190
            subst c190
            go_wp2
            go_ret
            refine⟨_,rfl,?_⟩
            obtain rfl:=Option.some.inj HH.out
            clear HH
            go_wp2
            go_ret
            exact zfi HB.out
           go_wp2
           go_ret
           refine⟨_,rfl,?_⟩
           obtain rfl:=Option.some.inj HH.out
           clear HH
           go_wp2
           go_ret
           exact zfi HB.out
        replace HH:=MW.hneg HH c51
        have hk196:((l0_7.length:Int)==(l1_7.length:Int))=false:=beq_eq_false_iff_ne.mpr c51
        have hk197:((l0_7.length:Int) != (l1_7.length:Int))=true:=bne_iff_ne.mpr c51
        have hk198:(l0_7.length==l1_7.length)=false:=by first|simpa using c51|(simp at c51 ⊢;omega)
        clear c51
        go_wp2
        go_ret
        refine⟨_,rfl,?_⟩
        obtain rfl:=Option.some.inj HH.out
        clear HH
        go_wp2
        go_ret
        exact zfi HB.out
       obtain rfl:=Option.some.inj HH.out
       clear HH
       go_wp2
       go_ret
       exact zfi HB.out
      obtain rfl:=Option.some.inj HH.out
      clear HH
      go_wp2
      go_ret
      exact zfi HB.out
     obtain rfl:=Option.some.inj HH.out
     clear HH
     go_wp2
     go_ret
     exact zfi HB.out
    obtain rfl:=Option.some.inj HH.out
    clear HH
    go_wp2
    go_ret
    exact zfi HB.out
   replace HH:=MW.hneg HH c35
   have hk207:(a0_2==a1_2)=false:=by simpa using c35
   try have hk208:decide (a0_2=a1_2)=false:=by simpa using c35
   try have hk209:(a0_2==a1_2)=false:=by simpa using c35
   try have hk210: ¬ (a0_2=a1_2):=by simpa using c35
   clear c35
   obtain rfl:=Option.some.inj HH.out
   clear HH
   go_wp2
   go_ret
   exact zfi HB.out
  obtain rfl:=Option.some.inj HH.out
  clear HH
  go_wp2
  go_ret
  exact zfi HB.out
 obtain rfl:=Option.some.inj HH.out
 clear HH
 go_wp2
 go_ret
 exact zfi HB.out

def reply_Result.f (a0:Int) (a1:Int) (a2:Int) (a3:ByteArray):Option (Int × Int × Bool × Int × ByteArray × ByteArray × ByteArray × (List (S46))):=some (a0,a1,false,a2,(⟨#[]⟩:ByteArray),a3,(⟨#[]⟩:ByteArray),([]:List (S46)))
theorem reply_Result.calls (a0:Int) (a1:Int) (a2:Int) (a3:ByteArray) (r1:Int) (r2:Int) (r3:Bool) (r4:Int) (r5:ByteArray) (r6:ByteArray) (r7:ByteArray) (r8:List (S46)) (w:World) (h:reply_Result.f a0 a1 a2 a3=some (r1,r2,r3,r4,r5,r6,r7,r8)):
  Calls Try.prog 19 #[.int .i64 a0,.int .i64 a1,.int .i64 a2,.string a3] w (fun e w'=>∃ v7_:Value,e=.returned (.agg #[.int .i64 r1,.int .i64 r2,.bool r3,.int .i64 r4,.string r5,.string r6,.string r7,v7_])∧Kd.N k46 46 w' w.heap.size (fun k_=>w.heap.size≤k_) v7_ r8∧Below w.heap.size w w'):=by
 unfold reply_Result.f at h
 have HH:=za h
 clear h
 have HB:=za (Below.refl w.heap.size w)
 have hu27:=Try.underlying27
 go_enter Try.func19,Try.ntmps19
 go_wp2_with ((with_reducible refine gd 8 rfl ?_);refine zb 8 27 #[.int .i64 0,.int .i64 0,.bool false,.int .i64 0,.string (⟨#[]⟩:ByteArray),.string (⟨#[]⟩:ByteArray),.string (⟨#[]⟩:ByteArray),.slice none 0 0] (h:=?_);intro g1 hg w2 BKg1 hb)
 refine zg ?_
 have GEg1:=zge hg (below_size HB.out)
 replace HB:=zhb HB.out hb
 clear hg hb
 replace cBKg1:=MB.lz8 BKg1.out
 go_wp2_with ((with_reducible refine gs 27 8 rfl ?_);refine zs 27 8 #[.int .i64 a0,.int .i64 a1,.bool false,.int .i64 a2,.string (⟨#[]⟩:ByteArray),.string a3,.string (⟨#[]⟩:ByteArray),.slice none 0 0] BKg1.out [.int .i64 a0,.int .i64 a1,.bool false,.int .i64 a2,.string (⟨#[]⟩:ByteArray),.string a3,.string (⟨#[]⟩:ByteArray),.slice none 0 0] (h:=?_);intro w11 hbk hg)
 refine zg ?_
 replace HB:=zhg HB.out hg (below_size HB.out) GEg1
 replace BKg1:=hbk
 clear hg hbk
 replace cBKg1:=MB.lz8 BKg1.out
 have H:=HH.out
 simp only[Option.some.injEq,Prod.mk.injEq] at H
 obtain⟨rfl,rfl,rfl,rfl,rfl,rfl,rfl,rfl⟩:=H
 clear HH
 go_wp2
 refine bodyPost_ret (MW.results_c rfl _ _ g1 27 #[.int .i64 a0,.int .i64 a1,.bool false,.int .i64 a2,.string (⟨#[]⟩:ByteArray),.string a3,.string (⟨#[]⟩:ByteArray),.slice none 0 0] (0,0) _ rfl BKg1.out Try.underlying27 rfl (by kernel_rfl)) rfl ?_
 exact⟨_,by first|rfl|(simp;done)|(simp[*];done),(Kd.N_nil _ _ _ _ _),HB.out⟩

mutual
def toponymlaw27_few.l0:Nat→Int→(List (S46))→Option (Bool)
 |0,_,_=>none
 |k+1,x31,l0_7=>if x31<(l0_7.length:Int) then(if 0≤x31 then(if (((rd_T46 l0_7 x31).f1).length:Int)>20 then(some false) else(if (((rd_T46 l0_7 x31).f0).size:Int)>1000 then(some false) else((toponymlaw27_few.l1 k 0 l0_7 x31)))) else(none)) else(some true)
def toponymlaw27_few.l1:Nat→Int→(List (S46))→Int→Option (Bool)
 |0,_,_,_=>none
 |k+1,x58,l0_7,x31=>if 0≤x31 then(if x31<(l0_7.length:Int) then(if x58<(((rd_T46 l0_7 x31).f1).length:Int) then(if 0≤x58 then(if ((rdOf ByteArray.empty ((rd_T46 l0_7 x31).f1) x58).size:Int)>2000 then(some false) else((toponymlaw27_few.l1 k (wrap64 (x58+1)) l0_7 x31))) else(none)) else((toponymlaw27_few.l0 k (wrap64 (x31+1)) l0_7))) else(none)) else(none)
end
def toponymlaw27_few.f (k:Nat) (a0_0:Int) (a0_1:Int) (a0_2:Bool) (a0_3:Int) (a0_4:ByteArray) (a0_5:ByteArray) (a0_6:ByteArray) (l0_7:List (S46)):Option (Bool):=if (l0_7.length:Int)>40 then(some false) else(if (a0_6.size:Int)>5000 then(some false) else(if (a0_4.size:Int)>5000 then(some false) else(if (a0_5.size:Int)>5000 then(some false) else((toponymlaw27_few.l0 k 0 l0_7)))))
theorem toponymlaw27_few.mono_l:∀ k,(∀ y0 y1,LeO (toponymlaw27_few.l0 k y0 y1) (toponymlaw27_few.l0 (k+1) y0 y1))∧(∀ y0 y1 y2,LeO (toponymlaw27_few.l1 k y0 y1 y2) (toponymlaw27_few.l1 (k+1) y0 y1 y2))
 |0=>⟨fun _ _ r h=>by simp[toponymlaw27_few.l0] at h,fun _ _ _ r h=>by simp[toponymlaw27_few.l1] at h⟩
 |k+1=>by
  obtain⟨ih0,ih1⟩:=toponymlaw27_few.mono_l k
  refine⟨?_,?_⟩
  ·intro y0 y1
   unfold toponymlaw27_few.l0
   with_reducible repeat' first|exact ih0 _ _|exact ih1 _ _ _|exact LeO.refl _|exact LeO.none _|refine LeO.ite ?_ ?_|refine LeO.bind ?_ (fun _=>?_)
  intro y0 y1 y2
  unfold toponymlaw27_few.l1
  with_reducible repeat' first|exact ih0 _ _|exact ih1 _ _ _|exact LeO.refl _|exact LeO.none _|refine LeO.ite ?_ ?_|refine LeO.bind ?_ (fun _=>?_)
theorem toponymlaw27_few.mono:∀ a0_ a1_ a2_ a3_ a4_ a5_ a6_ a7_ k,LeO (toponymlaw27_few.f k a0_ a1_ a2_ a3_ a4_ a5_ a6_ a7_) (toponymlaw27_few.f (k+1) a0_ a1_ a2_ a3_ a4_ a5_ a6_ a7_):=by
 intro a0_ a1_ a2_ a3_ a4_ a5_ a6_ a7_ k
 obtain⟨ih0,ih1⟩:=toponymlaw27_few.mono_l k
 unfold toponymlaw27_few.f
 with_reducible repeat' first|exact ih0 _ _|exact ih1 _ _ _|exact LeO.refl _|exact LeO.none _|refine LeO.ite ?_ ?_|refine LeO.bind ?_ (fun _=>?_)
theorem toponymlaw27_few.calls (k:Nat) (P_:Nat→Prop) (a0_0:Int) (a0_1:Int) (a0_2:Bool) (a0_3:Int) (a0_4:ByteArray) (a0_5:ByteArray) (a0_6:ByteArray) (A0_7:Option Addr) (c0_7:Nat) (l0_7:List (S46)) (r:Bool) (w:World) (hs0_7:Kd.F k46 w P_ A0_7 l0_7.length l0_7) (hc0_7:l0_7.length≤c0_7) (h:toponymlaw27_few.f k a0_0 a0_1 a0_2 a0_3 a0_4 a0_5 a0_6 l0_7=some r):
  Calls Try.prog 9 #[.agg #[.int .i64 a0_0,.int .i64 a0_1,.bool a0_2,.int .i64 a0_3,.string a0_4,.string a0_5,.string a0_6,.slice A0_7 l0_7.length c0_7]] w (fun e w'=>e=.returned (.bool r)∧Below w.heap.size w w'):=by
 unfold toponymlaw27_few.f at h
 have HH:=za h
 clear h
 have HF0_7:=zfp hs0_7
 clear hs0_7 hc0_7
 have HB:=za (Below.refl w.heap.size w)
 have hu27:=Try.underlying27
 go_enter Try.func9,Try.ntmps9
 go_wp2_with ((with_reducible refine gd 1 rfl ?_);refine zb 1 27 #[.int .i64 a0_0,.int .i64 a0_1,.bool a0_2,.int .i64 a0_3,.string a0_4,.string a0_5,.string a0_6,.slice A0_7 l0_7.length c0_7] (h:=?_);intro g1 hg w2 BKg1 hb)
 refine zg ?_
 replace HF0_7:=zfe HF0_7.out hg hb
 replace HB:=zhb HB.out hb
 clear hg hb
 replace cBKg1:=MB.lz8 BKg1.out
 replace HH:=zqK 40 HH
 rcases HH with⟨HH,hk12,hk13⟩|⟨HH,hk14,hk15⟩
 ·obtain rfl:=Option.some.inj HH.out
  clear HH
  go_wp2
  go_ret
  exact zfi HB.out
 replace HH:=zqK 5000 HH
 rcases HH with⟨HH,hk17,hk18⟩|⟨HH,hk19,hk20⟩
 ·obtain rfl:=Option.some.inj HH.out
  clear HH
  go_wp2
  go_ret
  exact zfi HB.out
 replace HH:=zqK 5000 HH
 rcases HH with⟨HH,hk22,hk23⟩|⟨HH,hk24,hk25⟩
 ·obtain rfl:=Option.some.inj HH.out
  clear HH
  go_wp2
  go_ret
  exact zfi HB.out
 replace HH:=zqK 5000 HH
 rcases HH with⟨HH,hk27,hk28⟩|⟨HH,hk29,hk30⟩
 ·obtain rfl:=Option.some.inj HH.out
  clear HH
  go_wp2
  go_ret
  exact zfi HB.out
 go_wp2
 go_loopg [3] k (fun kq u3 w'=>∃ (x31:Int),u3=.int .i64 x31∧Aside0 ((toponymlaw27_few.l0 kq x31 l0_7)=some r)∧Aside0 (kq≤k)∧Aside0 (Kd.F k46 w' (fun k_=>(P_ k_∨w.heap.size≤k_)∧k_≠g1) A0_7 l0_7.length l0_7)∧Aside0 (w'.heap[g1]? =some (.cells #[.int .i64 a0_0,.int .i64 a0_1,.bool a0_2,.int .i64 a0_3,.string a0_4,.string a0_5,.string a0_6,.slice A0_7 l0_7.length c0_7] 27 (0,0)))∧Aside0 (Below w.heap.size w w'))
 case atStart=>exact⟨0,(by first|rfl|(simp;done)|(simp[*];done)),HH,⟨Nat.le_refl _⟩,⟨HF0_7.out⟩,⟨BKg1.out⟩,⟨HB.out⟩⟩
 case round=>
  clear hk14
  clear hk15
  clear hk19
  clear hk20
  clear hk24
  clear hk25
  clear hk29
  clear hk30
  clear HH
  clear HF0_7 BKg1 HB
  obtain⟨x31,rfl,HA,HK0,HF0_7,BKg1,HB⟩:=hrel
  obtain⟨w33,rfl⟩:∃ wo_:World,wo_=wr:=⟨_,rfl⟩
  cases gk with
  |zero=>exact absurd HA.out (by simp[toponymlaw27_few.l0])
  |succ k32=>
   have H:=HA.out
   clear HA
   simp only[toponymlaw27_few.l0] at H
   have HH:=za H
   clear H
   replace cBKg1:=MB.lz8 BKg1.out
   replace HH:=zqt HH
   rcases HH with⟨HH,hk43,hk44⟩|⟨HH,hk93,hk94⟩
   ·replace HH:=zqdo HH
    obtain⟨HH,hk46⟩:=HH
    have p47:0≤(x31:Int):=of_decide_eq_true (by first|(with_reducible assumption)|assumption)
    have q47:x31<(l0_7.length:Int):=of_decide_eq_true (by first|(with_reducible assumption)|assumption)
    obtain⟨ad47,A47_1,c47_1,e47,hx47_0,hx47_1,hl47_1,hi47_1⟩:=atF_T46 HF0_7.out x31 p47 q47
    cases e47
    have HF47_1:=za hi47_1
    clear hi47_1 hl47_1
    replace p47:=eq_true p47
    replace q47:=eq_true q47
    replace HH:=zqK 20 HH
    rcases HH with⟨HH,hk49,hk50⟩|⟨HH,hk51,hk52⟩
    ·obtain rfl:=Option.some.inj HH.out
     clear HH
     go_wp2
     go_ret
     exact zfi HB.out
    replace HH:=zqK 1000 HH
    rcases HH with⟨HH,hk54,hk55⟩|⟨HH,hk56,hk57⟩
    ·obtain rfl:=Option.some.inj HH.out
     clear HH
     go_wp2
     go_ret
     exact zfi HB.out
    go_wp2
    go_loopg [4] k32 (fun kq u4 w'=>∃ (x58:Int),u4=.int .i64 x58∧Aside0 ((toponymlaw27_few.l1 kq x58 l0_7 x31)=some r)∧Aside0 (kq≤k32)∧Aside0 (Kd.F k46 w' (fun k_=>(P_ k_∨w.heap.size≤k_)∧k_≠g1) (some ad47) l0_7.length l0_7)∧Aside0 (Kd.F Kd.string w' (fun k_=>(P_ k_∨w.heap.size≤k_)∧k_≠g1) A47_1 ((rd_T46 l0_7 x31).f1).length ((rd_T46 l0_7 x31).f1))∧Aside0 (w'.heap[g1]? =some (.cells #[.int .i64 a0_0,.int .i64 a0_1,.bool a0_2,.int .i64 a0_3,.string a0_4,.string a0_5,.string a0_6,.slice (some ad47) l0_7.length c0_7] 27 (0,0)))∧Aside0 (Below w.heap.size w w'))
    case atStart=>exact⟨0,(by first|rfl|(simp;done)|(simp[*];done)),HH,⟨Nat.le_refl _⟩,⟨HF0_7.out⟩,⟨HF47_1.out⟩,⟨BKg1.out⟩,⟨HB.out⟩⟩
    case round=>
     clear hx47_0 hx47_1 p47 q47
     clear hk43
     clear hk44
     clear hk46
     clear hk51
     clear hk52
     clear hk56
     clear hk57
     clear HH
     clear HF0_7 HF47_1 BKg1 HB
     obtain⟨x58,rfl,HA,HK1,HF0_7,HF47_1,BKg1,HB⟩:=hrel
     obtain⟨w60,rfl⟩:∃ wo_:World,wo_=wr:=⟨_,rfl⟩
     cases gk with
     |zero=>exact absurd HA.out (by simp[toponymlaw27_few.l1])
     |succ k59=>
      have H:=HA.out
      clear HA
      simp only[toponymlaw27_few.l1] at H
      have HH:=za H
      clear H
      replace cBKg1:=MB.lz8 BKg1.out
      replace HH:=zqdo HH
      obtain⟨HH,hk70⟩:=HH
      replace HH:=zqto HH
      obtain⟨HH,hk72,hk73⟩:=HH
      have p74:0≤(x31:Int):=of_decide_eq_true (by first|(with_reducible assumption)|assumption)
      have q74:x31<(l0_7.length:Int):=of_decide_eq_true (by first|(with_reducible assumption)|assumption)
      obtain⟨ad74,A74_1,c74_1,e74,hx74_0,hx74_1,hl74_1,hi74_1⟩:=atF_T46 HF0_7.out x31 p74 q74
      cases e74
      have HF74_1:=za hi74_1
      clear hi74_1 hl74_1
      replace p74:=eq_true p74
      replace q74:=eq_true q74
      replace HH:=zqt HH
      rcases HH with⟨HH,hk76,hk77⟩|⟨HH,hk87,hk88⟩
      ·replace HH:=zqdo HH
       obtain⟨HH,hk79⟩:=HH
       have p80:0≤(x58:Int):=of_decide_eq_true (by first|(with_reducible assumption)|assumption)
       have q80:x58<(((rd_T46 l0_7 x31).f1).length:Int):=of_decide_eq_true (by first|(with_reducible assumption)|assumption)
       obtain⟨ad80,e80,hx80_0⟩:=Kd.at_string (Kd.F_now HF74_1.out) x58 p80 q80
       cases e80
       replace p80:=eq_true p80
       replace q80:=eq_true q80
       replace HH:=zqK 2000 HH
       rcases HH with⟨HH,hk82,hk83⟩|⟨HH,hk84,hk85⟩
       ·obtain rfl:=Option.some.inj HH.out
        clear HH
        go_wp2
        go_ret
        exact zfi HB.out
       go_wp2
       go_roundg k59
       case measure=>have:=HK0.out;have:=HK1.out;omega
       case rel=>exact⟨wrap64 (x58+1),(by first|rfl|(simp;done)|(simp[*];done)),HH,⟨by have:=HK0.out;have:=HK1.out;omega⟩,⟨HF0_7.out⟩,⟨HF47_1.out⟩,⟨BKg1.out⟩,⟨HB.out⟩⟩
      go_wp2
      go_roundg k59
      case measure=>have:=HK0.out;have:=HK1.out;omega
      case rel=>exact⟨wrap64 (x31+1),(by first|rfl|(simp;done)|(simp[*];done)),HH,⟨by have:=HK0.out;have:=HK1.out;omega⟩,⟨HF0_7.out⟩,⟨BKg1.out⟩,⟨HB.out⟩⟩
   obtain rfl:=Option.some.inj HH.out
   clear HH
   go_wp2
   go_ret
   exact zfi HB.out
end Go.Proofs.Ytdjkemhmhkpmkaa.GA
