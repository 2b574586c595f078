import Derived.Test.YtdjkemhmhkpmkaaGA0
import Derived.Test.YtdjkemhmhkpmkaaGAF16
import Derived.Test.YtdjkemhmhkpmkaaGM2
import Derived.Test.YtdjkemhmhkpmkaaGM3
namespace Go.Proofs.Ytdjkemhmhkpmkaa.GA
open Go.RowKit Go.Proofs.Ytdjkemhmhkpmkaa Go.Proofs.Ytdjkemhmhkpmkaa.MW Go.Proofs.YtdjkemhmhkpmkaaW.PrintWords Go.Proofs.YtdjkemhmhkpmkaaW.PrintLast Go.Proofs.YtdjkemhmhkpmkaaW.PrintMore
attribute [local go_sem] max2_int min2_int max_two min_two
set_option maxHeartbeats 8000000
set_option maxRecDepth 100000
set_option linter.unusedVariables false
set_option linter.unusedSimpArgs false
def toponymlaw27_ReplyDecodes.f (k:Nat) (a0:ByteArray):Option (Bool):=(reply_Decode.f k a0).bind fun bt1=>((toponymref27_Decode.f k a0).bind fun bt32=>((toponymref27_Same.f k bt1.1 bt1.2.1 bt1.2.2.1 bt1.2.2.2.1 bt1.2.2.2.2.1 bt1.2.2.2.2.2.1 bt1.2.2.2.2.2.2.1 bt1.2.2.2.2.2.2.2.1 bt32.1 bt32.2.1 bt32.2.2.1 bt32.2.2.2.1 bt32.2.2.2.2.1 bt32.2.2.2.2.2.1 bt32.2.2.2.2.2.2.1 bt32.2.2.2.2.2.2.2.1).bind fun t87=>(if t87=true then(if bt1.2.2.2.2.2.2.2.2=bt32.2.2.2.2.2.2.2.2 then((toponymlaw27_awake.f k).bind fun t110=>(some t110)) else(some false)) else(some false))))
theorem toponymlaw27_ReplyDecodes.mono:∀ a0_ k,LeO (toponymlaw27_ReplyDecodes.f k a0_) (toponymlaw27_ReplyDecodes.f (k+1) a0_):=by
 intro a0_ k
 unfold toponymlaw27_ReplyDecodes.f
 with_reducible repeat' first|exact reply_Decode.mono _ _|exact toponymlaw27_awake.mono _|exact toponymref27_Decode.mono _ _|exact toponymref27_Same.mono _ _ _ _ _ _ _ _ _ _ _ _ _ _ _ _ _|exact LeO.refl _|exact LeO.none _|refine LeO.ite ?_ ?_|refine LeO.bind ?_ (fun _=>?_)
theorem toponymlaw27_ReplyDecodes.calls (k:Nat) (a0:ByteArray) (r:Bool) (w:World) (h:toponymlaw27_ReplyDecodes.f k a0=some r):
  Calls Try.prog 4 #[.string a0] w (fun e w'=>e=.returned (.bool r)∧Below w.heap.size w w'):=by
 unfold toponymlaw27_ReplyDecodes.f at h
 have HH:=za h
 clear h
 have HB:=za (Below.refl w.heap.size w)
 have hu27:=Try.underlying27
 go_enter Try.func4,Try.ntmps4
 replace HH:=zd HH
 obtain⟨⟨t1,t2,t3,t4,t5,t6,t7,t8,t9⟩,At10,HH⟩:=HH
 dsimp only at HH
 go_wp2_with ((with_reducible refine gc 15 rfl ?_);refine zc 15 (some 9) Try.func15 #[.string a0] (h:=?_);(with_reducible refine(reply_Decode.calls k  a0 t1 t2 t3 t4 t5 t6 t7 t8 t9 _  At10.out).mono ?_);rintro e w11 ⟨A12,cp12,rfl,hl12,hn12,hb⟩;refine⟨_,rfl,?_⟩)
 refine zg ?_
 have HL12:=za hl12
 have HF12:=za (Kd.F_mono hn12 (fun k_ h_=>(Nat.le_trans (below_size HB.out) h_)):Kd.F k46 _ (fun k_=>(w.heap.size≤k_)) _ _ _)
 clear hn12 hl12
 replace HB:=zhb HB.out hb
 clear hb
 go_wp2_with ((with_reducible refine gd 3 rfl ?_);refine zb 3 27 #[.int .i64 0,.int .i64 0,.bool false,.int .i64 0,.string (⟨#[]⟩:ByteArray),.string (⟨#[]⟩:ByteArray),.string (⟨#[]⟩:ByteArray),.slice none 0 0] (h:=?_);intro g13 hg w14 BKg13 hb)
 refine zg ?_
 have GEg13:=zge hg (below_size HB.out)
 replace HF12:=zfe HF12.out hg hb
 replace HB:=zhb HB.out hb
 clear hg hb
 replace cBKg13:=MB.lz8 BKg13.out
 go_wp2_with ((with_reducible refine gs 27 3 rfl ?_);refine zs 27 3 #[.int .i64 t1,.int .i64 t2,.bool t3,.int .i64 t4,.string t5,.string t6,.string t7,.slice A12 t8.length cp12] BKg13.out [.int .i64 t1,.int .i64 t2,.bool t3,.int .i64 t4,.string t5,.string t6,.string t7,.slice A12 t8.length cp12] (h:=?_);intro w23 hbk hg)
 refine zg ?_
 replace HF12:=zfg HF12.out hg fun k_ hk_=>hk_.2
 replace HB:=zhg HB.out hg (below_size HB.out) GEg13
 replace BKg13:=hbk
 clear hg hbk
 replace cBKg13:=MB.lz8 BKg13.out
 replace HH:=zd HH
 obtain⟨⟨t32,t33,t34,t35,t36,t37,t38,t39,t40⟩,At41,HH⟩:=HH
 dsimp only at HH
 go_wp2_with ((with_reducible refine gc 16 rfl ?_);refine zc 16 (some 14) Try.func16 #[.string a0] (h:=?_);(with_reducible refine(toponymref27_Decode.calls k  a0 t32 t33 t34 t35 t36 t37 t38 t39 t40 _  At41.out).mono ?_);rintro e w42 ⟨A43,cp43,rfl,hl43,hn43,hb⟩;refine⟨_,rfl,?_⟩)
 refine zg ?_
 have HL43:=za hl43
 have HF43:=za (Kd.F_mono hn43 (fun k_ h_=>⟨(Nat.le_trans (below_size HB.out) h_),Kd.freshB (g:=g13) BKg13.out k_ h_⟩):Kd.F k46 _ (fun k_=>(w.heap.size≤k_)∧k_≠g13) _ _ _)
 clear hn43 hl43
 replace HF12:=zfb HF12.out hb
 replace BKg13:=zbb BKg13.out hb
 replace HB:=zhb HB.out hb
 clear hb
 replace cBKg13:=MB.lz8 BKg13.out
 go_wp2_with ((with_reducible refine gd 5 rfl ?_);refine zb 5 27 #[.int .i64 0,.int .i64 0,.bool false,.int .i64 0,.string (⟨#[]⟩:ByteArray),.string (⟨#[]⟩:ByteArray),.string (⟨#[]⟩:ByteArray),.slice none 0 0] (h:=?_);intro g52 hg w53 BKg52 hb)
 refine zg ?_
 have GEg52:=zge hg (below_size HB.out)
 have NEg13_g52:=znq hg BKg13.out
 replace HF12:=zfe HF12.out hg hb
 replace HF43:=zfe HF43.out hg hb
 replace BKg13:=zbb BKg13.out hb
 replace HB:=zhb HB.out hb
 clear hg hb
 replace cBKg13:=MB.lz8 BKg13.out
 replace cBKg52:=MB.lz8 BKg52.out
 go_wp2_with ((with_reducible refine gs 27 5 rfl ?_);refine zs 27 5 #[.int .i64 t32,.int .i64 t33,.bool t34,.int .i64 t35,.string t36,.string t37,.string t38,.slice A43 t39.length cp43] BKg52.out [.int .i64 t32,.int .i64 t33,.bool t34,.int .i64 t35,.string t36,.string t37,.string t38,.slice A43 t39.length cp43] (h:=?_);intro w70 hbk hg)
 refine zg ?_
 replace HF12:=zfg HF12.out hg fun k_ hk_=>hk_.2
 replace HF43:=zfg HF43.out hg fun k_ hk_=>hk_.2
 replace BKg13:=zbg BKg13.out hg NEg13_g52
 replace HB:=zhg HB.out hg (below_size HB.out) GEg52
 replace BKg52:=hbk
 clear hg hbk
 replace cBKg13:=MB.lz8 BKg13.out
 replace cBKg52:=MB.lz8 BKg52.out
 replace HH:=zd HH
 obtain⟨t87,At88,HH⟩:=HH
 go_wp2_with ((with_reducible refine gc 17 rfl ?_);refine zc 17 (some 19) Try.func17 #[.agg #[.int .i64 t1,.int .i64 t2,.bool t3,.int .i64 t4,.string t5,.string t6,.string t7,.slice A12 t8.length cp12],.agg #[.int .i64 t32,.int .i64 t33,.bool t34,.int .i64 t35,.string t36,.string t37,.string t38,.slice A43 t39.length cp43]] (h:=?_);(with_reducible refine(toponymref27_Same.calls k (fun k_=>((w.heap.size≤k_)∧k_≠g13)∧k_≠g52) t1 t2 t3 t4 t5 t6 t7 _ _ t8 t32 t33 t34 t35 t36 t37 t38 _ _ t39 t87 _ HF12.out HL12.out HF43.out HL43.out At88.out).mono ?_);rintro e w89 ⟨rfl,hb⟩;refine⟨_,rfl,?_⟩)
 refine zg ?_
 replace BKg13:=zbb BKg13.out hb
 replace BKg52:=zbb BKg52.out hb
 replace HB:=zhb HB.out hb
 clear hb
 replace cBKg13:=MB.lz8 BKg13.out
 replace cBKg52:=MB.lz8 BKg52.out
 by_cases c106:t87=true
 ·replace HH:=MW.hpos HH c106
  subst c106
  replace HH:=zqe HH
  rcases HH with⟨HH,hk108,hk109⟩|⟨HH,hk129,hk130⟩
  ·replace HH:=zd HH
   obtain⟨t110,At111,HH⟩:=HH
   go_wp2_with ((with_reducible refine gc 8 rfl ?_);refine zc 8 (some 26) Try.func8 #[] (h:=?_);(with_reducible refine(toponymlaw27_awake.calls k  t110 _  At111.out).mono ?_);rintro e w112 ⟨rfl,hb⟩;refine⟨_,rfl,?_⟩)
   refine zg ?_
   replace BKg13:=zbb BKg13.out hb
   replace BKg52:=zbb BKg52.out hb
   replace HB:=zhb HB.out hb
   clear hb
   replace cBKg13:=MB.lz8 BKg13.out
   replace cBKg52:=MB.lz8 BKg52.out
   obtain rfl:=Option.some.inj HH.out
   clear HH
   go_wp2
   go_ret
   exact zfi HB.out
  obtain rfl:=Option.some.inj HH.out
  clear HH
  go_wp2
  go_ret
  exact zfi HB.out
 replace HH:=MW.hneg HH c106
 replace c106:=Bool.eq_false_iff.mpr c106
 subst c106
 obtain rfl:=Option.some.inj HH.out
 clear HH
 go_wp2
 go_ret
 exact zfi HB.out
end Go.Proofs.Ytdjkemhmhkpmkaa.GA
