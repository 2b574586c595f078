import Derived.Test.YtkbiiijmgbjnkaaGA0
import Derived.Test.YtkbiiijmgbjnkaaGAF19
import Derived.Test.YtkbiiijmgbjnkaaGAF21
import Derived.Test.YtkbiiijmgbjnkaaGM1
import Derived.Test.YtkbiiijmgbjnkaaGM2
namespace Go.Proofs.Ytkbiiijmgbjnkaa.GA
open Go.RowKit Go.Proofs.Ytkbiiijmgbjnkaa Go.Proofs.Ytkbiiijmgbjnkaa.MW Go.Proofs.YtkbiiijmgbjnkaaW.PrintWords Go.Proofs.YtkbiiijmgbjnkaaW.PrintLast Go.Proofs.YtkbiiijmgbjnkaaW.PrintMore
attribute [local go_sem] max2_int min2_int max_two min_two
set_option maxHeartbeats 8000000
set_option maxRecDepth 100000
set_option linter.unusedVariables false
set_option linter.unusedSimpArgs false
def toponymlaw03_CharsTable.f (k:Nat) (a0:Int):Option (Bool):=(chars_Table.f k).bind fun t1=>((toponymref03_Table.f k).bind fun t5=>((toponymref02_Same.f k t1 t5).bind fun t17=>(if t17=true then((toponymref02_Find.f k t1 a0).bind fun t21=>((chars_Kind.f a0).bind fun t24=>(if t21=t24 then((toponymlaw03_awake.f k).bind fun t30=>(some t30)) else(some false)))) else(some false))))
theorem toponymlaw03_CharsTable.mono:∀ a0_ k,LeO (toponymlaw03_CharsTable.f k a0_) (toponymlaw03_CharsTable.f (k+1) a0_):=by
 intro a0_ k
 unfold toponymlaw03_CharsTable.f
 with_reducible repeat' first|exact chars_Table.mono _|exact toponymlaw03_awake.mono _|exact toponymref02_Find.mono _ _ _|exact toponymref02_Same.mono _ _ _|exact toponymref03_Table.mono _|exact LeO.refl _|exact LeO.none _|refine LeO.ite ?_ ?_|refine LeO.bind ?_ (fun _=>?_)
theorem toponymlaw03_CharsTable.calls (k:Nat) (a0:Int) (r:Bool) (w:World) (h:toponymlaw03_CharsTable.f k a0=some r):
  Calls Try.prog 7 #[.int .i32 a0] w (fun e w'=>e=.returned (.bool r)∧Below w.heap.size w w'):=by
 unfold toponymlaw03_CharsTable.f at h
 have HH:=za h
 clear h
 have HB:=za (Below.refl w.heap.size w)
 go_enter Try.func7,Try.ntmps7
 replace HH:=zd HH
 obtain⟨t1,At2,HH⟩:=HH
 go_wp2_with ((with_reducible refine gc 19 rfl ?_);refine zc 19 (some 4) Try.func19 #[] (h:=?_);(with_reducible refine(chars_Table.calls k  t1 _  At2.out).mono ?_);rintro e w3 ⟨v4,rfl,hn4,hb⟩;refine⟨_,rfl,?_⟩)
 refine zg ?_
 have hba:=Kd.N_base hn4
 have HN4:=znl (ok2:=(fun k_=>(w.heap.size≤k_))) hn4 (below_size HB.out) (fun k_ h_=>(Nat.le_trans (below_size HB.out) h_))
 replace HB:=zhb HB.out hb
 clear hn4 hba hb
 replace HH:=zd HH
 obtain⟨t5,At6,HH⟩:=HH
 go_wp2_with ((with_reducible refine gc 21 rfl ?_);refine zc 21 (some 6) Try.func21 #[] (h:=?_);(with_reducible refine(toponymref03_Table.calls k  t5 _  At6.out).mono ?_);rintro e w7 ⟨v8,rfl,hn8,hb⟩;refine⟨_,rfl,?_⟩)
 refine zg ?_
 have hba:=Kd.N_base hn8
 have HN8:=znl (ok2:=(fun k_=>(w.heap.size≤k_)∧some k_≠(v4:Value).ownBlock)) hn8 (below_size HB.out) (fun k_ h_=>⟨(Nat.le_trans (below_size HB.out) h_),Kd.fresh' (Kd.N_lt HN4.out) k_ h_⟩)
 replace HN4:=znr (u:=v8) HN4.out hba hb
 replace HB:=zhb HB.out hb
 clear hn8 hba hb
 obtain⟨A9,cp10,he_⟩:=Kd.N_slice HN4.out
 subst he_
 have HL12:=za (Kd.N_reads' HN4.out).2.1
 have HF11:=za (Kd.N_F HN4.out)
 clear HN4
 replace HN8:=za (Kd.N_mono (ok:=(fun k_=>(w.heap.size≤k_)∧some k_≠((.slice A9 t1.length cp10):Value).ownBlock)) HN8.out (fun k_ hk_=>hk_.1):Kd.N k38 _ _ _ (fun k_=>(w.heap.size≤k_)) _ _)
 obtain⟨A13,cp14,he_⟩:=Kd.N_slice HN8.out
 subst he_
 have HL16:=za (Kd.N_reads' HN8.out).2.1
 have HF15:=za (Kd.N_F HN8.out)
 clear HN8
 replace HF11:=za (Kd.F_mono (ok:=(fun k_=>(w.heap.size≤k_)∧some k_≠((.slice A13 t5.length cp14):Value).ownBlock)) HF11.out (fun k_ hk_=>hk_.1):Kd.F k38 _ (fun k_=>(w.heap.size≤k_)) _ _ _)
 replace HH:=zd HH
 obtain⟨t17,At18,HH⟩:=HH
 go_wp2_with ((with_reducible refine gc 20 rfl ?_);refine zc 20 (some 7) Try.func20 #[.slice A9 t1.length cp10,.slice A13 t5.length cp14] (h:=?_);(with_reducible refine(toponymref02_Same.calls k (fun k_=>(w.heap.size≤k_)) _ _ t1 _ _ t5 t17 _ HF11.out HL12.out HF15.out HL16.out At18.out).mono ?_);rintro e w' ⟨rfl,⟨nd,rfl⟩⟩;refine⟨_,rfl,?_⟩)
 refine zg ?_
 by_cases c20:t17=true
 ·replace HH:=MW.hpos HH c20
  subst c20
  replace HH:=zd HH
  obtain⟨t21,At22,HH⟩:=HH
  go_wp2_with ((with_reducible refine gc 22 rfl ?_);refine zc 22 (some 11) Try.func22 #[.slice A9 t1.length cp10,.int .i32 a0] (h:=?_);(with_reducible refine(toponymref02_Find.calls k (fun k_=>(w.heap.size≤k_)) _ _ t1 a0 t21 _ (by(with_reducible repeat(first|apply Kd.F_alloc|apply Kd.F_drewN|apply Kd.F_drew));exact HF11.out) HL12.out At22.out).mono ?_);rintro e w23 ⟨rfl,hb⟩;refine⟨_,rfl,?_⟩)
  refine zg ?_
  replace HB:=zhb (by repeat(first|(with_reducible first|exact HB.out|apply below_alloc|apply pw_below_drewN|apply below_drew1)|exact HB.out)) hb
  clear hb
  replace HH:=zd HH
  obtain⟨t24,At25,HH⟩:=HH
  go_wp2_with ((with_reducible refine gc 8 rfl ?_);refine zc 8 (some 13) Try.func8 #[.int .i32 a0] (h:=?_);(with_reducible refine(chars_Kind.calls  a0 t24 _  At25.out).mono ?_);rintro e w' ⟨rfl,⟨nd,rfl⟩⟩;refine⟨_,rfl,?_⟩)
  refine zg ?_
  replace HH:=zqe HH
  rcases HH with⟨HH,hk28,hk29⟩|⟨HH,hk33,hk34⟩
  ·replace HH:=zd HH
   obtain⟨t30,At31,HH⟩:=HH
   go_wp2_with ((with_reducible refine gc 14 rfl ?_);refine zc 14 (some 17) Try.func14 #[] (h:=?_);(with_reducible refine(toponymlaw03_awake.calls k  t30 _  At31.out).mono ?_);rintro e w32 ⟨rfl,hb⟩;refine⟨_,rfl,?_⟩)
   refine zg ?_
   replace HB:=zhb (by repeat(first|(with_reducible first|exact HB.out|apply below_alloc|apply pw_below_drewN|apply below_drew1)|exact HB.out)) hb
   clear hb
   obtain rfl:=Option.some.inj HH.out
   clear HH
   go_wp2
   go_ret
   exact zfi HB.out
  obtain rfl:=Option.some.inj HH.out
  clear HH
  go_wp2
  go_ret
  exact zfi (by repeat(first|(with_reducible first|exact HB.out|apply below_alloc|apply pw_below_drewN|apply below_drew1)|exact HB.out))
 replace HH:=MW.hneg HH c20
 replace c20:=Bool.eq_false_iff.mpr c20
 subst c20
 obtain rfl:=Option.some.inj HH.out
 clear HH
 go_wp2
 go_ret
 exact zfi (by repeat(first|(with_reducible first|exact HB.out|apply below_alloc|apply pw_below_drewN|apply below_drew1)|exact HB.out))
end Go.Proofs.Ytkbiiijmgbjnkaa.GA
