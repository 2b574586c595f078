-- written by wip/gen.py, a program of this session: strings.Builder
import Derived.Test.YtapinanmmhdpcaaGA0
namespace Go.Proofs.Ytapinanmmhdpcaa.GA
open Go.RowKit Go.Proofs.Ytapinanmmhdpcaa Go.Proofs.Ytapinanmmhdpcaa.MW Go.Proofs.YtapinanmmhdpcaaW.PrintWords Go.Proofs.YtapinanmmhdpcaaW.PrintLast Go.Proofs.YtapinanmmhdpcaaW.PrintMore
attribute [local go_sem] max2_int min2_int max_two min_two
set_option linter.unusedVariables false
set_option linter.unusedSimpArgs false

set_option maxHeartbeats 2000000 in
set_option maxRecDepth 100000 in
theorem bString43 (g T:Nat) (p v:Value) (rest:List Value) (base:Nat) (ok:Nat→Prop) (l:List Int) (w:World) (hb:w.heap[g]? =some (.cells (p::v::rest).toArray T (0,0))) (hN:Kd.N (Kd.int .u8) 5 w base ok v l):
    Calls Try.prog 43 #[.pointer (some ⟨g,0,none⟩)] w fun e w'=>e=.returned (.string (strOfNums l))∧w.grownBy w' v.ownBlock:=by
  have hown:=MB.own_of_N hN
  have h1:w.drew.cell? ⟨g,1,none⟩=some v:=by
    have:w.drew.heap[g]? =some (.cells (p::v::rest).toArray T (0,0)):=hb
    exact(blk_cell this 1).trans rfl
  have hlt:=blk_lt hb
  have h1w:w.cell? ⟨g,1,none⟩=some v:=h1
  clear hN
  rcases hown.2 with⟨rfl,h0⟩|⟨b,cap,cur,rfl,hbg,hbk,hnc,hcm,hcs,htake⟩
  · obtain rfl:l=[]:=List.eq_nil_of_length_eq_zero h0
    have hUS:=fun w0:World=>Lib.run_unsafeString_none (P:=Try.prog) w0 88 3 9 none
    have hSD:(Builtin.unsafeSliceData_ #[72] 88 #[.slice none 0 0]).run Try.prog w.drew=.ok (.pointer none) w.drew:=rfl
    clear hb hlt hown h0
    go_enter Try.func43,Try.ntmps43
    go_wp2
    go_region
    all_goals(go_wp2;go_ret;exact⟨rfl,⟨rfl,rfl,rfl,Nat.le_refl _,fun _ _ _=>rfl⟩⟩)
  · by_cases h0:l=[]
    · subst h0
      by_cases hc0:cap=0
      · subst hc0
        have hUS:=fun (w0:World) (a0:Option Addr)=>Lib.run_unsafeString_none (P:=Try.prog) w0 88 3 9 a0
        have hSD:(Builtin.unsafeSliceData_ #[72] 88 #[.slice (some ⟨b,0,none⟩) 0 0]).run Try.prog w.drew=.ok (.pointer (some ⟨w.drew.heap.size,0,none⟩)) (w.drew.alloc (.view ⟨b,0,none⟩ 5)):=
          Lib.run_unsafeSliceData_zero w.drew _ _ 5 Try.underlying88 ⟨b,0,none⟩ 0 (5,cur.size) (by have hg':w.drew.heap[b]? =some (.cells cur 5 (0,0)):=hbk;simp[World.shape?,hg'])
        have h2:(w.drew.alloc (.view ⟨b,0,none⟩ 5)).cell? ⟨g,1,none⟩=some (.slice (some ⟨b,0,none⟩) 0 0):=by
          have:(w.drew.alloc (.view ⟨b,0,none⟩ 5)).heap[g]? =some (.cells (p::.slice (some ⟨b,0,none⟩) 0 0::rest).toArray T (0,0)):=(heap_alloc_old w.drew _ hlt).trans hb
          exact(blk_cell this 1).trans rfl
        have h3:(w.alloc (.view ⟨b,0,none⟩ 5)).drew.cell? ⟨g,1,none⟩=some (.slice (some ⟨b,0,none⟩) 0 0):=h2
        have hgr:∀ r:Option Nat,w.grownBy (w.drew.alloc (.view ⟨b,0,none⟩ 5)) r:=fun r=>⟨rfl,rfl,rfl,by simp,fun k hk _=>heap_alloc_old w.drew _ hk⟩
        clear hb hlt hown hbg hbk hnc hcm hcs htake
        go_enter Try.func43,Try.ntmps43
        go_wp2
        go_region
        all_goals(go_wp2;go_ret;exact⟨rfl,hgr _⟩)
      · have hUS:=fun w0:World=>Lib.run_unsafeString_none (P:=Try.prog) w0 88 3 9 (some ⟨b,0,none⟩)
        have hSD:(Builtin.unsafeSliceData_ #[72] 88 #[.slice (some ⟨b,0,none⟩) 0 cap]).run Try.prog w.drew=.ok (.pointer (some ⟨b,0,none⟩)) w.drew:=Lib.run_unsafeSliceData_row _ _ _ _ _ _ hc0
        clear hc0 hb hlt hown hbg hbk hnc hcm hcs htake
        go_enter Try.func43,Try.ntmps43
        go_wp2
        go_region
        all_goals(go_wp2;go_ret;exact⟨rfl,⟨rfl,rfl,rfl,Nat.le_refl _,fun _ _ _=>rfl⟩⟩)
    · have hl0:l.length≠0:=by simpa using h0
      have hSD:(Builtin.unsafeSliceData_ #[72] 88 #[.slice (some ⟨b,0,none⟩) l.length cap]).run Try.prog w.drew=.ok (.pointer (some ⟨b,0,none⟩)) w.drew:=Lib.run_unsafeSliceData_row _ _ _ _ _ _ (by omega)
      have hUS:(Builtin.unsafeString_ #[88,3] 9 #[.pointer (some ⟨b,0,none⟩),.int .i64 l.length]).run Try.prog w.drew=.ok (.string (strOfNums l)) (w.drew.freeze ⟨b,0,none⟩ l.length):=by
        refine MB.run_unsafeString_ints w.drew 88 3 9 5 Try.underlying88 (by kernel_rfl) b cur.size (by have hg':w.drew.heap[b]? =some (.cells cur 5 (0,0)):=hbk;simp[World.shape?,hg']) l h0 (by omega) (by unfold maxLen at hcm;omega) ?_
        intro j x hx
        have hc:=hown.cells (g:=b) rfl j (.int .u8 x) (by simp[encs,hx])
        exact hc
      have hgr:=MB.freeze_grown (W:=w) b l.length
      clear hb hlt hown hbg hbk hnc hcm hcs htake hl0 h0
      go_enter Try.func43,Try.ntmps43
      go_wp2
      go_region
      all_goals(go_wp2;go_ret;exact⟨rfl,hgr⟩)

set_option maxHeartbeats 1000000 in
set_option maxRecDepth 100000 in
theorem copyCheck51 (g T:Nat) (p:Value) (rest:List Value) (w:World) (hb:w.heap[g]? =some (.cells (p::rest).toArray T (0,0))) (hp:p=.pointer none∨p=.pointer (some ⟨g,0,none⟩)) (hlies:liesAt Try.prog Try.prog.depth T ((rest.length+1) / Try.prog.cellsOf T) 0 74 1=true):
    Calls Try.prog 51 #[.pointer (some ⟨g,0,none⟩)] w fun e w'=>e=.returned (.tuple #[])∧w'.heap[g]? =some (.cells (.pointer (some ⟨g,0,none⟩)::rest).toArray T (0,0))∧w.grownBy w' (some g):=by
  have hsz:(Try.prog.info? 74).map (·.size)=some 2:=by kernel_rfl
  obtain⟨j,hj,hjs⟩:=Option.map_eq_some_iff.1 hsz
  have h0:w.cell? ⟨g,0,none⟩=some p:=(blk_cell hb 0).trans rfl
  have hfz:w.frozen? ⟨g,0,none⟩=false:=blk_frozen hb 0
  have hsh:w.shape? g=some (T,rest.length+1):=by simp[World.shape?,hb]
  rcases hp with rfl|rfl
  · refine Calls.mono (R:=fun e w'=>e=.returned (.tuple #[])∧w'=w.setCell ⟨g,0,none⟩ (.pointer (some ⟨g,0,none⟩))) ?_ ?_
    · go_enter Try.func51,Try.ntmps51
      go_wp2
      rw[Lib.run_to_unsafe w ⟨g,0,none⟩ Try.underlying71 Try.underlying90 hj (by rw[hjs];decide) hsh (Nat.zero_lt_succ _)]
      simp only[Result.andThen]
      rw[Oper.upon_value]
      go_wp2
      rw[run_callFunc_extern Try.func56 (by kernel_rfl) (by kernel_rfl) (by kernel_rfl) (e:=Extern.AbiNoEscape.same) (by kernel_rfl)]
      rw[Lib.run_noEscape]
      simp only[Result.andThen]
      rw[Oper.upon_value]
      go_wp2
      rw[Lib.run_from_unsafe w ⟨g,0,none⟩ Try.underlying90 Try.underlying71 hj hsh hlies]
      simp only[Result.andThen]
      rw[Oper.upon_value]
      go_wp2
      go_end0
      exact⟨rfl,rfl⟩
    · rintro e w' ⟨rfl,rfl⟩
      exact⟨rfl,by simp[World.setCell,Array.getElem?_modify,hb],⟨rfl,rfl,rfl,by simp[World.setCell],fun k _ hk=>Below.heap_setCell _ _ _ _ (fun e=>hk (by simp[e]))⟩⟩
  · refine Calls.mono (R:=fun e w'=>e=.returned (.tuple #[])∧w'=w) ?_ ?_
    · go_enter Try.func51,Try.ntmps51
      go_wp2
      rw[Lib.run_neq_ptr_same w _ Try.underlying71 hj]
      go_wp2
      go_end0
      exact⟨rfl,rfl⟩
    · rintro e w' ⟨rfl,rfl⟩
      exact⟨rfl,hb,⟨rfl,rfl,rfl,Nat.le_refl _,fun _ _ _=>rfl⟩⟩

end Go.Proofs.Ytapinanmmhdpcaa.GA
