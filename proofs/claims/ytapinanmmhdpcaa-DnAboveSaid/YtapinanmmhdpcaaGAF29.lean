import Derived.Test.YtapinanmmhdpcaaGA0
import Derived.Test.YtapinanmmhdpcaaGM1
namespace Go.Proofs.Ytapinanmmhdpcaa.GA
open Go.RowKit Go.Proofs.Ytapinanmmhdpcaa Go.Proofs.Ytapinanmmhdpcaa.MW Go.Proofs.YtapinanmmhdpcaaW.PrintWords Go.Proofs.YtapinanmmhdpcaaW.PrintLast Go.Proofs.YtapinanmmhdpcaaW.PrintMore
attribute [local go_sem] max2_int min2_int max_two min_two
set_option maxHeartbeats 8000000
set_option maxRecDepth 100000
set_option linter.unusedVariables false
set_option linter.unusedSimpArgs false
def toponymref18_Value.l0:Nat→(List Int)→Int→ByteArray→Option (ByteArray)
 |0,_,_,_=>none
 |k+1,x1,x4,a0=>if x4<(a0.size:Int) then(if 0≤x4 then(if (bt a0 x4)<32 then((toponymref18_hex.f ((Int.tdiv (bt a0 x4) 16) % 256)).bind fun t16=>((toponymref18_hex.f (Int.tmod (bt a0 x4) 16)).bind fun t19=>(if x1.length+([92,t16,t19]:List Int).length<140737488355328 then((some (x1++([92,t16,t19]:List Int):List Int)).bind fun y30=>((toponymref18_Value.l0 k y30 (wrap64 (x4+1)) a0))) else(none)))) else(if (bt a0 x4)=127 then((toponymref18_hex.f ((Int.tdiv (bt a0 x4) 16) % 256)).bind fun t39=>((toponymref18_hex.f (Int.tmod (bt a0 x4) 16)).bind fun t42=>(if x1.length+([92,t39,t42]:List Int).length<140737488355328 then((some (x1++([92,t39,t42]:List Int):List Int)).bind fun y53=>((toponymref18_Value.l0 k y53 (wrap64 (x4+1)) a0))) else(none)))) else((toponymref18_sign.f (bt a0 x4)).bind fun t59=>(if t59=true then(if x1.length<140737488355328 then((some (x1++[92]:List Int)).bind fun y64=>(if y64.length<140737488355328 then((some (y64++[bt a0 x4]:List Int)).bind fun y69=>((toponymref18_Value.l0 k y69 (wrap64 (x4+1)) a0))) else(none))) else(none)) else(if (bt a0 x4)=32 then(if x4=0 then(if x1.length<140737488355328 then((some (x1++[92]:List Int)).bind fun y80=>(if y80.length<140737488355328 then((some (y80++[bt a0 x4]:List Int)).bind fun y85=>((toponymref18_Value.l0 k y85 (wrap64 (x4+1)) a0))) else(none))) else(none)) else(if x4=(wrap64 ((a0.size:Int) - 1)) then(if x1.length<140737488355328 then((some (x1++[92]:List Int)).bind fun y95=>(if y95.length<140737488355328 then((some (y95++[bt a0 x4]:List Int)).bind fun y100=>((toponymref18_Value.l0 k y100 (wrap64 (x4+1)) a0))) else(none))) else(none)) else(if (bt a0 x4)=35 then(if x1.length<140737488355328 then((some (x1++[bt a0 x4]:List Int)).bind fun y110=>((toponymref18_Value.l0 k y110 (wrap64 (x4+1)) a0))) else(none)) else(if x1.length<140737488355328 then((some (x1++[bt a0 x4]:List Int)).bind fun y117=>((toponymref18_Value.l0 k y117 (wrap64 (x4+1)) a0))) else(none))))) else(if (bt a0 x4)=35 then(if x4=0 then(if x1.length<140737488355328 then((some (x1++[92]:List Int)).bind fun y130=>(if y130.length<140737488355328 then((some (y130++[bt a0 x4]:List Int)).bind fun y135=>((toponymref18_Value.l0 k y135 (wrap64 (x4+1)) a0))) else(none))) else(none)) else(if x1.length<140737488355328 then((some (x1++[bt a0 x4]:List Int)).bind fun y142=>((toponymref18_Value.l0 k y142 (wrap64 (x4+1)) a0))) else(none))) else(if x1.length<140737488355328 then((some (x1++[bt a0 x4]:List Int)).bind fun y149=>((toponymref18_Value.l0 k y149 (wrap64 (x4+1)) a0))) else(none)))))))) else(none)) else(some (strOfNums x1))
def toponymref18_Value.f (k:Nat) (a0:ByteArray):Option (ByteArray):=(toponymref18_Value.l0 k ([]:List Int) 0 a0)
theorem toponymref18_Value.mono_l:∀ k,(∀ y0 y1 y2,LeO (toponymref18_Value.l0 k y0 y1 y2) (toponymref18_Value.l0 (k+1) y0 y1 y2))
 |0=>fun _ _ _ r h=>by simp[toponymref18_Value.l0] at h
 |k+1=>by
  have ih0:=toponymref18_Value.mono_l k
  ·intro y0 y1 y2
   unfold toponymref18_Value.l0
   with_reducible repeat' first|exact ih0 _ _ _|exact LeO.refl _|exact LeO.none _|refine LeO.ite ?_ ?_|refine LeO.bind ?_ (fun _=>?_)
theorem toponymref18_Value.mono:∀ a0_ k,LeO (toponymref18_Value.f k a0_) (toponymref18_Value.f (k+1) a0_):=by
 intro a0_ k
 have ih0:=toponymref18_Value.mono_l k
 unfold toponymref18_Value.f
 with_reducible repeat' first|exact ih0 _ _ _|exact LeO.refl _|exact LeO.none _|refine LeO.ite ?_ ?_|refine LeO.bind ?_ (fun _=>?_)
theorem toponymref18_Value.calls (k:Nat) (a0:ByteArray) (r:ByteArray) (w:World) (h:toponymref18_Value.f k a0=some r):
  Calls Try.prog 29 #[.string a0] w (fun e w'=>e=.returned (.string r)∧Below w.heap.size w w'):=by
 unfold toponymref18_Value.f at h
 have HH:=za h
 clear h
 have HB:=za (Below.refl w.heap.size w)
 go_enter Try.func29,Try.ntmps29
 go_wp2
 go_loopg [3,4] k (fun kq u3 u4 w'=>∃ (x1:List Int) (x4:Int),u4=.int .i64 x4∧Aside0 ((toponymref18_Value.l0 kq x1 x4 a0)=some r)∧Aside0 (kq≤k)∧Aside0 (Kd.N (Kd.int .u8) 5 w' w.heap.size (fun k_=>(w.heap.size≤k_)) u3 x1)∧Aside0 (Below w.heap.size w w'))
 case atStart=>exact⟨([]:List Int),0,(by first|rfl|(simp;done)|(simp[*];done)),HH,⟨Nat.le_refl _⟩,⟨Kd.N_nil _ _ _ _ _⟩,⟨HB.out⟩⟩
 case round=>
  clear HH
  clear HB
  obtain⟨x1,x4,rfl,HA,HK0,HN3,HB⟩:=hrel
  obtain⟨v2,rfl⟩:∃ z_:Value,z_=u3:=⟨_,rfl⟩
  obtain⟨w6,rfl⟩:∃ wo_:World,wo_=wr:=⟨_,rfl⟩
  cases gk with
  |zero=>exact absurd HA.out (by simp[toponymref18_Value.l0])
  |succ k5=>
   have H:=HA.out
   clear HA
   simp only[toponymref18_Value.l0] at H
   have HH:=za H
   clear H
   replace HH:=zqt HH
   rcases HH with⟨HH,hk8,hk9⟩|⟨HH,hk154,hk155⟩
   ·replace HH:=zqdo HH
    obtain⟨HH,hk11⟩:=HH
    have p12:0≤(x4:Int):=of_decide_eq_true (by first|(with_reducible assumption)|assumption)
    have q12:x4<(a0.size:Int):=of_decide_eq_true (by first|(with_reducible assumption)|assumption)
    have hx12:=MW.bt_at' a0 x4
    replace p12:=eq_true p12
    replace q12:=eq_true q12
    replace HH:=zqt HH
    rcases HH with⟨HH,hk14,hk15⟩|⟨HH,hk34,hk35⟩
    ·replace HH:=zd HH
     obtain⟨t16,At17,HH⟩:=HH
     go_wp2_with ((with_reducible refine gc 44 rfl ?_);refine zc 44 (some 24) Try.func44 #[.int .u8 ((Int.tdiv (bt a0 x4) 16) % 256)] (h:=?_);(with_reducible refine(toponymref18_hex.calls  ((Int.tdiv (bt a0 x4) 16) % 256) t16 _  At17.out).mono ?_);rintro e w' ⟨rfl,⟨nd,rfl⟩⟩;refine⟨_,rfl,?_⟩)
     refine zg ?_
     replace HH:=zd HH
     obtain⟨t19,At20,HH⟩:=HH
     go_wp2_with ((with_reducible refine gc 44 rfl ?_);refine zc 44 (some 27) Try.func44 #[.int .u8 (Int.tmod (bt a0 x4) 16)] (h:=?_);(with_reducible refine(toponymref18_hex.calls  (Int.tmod (bt a0 x4) 16) t19 _  At20.out).mono ?_);rintro e w' ⟨rfl,⟨nd,rfl⟩⟩;refine⟨_,rfl,?_⟩)
     refine zg ?_
     go_wp2_with (((with_reducible refine gate_dst (N:=28) rfl ?_);(try(refine gate_guard (by rfl) ?_;dsimp only));refine Kd.N_lit (Kd.int .u8) w.heap.size 5 rfl (N':=28) rfl (xs:=([92,t16,t19]:List Int)) (inner:=[.int .u8 92,.int .u8 t16,.int .u8 t19]) (ok:=(fun k_=>(w.heap.size≤k_)∧some k_≠(v2:Value).ownBlock)) (okp:=(fun k_=>(w.heap.size≤k_)∧some k_≠(v2:Value).ownBlock)) ?hr ?hp (fun _ hk_=>hk_) ?hf (by repeat(first|(with_reducible first|exact HB.out|apply below_alloc|apply pw_below_drewN|apply below_drew1)|exact HB.out)) (below_size (by repeat(first|(with_reducible first|exact HB.out|apply below_alloc|apply pw_below_drewN|apply below_drew1)|exact HB.out))) (by first|simp|decide) ?_;(case hr=>first|(go_simp;done)|(go_simp;rfl));(case hp=>exact(Reps.one (fun _ _=>rfl) (Reps.one (fun _ _=>rfl) (Reps.one (fun _ _=>rfl) (Reps.none _ _)))));(case hf=>exact(show ∀ k_,w6.heap.size≤k_→(fun k_=>(w.heap.size≤k_)∧some k_≠(v2:Value).ownBlock) k_ from fun k_ h_=>⟨(Nat.le_trans (below_size (by repeat(first|(with_reducible first|exact HB.out|apply below_alloc|apply pw_below_drewN|apply below_drew1)|exact HB.out))) h_),Kd.fresh' (Kd.N_lt (by(with_reducible repeat(first|apply Kd.N_alloc|apply Kd.N_drewN|apply Kd.N_drew));exact HN3.out)) k_ h_⟩) _ (Nat.le_refl _));intro v22 w23 hn1 hb1 hg1 hat1);replace hat1:=za hat1;refine stop_ ?_)
     refine zg ?_
     replace hat1:=hat1.out
     have hbe:=MW.grown_below hg1
     have hba:=MW.base_of hat1
     replace HN3:=za (Kd.N_mono (Kd.N_elder' (ok:=(fun k_=>(w.heap.size≤k_))) (by(with_reducible repeat(first|apply Kd.N_alloc|apply Kd.N_drewN|apply Kd.N_drew));exact HN3.out) hba hbe) (fun k_ hk_=>hk_):Kd.N (Kd.int .u8) _ _ _ (fun k_=>(w.heap.size≤k_)∧some k_≠(v22:Value).ownBlock) _ _)
     replace HB:=za hb1
     have HN24:=za hn1
     clear hn1 hb1 hg1 hat1 hbe hba
     obtain⟨A25,cp26,he_⟩:=Kd.N_slice HN24.out
     subst he_
     have HF27:=za (Kd.N_F HN24.out)
     clear HN24
     replace HN3:=za (Kd.N_mono (ok:=(fun k_=>(w.heap.size≤k_)∧some k_≠((.slice A25 ([92,t16,t19]:List Int).length cp26):Value).ownBlock)) HN3.out (fun k_ hk_=>hk_.1):Kd.N (Kd.int .u8) _ _ _ (fun k_=>(w.heap.size≤k_)) _ _)
     obtain⟨HH,LMc29⟩:=zlm HH
     obtain⟨y30,hy30⟩:∃ y_:List Int,y_=(x1++([92,t16,t19]:List Int)):=⟨_,rfl⟩
     have H:((toponymref18_Value.l0 k5 y30 (wrap64 (x4+1)) a0))=some r:=by rw[hy30];exact HH.out
     replace HH:=za H
     clear H
     have NYy30:=za hy30
     clear hy30
     go_wp2_with (((with_reducible refine gate_dst (N:=29) rfl ?_);(try(refine gate_guard (by rfl) ?_;dsimp only));refine Kd.N_append_rows (Kd.int .u8) w.heap.size rfl _ _ 72 5 (.int .u8 0) 1 rfl Try.underlying72 info5 rfl (by decide) (by decide) (v2) x1 ([92,t16,t19]:List Int) _ _ _ (fun k_=>(w.heap.size≤k_)) (fun k_=>(fun k_=>(w.heap.size≤k_)) k_∧some k_≠(v2:Value).ownBlock) rfl rfl HN3.out (Kd.F_mono (ok:=(fun k_=>(w.heap.size≤k_)∧some k_≠(v2:Value).ownBlock)) HF27.out (fun k_ hk_=>⟨hk_.1,hk_.2⟩)) (fun _ hk_=>hk_) (fun k_ h_=>(Nat.le_trans (below_size HB.out) h_)) HB.out (below_size HB.out) (by first|(have:=LMc29.out;simp only[List.length_nil] at *;omega)|(have:=LMc29.out;simp at *;omega)) ?_;intro v31 w32 hn1 hb1 hg1 hat1);replace hat1:=za hat1;refine stop_ ?_)
     refine zg ?_
     replace hat1:=hat1.out
     replace HB:=za hb1
     clear HN3
     have HN33:=za hn1
     clear hn1 hb1 hg1 hat1
     replace HN33:=za (by rw[NYy30.out];exact HN33.out:Kd.N (Kd.int .u8) 5 w32 w.heap.size (fun k_=>(w.heap.size≤k_)) v31 y30)
     go_wp2
     go_roundg k5
     case measure=>have:=HK0.out;omega
     case rel=>exact⟨y30,wrap64 (x4+1),(by first|rfl|(simp;done)|(simp[*];done)),HH,⟨by have:=HK0.out;omega⟩,⟨(Kd.N_mono (ok:=(fun k_=>(w.heap.size≤k_))) HN33.out (fun k_ hk_=>hk_))⟩,⟨HB.out⟩⟩
    replace HH:=zqe HH
    rcases HH with⟨HH,hk37,hk38⟩|⟨HH,hk57,hk58⟩
    ·replace HH:=zd HH
     obtain⟨t39,At40,HH⟩:=HH
     go_wp2_with ((with_reducible refine gc 44 rfl ?_);refine zc 44 (some 24) Try.func44 #[.int .u8 ((Int.tdiv (bt a0 x4) 16) % 256)] (h:=?_);(with_reducible refine(toponymref18_hex.calls  ((Int.tdiv (bt a0 x4) 16) % 256) t39 _  At40.out).mono ?_);rintro e w' ⟨rfl,⟨nd,rfl⟩⟩;refine⟨_,rfl,?_⟩)
     refine zg ?_
     replace HH:=zd HH
     obtain⟨t42,At43,HH⟩:=HH
     go_wp2_with ((with_reducible refine gc 44 rfl ?_);refine zc 44 (some 27) Try.func44 #[.int .u8 (Int.tmod (bt a0 x4) 16)] (h:=?_);(with_reducible refine(toponymref18_hex.calls  (Int.tmod (bt a0 x4) 16) t42 _  At43.out).mono ?_);rintro e w' ⟨rfl,⟨nd,rfl⟩⟩;refine⟨_,rfl,?_⟩)
     refine zg ?_
     go_wp2_with (((with_reducible refine gate_dst (N:=28) rfl ?_);(try(refine gate_guard (by rfl) ?_;dsimp only));refine Kd.N_lit (Kd.int .u8) w.heap.size 5 rfl (N':=28) rfl (xs:=([92,t39,t42]:List Int)) (inner:=[.int .u8 92,.int .u8 t39,.int .u8 t42]) (ok:=(fun k_=>(w.heap.size≤k_)∧some k_≠(v2:Value).ownBlock)) (okp:=(fun k_=>(w.heap.size≤k_)∧some k_≠(v2:Value).ownBlock)) ?hr ?hp (fun _ hk_=>hk_) ?hf (by repeat(first|(with_reducible first|exact HB.out|apply below_alloc|apply pw_below_drewN|apply below_drew1)|exact HB.out)) (below_size (by repeat(first|(with_reducible first|exact HB.out|apply below_alloc|apply pw_below_drewN|apply below_drew1)|exact HB.out))) (by first|simp|decide) ?_;(case hr=>first|(go_simp;done)|(go_simp;rfl));(case hp=>exact(Reps.one (fun _ _=>rfl) (Reps.one (fun _ _=>rfl) (Reps.one (fun _ _=>rfl) (Reps.none _ _)))));(case hf=>exact(show ∀ k_,w6.heap.size≤k_→(fun k_=>(w.heap.size≤k_)∧some k_≠(v2:Value).ownBlock) k_ from fun k_ h_=>⟨(Nat.le_trans (below_size (by repeat(first|(with_reducible first|exact HB.out|apply below_alloc|apply pw_below_drewN|apply below_drew1)|exact HB.out))) h_),Kd.fresh' (Kd.N_lt (by(with_reducible repeat(first|apply Kd.N_alloc|apply Kd.N_drewN|apply Kd.N_drew));exact HN3.out)) k_ h_⟩) _ (Nat.le_refl _));intro v45 w46 hn1 hb1 hg1 hat1);replace hat1:=za hat1;refine stop_ ?_)
     refine zg ?_
     replace hat1:=hat1.out
     have hbe:=MW.grown_below hg1
     have hba:=MW.base_of hat1
     replace HN3:=za (Kd.N_mono (Kd.N_elder' (ok:=(fun k_=>(w.heap.size≤k_))) (by(with_reducible repeat(first|apply Kd.N_alloc|apply Kd.N_drewN|apply Kd.N_drew));exact HN3.out) hba hbe) (fun k_ hk_=>hk_):Kd.N (Kd.int .u8) _ _ _ (fun k_=>(w.heap.size≤k_)∧some k_≠(v45:Value).ownBlock) _ _)
     replace HB:=za hb1
     have HN47:=za hn1
     clear hn1 hb1 hg1 hat1 hbe hba
     obtain⟨A48,cp49,he_⟩:=Kd.N_slice HN47.out
     subst he_
     have HF50:=za (Kd.N_F HN47.out)
     clear HN47
     replace HN3:=za (Kd.N_mono (ok:=(fun k_=>(w.heap.size≤k_)∧some k_≠((.slice A48 ([92,t39,t42]:List Int).length cp49):Value).ownBlock)) HN3.out (fun k_ hk_=>hk_.1):Kd.N (Kd.int .u8) _ _ _ (fun k_=>(w.heap.size≤k_)) _ _)
     obtain⟨HH,LMc52⟩:=zlm HH
     obtain⟨y53,hy53⟩:∃ y_:List Int,y_=(x1++([92,t39,t42]:List Int)):=⟨_,rfl⟩
     have H:((toponymref18_Value.l0 k5 y53 (wrap64 (x4+1)) a0))=some r:=by rw[hy53];exact HH.out
     replace HH:=za H
     clear H
     have NYy53:=za hy53
     clear hy53
     go_wp2_with (((with_reducible refine gate_dst (N:=29) rfl ?_);(try(refine gate_guard (by rfl) ?_;dsimp only));refine Kd.N_append_rows (Kd.int .u8) w.heap.size rfl _ _ 72 5 (.int .u8 0) 1 rfl Try.underlying72 info5 rfl (by decide) (by decide) (v2) x1 ([92,t39,t42]:List Int) _ _ _ (fun k_=>(w.heap.size≤k_)) (fun k_=>(fun k_=>(w.heap.size≤k_)) k_∧some k_≠(v2:Value).ownBlock) rfl rfl HN3.out (Kd.F_mono (ok:=(fun k_=>(w.heap.size≤k_)∧some k_≠(v2:Value).ownBlock)) HF50.out (fun k_ hk_=>⟨hk_.1,hk_.2⟩)) (fun _ hk_=>hk_) (fun k_ h_=>(Nat.le_trans (below_size HB.out) h_)) HB.out (below_size HB.out) (by first|(have:=LMc52.out;simp only[List.length_nil] at *;omega)|(have:=LMc52.out;simp at *;omega)) ?_;intro v54 w55 hn1 hb1 hg1 hat1);replace hat1:=za hat1;refine stop_ ?_)
     refine zg ?_
     replace hat1:=hat1.out
     replace HB:=za hb1
     clear HN3
     have HN56:=za hn1
     clear hn1 hb1 hg1 hat1
     replace HN56:=za (by rw[NYy53.out];exact HN56.out:Kd.N (Kd.int .u8) 5 w55 w.heap.size (fun k_=>(w.heap.size≤k_)) v54 y53)
     go_wp2
     go_roundg k5
     case measure=>have:=HK0.out;omega
     case rel=>exact⟨y53,wrap64 (x4+1),(by first|rfl|(simp;done)|(simp[*];done)),HH,⟨by have:=HK0.out;omega⟩,⟨(Kd.N_mono (ok:=(fun k_=>(w.heap.size≤k_))) HN56.out (fun k_ hk_=>hk_))⟩,⟨HB.out⟩⟩
    replace HH:=zd HH
    obtain⟨t59,At60,HH⟩:=HH
    go_wp2_with ((with_reducible refine gc 45 rfl ?_);refine zc 45 (some 31) Try.func45 #[.int .u8 (bt a0 x4)] (h:=?_);(with_reducible refine(toponymref18_sign.calls  (bt a0 x4) t59 _  At60.out).mono ?_);rintro e w' ⟨rfl,⟨nd,rfl⟩⟩;refine⟨_,rfl,?_⟩)
    refine zg ?_
    by_cases c62:t59=true
    ·replace HH:=MW.hpos HH c62
     subst c62
     obtain⟨HH,LMc63⟩:=zlm HH
     obtain⟨y64,hy64⟩:∃ y_:List Int,y_=(x1++[92]):=⟨_,rfl⟩
     have H:(if y64.length<140737488355328 then((some (y64++[bt a0 x4]:List Int)).bind fun y69=>((toponymref18_Value.l0 k5 y69 (wrap64 (x4+1)) a0))) else(none))=some r:=by rw[hy64];exact HH.out
     replace HH:=za H
     clear H
     have NYy64:=za hy64
     clear hy64
     go_wp2_with (((with_reducible refine gate_dst (N:=61) rfl ?_);(try(refine gate_guard (by rfl) ?_;dsimp only));refine Kd.N_append (Kd.int .u8) w.heap.size rfl _ _ 72 5 (.int .u8 0) 1 rfl Try.underlying72 info5 rfl (by decide) (by decide) (v2) x1 92 [.int .u8 92] (fun k_=>(w.heap.size≤k_)) (fun k_=>(fun k_=>(w.heap.size≤k_)) k_∧some k_≠(v2:Value).ownBlock) rfl rfl (fun _ _=>rfl) (fun _ hk_=>hk_) (fun k_ h_=>(Nat.le_trans (below_size (by repeat(first|(with_reducible first|exact HB.out|apply below_alloc|apply pw_below_drewN|apply below_drew1)|exact HB.out))) h_)) (by(with_reducible repeat(first|apply Kd.N_alloc|apply Kd.N_drewN|apply Kd.N_drew));exact HN3.out) (by repeat(first|(with_reducible first|exact HB.out|apply below_alloc|apply pw_below_drewN|apply below_drew1)|exact HB.out)) (below_size (by repeat(first|(with_reducible first|exact HB.out|apply below_alloc|apply pw_below_drewN|apply below_drew1)|exact HB.out))) (by first|(have:=LMc63.out;omega)|(have:=LMc63.out;simp at *;omega)) ?_;intro v65 w66 hn1 hb1 hg1 hat1);replace hat1:=za hat1;refine stop_ ?_)
     refine zg ?_
     replace hat1:=hat1.out
     replace HB:=za hb1
     clear HN3
     have HN67:=za hn1
     clear hn1 hb1 hg1 hat1
     replace HN67:=za (by rw[NYy64.out];exact HN67.out:Kd.N (Kd.int .u8) 5 w66 w.heap.size (fun k_=>(w.heap.size≤k_)) v65 y64)
     obtain⟨HH,LMc68⟩:=zlm HH
     obtain⟨y69,hy69⟩:∃ y_:List Int,y_=(y64++[bt a0 x4]):=⟨_,rfl⟩
     have H:((toponymref18_Value.l0 k5 y69 (wrap64 (x4+1)) a0))=some r:=by rw[hy69];exact HH.out
     replace HH:=za H
     clear H
     have NYy69:=za hy69
     clear hy69
     go_wp2_with (((with_reducible refine gate_dst (N:=65) rfl ?_);(try(refine gate_guard (by rfl) ?_;dsimp only));refine Kd.N_append (Kd.int .u8) w.heap.size rfl _ _ 72 5 (.int .u8 0) 1 rfl Try.underlying72 info5 rfl (by decide) (by decide) (v65) y64 (bt a0 x4) [.int .u8 (bt a0 x4)] (fun k_=>(w.heap.size≤k_)) (fun k_=>(fun k_=>(w.heap.size≤k_)) k_∧some k_≠(v65:Value).ownBlock) rfl rfl (fun _ _=>rfl) (fun _ hk_=>hk_) (fun k_ h_=>(Nat.le_trans (below_size (by repeat(first|(with_reducible first|exact HB.out|apply below_alloc|apply pw_below_drewN|apply below_drew1)|exact HB.out))) h_)) (by(with_reducible repeat(first|apply Kd.N_alloc|apply Kd.N_drewN|apply Kd.N_drew));exact HN67.out) (by repeat(first|(with_reducible first|exact HB.out|apply below_alloc|apply pw_below_drewN|apply below_drew1)|exact HB.out)) (below_size (by repeat(first|(with_reducible first|exact HB.out|apply below_alloc|apply pw_below_drewN|apply below_drew1)|exact HB.out))) (by first|(have:=LMc68.out;omega)|(have:=LMc68.out;simp at *;omega)) ?_;intro v70 w71 hn1 hb1 hg1 hat1);replace hat1:=za hat1;refine stop_ ?_)
     refine zg ?_
     replace hat1:=hat1.out
     replace HB:=za hb1
     clear HN67
     have HN72:=za hn1
     clear hn1 hb1 hg1 hat1
     replace HN72:=za (by rw[NYy69.out];exact HN72.out:Kd.N (Kd.int .u8) 5 w71 w.heap.size (fun k_=>(w.heap.size≤k_)) v70 y69)
     go_wp2
     go_roundg k5
     case measure=>have:=HK0.out;omega
     case rel=>exact⟨y69,wrap64 (x4+1),(by first|rfl|(simp;done)|(simp[*];done)),HH,⟨by have:=HK0.out;omega⟩,⟨(Kd.N_mono (ok:=(fun k_=>(w.heap.size≤k_))) HN72.out (fun k_ hk_=>hk_))⟩,⟨HB.out⟩⟩
    replace HH:=MW.hneg HH c62
    replace c62:=Bool.eq_false_iff.mpr c62
    subst c62
    replace HH:=zqe HH
    rcases HH with⟨HH,hk74,hk75⟩|⟨HH,hk121,hk122⟩
    ·replace HH:=zqe HH
     rcases HH with⟨HH,hk77,hk78⟩|⟨HH,hk89,hk90⟩
     ·obtain⟨HH,LMc79⟩:=zlm HH
      obtain⟨y80,hy80⟩:∃ y_:List Int,y_=(x1++[92]):=⟨_,rfl⟩
      have H:(if y80.length<140737488355328 then((some (y80++[bt a0 x4]:List Int)).bind fun y85=>((toponymref18_Value.l0 k5 y85 (wrap64 (x4+1)) a0))) else(none))=some r:=by rw[hy80];exact HH.out
      replace HH:=za H
      clear H
      have NYy80:=za hy80
      clear hy80
      go_wp2_with (((with_reducible refine gate_dst (N:=61) rfl ?_);(try(refine gate_guard (by rfl) ?_;dsimp only));refine Kd.N_append (Kd.int .u8) w.heap.size rfl _ _ 72 5 (.int .u8 0) 1 rfl Try.underlying72 info5 rfl (by decide) (by decide) (v2) x1 92 [.int .u8 92] (fun k_=>(w.heap.size≤k_)) (fun k_=>(fun k_=>(w.heap.size≤k_)) k_∧some k_≠(v2:Value).ownBlock) rfl rfl (fun _ _=>rfl) (fun _ hk_=>hk_) (fun k_ h_=>(Nat.le_trans (below_size (by repeat(first|(with_reducible first|exact HB.out|apply below_alloc|apply pw_below_drewN|apply below_drew1)|exact HB.out))) h_)) (by(with_reducible repeat(first|apply Kd.N_alloc|apply Kd.N_drewN|apply Kd.N_drew));exact HN3.out) (by repeat(first|(with_reducible first|exact HB.out|apply below_alloc|apply pw_below_drewN|apply below_drew1)|exact HB.out)) (below_size (by repeat(first|(with_reducible first|exact HB.out|apply below_alloc|apply pw_below_drewN|apply below_drew1)|exact HB.out))) (by first|(have:=LMc79.out;omega)|(have:=LMc79.out;simp at *;omega)) ?_;intro v81 w82 hn1 hb1 hg1 hat1);replace hat1:=za hat1;refine stop_ ?_)
      refine zg ?_
      replace hat1:=hat1.out
      replace HB:=za hb1
      clear HN3
      have HN83:=za hn1
      clear hn1 hb1 hg1 hat1
      replace HN83:=za (by rw[NYy80.out];exact HN83.out:Kd.N (Kd.int .u8) 5 w82 w.heap.size (fun k_=>(w.heap.size≤k_)) v81 y80)
      obtain⟨HH,LMc84⟩:=zlm HH
      obtain⟨y85,hy85⟩:∃ y_:List Int,y_=(y80++[bt a0 x4]):=⟨_,rfl⟩
      have H:((toponymref18_Value.l0 k5 y85 (wrap64 (x4+1)) a0))=some r:=by rw[hy85];exact HH.out
      replace HH:=za H
      clear H
      have NYy85:=za hy85
      clear hy85
      go_wp2_with (((with_reducible refine gate_dst (N:=65) rfl ?_);(try(refine gate_guard (by rfl) ?_;dsimp only));refine Kd.N_append (Kd.int .u8) w.heap.size rfl _ _ 72 5 (.int .u8 0) 1 rfl Try.underlying72 info5 rfl (by decide) (by decide) (v81) y80 (bt a0 x4) [.int .u8 (bt a0 x4)] (fun k_=>(w.heap.size≤k_)) (fun k_=>(fun k_=>(w.heap.size≤k_)) k_∧some k_≠(v81:Value).ownBlock) rfl rfl (fun _ _=>rfl) (fun _ hk_=>hk_) (fun k_ h_=>(Nat.le_trans (below_size (by repeat(first|(with_reducible first|exact HB.out|apply below_alloc|apply pw_below_drewN|apply below_drew1)|exact HB.out))) h_)) (by(with_reducible repeat(first|apply Kd.N_alloc|apply Kd.N_drewN|apply Kd.N_drew));exact HN83.out) (by repeat(first|(with_reducible first|exact HB.out|apply below_alloc|apply pw_below_drewN|apply below_drew1)|exact HB.out)) (below_size (by repeat(first|(with_reducible first|exact HB.out|apply below_alloc|apply pw_below_drewN|apply below_drew1)|exact HB.out))) (by first|(have:=LMc84.out;omega)|(have:=LMc84.out;simp at *;omega)) ?_;intro v86 w87 hn1 hb1 hg1 hat1);replace hat1:=za hat1;refine stop_ ?_)
      refine zg ?_
      replace hat1:=hat1.out
      replace HB:=za hb1
      clear HN83
      have HN88:=za hn1
      clear hn1 hb1 hg1 hat1
      replace HN88:=za (by rw[NYy85.out];exact HN88.out:Kd.N (Kd.int .u8) 5 w87 w.heap.size (fun k_=>(w.heap.size≤k_)) v86 y85)
      go_wp2
      go_roundg k5
      case measure=>have:=HK0.out;omega
      case rel=>exact⟨y85,wrap64 (x4+1),(by first|rfl|(simp;done)|(simp[*];done)),HH,⟨by have:=HK0.out;omega⟩,⟨(Kd.N_mono (ok:=(fun k_=>(w.heap.size≤k_))) HN88.out (fun k_ hk_=>hk_))⟩,⟨HB.out⟩⟩
     replace HH:=zqe HH
     rcases HH with⟨HH,hk92,hk93⟩|⟨HH,hk104,hk105⟩
     ·obtain⟨HH,LMc94⟩:=zlm HH
      obtain⟨y95,hy95⟩:∃ y_:List Int,y_=(x1++[92]):=⟨_,rfl⟩
      have H:(if y95.length<140737488355328 then((some (y95++[bt a0 x4]:List Int)).bind fun y100=>((toponymref18_Value.l0 k5 y100 (wrap64 (x4+1)) a0))) else(none))=some r:=by rw[hy95];exact HH.out
      replace HH:=za H
      clear H
      have NYy95:=za hy95
      clear hy95
      go_wp2_with (((with_reducible refine gate_dst (N:=61) rfl ?_);(try(refine gate_guard (by rfl) ?_;dsimp only));refine Kd.N_append (Kd.int .u8) w.heap.size rfl _ _ 72 5 (.int .u8 0) 1 rfl Try.underlying72 info5 rfl (by decide) (by decide) (v2) x1 92 [.int .u8 92] (fun k_=>(w.heap.size≤k_)) (fun k_=>(fun k_=>(w.heap.size≤k_)) k_∧some k_≠(v2:Value).ownBlock) rfl rfl (fun _ _=>rfl) (fun _ hk_=>hk_) (fun k_ h_=>(Nat.le_trans (below_size (by repeat(first|(with_reducible first|exact HB.out|apply below_alloc|apply pw_below_drewN|apply below_drew1)|exact HB.out))) h_)) (by(with_reducible repeat(first|apply Kd.N_alloc|apply Kd.N_drewN|apply Kd.N_drew));exact HN3.out) (by repeat(first|(with_reducible first|exact HB.out|apply below_alloc|apply pw_below_drewN|apply below_drew1)|exact HB.out)) (below_size (by repeat(first|(with_reducible first|exact HB.out|apply below_alloc|apply pw_below_drewN|apply below_drew1)|exact HB.out))) (by first|(have:=LMc94.out;omega)|(have:=LMc94.out;simp at *;omega)) ?_;intro v96 w97 hn1 hb1 hg1 hat1);replace hat1:=za hat1;refine stop_ ?_)
      refine zg ?_
      replace hat1:=hat1.out
      replace HB:=za hb1
      clear HN3
      have HN98:=za hn1
      clear hn1 hb1 hg1 hat1
      replace HN98:=za (by rw[NYy95.out];exact HN98.out:Kd.N (Kd.int .u8) 5 w97 w.heap.size (fun k_=>(w.heap.size≤k_)) v96 y95)
      obtain⟨HH,LMc99⟩:=zlm HH
      obtain⟨y100,hy100⟩:∃ y_:List Int,y_=(y95++[bt a0 x4]):=⟨_,rfl⟩
      have H:((toponymref18_Value.l0 k5 y100 (wrap64 (x4+1)) a0))=some r:=by rw[hy100];exact HH.out
      replace HH:=za H
      clear H
      have NYy100:=za hy100
      clear hy100
      go_wp2_with (((with_reducible refine gate_dst (N:=65) rfl ?_);(try(refine gate_guard (by rfl) ?_;dsimp only));refine Kd.N_append (Kd.int .u8) w.heap.size rfl _ _ 72 5 (.int .u8 0) 1 rfl Try.underlying72 info5 rfl (by decide) (by decide) (v96) y95 (bt a0 x4) [.int .u8 (bt a0 x4)] (fun k_=>(w.heap.size≤k_)) (fun k_=>(fun k_=>(w.heap.size≤k_)) k_∧some k_≠(v96:Value).ownBlock) rfl rfl (fun _ _=>rfl) (fun _ hk_=>hk_) (fun k_ h_=>(Nat.le_trans (below_size (by repeat(first|(with_reducible first|exact HB.out|apply below_alloc|apply pw_below_drewN|apply below_drew1)|exact HB.out))) h_)) (by(with_reducible repeat(first|apply Kd.N_alloc|apply Kd.N_drewN|apply Kd.N_drew));exact HN98.out) (by repeat(first|(with_reducible first|exact HB.out|apply below_alloc|apply pw_below_drewN|apply below_drew1)|exact HB.out)) (below_size (by repeat(first|(with_reducible first|exact HB.out|apply below_alloc|apply pw_below_drewN|apply below_drew1)|exact HB.out))) (by first|(have:=LMc99.out;omega)|(have:=LMc99.out;simp at *;omega)) ?_;intro v101 w102 hn1 hb1 hg1 hat1);replace hat1:=za hat1;refine stop_ ?_)
      refine zg ?_
      replace hat1:=hat1.out
      replace HB:=za hb1
      clear HN98
      have HN103:=za hn1
      clear hn1 hb1 hg1 hat1
      replace HN103:=za (by rw[NYy100.out];exact HN103.out:Kd.N (Kd.int .u8) 5 w102 w.heap.size (fun k_=>(w.heap.size≤k_)) v101 y100)
      go_wp2
      go_roundg k5
      case measure=>have:=HK0.out;omega
      case rel=>exact⟨y100,wrap64 (x4+1),(by first|rfl|(simp;done)|(simp[*];done)),HH,⟨by have:=HK0.out;omega⟩,⟨(Kd.N_mono (ok:=(fun k_=>(w.heap.size≤k_))) HN103.out (fun k_ hk_=>hk_))⟩,⟨HB.out⟩⟩
     replace HH:=zqe HH
     rcases HH with⟨HH,hk107,hk108⟩|⟨HH,hk114,hk115⟩
     ·obtain⟨HH,LMc109⟩:=zlm HH
      obtain⟨y110,hy110⟩:∃ y_:List Int,y_=(x1++[bt a0 x4]):=⟨_,rfl⟩
      have H:((toponymref18_Value.l0 k5 y110 (wrap64 (x4+1)) a0))=some r:=by rw[hy110];exact HH.out
      replace HH:=za H
      clear H
      have NYy110:=za hy110
      clear hy110
      go_wp2_with (((with_reducible refine gate_dst (N:=65) rfl ?_);(try(refine gate_guard (by rfl) ?_;dsimp only));refine Kd.N_append (Kd.int .u8) w.heap.size rfl _ _ 72 5 (.int .u8 0) 1 rfl Try.underlying72 info5 rfl (by decide) (by decide) (v2) x1 (bt a0 x4) [.int .u8 (bt a0 x4)] (fun k_=>(w.heap.size≤k_)) (fun k_=>(fun k_=>(w.heap.size≤k_)) k_∧some k_≠(v2:Value).ownBlock) rfl rfl (fun _ _=>rfl) (fun _ hk_=>hk_) (fun k_ h_=>(Nat.le_trans (below_size (by repeat(first|(with_reducible first|exact HB.out|apply below_alloc|apply pw_below_drewN|apply below_drew1)|exact HB.out))) h_)) (by(with_reducible repeat(first|apply Kd.N_alloc|apply Kd.N_drewN|apply Kd.N_drew));exact HN3.out) (by repeat(first|(with_reducible first|exact HB.out|apply below_alloc|apply pw_below_drewN|apply below_drew1)|exact HB.out)) (below_size (by repeat(first|(with_reducible first|exact HB.out|apply below_alloc|apply pw_below_drewN|apply below_drew1)|exact HB.out))) (by first|(have:=LMc109.out;omega)|(have:=LMc109.out;simp at *;omega)) ?_;intro v111 w112 hn1 hb1 hg1 hat1);replace hat1:=za hat1;refine stop_ ?_)
      refine zg ?_
      replace hat1:=hat1.out
      replace HB:=za hb1
      clear HN3
      have HN113:=za hn1
      clear hn1 hb1 hg1 hat1
      replace HN113:=za (by rw[NYy110.out];exact HN113.out:Kd.N (Kd.int .u8) 5 w112 w.heap.size (fun k_=>(w.heap.size≤k_)) v111 y110)
      go_wp2
      go_roundg k5
      case measure=>have:=HK0.out;omega
      case rel=>exact⟨y110,wrap64 (x4+1),(by first|rfl|(simp;done)|(simp[*];done)),HH,⟨by have:=HK0.out;omega⟩,⟨(Kd.N_mono (ok:=(fun k_=>(w.heap.size≤k_))) HN113.out (fun k_ hk_=>hk_))⟩,⟨HB.out⟩⟩
     obtain⟨HH,LMc116⟩:=zlm HH
     obtain⟨y117,hy117⟩:∃ y_:List Int,y_=(x1++[bt a0 x4]):=⟨_,rfl⟩
     have H:((toponymref18_Value.l0 k5 y117 (wrap64 (x4+1)) a0))=some r:=by rw[hy117];exact HH.out
     replace HH:=za H
     clear H
     have NYy117:=za hy117
     clear hy117
     go_wp2_with (((with_reducible refine gate_dst (N:=65) rfl ?_);(try(refine gate_guard (by rfl) ?_;dsimp only));refine Kd.N_append (Kd.int .u8) w.heap.size rfl _ _ 72 5 (.int .u8 0) 1 rfl Try.underlying72 info5 rfl (by decide) (by decide) (v2) x1 (bt a0 x4) [.int .u8 (bt a0 x4)] (fun k_=>(w.heap.size≤k_)) (fun k_=>(fun k_=>(w.heap.size≤k_)) k_∧some k_≠(v2:Value).ownBlock) rfl rfl (fun _ _=>rfl) (fun _ hk_=>hk_) (fun k_ h_=>(Nat.le_trans (below_size (by repeat(first|(with_reducible first|exact HB.out|apply below_alloc|apply pw_below_drewN|apply below_drew1)|exact HB.out))) h_)) (by(with_reducible repeat(first|apply Kd.N_alloc|apply Kd.N_drewN|apply Kd.N_drew));exact HN3.out) (by repeat(first|(with_reducible first|exact HB.out|apply below_alloc|apply pw_below_drewN|apply below_drew1)|exact HB.out)) (below_size (by repeat(first|(with_reducible first|exact HB.out|apply below_alloc|apply pw_below_drewN|apply below_drew1)|exact HB.out))) (by first|(have:=LMc116.out;omega)|(have:=LMc116.out;simp at *;omega)) ?_;intro v118 w119 hn1 hb1 hg1 hat1);replace hat1:=za hat1;refine stop_ ?_)
     refine zg ?_
     replace hat1:=hat1.out
     replace HB:=za hb1
     clear HN3
     have HN120:=za hn1
     clear hn1 hb1 hg1 hat1
     replace HN120:=za (by rw[NYy117.out];exact HN120.out:Kd.N (Kd.int .u8) 5 w119 w.heap.size (fun k_=>(w.heap.size≤k_)) v118 y117)
     go_wp2
     go_roundg k5
     case measure=>have:=HK0.out;omega
     case rel=>exact⟨y117,wrap64 (x4+1),(by first|rfl|(simp;done)|(simp[*];done)),HH,⟨by have:=HK0.out;omega⟩,⟨(Kd.N_mono (ok:=(fun k_=>(w.heap.size≤k_))) HN120.out (fun k_ hk_=>hk_))⟩,⟨HB.out⟩⟩
    replace HH:=zqe HH
    rcases HH with⟨HH,hk124,hk125⟩|⟨HH,hk146,hk147⟩
    ·replace HH:=zqe HH
     rcases HH with⟨HH,hk127,hk128⟩|⟨HH,hk139,hk140⟩
     ·obtain⟨HH,LMc129⟩:=zlm HH
      obtain⟨y130,hy130⟩:∃ y_:List Int,y_=(x1++[92]):=⟨_,rfl⟩
      have H:(if y130.length<140737488355328 then((some (y130++[bt a0 x4]:List Int)).bind fun y135=>((toponymref18_Value.l0 k5 y135 (wrap64 (x4+1)) a0))) else(none))=some r:=by rw[hy130];exact HH.out
      replace HH:=za H
      clear H
      have NYy130:=za hy130
      clear hy130
      go_wp2_with (((with_reducible refine gate_dst (N:=61) rfl ?_);(try(refine gate_guard (by rfl) ?_;dsimp only));refine Kd.N_append (Kd.int .u8) w.heap.size rfl _ _ 72 5 (.int .u8 0) 1 rfl Try.underlying72 info5 rfl (by decide) (by decide) (v2) x1 92 [.int .u8 92] (fun k_=>(w.heap.size≤k_)) (fun k_=>(fun k_=>(w.heap.size≤k_)) k_∧some k_≠(v2:Value).ownBlock) rfl rfl (fun _ _=>rfl) (fun _ hk_=>hk_) (fun k_ h_=>(Nat.le_trans (below_size (by repeat(first|(with_reducible first|exact HB.out|apply below_alloc|apply pw_below_drewN|apply below_drew1)|exact HB.out))) h_)) (by(with_reducible repeat(first|apply Kd.N_alloc|apply Kd.N_drewN|apply Kd.N_drew));exact HN3.out) (by repeat(first|(with_reducible first|exact HB.out|apply below_alloc|apply pw_below_drewN|apply below_drew1)|exact HB.out)) (below_size (by repeat(first|(with_reducible first|exact HB.out|apply below_alloc|apply pw_below_drewN|apply below_drew1)|exact HB.out))) (by first|(have:=LMc129.out;omega)|(have:=LMc129.out;simp at *;omega)) ?_;intro v131 w132 hn1 hb1 hg1 hat1);replace hat1:=za hat1;refine stop_ ?_)
      refine zg ?_
      replace hat1:=hat1.out
      replace HB:=za hb1
      clear HN3
      have HN133:=za hn1
      clear hn1 hb1 hg1 hat1
      replace HN133:=za (by rw[NYy130.out];exact HN133.out:Kd.N (Kd.int .u8) 5 w132 w.heap.size (fun k_=>(w.heap.size≤k_)) v131 y130)
      obtain⟨HH,LMc134⟩:=zlm HH
      obtain⟨y135,hy135⟩:∃ y_:List Int,y_=(y130++[bt a0 x4]):=⟨_,rfl⟩
      have H:((toponymref18_Value.l0 k5 y135 (wrap64 (x4+1)) a0))=some r:=by rw[hy135];exact HH.out
      replace HH:=za H
      clear H
      have NYy135:=za hy135
      clear hy135
      go_wp2_with (((with_reducible refine gate_dst (N:=65) rfl ?_);(try(refine gate_guard (by rfl) ?_;dsimp only));refine Kd.N_append (Kd.int .u8) w.heap.size rfl _ _ 72 5 (.int .u8 0) 1 rfl Try.underlying72 info5 rfl (by decide) (by decide) (v131) y130 (bt a0 x4) [.int .u8 (bt a0 x4)] (fun k_=>(w.heap.size≤k_)) (fun k_=>(fun k_=>(w.heap.size≤k_)) k_∧some k_≠(v131:Value).ownBlock) rfl rfl (fun _ _=>rfl) (fun _ hk_=>hk_) (fun k_ h_=>(Nat.le_trans (below_size (by repeat(first|(with_reducible first|exact HB.out|apply below_alloc|apply pw_below_drewN|apply below_drew1)|exact HB.out))) h_)) (by(with_reducible repeat(first|apply Kd.N_alloc|apply Kd.N_drewN|apply Kd.N_drew));exact HN133.out) (by repeat(first|(with_reducible first|exact HB.out|apply below_alloc|apply pw_below_drewN|apply below_drew1)|exact HB.out)) (below_size (by repeat(first|(with_reducible first|exact HB.out|apply below_alloc|apply pw_below_drewN|apply below_drew1)|exact HB.out))) (by first|(have:=LMc134.out;omega)|(have:=LMc134.out;simp at *;omega)) ?_;intro v136 w137 hn1 hb1 hg1 hat1);replace hat1:=za hat1;refine stop_ ?_)
      refine zg ?_
      replace hat1:=hat1.out
      replace HB:=za hb1
      clear HN133
      have HN138:=za hn1
      clear hn1 hb1 hg1 hat1
      replace HN138:=za (by rw[NYy135.out];exact HN138.out:Kd.N (Kd.int .u8) 5 w137 w.heap.size (fun k_=>(w.heap.size≤k_)) v136 y135)
      go_wp2
      go_roundg k5
      case measure=>have:=HK0.out;omega
      case rel=>exact⟨y135,wrap64 (x4+1),(by first|rfl|(simp;done)|(simp[*];done)),HH,⟨by have:=HK0.out;omega⟩,⟨(Kd.N_mono (ok:=(fun k_=>(w.heap.size≤k_))) HN138.out (fun k_ hk_=>hk_))⟩,⟨HB.out⟩⟩
     obtain⟨HH,LMc141⟩:=zlm HH
     obtain⟨y142,hy142⟩:∃ y_:List Int,y_=(x1++[bt a0 x4]):=⟨_,rfl⟩
     have H:((toponymref18_Value.l0 k5 y142 (wrap64 (x4+1)) a0))=some r:=by rw[hy142];exact HH.out
     replace HH:=za H
     clear H
     have NYy142:=za hy142
     clear hy142
     go_wp2_with (((with_reducible refine gate_dst (N:=65) rfl ?_);(try(refine gate_guard (by rfl) ?_;dsimp only));refine Kd.N_append (Kd.int .u8) w.heap.size rfl _ _ 72 5 (.int .u8 0) 1 rfl Try.underlying72 info5 rfl (by decide) (by decide) (v2) x1 (bt a0 x4) [.int .u8 (bt a0 x4)] (fun k_=>(w.heap.size≤k_)) (fun k_=>(fun k_=>(w.heap.size≤k_)) k_∧some k_≠(v2:Value).ownBlock) rfl rfl (fun _ _=>rfl) (fun _ hk_=>hk_) (fun k_ h_=>(Nat.le_trans (below_size (by repeat(first|(with_reducible first|exact HB.out|apply below_alloc|apply pw_below_drewN|apply below_drew1)|exact HB.out))) h_)) (by(with_reducible repeat(first|apply Kd.N_alloc|apply Kd.N_drewN|apply Kd.N_drew));exact HN3.out) (by repeat(first|(with_reducible first|exact HB.out|apply below_alloc|apply pw_below_drewN|apply below_drew1)|exact HB.out)) (below_size (by repeat(first|(with_reducible first|exact HB.out|apply below_alloc|apply pw_below_drewN|apply below_drew1)|exact HB.out))) (by first|(have:=LMc141.out;omega)|(have:=LMc141.out;simp at *;omega)) ?_;intro v143 w144 hn1 hb1 hg1 hat1);replace hat1:=za hat1;refine stop_ ?_)
     refine zg ?_
     replace hat1:=hat1.out
     replace HB:=za hb1
     clear HN3
     have HN145:=za hn1
     clear hn1 hb1 hg1 hat1
     replace HN145:=za (by rw[NYy142.out];exact HN145.out:Kd.N (Kd.int .u8) 5 w144 w.heap.size (fun k_=>(w.heap.size≤k_)) v143 y142)
     go_wp2
     go_roundg k5
     case measure=>have:=HK0.out;omega
     case rel=>exact⟨y142,wrap64 (x4+1),(by first|rfl|(simp;done)|(simp[*];done)),HH,⟨by have:=HK0.out;omega⟩,⟨(Kd.N_mono (ok:=(fun k_=>(w.heap.size≤k_))) HN145.out (fun k_ hk_=>hk_))⟩,⟨HB.out⟩⟩
    obtain⟨HH,LMc148⟩:=zlm HH
    obtain⟨y149,hy149⟩:∃ y_:List Int,y_=(x1++[bt a0 x4]):=⟨_,rfl⟩
    have H:((toponymref18_Value.l0 k5 y149 (wrap64 (x4+1)) a0))=some r:=by rw[hy149];exact HH.out
    replace HH:=za H
    clear H
    have NYy149:=za hy149
    clear hy149
    go_wp2_with (((with_reducible refine gate_dst (N:=65) rfl ?_);(try(refine gate_guard (by rfl) ?_;dsimp only));refine Kd.N_append (Kd.int .u8) w.heap.size rfl _ _ 72 5 (.int .u8 0) 1 rfl Try.underlying72 info5 rfl (by decide) (by decide) (v2) x1 (bt a0 x4) [.int .u8 (bt a0 x4)] (fun k_=>(w.heap.size≤k_)) (fun k_=>(fun k_=>(w.heap.size≤k_)) k_∧some k_≠(v2:Value).ownBlock) rfl rfl (fun _ _=>rfl) (fun _ hk_=>hk_) (fun k_ h_=>(Nat.le_trans (below_size (by repeat(first|(with_reducible first|exact HB.out|apply below_alloc|apply pw_below_drewN|apply below_drew1)|exact HB.out))) h_)) (by(with_reducible repeat(first|apply Kd.N_alloc|apply Kd.N_drewN|apply Kd.N_drew));exact HN3.out) (by repeat(first|(with_reducible first|exact HB.out|apply below_alloc|apply pw_below_drewN|apply below_drew1)|exact HB.out)) (below_size (by repeat(first|(with_reducible first|exact HB.out|apply below_alloc|apply pw_below_drewN|apply below_drew1)|exact HB.out))) (by first|(have:=LMc148.out;omega)|(have:=LMc148.out;simp at *;omega)) ?_;intro v150 w151 hn1 hb1 hg1 hat1);replace hat1:=za hat1;refine stop_ ?_)
    refine zg ?_
    replace hat1:=hat1.out
    replace HB:=za hb1
    clear HN3
    have HN152:=za hn1
    clear hn1 hb1 hg1 hat1
    replace HN152:=za (by rw[NYy149.out];exact HN152.out:Kd.N (Kd.int .u8) 5 w151 w.heap.size (fun k_=>(w.heap.size≤k_)) v150 y149)
    go_wp2
    go_roundg k5
    case measure=>have:=HK0.out;omega
    case rel=>exact⟨y149,wrap64 (x4+1),(by first|rfl|(simp;done)|(simp[*];done)),HH,⟨by have:=HK0.out;omega⟩,⟨(Kd.N_mono (ok:=(fun k_=>(w.heap.size≤k_))) HN152.out (fun k_ hk_=>hk_))⟩,⟨HB.out⟩⟩
   obtain⟨A156,cp157,he_⟩:=Kd.N_slice HN3.out
   subst he_
   have HF158:=za (Kd.N_F HN3.out)
   clear HN3
   have hcv160:=Kd.C_string (P:=Try.prog) (A:=A156) (c:=cp157) Try.underlying72 Try.underlying5 Try.underlying9 (Kd.F_now HF158.out)
   obtain rfl:=Option.some.inj HH.out
   clear HH
   go_wp2
   go_ret
   exact zfi HB.out
end Go.Proofs.Ytapinanmmhdpcaa.GA
