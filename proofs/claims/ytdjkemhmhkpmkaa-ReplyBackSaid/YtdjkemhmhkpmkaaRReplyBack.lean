/- The law ReplyBack returns true of every input of which the row speaks, and what came in reads as before: the row, out of the plain law and the walk. -/
import Derived.Test.YtdjkemhmhkpmkaaRows
import Derived.Test.YtdjkemhmhkpmkaaGAF6
import Derived.Test.YtdjkemhmhkpmkaaPrK
import Derived.Test.YtdjkemhmhkpmkaaMR
import Derived.Test.YtdjkemhmhkpmkaaOA
import Derived.WalkKit
import Derived.ProofKit
import Derived.OpenShut
import Derived.ShutString
import Derived.ChangeOld
import Derived.Below
import Derived.SizedLaws
namespace Go.Proofs.Ytdjkemhmhkpmkaa.replyBack
open Go.ChangeShapes Go.WideShapes Go.ChangeAt Go.RowKit Go.Proofs.Ytdjkemhmhkpmkaa Go.Proofs.Ytdjkemhmhkpmkaa.GA Go.Proofs.YtdjkemhmhkpmkaaW.PrintWords Go.Proofs.YtdjkemhmhkpmkaaW.PrintLast Go.Proofs.YtdjkemhmhkpmkaaW.PrintMore
open Go.Proofs.Ytdjkemhmhkpmkaa.OA
open Go.ChangeMaps (open_string shut_string)
set_option linter.unusedVariables false
theorem own : ownKnob Try.prog.godebug = none := by kernel_rfl
theorem laidOut : laidOutB Try.prog = true := by kernel_rfl
set_option maxRecDepth 100000 in
theorem lifted (os : Os) (started : os.Started) (H : Type) (enc : TypeId × Value → H) :
  ReturnsInHanded {} Try.checked os 6 .any (Rows.replyBackSpec.pre6 enc Try.prog Try.f6 Rows.replyBackRow.domain false) (Rows.replyBackSpec.post enc Try.prog Try.f6 false true false false) := by
 refine returnsInHanded_of_change_sized (C := Try.checked) own started (by kernel_rfl) Try.func6
  (ChangeSpec.witness6 (enc := enc) (C := Try.checked) false ⟨#[], #[.agg #[.int .i64 0, .int .i64 0, .bool false, .int .i64 0, .string ByteArray.empty, .string ByteArray.empty, .string ByteArray.empty, .slice none 0 0]], []⟩ 8 (by kernel_rfl) (by kernel_rfl) (by kernel_rfl) (by kernel_rfl)) ?_
 intro W base args ds gs before hval0 hW hcnd hsz0 _
 have hsz : (DataW.weightsEach Try.prog (Try.f6.params.toList ++ Rows.replyBackSpec.plain.varTypes Try.prog) (ds ++ gs)).all (· ≤ reachBytes) = true := hsz0
 have hval : ∀ (j : Nat) t v, Try.f6.params[j]? = some t → args[j]? = some v → Value.okWide Try.prog W .any base t v := hval0
 have hW' := hW
 obtain ⟨p, q, hA0, hV, rfl, hfz, hnd⟩ := hW
 have hA : DataW.TrodAll enc Try.prog W 0 (fun _ => true) true Try.f6.params.toList args.toList ds p := hA0
 rw [Try.params6] at hA hval hsz
 obtain ⟨v0, vs0, d0, ds0, p0, q0, hargs, rfl, rfl, h0, r0⟩ := trodAll_cons hA
 obtain ⟨rfl, rfl, rfl⟩ := trodAll_nil r0
 obtain rfl : args = #[v0] := by cases args; simp_all
 obtain ⟨rfl, rfl⟩ := trodVars_none hV
 have k0 := h0
 have lt0 : ∀ x ∈ p0, x.block < W.heap.size := by obtain ⟨m, hm⟩ := k0; exact DataW.trod_lt m _ _ _ hm
 obtain ⟨fu0, hf0⟩ := h0
 obtain ⟨x0, hx0, gx0⟩ := opens27 W fu0 enc _ _ hf0 (MR.sized_each hsz (j := 0) (t := 27) rfl rfl)
 obtain ⟨cs0, rfl, hcs0⟩ := okWide_struct Try.underlying27 (hval 0 27 v0 rfl rfl)
 obtain ⟨A0_7, c0_7, ez0, l0_7, g0_7⟩ := k27_open hx0
 have ey0 : cs0.toList = _ := ez0
 obtain rfl : cs0 = #[.int .i64 x0.f0, .int .i64 x0.f1, .bool x0.f2, .int .i64 x0.f3, .string x0.f4, .string x0.f5, .string x0.f6, .slice A0_7 x0.f7.length c0_7] := Array.ext' (by rw [ey0])
 obtain ⟨kk, hk⟩ := PrK.replyBack x0 gx0
 clear hA0 hval0 hsz0 hsz
 refine (toponymlaw27_ReplyBack.calls kk (fun k_ => k_ < W.heap.size) x0.f0 x0.f1 x0.f2 x0.f3 x0.f4 x0.f5 x0.f6 _ _ x0.f7 true W (Kd.C_F k46_heap g0_7) l0_7 hk).mono fun e W' ⟨he, bel⟩ => ?_
 subst he
 exact ⟨_, rfl, _, _, _, [], _, [], hW', trodAll_mk1 (shut_bool Try.underlying4 _), (trodAll_cons_mk (Below.trod laidOut (by kernel_rfl) (of_decide_eq_true (by kernel_rfl)) k0 bel lt0) trodAll_mk0), rfl, bel.frame _, fun h => by cases h⟩
theorem over : Rows.replyBackRow.holds Try.pinned (OpenSpec.ofChange Rows.replyBackSpec) :=
 OpenClaim.holds_of_wide 6 Try.f6 rfl rfl rfl rfl rfl rfl rfl ⟨rfl, rfl, rfl, rfl, rfl⟩ rfl rfl rfl rfl rfl (by kernel_rfl) Try.func6 (by kernel_rfl)
  (of_decide_eq_true (by kernel_rfl)) (by unfold Func.isWrapper; first | (rw [if_pos (by decide +kernel)]; kernel_rfl) | (rw [if_neg (by decide +kernel)]; exact ⟨rfl, rfl⟩))
  (fun os started H enc _ => lifted os started H enc)
theorem proved : Rows.ReplyBackSaid := over
#print axioms proved
end Go.Proofs.Ytdjkemhmhkpmkaa.replyBack
namespace Go.Proofs.Ytdjkemhmhkpmkaa
/-- The row, under a short name, for the claim. -/
theorem replyBack_holds : Rows.ReplyBackSaid := replyBack.proved
end Go.Proofs.Ytdjkemhmhkpmkaa
