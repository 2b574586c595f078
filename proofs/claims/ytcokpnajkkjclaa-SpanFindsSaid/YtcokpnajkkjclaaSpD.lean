import Derived.Test.YtcokpnajkkjclaaSpC
import Derived.Test.YtcokpnajkkjclaaGM3
import Derived.Test.YtcokpnajkkjclaaGM3
/- Plain law of SpanFinds. -/
namespace Go.Proofs.Ytcokpnajkkjclaa.SpA
open Go Go.RowKit Go.Proofs.Ytcokpnajkkjclaa.GA Go.Proofs.Ytcokpnajkkjclaa.PuE Go.Proofs.YtcokpnajkkjclaaW.PrintWords Go.Proofs.YtcokpnajkkjclaaW.PrintLast Go.Proofs.YtcokpnajkkjclaaW.PrintMore
set_option linter.unusedVariables false
set_option linter.unusedSimpArgs false
theorem awake : Evt (fun k => toponymlaw02_awake.f k) true := Evt.mono_ (k := 60) toponymlaw02_awake.mono (by decide +kernel)
theorem i32_in (r : Int) (h : (Lit.int .i32 r).wf = true) : -2147483648 ≤ r ∧ r ≤ 2147483647 := by
  simp [Lit.wf, IntKind.min, IntKind.max, IntKind.bits, IntKind.signed] at h
  exact h
theorem spanFinds (l : List S37) (r has : Int) {p0 p1 : Prop} (_ : p0) (hr0 : (Lit.int .i32 r).wf = true) (_ : p1) : ∃ k, toponymlaw02_SpanFinds.f k l r has = some true := by
  have hr := i32_in r hr0
  refine Evt.get (f := fun k => toponymlaw02_SpanFinds.f k l r has) ?_
  unfold toponymlaw02_SpanFinds.f
  have ha : Evt (fun k => (toponymlaw02_awake.f k).bind fun t => some t) true := Evt.bind awake (Evt.now _)
  by_cases hl : (l.length : Int) > 700
  · exact Evt.ifp hl ha
  obtain ⟨c, _, hs, hf, _⟩ := checks l
  obtain ⟨v, h1, h2⟩ := find_both l r hr
  obtain ⟨n, h3, h4⟩ := counts l has
  refine Evt.ifn hl (Evt.bind hs (Evt.bind hf (Evt.ifp rfl ?_)))
  refine Evt.bind h1 (Evt.bind h2 (Evt.ifp rfl ?_))
  exact Evt.bind h3 (Evt.bind h4 (Evt.ifp rfl ha))
end Go.Proofs.Ytcokpnajkkjclaa.SpA
