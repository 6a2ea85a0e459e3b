/- Written by a program of this session (wip/structrow.py). Not trusted: Lean checks it. -/
import Derived.Test.YtghcfpnjkhefeaaPFnExactRouteNumbersx8
namespace Go.Proofs.Ytghcfpnjkhefeaa.PFnExactRouteNumbers
open Go.RowKit Go.Proofs.YtghcfpnjkhefeaaW.PrintWords Go.Proofs.YtghcfpnjkhefeaaW.PrintLast Go.Proofs.YtghcfpnjkhefeaaW.PrintMore
set_option linter.unusedVariables false
/-- THE ONE PURE STATEMENT of laws_FnExactRouteNumbers. -/
def laws_FnExactRouteNumbers.Pure : Prop := ∀ (a0_0 : Int) (a0_1 : Int) (a1 : ByteArray) (a2 : Int), (Lit.int .i64 a0_0).wf = true → (Lit.int .i64 a0_1).wf = true → a1.size ≤ 140737488351232 → (Lit.int .i64 a2).wf = true → ∃ k, laws_FnExactRouteNumbers.f k a0_0 a0_1 a1 a2 = some true
theorem laws_FnExactRouteNumbers.walk (P : laws_FnExactRouteNumbers.Pure) (a0_0 : Int) (a0_1 : Int) (a1 : ByteArray) (a2 : Int) (w : World) (w0_0 : (Lit.int .i64 a0_0).wf = true) (w0_1 : (Lit.int .i64 a0_1).wf = true) (w1 : a1.size ≤ 140737488351232) (w2 : (Lit.int .i64 a2).wf = true) :
    Calls Try.prog 11 #[.agg #[.int .i64 a0_0, .int .i64 a0_1], .string a1, .int .i64 a2] w fun e w' => e = .returned (.bool true) ∧ Below w.heap.size w w' := by
  obtain ⟨k, h⟩ := P a0_0 a0_1 a1 a2 w0_0 w0_1 w1 w2
  refine (laws_FnExactRouteNumbers.calls k a0_0 a0_1 a1 a2 true w h).mono ?_
  rintro e w' ⟨rfl, hd⟩
  exact ⟨rfl, hd⟩
end Go.Proofs.Ytghcfpnjkhefeaa.PFnExactRouteNumbers
