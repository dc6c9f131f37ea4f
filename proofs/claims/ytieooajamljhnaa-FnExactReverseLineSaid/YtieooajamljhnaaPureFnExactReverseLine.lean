/- The plain law of ReverseLine: both turn a line of at most ten marks about in the same way, and answer the code for a range for any other. For all lines. -/
import Derived.Test.YtieooajamljhnaaSFnExactReverseLine
import Derived.Test.YtieooajamljhnaaPLines
set_option linter.unusedVariables false
set_option linter.unusedSimpArgs false
namespace Go.Proofs.Ytieooajamljhnaa.Pure
open Go.RowKit Go.Proofs.YtieooajamljhnaaW.PrintWords Go.Proofs.Ytieooajamljhnaa.X Go.Proofs.Ytieooajamljhnaa.B Go.Proofs.Ytieooajamljhnaa.PLines
theorem FnExactReverseLine : Say.FnExactReverseLine := by
  intro a b c d ha hb hc hd
  have e1 := specLineOk_eq ⟨a, b, c, d⟩ 10 (by omega) (by omega)
  have e2 := implLineOk_eq ⟨a, b, c, d⟩ 10 (by omega) (by omega)
  simp only at e1 e2
  simp only [laws_FnExactReverseLine.f, laws_toLine.f, spec_ReverseLine.f, impl_ReverseLine.f, impl_Line_reverse.f, Option.bind_some, e1, e2]
  cases okLine ⟨a, b, c, d⟩ 10 <;> simp [laws_eqLine.f]
end Go.Proofs.Ytieooajamljhnaa.Pure
