/- The plain law of ValidLines: both tell the same lists of lines valid for the same number of marks. For all lists of at most 1048576 elements (the law says nothing of longer ones). -/
import Derived.Test.YtieooajamljhnaaSFnExactValidLines
import Derived.Test.YtieooajamljhnaaPLines
set_option linter.unusedVariables false
set_option linter.unusedSimpArgs false
namespace Go.Proofs.Ytieooajamljhnaa.Pure
open Go.RowKit Go.Proofs.YtieooajamljhnaaW.PrintWords Go.Proofs.Ytieooajamljhnaa.X Go.Proofs.Ytieooajamljhnaa.B Go.Proofs.Ytieooajamljhnaa.PLines
theorem FnExactValidLines : Say.FnExactValidLines := by
  intro m a hm ha
  refine Ev.rounds ?_
  unfold laws_FnExactValidLines.f
  simp only [szLineS_eq a 1048576 (by omega) (by omega) ha.1, Option.bind_some]
  by_cases h1 : (a.length : Int) ≤ 1048576
  · simp only [if_pos h1]
    refine Ev.ifNeg (by omega) ?_
    have ta := toLineS_ev a (by omega)
    have sp : Ev (fun k => spec_ValidLines.f k m (a.map conv)) (okLines m (a.map conv)) := by
      simpa [spec_ValidLines.f] using specOk_ev m (a.map conv) (by simp; omega)
    refine Ev.bindE ta (Ev.bindE sp (Ev.bindE ta (Ev.bindE (implOk_ev _ _ (by simp; omega)) ?_)))
    simp only [bne_self_eq_false, Bool.false_eq_true, if_false]
    refine Ev.bindE ta (Ev.bindE (eqLineS_self _ (by simp; omega)) ?_)
    exact Ev.const fun k => by simp
  · simp only [if_neg h1]
    exact Ev.const fun k => by simp
end Go.Proofs.Ytieooajamljhnaa.Pure
