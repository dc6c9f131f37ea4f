/- The plain law of ValidNote: both tell the same notes valid, and the note is left as it is. For all notes whose word and numbers hold at most 1048576 letters and elements together (the law says nothing of longer ones). -/
import Derived.Test.YtieooajamljhnaaSFnExactValidNote
import Derived.Test.YtieooajamljhnaaPNote
set_option linter.unusedVariables false
set_option linter.unusedSimpArgs false
namespace Go.Proofs.Ytieooajamljhnaa.Pure
open Go.RowKit Go.Proofs.YtieooajamljhnaaW.PrintWords Go.Proofs.Ytieooajamljhnaa.X Go.Proofs.Ytieooajamljhnaa.B Go.Proofs.Ytieooajamljhnaa.PName Go.Proofs.Ytieooajamljhnaa.PInts Go.Proofs.Ytieooajamljhnaa.PNote
theorem FnExactValidNote : Say.FnExactValidNote := by
  intro d w ns hd hw hns
  refine Ev.rounds ?_
  unfold laws_FnExactValidNote.f
  have hws : w.size ≤ 9223372036854775807 := hw
  by_cases h : (w.size : Int) + ns.length ≤ 1048576
  · have e : laws_szNote.f d w ns 1048576 = some ((1048576 : Int) - w.size - ns.length) := szNote_pos d w ns (by omega)
    simp only [e, Option.bind_some]
    refine Ev.ifNeg (by omega) ?_
    have tn := toNote_ev d w ns (by omega)
    refine Ev.bindE tn (Ev.bindE (specNote_ev d w ns (by omega) (by omega)) (Ev.bindE tn (Ev.bindE (implNote_ev d w ns (by omega) (by omega)) ?_)))
    simp only [bne_self_eq_false, Bool.false_eq_true, if_false]
    refine Ev.bindE tn (Ev.bindE (eqNote_self d w ns (by omega)) ?_)
    exact Ev.const fun k => by simp
  · have e : laws_szNote.f d w ns 1048576 = some (-1) := szNote_neg d w ns hws hns.1 (by omega)
    simp only [e, Option.bind_some]
    exact Ev.ifPos (by omega) (Ev.const fun _ => rfl)
end Go.Proofs.Ytieooajamljhnaa.Pure
