/- The plain law of DeskWords: both lists of words are the same twelve, also when the program is called a second time after the first result was overwritten. There is no input. -/
import Derived.Test.YtieooajamljhnaaPFnExactDeskWordsx1
namespace Go.Proofs.Ytieooajamljhnaa.Pure
open Go.RowKit Go.Proofs.Ytieooajamljhnaa.PFnExactDeskWords Go.Proofs.YtieooajamljhnaaW.PrintWords Go.Proofs.YtieooajamljhnaaW.PrintLast

theorem FnExactDeskWords : laws_FnExactDeskWords.Pure := ⟨40, by decide +kernel⟩

end Go.Proofs.Ytieooajamljhnaa.Pure
