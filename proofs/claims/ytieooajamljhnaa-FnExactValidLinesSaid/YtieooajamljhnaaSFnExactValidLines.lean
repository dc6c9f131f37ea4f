import Derived.Test.YtieooajamljhnaaXLawsFnExactValidLines
import Derived.Test.YtieooajamljhnaaRdr
namespace Go.Proofs.Ytieooajamljhnaa.Say
open Go.RowKit Go.Proofs.Ytieooajamljhnaa.X
/-- The plain statement of laws_FnExactValidLines. -/
def FnExactValidLines : Prop := ∀ (a0 : Int) (l1 : List (S31)), Rdr.I64 a0 → (Rdr.Lst (fun x : S31 => Rdr.I64 x.f0 ∧ (Rdr.I64 x.f1 ∧ (Rdr.I64 x.f2 ∧ (Rdr.I64 x.f3))))) l1 → ∃ k, laws_FnExactValidLines.f k a0 l1 = some true
end Go.Proofs.Ytieooajamljhnaa.Say
