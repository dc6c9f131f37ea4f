import Derived.Test.YtieooajamljhnaaXLawsFnExactSameLines
import Derived.Test.YtieooajamljhnaaRdr
namespace Go.Proofs.Ytieooajamljhnaa.Say
open Go.RowKit Go.Proofs.Ytieooajamljhnaa.X
/-- The plain statement of laws_FnExactSameLines. -/
def FnExactSameLines : Prop := ∀ (l0 : List (S31)) (l1 : List (S31)), (Rdr.Lst (fun x : S31 => Rdr.I64 x.f0 ∧ (Rdr.I64 x.f1 ∧ (Rdr.I64 x.f2 ∧ (Rdr.I64 x.f3))))) l0 → (Rdr.Lst (fun x : S31 => Rdr.I64 x.f0 ∧ (Rdr.I64 x.f1 ∧ (Rdr.I64 x.f2 ∧ (Rdr.I64 x.f3))))) l1 → ∃ k, laws_FnExactSameLines.f k l0 l1 = some true
end Go.Proofs.Ytieooajamljhnaa.Say
