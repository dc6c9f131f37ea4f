import Derived.Test.YtieooajamljhnaaXLawsFnExactReverseLine
import Derived.Test.YtieooajamljhnaaRdr
namespace Go.Proofs.Ytieooajamljhnaa.Say
open Go.RowKit Go.Proofs.Ytieooajamljhnaa.X
/-- The plain statement of laws_FnExactReverseLine. -/
def FnExactReverseLine : Prop := ∀ (a0_0 : Int) (a0_1 : Int) (a0_2 : Int) (a0_3 : Int), Rdr.I64 a0_0 → Rdr.I64 a0_1 → Rdr.I64 a0_2 → Rdr.I64 a0_3 → laws_FnExactReverseLine.f a0_0 a0_1 a0_2 a0_3 = some true
end Go.Proofs.Ytieooajamljhnaa.Say
