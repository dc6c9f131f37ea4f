import Derived.Test.YtieooajamljhnaaXLawsFnExactValidNote
import Derived.Test.YtieooajamljhnaaRdr
namespace Go.Proofs.Ytieooajamljhnaa.Say
open Go.RowKit Go.Proofs.Ytieooajamljhnaa.X
/-- The plain statement of laws_FnExactValidNote. -/
def FnExactValidNote : Prop := ∀ (a0_0 : Int) (a0_1 : ByteArray) (l0_2 : List Int), Rdr.I64 a0_0 → Rdr.Str a0_1 → (Rdr.Lst Rdr.I64) l0_2 → ∃ k, laws_FnExactValidNote.f k a0_0 a0_1 l0_2 = some true
end Go.Proofs.Ytieooajamljhnaa.Say
