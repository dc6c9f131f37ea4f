/-
  No cell of these rows narrows 'for every input' (looked for: loops, veiled, ifaces, maps, wideKeys, modest, calm, conditions, laid).
  DERIVED. THE GIVEN ROWS OF THIS SEAT. 6 by the template 'for every input the law returns true; each argument reads behind the call as it read before'; 0 by the template 'total and deterministic' (their statements: YtieooajamljhnaaTotals.lean).
  GIVEN WITH THE SEED: the statements are not yours to turn. If you find one false, say at which input.
  Laid BY PROGRAM, IN A SANDBOX (cutbox-rows.mjs): the forced cells as the released guide's own fill.sh prints them over the translation 6cda18bad30f9368… (all of the seat's roots in one cut). By AI agents, Wed Nov 11 2026. No macro, syntax, notation, axiom, sorry.
-/
import Derived.Test.YtieooajamljhnaaChecked
import GoSem.Claim
import GoSem.ClaimJoined
import GoSem.ClaimMapViews
import Derived.JoinedTies
import Derived.KernelRfl
namespace Go.Proofs.Ytieooajamljhnaa
/- THE CELL 'sum', in the pinned program and in every row, IS THE sha256 OF THE DUMP (.gsa) THAT YtieooajamljhnaaProg.lean LOADS. Nothing in Lean hashes anything: it is a label: what it is worth is what the hold of that sum in a sandbox is worth. -/
noncomputable def Try.pinned : Pinned := { name := "ytieooajamljhnaa", sum := "6cda18bad30f936809537c23c6d5e52f4755b103cd7616dc78daa671e0f32b3d", checked := Try.checked }
namespace Rows
def none {H : Type} : Left H := { results := [], args := [] }

/-- 'laws.FnExactMayClose': WHATEVER THE INPUT: true; the input reads as it did. -/
def fnExactMayCloseSpec : ChangeSpec := { name := "fnExactMayClose", fn := fun _ => fun
  | [d] => { results := [.lit (.bool true)], args := [d] }
  | _ => none }
def fnExactMayCloseRow : OpenClaim := { program := "ytieooajamljhnaa", sum := "6cda18bad30f936809537c23c6d5e52f4755b103cd7616dc78daa671e0f32b3d", func := "loop.example/g01032/laws.FnExactMayClose", spec := "fnExactMayClose", apart := false }
def FnExactMayCloseSaid : Prop := fnExactMayCloseRow.holds Try.pinned (OpenSpec.ofChange fnExactMayCloseSpec)

/-- ITS FALSE NEIGHBOUR: 'it returns false'. Refute it at one input. -/
def fnExactMayCloseWrong : ChangeSpec := { name := "fnExactMayClose", fn := fun _ => fun
  | [d] => { results := [.lit (.bool false)], args := [d] }
  | _ => none }
def FnExactMayCloseWrongFalsely : Prop := fnExactMayCloseRow.holds Try.pinned (OpenSpec.ofChange fnExactMayCloseWrong)

/-- 'laws.FnExactDeskWords': WHATEVER THE INPUT: true; the input reads as it did. -/
def fnExactDeskWordsSpec : ChangeSpec := { name := "fnExactDeskWords", fn := fun _ => fun
  | [] => { results := [.lit (.bool true)], args := [] }
  | _ => none }
def fnExactDeskWordsRow : OpenClaim := { program := "ytieooajamljhnaa", sum := "6cda18bad30f936809537c23c6d5e52f4755b103cd7616dc78daa671e0f32b3d", func := "loop.example/g01032/laws.FnExactDeskWords", spec := "fnExactDeskWords", apart := false }
def FnExactDeskWordsSaid : Prop := fnExactDeskWordsRow.holds Try.pinned (OpenSpec.ofChange fnExactDeskWordsSpec)

/-- ITS FALSE NEIGHBOUR: 'it returns false'. Refute it at one input. -/
def fnExactDeskWordsWrong : ChangeSpec := { name := "fnExactDeskWords", fn := fun _ => fun
  | [] => { results := [.lit (.bool false)], args := [] }
  | _ => none }
def FnExactDeskWordsWrongFalsely : Prop := fnExactDeskWordsRow.holds Try.pinned (OpenSpec.ofChange fnExactDeskWordsWrong)

/-- 'laws.FnExactReverseLine': WHATEVER THE INPUT: true; the input reads as it did. -/
def fnExactReverseLineSpec : ChangeSpec := { name := "fnExactReverseLine", fn := fun _ => fun
  | [d] => { results := [.lit (.bool true)], args := [d] }
  | _ => none }
def fnExactReverseLineRow : OpenClaim := { program := "ytieooajamljhnaa", sum := "6cda18bad30f936809537c23c6d5e52f4755b103cd7616dc78daa671e0f32b3d", func := "loop.example/g01032/laws.FnExactReverseLine", spec := "fnExactReverseLine", apart := false }
def FnExactReverseLineSaid : Prop := fnExactReverseLineRow.holds Try.pinned (OpenSpec.ofChange fnExactReverseLineSpec)

/-- ITS FALSE NEIGHBOUR: 'it returns false'. Refute it at one input. -/
def fnExactReverseLineWrong : ChangeSpec := { name := "fnExactReverseLine", fn := fun _ => fun
  | [d] => { results := [.lit (.bool false)], args := [d] }
  | _ => none }
def FnExactReverseLineWrongFalsely : Prop := fnExactReverseLineRow.holds Try.pinned (OpenSpec.ofChange fnExactReverseLineWrong)

/-- 'laws.FnExactSameLines': WHATEVER THE INPUT: true; the input reads as it did. -/
def fnExactSameLinesSpec : ChangeSpec := { name := "fnExactSameLines", fn := fun _ => fun
  | [d1, d2] => { results := [.lit (.bool true)], args := [d1, d2] }
  | _ => none }
def fnExactSameLinesRow : OpenClaim := { program := "ytieooajamljhnaa", sum := "6cda18bad30f936809537c23c6d5e52f4755b103cd7616dc78daa671e0f32b3d", func := "loop.example/g01032/laws.FnExactSameLines", spec := "fnExactSameLines", apart := false }
def FnExactSameLinesSaid : Prop := fnExactSameLinesRow.holds Try.pinned (OpenSpec.ofChange fnExactSameLinesSpec)

/-- ITS FALSE NEIGHBOUR: 'it returns false'. Refute it at one input. -/
def fnExactSameLinesWrong : ChangeSpec := { name := "fnExactSameLines", fn := fun _ => fun
  | [d1, d2] => { results := [.lit (.bool false)], args := [d1, d2] }
  | _ => none }
def FnExactSameLinesWrongFalsely : Prop := fnExactSameLinesRow.holds Try.pinned (OpenSpec.ofChange fnExactSameLinesWrong)

/-- 'laws.FnExactValidLines': WHATEVER THE INPUT: true; the input reads as it did. -/
def fnExactValidLinesSpec : ChangeSpec := { name := "fnExactValidLines", fn := fun _ => fun
  | [d1, d2] => { results := [.lit (.bool true)], args := [d1, d2] }
  | _ => none }
def fnExactValidLinesRow : OpenClaim := { program := "ytieooajamljhnaa", sum := "6cda18bad30f936809537c23c6d5e52f4755b103cd7616dc78daa671e0f32b3d", func := "loop.example/g01032/laws.FnExactValidLines", spec := "fnExactValidLines", unfollowed := true, recurses := true, apart := false }
def FnExactValidLinesSaid : Prop := fnExactValidLinesRow.holds Try.pinned (OpenSpec.ofChange fnExactValidLinesSpec)

/-- ITS FALSE NEIGHBOUR: 'it returns false'. Refute it at one input. -/
def fnExactValidLinesWrong : ChangeSpec := { name := "fnExactValidLines", fn := fun _ => fun
  | [d1, d2] => { results := [.lit (.bool false)], args := [d1, d2] }
  | _ => none }
def FnExactValidLinesWrongFalsely : Prop := fnExactValidLinesRow.holds Try.pinned (OpenSpec.ofChange fnExactValidLinesWrong)

/-- 'laws.FnExactValidNote': WHATEVER THE INPUT: true; the input reads as it did. -/
def fnExactValidNoteSpec : ChangeSpec := { name := "fnExactValidNote", fn := fun _ => fun
  | [d] => { results := [.lit (.bool true)], args := [d] }
  | _ => none }
def fnExactValidNoteRow : OpenClaim := { program := "ytieooajamljhnaa", sum := "6cda18bad30f936809537c23c6d5e52f4755b103cd7616dc78daa671e0f32b3d", func := "loop.example/g01032/laws.FnExactValidNote", spec := "fnExactValidNote", unfollowed := true, recurses := true, apart := false }
def FnExactValidNoteSaid : Prop := fnExactValidNoteRow.holds Try.pinned (OpenSpec.ofChange fnExactValidNoteSpec)

/-- ITS FALSE NEIGHBOUR: 'it returns false'. Refute it at one input. -/
def fnExactValidNoteWrong : ChangeSpec := { name := "fnExactValidNote", fn := fun _ => fun
  | [d] => { results := [.lit (.bool false)], args := [d] }
  | _ => none }
def FnExactValidNoteWrongFalsely : Prop := fnExactValidNoteRow.holds Try.pinned (OpenSpec.ofChange fnExactValidNoteWrong)

/- THE SECOND FORM. 'bulk': how many values and letters a reading holds, each counted each time it is reached (what is shared counts as often as it is met; a slice's spare places count too). A statement '..UptoSaid' is the law's where the arguments, and the package variables that the reading takes, are together of bulk at most 1048576: NARROWER than '..Said'. Prove '..Said' where nothing that the law and all that it calls make is longer than what came in: it says more and counts as full. Else prove '..UptoSaid'. A law counts once. -/
mutual
def uptoBulk {H : Type} : DataW H → Nat
  | .lit (.string bytes) => bytes.length + 1
  | .lit _ => 1
  | .nil => 1
  | .ptr d => uptoBulk d + 1
  | .slice elems spare => uptoBulkAll elems + uptoBulkAll spare + 1
  | .agg parts => uptoBulkAll parts + 1
  | .iface _ d => uptoBulk d + 1
  | .map entries => uptoBulkEntries entries + 1
  | .held _ => 1
def uptoBulkAll {H : Type} : List (DataW H) → Nat
  | [] => 0
  | d :: r => uptoBulk d + uptoBulkAll r
def uptoBulkEntries {H : Type} : List (Lit × DataW H) → Nat
  | [] => 0
  | x :: r => uptoBulkEntry x + uptoBulkEntries r
def uptoBulkEntry {H : Type} : Lit × DataW H → Nat
  | (.string bytes, d) => bytes.length + uptoBulk d + 1
  | (_, d) => uptoBulk d + 1
 end
def uptoSmall : (H : Type) → List (DataW H) → Bool := fun _ ds => decide (uptoBulkAll ds ≤ 1048576)
def OpenSpec.upto (s : _root_.Go.ChangeSpec) : _root_.Go.OpenSpec := { _root_.Go.OpenSpec.ofChange s with cond := some uptoSmall }

/-- 'laws.FnExactMayClose', WHERE WHAT IT READS IS OF BULK AT MOST 1048576: true; the input reads as it did. -/
def fnExactMayCloseUptoRow : OpenClaim := { program := "ytieooajamljhnaa", sum := "6cda18bad30f936809537c23c6d5e52f4755b103cd7616dc78daa671e0f32b3d", func := "loop.example/g01032/laws.FnExactMayClose", spec := "fnExactMayClose", apart := false, narrowed := true }
def FnExactMayCloseUptoSaid : Prop := fnExactMayCloseUptoRow.holds Try.pinned (OpenSpec.upto fnExactMayCloseSpec)

/-- 'laws.FnExactDeskWords', WHERE WHAT IT READS IS OF BULK AT MOST 1048576: true; the input reads as it did. -/
def fnExactDeskWordsUptoRow : OpenClaim := { program := "ytieooajamljhnaa", sum := "6cda18bad30f936809537c23c6d5e52f4755b103cd7616dc78daa671e0f32b3d", func := "loop.example/g01032/laws.FnExactDeskWords", spec := "fnExactDeskWords", apart := false, narrowed := true }
def FnExactDeskWordsUptoSaid : Prop := fnExactDeskWordsUptoRow.holds Try.pinned (OpenSpec.upto fnExactDeskWordsSpec)

/-- 'laws.FnExactReverseLine', WHERE WHAT IT READS IS OF BULK AT MOST 1048576: true; the input reads as it did. -/
def fnExactReverseLineUptoRow : OpenClaim := { program := "ytieooajamljhnaa", sum := "6cda18bad30f936809537c23c6d5e52f4755b103cd7616dc78daa671e0f32b3d", func := "loop.example/g01032/laws.FnExactReverseLine", spec := "fnExactReverseLine", apart := false, narrowed := true }
def FnExactReverseLineUptoSaid : Prop := fnExactReverseLineUptoRow.holds Try.pinned (OpenSpec.upto fnExactReverseLineSpec)

/-- 'laws.FnExactSameLines', WHERE WHAT IT READS IS OF BULK AT MOST 1048576: true; the input reads as it did. -/
def fnExactSameLinesUptoRow : OpenClaim := { program := "ytieooajamljhnaa", sum := "6cda18bad30f936809537c23c6d5e52f4755b103cd7616dc78daa671e0f32b3d", func := "loop.example/g01032/laws.FnExactSameLines", spec := "fnExactSameLines", apart := false, narrowed := true }
def FnExactSameLinesUptoSaid : Prop := fnExactSameLinesUptoRow.holds Try.pinned (OpenSpec.upto fnExactSameLinesSpec)

/-- 'laws.FnExactValidLines', WHERE WHAT IT READS IS OF BULK AT MOST 1048576: true; the input reads as it did. -/
def fnExactValidLinesUptoRow : OpenClaim := { program := "ytieooajamljhnaa", sum := "6cda18bad30f936809537c23c6d5e52f4755b103cd7616dc78daa671e0f32b3d", func := "loop.example/g01032/laws.FnExactValidLines", spec := "fnExactValidLines", unfollowed := true, recurses := true, apart := false, narrowed := true }
def FnExactValidLinesUptoSaid : Prop := fnExactValidLinesUptoRow.holds Try.pinned (OpenSpec.upto fnExactValidLinesSpec)

/-- 'laws.FnExactValidNote', WHERE WHAT IT READS IS OF BULK AT MOST 1048576: true; the input reads as it did. -/
def fnExactValidNoteUptoRow : OpenClaim := { program := "ytieooajamljhnaa", sum := "6cda18bad30f936809537c23c6d5e52f4755b103cd7616dc78daa671e0f32b3d", func := "loop.example/g01032/laws.FnExactValidNote", spec := "fnExactValidNote", unfollowed := true, recurses := true, apart := false, narrowed := true }
def FnExactValidNoteUptoSaid : Prop := fnExactValidNoteUptoRow.holds Try.pinned (OpenSpec.upto fnExactValidNoteSpec)

end Rows
end Go.Proofs.Ytieooajamljhnaa
