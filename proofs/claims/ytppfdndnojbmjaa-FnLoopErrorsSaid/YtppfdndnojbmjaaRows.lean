/-
  No cell of these rows narrows 'for every input' (looked for: loops, veiled, ifaces, maps, wideKeys, modest, calm, conditions, laid).
  DERIVED. THE GIVEN ROWS OF THIS SEAT. 8 by the template 'for every input the law returns true; each argument reads behind the call as it read before'; 0 by the template 'total and deterministic' (their statements: YtppfdndnojbmjaaTotals.lean).
  GIVEN WITH THE SEED: the statements are not yours to turn. If you find one false, say at which input.
  Laid BY PROGRAM, IN A SANDBOX (cutbox-rows.mjs): the forced cells as the released guide's own fill.sh prints them over the translation d10f207ead63ea56… (all of the seat's roots in one cut). By AI agents, Wed Nov 11 2026. No macro, syntax, notation, axiom, sorry.
-/
import Derived.Test.YtppfdndnojbmjaaChecked
import GoSem.Claim
import GoSem.ClaimJoined
import GoSem.ClaimMapViews
import Derived.JoinedTies
import Derived.KernelRfl
namespace Go.Proofs.Ytppfdndnojbmjaa
/- THE CELL 'sum', in the pinned program and in every row, IS THE sha256 OF THE DUMP (.gsa) THAT YtppfdndnojbmjaaProg.lean LOADS. Nothing in Lean hashes anything: it is a label: what it is worth is what the hold of that sum in a sandbox is worth. -/
noncomputable def Try.pinned : Pinned := { name := "ytppfdndnojbmjaa", sum := "d10f207ead63ea567c3716126f73b7dad8f9a0780258973ecc0736c595874613", checked := Try.checked }
namespace Rows
def none {H : Type} : Left H := { results := [], args := [] }

/-- 'laws.FnExactClashingLine': WHATEVER THE INPUT: true; the input reads as it did. -/
def fnExactClashingLineSpec : ChangeSpec := { name := "fnExactClashingLine", fn := fun _ => fun
  | [d1, d2] => { results := [.lit (.bool true)], args := [d1, d2] }
  | _ => none }
def fnExactClashingLineRow : OpenClaim := { program := "ytppfdndnojbmjaa", sum := "d10f207ead63ea567c3716126f73b7dad8f9a0780258973ecc0736c595874613", func := "loop.example/g01032/laws.FnExactClashingLine", spec := "fnExactClashingLine", unfollowed := true, recurses := true, apart := false }
def FnExactClashingLineSaid : Prop := fnExactClashingLineRow.holds Try.pinned (OpenSpec.ofChange fnExactClashingLineSpec)

/-- ITS FALSE NEIGHBOUR: 'it returns false'. Refute it at one input. -/
def fnExactClashingLineWrong : ChangeSpec := { name := "fnExactClashingLine", fn := fun _ => fun
  | [d1, d2] => { results := [.lit (.bool false)], args := [d1, d2] }
  | _ => none }
def FnExactClashingLineWrongFalsely : Prop := fnExactClashingLineRow.holds Try.pinned (OpenSpec.ofChange fnExactClashingLineWrong)

/-- 'laws.FnExactSetsOfMarks': WHATEVER THE INPUT: true; the input reads as it did. -/
def fnExactSetsOfMarksSpec : ChangeSpec := { name := "fnExactSetsOfMarks", fn := fun _ => fun
  | [d1, d2] => { results := [.lit (.bool true)], args := [d1, d2] }
  | _ => none }
def fnExactSetsOfMarksRow : OpenClaim := { program := "ytppfdndnojbmjaa", sum := "d10f207ead63ea567c3716126f73b7dad8f9a0780258973ecc0736c595874613", func := "loop.example/g01032/laws.FnExactSetsOfMarks", spec := "fnExactSetsOfMarks", unfollowed := true, recurses := true, apart := false }
def FnExactSetsOfMarksSaid : Prop := fnExactSetsOfMarksRow.holds Try.pinned (OpenSpec.ofChange fnExactSetsOfMarksSpec)

/-- ITS FALSE NEIGHBOUR: 'it returns false'. Refute it at one input. -/
def fnExactSetsOfMarksWrong : ChangeSpec := { name := "fnExactSetsOfMarks", fn := fun _ => fun
  | [d1, d2] => { results := [.lit (.bool false)], args := [d1, d2] }
  | _ => none }
def FnExactSetsOfMarksWrongFalsely : Prop := fnExactSetsOfMarksRow.holds Try.pinned (OpenSpec.ofChange fnExactSetsOfMarksWrong)

/-- 'laws.FnExactLevelMarks': WHATEVER THE INPUT: true; the input reads as it did. -/
def fnExactLevelMarksSpec : ChangeSpec := { name := "fnExactLevelMarks", fn := fun _ => fun
  | [d1, d2, d3] => { results := [.lit (.bool true)], args := [d1, d2, d3] }
  | _ => none }
def fnExactLevelMarksRow : OpenClaim := { program := "ytppfdndnojbmjaa", sum := "d10f207ead63ea567c3716126f73b7dad8f9a0780258973ecc0736c595874613", func := "loop.example/g01032/laws.FnExactLevelMarks", spec := "fnExactLevelMarks", unfollowed := true, recurses := true, apart := false }
def FnExactLevelMarksSaid : Prop := fnExactLevelMarksRow.holds Try.pinned (OpenSpec.ofChange fnExactLevelMarksSpec)

/-- ITS FALSE NEIGHBOUR: 'it returns false'. Refute it at one input. -/
def fnExactLevelMarksWrong : ChangeSpec := { name := "fnExactLevelMarks", fn := fun _ => fun
  | [d1, d2, d3] => { results := [.lit (.bool false)], args := [d1, d2, d3] }
  | _ => none }
def FnExactLevelMarksWrongFalsely : Prop := fnExactLevelMarksRow.holds Try.pinned (OpenSpec.ofChange fnExactLevelMarksWrong)

/-- 'laws.FnExactClosingOf': WHATEVER THE INPUT: true; the input reads as it did. -/
def fnExactClosingOfSpec : ChangeSpec := { name := "fnExactClosingOf", fn := fun _ => fun
  | [d1, d2, d3] => { results := [.lit (.bool true)], args := [d1, d2, d3] }
  | _ => none }
def fnExactClosingOfRow : OpenClaim := { program := "ytppfdndnojbmjaa", sum := "d10f207ead63ea567c3716126f73b7dad8f9a0780258973ecc0736c595874613", func := "loop.example/g01032/laws.FnExactClosingOf", spec := "fnExactClosingOf", unfollowed := true, recurses := true, apart := false }
def FnExactClosingOfSaid : Prop := fnExactClosingOfRow.holds Try.pinned (OpenSpec.ofChange fnExactClosingOfSpec)

/-- ITS FALSE NEIGHBOUR: 'it returns false'. Refute it at one input. -/
def fnExactClosingOfWrong : ChangeSpec := { name := "fnExactClosingOf", fn := fun _ => fun
  | [d1, d2, d3] => { results := [.lit (.bool false)], args := [d1, d2, d3] }
  | _ => none }
def FnExactClosingOfWrongFalsely : Prop := fnExactClosingOfRow.holds Try.pinned (OpenSpec.ofChange fnExactClosingOfWrong)

/-- 'laws.FnExactFewestClashes': WHATEVER THE INPUT: true; the input reads as it did. -/
def fnExactFewestClashesSpec : ChangeSpec := { name := "fnExactFewestClashes", fn := fun _ => fun
  | [d1, d2] => { results := [.lit (.bool true)], args := [d1, d2] }
  | _ => none }
def fnExactFewestClashesRow : OpenClaim := { program := "ytppfdndnojbmjaa", sum := "d10f207ead63ea567c3716126f73b7dad8f9a0780258973ecc0736c595874613", func := "loop.example/g01032/laws.FnExactFewestClashes", spec := "fnExactFewestClashes", unfollowed := true, recurses := true, apart := false }
def FnExactFewestClashesSaid : Prop := fnExactFewestClashesRow.holds Try.pinned (OpenSpec.ofChange fnExactFewestClashesSpec)

/-- ITS FALSE NEIGHBOUR: 'it returns false'. Refute it at one input. -/
def fnExactFewestClashesWrong : ChangeSpec := { name := "fnExactFewestClashes", fn := fun _ => fun
  | [d1, d2] => { results := [.lit (.bool false)], args := [d1, d2] }
  | _ => none }
def FnExactFewestClashesWrongFalsely : Prop := fnExactFewestClashesRow.holds Try.pinned (OpenSpec.ofChange fnExactFewestClashesWrong)

/-- 'laws.FnExactBetweenMarks': WHATEVER THE INPUT: true; the input reads as it did. -/
def fnExactBetweenMarksSpec : ChangeSpec := { name := "fnExactBetweenMarks", fn := fun _ => fun
  | [d1, d2, d3, d4] => { results := [.lit (.bool true)], args := [d1, d2, d3, d4] }
  | _ => none }
def fnExactBetweenMarksRow : OpenClaim := { program := "ytppfdndnojbmjaa", sum := "d10f207ead63ea567c3716126f73b7dad8f9a0780258973ecc0736c595874613", func := "loop.example/g01032/laws.FnExactBetweenMarks", spec := "fnExactBetweenMarks", inPlace := ["internal/reflectlite.ValueOf", "internal/reflectlite.Swapper", "(internal/reflectlite.Value).Len"], unfollowed := true, recurses := true, apart := false }
def FnExactBetweenMarksSaid : Prop := fnExactBetweenMarksRow.holds Try.pinned (OpenSpec.ofChange fnExactBetweenMarksSpec)

/-- ITS FALSE NEIGHBOUR: 'it returns false'. Refute it at one input. -/
def fnExactBetweenMarksWrong : ChangeSpec := { name := "fnExactBetweenMarks", fn := fun _ => fun
  | [d1, d2, d3, d4] => { results := [.lit (.bool false)], args := [d1, d2, d3, d4] }
  | _ => none }
def FnExactBetweenMarksWrongFalsely : Prop := fnExactBetweenMarksRow.holds Try.pinned (OpenSpec.ofChange fnExactBetweenMarksWrong)

/-- 'laws.FnExactCloseLoop': WHATEVER THE INPUT: true; the input reads as it did. -/
def fnExactCloseLoopSpec : ChangeSpec := { name := "fnExactCloseLoop", fn := fun _ => fun
  | [d1, d2, d3] => { results := [.lit (.bool true)], args := [d1, d2, d3] }
  | _ => none }
def fnExactCloseLoopRow : OpenClaim := { program := "ytppfdndnojbmjaa", sum := "d10f207ead63ea567c3716126f73b7dad8f9a0780258973ecc0736c595874613", func := "loop.example/g01032/laws.FnExactCloseLoop", spec := "fnExactCloseLoop", inPlace := ["internal/reflectlite.ValueOf", "internal/reflectlite.Swapper", "(internal/reflectlite.Value).Len"], unfollowed := true, recurses := true, apart := false }
def FnExactCloseLoopSaid : Prop := fnExactCloseLoopRow.holds Try.pinned (OpenSpec.ofChange fnExactCloseLoopSpec)

/-- ITS FALSE NEIGHBOUR: 'it returns false'. Refute it at one input. -/
def fnExactCloseLoopWrong : ChangeSpec := { name := "fnExactCloseLoop", fn := fun _ => fun
  | [d1, d2, d3] => { results := [.lit (.bool false)], args := [d1, d2, d3] }
  | _ => none }
def FnExactCloseLoopWrongFalsely : Prop := fnExactCloseLoopRow.holds Try.pinned (OpenSpec.ofChange fnExactCloseLoopWrong)

/-- 'laws.FnLoopErrors': WHATEVER THE INPUT: true; the input reads as it did. -/
def fnLoopErrorsSpec : ChangeSpec := { name := "fnLoopErrors", fn := fun _ => fun
  | [d1, d2] => { results := [.lit (.bool true)], args := [d1, d2] }
  | _ => none }
def fnLoopErrorsRow : OpenClaim := { program := "ytppfdndnojbmjaa", sum := "d10f207ead63ea567c3716126f73b7dad8f9a0780258973ecc0736c595874613", func := "loop.example/g01032/laws.FnLoopErrors", spec := "fnLoopErrors", inPlace := ["internal/reflectlite.ValueOf", "internal/reflectlite.Swapper", "(internal/reflectlite.Value).Len"], unfollowed := true, recurses := true, apart := false }
def FnLoopErrorsSaid : Prop := fnLoopErrorsRow.holds Try.pinned (OpenSpec.ofChange fnLoopErrorsSpec)

/-- ITS FALSE NEIGHBOUR: 'it returns false'. Refute it at one input. -/
def fnLoopErrorsWrong : ChangeSpec := { name := "fnLoopErrors", fn := fun _ => fun
  | [d1, d2] => { results := [.lit (.bool false)], args := [d1, d2] }
  | _ => none }
def FnLoopErrorsWrongFalsely : Prop := fnLoopErrorsRow.holds Try.pinned (OpenSpec.ofChange fnLoopErrorsWrong)

/- THE SECOND FORM. 'bulk': how many values and letters a reading holds, each counted each time it is reached (what is shared counts as often as it is met; a slice's spare places count too). A statement '..UptoSaid' is the law's where the arguments, and the package variables that the reading takes, are together of bulk at most 1048576: NARROWER than '..Said'. Prove '..Said' where nothing that the law and all that it calls make is longer than what came in: it says more and counts as full. Else prove '..UptoSaid'. A law counts once. -/
mutual
def uptoBulk {H : Type} : DataW H → Nat
  | .lit (.string bytes) => bytes.length + 1
  | .lit _ => 1
  | .nil => 1
  | .ptr d => uptoBulk d + 1
  | .slice elems spare => uptoBulkAll elems + uptoBulkAll spare + 1
  | .agg parts => uptoBulkAll parts + 1
  | .iface _ d => uptoBulk d + 1
  | .map entries => uptoBulkEntries entries + 1
  | .held _ => 1
def uptoBulkAll {H : Type} : List (DataW H) → Nat
  | [] => 0
  | d :: r => uptoBulk d + uptoBulkAll r
def uptoBulkEntries {H : Type} : List (Lit × DataW H) → Nat
  | [] => 0
  | x :: r => uptoBulkEntry x + uptoBulkEntries r
def uptoBulkEntry {H : Type} : Lit × DataW H → Nat
  | (.string bytes, d) => bytes.length + uptoBulk d + 1
  | (_, d) => uptoBulk d + 1
 end
def uptoSmall : (H : Type) → List (DataW H) → Bool := fun _ ds => decide (uptoBulkAll ds ≤ 1048576)
def OpenSpec.upto (s : _root_.Go.ChangeSpec) : _root_.Go.OpenSpec := { _root_.Go.OpenSpec.ofChange s with cond := some uptoSmall }

/-- 'laws.FnExactClashingLine', WHERE WHAT IT READS IS OF BULK AT MOST 1048576: true; the input reads as it did. -/
def fnExactClashingLineUptoRow : OpenClaim := { program := "ytppfdndnojbmjaa", sum := "d10f207ead63ea567c3716126f73b7dad8f9a0780258973ecc0736c595874613", func := "loop.example/g01032/laws.FnExactClashingLine", spec := "fnExactClashingLine", unfollowed := true, recurses := true, apart := false, narrowed := true }
def FnExactClashingLineUptoSaid : Prop := fnExactClashingLineUptoRow.holds Try.pinned (OpenSpec.upto fnExactClashingLineSpec)

/-- 'laws.FnExactSetsOfMarks', WHERE WHAT IT READS IS OF BULK AT MOST 1048576: true; the input reads as it did. -/
def fnExactSetsOfMarksUptoRow : OpenClaim := { program := "ytppfdndnojbmjaa", sum := "d10f207ead63ea567c3716126f73b7dad8f9a0780258973ecc0736c595874613", func := "loop.example/g01032/laws.FnExactSetsOfMarks", spec := "fnExactSetsOfMarks", unfollowed := true, recurses := true, apart := false, narrowed := true }
def FnExactSetsOfMarksUptoSaid : Prop := fnExactSetsOfMarksUptoRow.holds Try.pinned (OpenSpec.upto fnExactSetsOfMarksSpec)

/-- 'laws.FnExactLevelMarks', WHERE WHAT IT READS IS OF BULK AT MOST 1048576: true; the input reads as it did. -/
def fnExactLevelMarksUptoRow : OpenClaim := { program := "ytppfdndnojbmjaa", sum := "d10f207ead63ea567c3716126f73b7dad8f9a0780258973ecc0736c595874613", func := "loop.example/g01032/laws.FnExactLevelMarks", spec := "fnExactLevelMarks", unfollowed := true, recurses := true, apart := false, narrowed := true }
def FnExactLevelMarksUptoSaid : Prop := fnExactLevelMarksUptoRow.holds Try.pinned (OpenSpec.upto fnExactLevelMarksSpec)

/-- 'laws.FnExactClosingOf', WHERE WHAT IT READS IS OF BULK AT MOST 1048576: true; the input reads as it did. -/
def fnExactClosingOfUptoRow : OpenClaim := { program := "ytppfdndnojbmjaa", sum := "d10f207ead63ea567c3716126f73b7dad8f9a0780258973ecc0736c595874613", func := "loop.example/g01032/laws.FnExactClosingOf", spec := "fnExactClosingOf", unfollowed := true, recurses := true, apart := false, narrowed := true }
def FnExactClosingOfUptoSaid : Prop := fnExactClosingOfUptoRow.holds Try.pinned (OpenSpec.upto fnExactClosingOfSpec)

/-- 'laws.FnExactFewestClashes', WHERE WHAT IT READS IS OF BULK AT MOST 1048576: true; the input reads as it did. -/
def fnExactFewestClashesUptoRow : OpenClaim := { program := "ytppfdndnojbmjaa", sum := "d10f207ead63ea567c3716126f73b7dad8f9a0780258973ecc0736c595874613", func := "loop.example/g01032/laws.FnExactFewestClashes", spec := "fnExactFewestClashes", unfollowed := true, recurses := true, apart := false, narrowed := true }
def FnExactFewestClashesUptoSaid : Prop := fnExactFewestClashesUptoRow.holds Try.pinned (OpenSpec.upto fnExactFewestClashesSpec)

/-- 'laws.FnExactBetweenMarks', WHERE WHAT IT READS IS OF BULK AT MOST 1048576: true; the input reads as it did. -/
def fnExactBetweenMarksUptoRow : OpenClaim := { program := "ytppfdndnojbmjaa", sum := "d10f207ead63ea567c3716126f73b7dad8f9a0780258973ecc0736c595874613", func := "loop.example/g01032/laws.FnExactBetweenMarks", spec := "fnExactBetweenMarks", inPlace := ["internal/reflectlite.ValueOf", "internal/reflectlite.Swapper", "(internal/reflectlite.Value).Len"], unfollowed := true, recurses := true, apart := false, narrowed := true }
def FnExactBetweenMarksUptoSaid : Prop := fnExactBetweenMarksUptoRow.holds Try.pinned (OpenSpec.upto fnExactBetweenMarksSpec)

/-- 'laws.FnExactCloseLoop', WHERE WHAT IT READS IS OF BULK AT MOST 1048576: true; the input reads as it did. -/
def fnExactCloseLoopUptoRow : OpenClaim := { program := "ytppfdndnojbmjaa", sum := "d10f207ead63ea567c3716126f73b7dad8f9a0780258973ecc0736c595874613", func := "loop.example/g01032/laws.FnExactCloseLoop", spec := "fnExactCloseLoop", inPlace := ["internal/reflectlite.ValueOf", "internal/reflectlite.Swapper", "(internal/reflectlite.Value).Len"], unfollowed := true, recurses := true, apart := false, narrowed := true }
def FnExactCloseLoopUptoSaid : Prop := fnExactCloseLoopUptoRow.holds Try.pinned (OpenSpec.upto fnExactCloseLoopSpec)

/-- 'laws.FnLoopErrors', WHERE WHAT IT READS IS OF BULK AT MOST 1048576: true; the input reads as it did. -/
def fnLoopErrorsUptoRow : OpenClaim := { program := "ytppfdndnojbmjaa", sum := "d10f207ead63ea567c3716126f73b7dad8f9a0780258973ecc0736c595874613", func := "loop.example/g01032/laws.FnLoopErrors", spec := "fnLoopErrors", inPlace := ["internal/reflectlite.ValueOf", "internal/reflectlite.Swapper", "(internal/reflectlite.Value).Len"], unfollowed := true, recurses := true, apart := false, narrowed := true }
def FnLoopErrorsUptoSaid : Prop := fnLoopErrorsUptoRow.holds Try.pinned (OpenSpec.upto fnLoopErrorsSpec)

end Rows
end Go.Proofs.Ytppfdndnojbmjaa
