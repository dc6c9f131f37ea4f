/-
  No cell of these rows narrows 'for every input' (looked for: loops, veiled, ifaces, maps, wideKeys, modest, calm, conditions, laid).
  DERIVED. THE GIVEN ROWS OF THIS SEAT. 7 by the template 'for every input the law returns true; each argument reads behind the call as it read before'; 0 by the template 'total and deterministic' (their statements: YtoklpimhcdfbbaaTotals.lean).
  GIVEN WITH THE SEED: the statements are not yours to turn. If you find one false, say at which input.
  Laid BY PROGRAM, IN A SANDBOX (cutbox-rows.mjs): the forced cells as the released guide's own fill.sh prints them over the translation 546c73b98f88a4ae… (all of the seat's roots in one cut). By AI agents, Wed Nov 11 2026. No macro, syntax, notation, axiom, sorry.
-/
import Derived.Test.YtoklpimhcdfbbaaChecked
import GoSem.Claim
import GoSem.ClaimJoined
import GoSem.ClaimMapViews
import Derived.JoinedTies
import Derived.KernelRfl
namespace Go.Proofs.Ytoklpimhcdfbbaa
/- THE CELL 'sum', in the pinned program and in every row, IS THE sha256 OF THE DUMP (.gsa) THAT YtoklpimhcdfbbaaProg.lean LOADS. Nothing in Lean hashes anything: it is a label: what it is worth is what the hold of that sum in a sandbox is worth. -/
noncomputable def Try.pinned : Pinned := { name := "ytoklpimhcdfbbaa", sum := "546c73b98f88a4aebed50d21e7aec309bbc729e3d253a7296d818a0a4fea8c18", checked := Try.checked }
namespace Rows
def none {H : Type} : Left H := { results := [], args := [] }

/-- 'laws.FnMandates': WHATEVER THE INPUT: true; the input reads as it did. -/
def fnMandatesSpec : ChangeSpec := { name := "fnMandates", fn := fun _ => fun
  | [d1, d2] => { results := [.lit (.bool true)], args := [d1, d2] }
  | _ => none }
def fnMandatesRow : OpenClaim := { program := "ytoklpimhcdfbbaa", sum := "546c73b98f88a4aebed50d21e7aec309bbc729e3d253a7296d818a0a4fea8c18", func := "loop.example/g01032/laws.FnMandates", spec := "fnMandates", inPlace := ["internal/reflectlite.ValueOf", "internal/reflectlite.Swapper", "(internal/reflectlite.Value).Len"], unfollowed := true, recurses := true, plainKeys := false, apart := false }
def FnMandatesSaid : Prop := fnMandatesRow.holds Try.pinned (OpenSpec.ofChange fnMandatesSpec)

/-- ITS FALSE NEIGHBOUR: 'it returns false'. Refute it at one input. -/
def fnMandatesWrong : ChangeSpec := { name := "fnMandates", fn := fun _ => fun
  | [d1, d2] => { results := [.lit (.bool false)], args := [d1, d2] }
  | _ => none }
def FnMandatesWrongFalsely : Prop := fnMandatesRow.holds Try.pinned (OpenSpec.ofChange fnMandatesWrong)

/-- 'laws.FnExactVotesToGain': WHATEVER THE INPUT: true; the input reads as it did. -/
def fnExactVotesToGainSpec : ChangeSpec := { name := "fnExactVotesToGain", fn := fun _ => fun
  | [d1, d2, d3, d4] => { results := [.lit (.bool true)], args := [d1, d2, d3, d4] }
  | _ => none }
def fnExactVotesToGainRow : OpenClaim := { program := "ytoklpimhcdfbbaa", sum := "546c73b98f88a4aebed50d21e7aec309bbc729e3d253a7296d818a0a4fea8c18", func := "loop.example/g01032/laws.FnExactVotesToGain", spec := "fnExactVotesToGain", unfollowed := true, recurses := true, plainKeys := false, apart := false }
def FnExactVotesToGainSaid : Prop := fnExactVotesToGainRow.holds Try.pinned (OpenSpec.ofChange fnExactVotesToGainSpec)

/-- ITS FALSE NEIGHBOUR: 'it returns false'. Refute it at one input. -/
def fnExactVotesToGainWrong : ChangeSpec := { name := "fnExactVotesToGain", fn := fun _ => fun
  | [d1, d2, d3, d4] => { results := [.lit (.bool false)], args := [d1, d2, d3, d4] }
  | _ => none }
def FnExactVotesToGainWrongFalsely : Prop := fnExactVotesToGainRow.holds Try.pinned (OpenSpec.ofChange fnExactVotesToGainWrong)

/-- 'laws.FnExactLeastCoalitions': WHATEVER THE INPUT: true; the input reads as it did. -/
def fnExactLeastCoalitionsSpec : ChangeSpec := { name := "fnExactLeastCoalitions", fn := fun _ => fun
  | [d] => { results := [.lit (.bool true)], args := [d] }
  | _ => none }
def fnExactLeastCoalitionsRow : OpenClaim := { program := "ytoklpimhcdfbbaa", sum := "546c73b98f88a4aebed50d21e7aec309bbc729e3d253a7296d818a0a4fea8c18", func := "loop.example/g01032/laws.FnExactLeastCoalitions", spec := "fnExactLeastCoalitions", unfollowed := true, recurses := true, plainKeys := false, apart := false }
def FnExactLeastCoalitionsSaid : Prop := fnExactLeastCoalitionsRow.holds Try.pinned (OpenSpec.ofChange fnExactLeastCoalitionsSpec)

/-- ITS FALSE NEIGHBOUR: 'it returns false'. Refute it at one input. -/
def fnExactLeastCoalitionsWrong : ChangeSpec := { name := "fnExactLeastCoalitions", fn := fun _ => fun
  | [d] => { results := [.lit (.bool false)], args := [d] }
  | _ => none }
def FnExactLeastCoalitionsWrongFalsely : Prop := fnExactLeastCoalitionsRow.holds Try.pinned (OpenSpec.ofChange fnExactLeastCoalitionsWrong)

/-- 'laws.FnGains': WHATEVER THE INPUT: true; the input reads as it did. -/
def fnGainsSpec : ChangeSpec := { name := "fnGains", fn := fun _ => fun
  | [d1, d2] => { results := [.lit (.bool true)], args := [d1, d2] }
  | _ => none }
def fnGainsRow : OpenClaim := { program := "ytoklpimhcdfbbaa", sum := "546c73b98f88a4aebed50d21e7aec309bbc729e3d253a7296d818a0a4fea8c18", func := "loop.example/g01032/laws.FnGains", spec := "fnGains", unfollowed := true, recurses := true, plainKeys := false, apart := false }
def FnGainsSaid : Prop := fnGainsRow.holds Try.pinned (OpenSpec.ofChange fnGainsSpec)

/-- ITS FALSE NEIGHBOUR: 'it returns false'. Refute it at one input. -/
def fnGainsWrong : ChangeSpec := { name := "fnGains", fn := fun _ => fun
  | [d1, d2] => { results := [.lit (.bool false)], args := [d1, d2] }
  | _ => none }
def FnGainsWrongFalsely : Prop := fnGainsRow.holds Try.pinned (OpenSpec.ofChange fnGainsWrong)

/-- 'laws.FnExactMandatesByRemainders': WHATEVER THE INPUT: true; the input reads as it did. -/
def fnExactMandatesByRemaindersSpec : ChangeSpec := { name := "fnExactMandatesByRemainders", fn := fun _ => fun
  | [d1, d2] => { results := [.lit (.bool true)], args := [d1, d2] }
  | _ => none }
def fnExactMandatesByRemaindersRow : OpenClaim := { program := "ytoklpimhcdfbbaa", sum := "546c73b98f88a4aebed50d21e7aec309bbc729e3d253a7296d818a0a4fea8c18", func := "loop.example/g01032/laws.FnExactMandatesByRemainders", spec := "fnExactMandatesByRemainders", inPlace := ["internal/reflectlite.ValueOf", "internal/reflectlite.Swapper", "(internal/reflectlite.Value).Len"], unfollowed := true, recurses := true, plainKeys := false, apart := false }
def FnExactMandatesByRemaindersSaid : Prop := fnExactMandatesByRemaindersRow.holds Try.pinned (OpenSpec.ofChange fnExactMandatesByRemaindersSpec)

/-- ITS FALSE NEIGHBOUR: 'it returns false'. Refute it at one input. -/
def fnExactMandatesByRemaindersWrong : ChangeSpec := { name := "fnExactMandatesByRemainders", fn := fun _ => fun
  | [d1, d2] => { results := [.lit (.bool false)], args := [d1, d2] }
  | _ => none }
def FnExactMandatesByRemaindersWrongFalsely : Prop := fnExactMandatesByRemaindersRow.holds Try.pinned (OpenSpec.ofChange fnExactMandatesByRemaindersWrong)

/-- 'laws.FnWalls': WHATEVER THE INPUT: true; the input reads as it did. -/
def fnWallsSpec : ChangeSpec := { name := "fnWalls", fn := fun _ => fun
  | [d] => { results := [.lit (.bool true)], args := [d] }
  | _ => none }
def fnWallsRow : OpenClaim := { program := "ytoklpimhcdfbbaa", sum := "546c73b98f88a4aebed50d21e7aec309bbc729e3d253a7296d818a0a4fea8c18", func := "loop.example/g01032/laws.FnWalls", spec := "fnWalls", unfollowed := true, recurses := true, plainKeys := false, apart := false }
def FnWallsSaid : Prop := fnWallsRow.holds Try.pinned (OpenSpec.ofChange fnWallsSpec)

/-- ITS FALSE NEIGHBOUR: 'it returns false'. Refute it at one input. -/
def fnWallsWrong : ChangeSpec := { name := "fnWalls", fn := fun _ => fun
  | [d] => { results := [.lit (.bool false)], args := [d] }
  | _ => none }
def FnWallsWrongFalsely : Prop := fnWallsRow.holds Try.pinned (OpenSpec.ofChange fnWallsWrong)

/-- 'laws.FnExactFewestWall': WHATEVER THE INPUT: true; the input reads as it did. -/
def fnExactFewestWallSpec : ChangeSpec := { name := "fnExactFewestWall", fn := fun _ => fun
  | [d1, d2, d3, d4] => { results := [.lit (.bool true)], args := [d1, d2, d3, d4] }
  | _ => none }
def fnExactFewestWallRow : OpenClaim := { program := "ytoklpimhcdfbbaa", sum := "546c73b98f88a4aebed50d21e7aec309bbc729e3d253a7296d818a0a4fea8c18", func := "loop.example/g01032/laws.FnExactFewestWall", spec := "fnExactFewestWall", unfollowed := true, recurses := true, plainKeys := false, apart := false }
def FnExactFewestWallSaid : Prop := fnExactFewestWallRow.holds Try.pinned (OpenSpec.ofChange fnExactFewestWallSpec)

/-- ITS FALSE NEIGHBOUR: 'it returns false'. Refute it at one input. -/
def fnExactFewestWallWrong : ChangeSpec := { name := "fnExactFewestWall", fn := fun _ => fun
  | [d1, d2, d3, d4] => { results := [.lit (.bool false)], args := [d1, d2, d3, d4] }
  | _ => none }
def FnExactFewestWallWrongFalsely : Prop := fnExactFewestWallRow.holds Try.pinned (OpenSpec.ofChange fnExactFewestWallWrong)

/- THE SECOND FORM. 'bulk': how many values and letters a reading holds, each counted each time it is reached (what is shared counts as often as it is met; a slice's spare places count too). A statement '..UptoSaid' is the law's where the arguments, and the package variables that the reading takes, are together of bulk at most 1048576: NARROWER than '..Said'. Prove '..Said' where nothing that the law and all that it calls make is longer than what came in: it says more and counts as full. Else prove '..UptoSaid'. A law counts once. -/
mutual
def uptoBulk {H : Type} : DataW H → Nat
  | .lit (.string bytes) => bytes.length + 1
  | .lit _ => 1
  | .nil => 1
  | .ptr d => uptoBulk d + 1
  | .slice elems spare => uptoBulkAll elems + uptoBulkAll spare + 1
  | .agg parts => uptoBulkAll parts + 1
  | .iface _ d => uptoBulk d + 1
  | .map entries => uptoBulkEntries entries + 1
  | .held _ => 1
def uptoBulkAll {H : Type} : List (DataW H) → Nat
  | [] => 0
  | d :: r => uptoBulk d + uptoBulkAll r
def uptoBulkEntries {H : Type} : List (Lit × DataW H) → Nat
  | [] => 0
  | x :: r => uptoBulkEntry x + uptoBulkEntries r
def uptoBulkEntry {H : Type} : Lit × DataW H → Nat
  | (.string bytes, d) => bytes.length + uptoBulk d + 1
  | (_, d) => uptoBulk d + 1
 end
def uptoSmall : (H : Type) → List (DataW H) → Bool := fun _ ds => decide (uptoBulkAll ds ≤ 1048576)
def OpenSpec.upto (s : _root_.Go.ChangeSpec) : _root_.Go.OpenSpec := { _root_.Go.OpenSpec.ofChange s with cond := some uptoSmall }

/-- 'laws.FnMandates', WHERE WHAT IT READS IS OF BULK AT MOST 1048576: true; the input reads as it did. -/
def fnMandatesUptoRow : OpenClaim := { program := "ytoklpimhcdfbbaa", sum := "546c73b98f88a4aebed50d21e7aec309bbc729e3d253a7296d818a0a4fea8c18", func := "loop.example/g01032/laws.FnMandates", spec := "fnMandates", inPlace := ["internal/reflectlite.ValueOf", "internal/reflectlite.Swapper", "(internal/reflectlite.Value).Len"], unfollowed := true, recurses := true, plainKeys := false, apart := false, narrowed := true }
def FnMandatesUptoSaid : Prop := fnMandatesUptoRow.holds Try.pinned (OpenSpec.upto fnMandatesSpec)

/-- 'laws.FnExactVotesToGain', WHERE WHAT IT READS IS OF BULK AT MOST 1048576: true; the input reads as it did. -/
def fnExactVotesToGainUptoRow : OpenClaim := { program := "ytoklpimhcdfbbaa", sum := "546c73b98f88a4aebed50d21e7aec309bbc729e3d253a7296d818a0a4fea8c18", func := "loop.example/g01032/laws.FnExactVotesToGain", spec := "fnExactVotesToGain", unfollowed := true, recurses := true, plainKeys := false, apart := false, narrowed := true }
def FnExactVotesToGainUptoSaid : Prop := fnExactVotesToGainUptoRow.holds Try.pinned (OpenSpec.upto fnExactVotesToGainSpec)

/-- 'laws.FnExactLeastCoalitions', WHERE WHAT IT READS IS OF BULK AT MOST 1048576: true; the input reads as it did. -/
def fnExactLeastCoalitionsUptoRow : OpenClaim := { program := "ytoklpimhcdfbbaa", sum := "546c73b98f88a4aebed50d21e7aec309bbc729e3d253a7296d818a0a4fea8c18", func := "loop.example/g01032/laws.FnExactLeastCoalitions", spec := "fnExactLeastCoalitions", unfollowed := true, recurses := true, plainKeys := false, apart := false, narrowed := true }
def FnExactLeastCoalitionsUptoSaid : Prop := fnExactLeastCoalitionsUptoRow.holds Try.pinned (OpenSpec.upto fnExactLeastCoalitionsSpec)

/-- 'laws.FnGains', WHERE WHAT IT READS IS OF BULK AT MOST 1048576: true; the input reads as it did. -/
def fnGainsUptoRow : OpenClaim := { program := "ytoklpimhcdfbbaa", sum := "546c73b98f88a4aebed50d21e7aec309bbc729e3d253a7296d818a0a4fea8c18", func := "loop.example/g01032/laws.FnGains", spec := "fnGains", unfollowed := true, recurses := true, plainKeys := false, apart := false, narrowed := true }
def FnGainsUptoSaid : Prop := fnGainsUptoRow.holds Try.pinned (OpenSpec.upto fnGainsSpec)

/-- 'laws.FnExactMandatesByRemainders', WHERE WHAT IT READS IS OF BULK AT MOST 1048576: true; the input reads as it did. -/
def fnExactMandatesByRemaindersUptoRow : OpenClaim := { program := "ytoklpimhcdfbbaa", sum := "546c73b98f88a4aebed50d21e7aec309bbc729e3d253a7296d818a0a4fea8c18", func := "loop.example/g01032/laws.FnExactMandatesByRemainders", spec := "fnExactMandatesByRemainders", inPlace := ["internal/reflectlite.ValueOf", "internal/reflectlite.Swapper", "(internal/reflectlite.Value).Len"], unfollowed := true, recurses := true, plainKeys := false, apart := false, narrowed := true }
def FnExactMandatesByRemaindersUptoSaid : Prop := fnExactMandatesByRemaindersUptoRow.holds Try.pinned (OpenSpec.upto fnExactMandatesByRemaindersSpec)

/-- 'laws.FnWalls', WHERE WHAT IT READS IS OF BULK AT MOST 1048576: true; the input reads as it did. -/
def fnWallsUptoRow : OpenClaim := { program := "ytoklpimhcdfbbaa", sum := "546c73b98f88a4aebed50d21e7aec309bbc729e3d253a7296d818a0a4fea8c18", func := "loop.example/g01032/laws.FnWalls", spec := "fnWalls", unfollowed := true, recurses := true, plainKeys := false, apart := false, narrowed := true }
def FnWallsUptoSaid : Prop := fnWallsUptoRow.holds Try.pinned (OpenSpec.upto fnWallsSpec)

/-- 'laws.FnExactFewestWall', WHERE WHAT IT READS IS OF BULK AT MOST 1048576: true; the input reads as it did. -/
def fnExactFewestWallUptoRow : OpenClaim := { program := "ytoklpimhcdfbbaa", sum := "546c73b98f88a4aebed50d21e7aec309bbc729e3d253a7296d818a0a4fea8c18", func := "loop.example/g01032/laws.FnExactFewestWall", spec := "fnExactFewestWall", unfollowed := true, recurses := true, plainKeys := false, apart := false, narrowed := true }
def FnExactFewestWallUptoSaid : Prop := fnExactFewestWallUptoRow.holds Try.pinned (OpenSpec.upto fnExactFewestWallSpec)

end Rows
end Go.Proofs.Ytoklpimhcdfbbaa
