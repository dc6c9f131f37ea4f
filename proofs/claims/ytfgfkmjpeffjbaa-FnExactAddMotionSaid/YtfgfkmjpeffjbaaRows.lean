/-
  No cell of these rows narrows 'for every input' (looked for: loops, veiled, ifaces, maps, wideKeys, modest, calm, conditions, laid).
  DERIVED. THE GIVEN ROWS OF THIS SEAT. 11 by the template 'for every input the law returns true; each argument reads behind the call as it read before'; 0 by the template 'total and deterministic' (their statements: YtfgfkmjpeffjbaaTotals.lean).
  GIVEN WITH THE SEED: the statements are not yours to turn. If you find one false, say at which input.
  Laid BY PROGRAM, IN A SANDBOX (cutbox-rows.mjs): the forced cells as the released guide's own fill.sh prints them over the translation 9b8e5b1f5b9a1bf8… (all of the seat's roots in one cut). By AI agents, Wed Nov 11 2026. No macro, syntax, notation, axiom, sorry.
-/
import Derived.Test.YtfgfkmjpeffjbaaChecked
import GoSem.Claim
import GoSem.ClaimJoined
import GoSem.ClaimMapViews
import Derived.JoinedTies
import Derived.KernelRfl
namespace Go.Proofs.Ytfgfkmjpeffjbaa
/- THE CELL 'sum', in the pinned program and in every row, IS THE sha256 OF THE DUMP (.gsa) THAT YtfgfkmjpeffjbaaProg.lean LOADS. Nothing in Lean hashes anything: it is a label: what it is worth is what the hold of that sum in a sandbox is worth. -/
noncomputable def Try.pinned : Pinned := { name := "ytfgfkmjpeffjbaa", sum := "9b8e5b1f5b9a1bf87be99e8a516937dcbaa532ae53db15262ff877a07e4ed6d2", checked := Try.checked }
namespace Rows
def none {H : Type} : Left H := { results := [], args := [] }

/-- 'laws.FnExactSameMeeting': WHATEVER THE INPUT: true; the input reads as it did. -/
def fnExactSameMeetingSpec : ChangeSpec := { name := "fnExactSameMeeting", fn := fun _ => fun
  | [d1, d2] => { results := [.lit (.bool true)], args := [d1, d2] }
  | _ => none }
def fnExactSameMeetingRow : OpenClaim := { program := "ytfgfkmjpeffjbaa", sum := "9b8e5b1f5b9a1bf87be99e8a516937dcbaa532ae53db15262ff877a07e4ed6d2", func := "loop.example/g01032/laws.FnExactSameMeeting", spec := "fnExactSameMeeting", apart := false }
def FnExactSameMeetingSaid : Prop := fnExactSameMeetingRow.holds Try.pinned (OpenSpec.ofChange fnExactSameMeetingSpec)

/-- ITS FALSE NEIGHBOUR: 'it returns false'. Refute it at one input. -/
def fnExactSameMeetingWrong : ChangeSpec := { name := "fnExactSameMeeting", fn := fun _ => fun
  | [d1, d2] => { results := [.lit (.bool false)], args := [d1, d2] }
  | _ => none }
def FnExactSameMeetingWrongFalsely : Prop := fnExactSameMeetingRow.holds Try.pinned (OpenSpec.ofChange fnExactSameMeetingWrong)

/-- 'laws.FnExactValidMeeting': WHATEVER THE INPUT: true; the input reads as it did. -/
def fnExactValidMeetingSpec : ChangeSpec := { name := "fnExactValidMeeting", fn := fun _ => fun
  | [d] => { results := [.lit (.bool true)], args := [d] }
  | _ => none }
def fnExactValidMeetingRow : OpenClaim := { program := "ytfgfkmjpeffjbaa", sum := "9b8e5b1f5b9a1bf87be99e8a516937dcbaa532ae53db15262ff877a07e4ed6d2", func := "loop.example/g01032/laws.FnExactValidMeeting", spec := "fnExactValidMeeting", unfollowed := true, recurses := true, apart := false }
def FnExactValidMeetingSaid : Prop := fnExactValidMeetingRow.holds Try.pinned (OpenSpec.ofChange fnExactValidMeetingSpec)

/-- ITS FALSE NEIGHBOUR: 'it returns false'. Refute it at one input. -/
def fnExactValidMeetingWrong : ChangeSpec := { name := "fnExactValidMeeting", fn := fun _ => fun
  | [d] => { results := [.lit (.bool false)], args := [d] }
  | _ => none }
def FnExactValidMeetingWrongFalsely : Prop := fnExactValidMeetingRow.holds Try.pinned (OpenSpec.ofChange fnExactValidMeetingWrong)

/-- 'laws.FnExactAgreementOf': WHATEVER THE INPUT: true; the input reads as it did. -/
def fnExactAgreementOfSpec : ChangeSpec := { name := "fnExactAgreementOf", fn := fun _ => fun
  | [d1, d2, d3] => { results := [.lit (.bool true)], args := [d1, d2, d3] }
  | _ => none }
def fnExactAgreementOfRow : OpenClaim := { program := "ytfgfkmjpeffjbaa", sum := "9b8e5b1f5b9a1bf87be99e8a516937dcbaa532ae53db15262ff877a07e4ed6d2", func := "loop.example/g01032/laws.FnExactAgreementOf", spec := "fnExactAgreementOf", unfollowed := true, recurses := true, apart := false }
def FnExactAgreementOfSaid : Prop := fnExactAgreementOfRow.holds Try.pinned (OpenSpec.ofChange fnExactAgreementOfSpec)

/-- ITS FALSE NEIGHBOUR: 'it returns false'. Refute it at one input. -/
def fnExactAgreementOfWrong : ChangeSpec := { name := "fnExactAgreementOf", fn := fun _ => fun
  | [d1, d2, d3] => { results := [.lit (.bool false)], args := [d1, d2, d3] }
  | _ => none }
def FnExactAgreementOfWrongFalsely : Prop := fnExactAgreementOfRow.holds Try.pinned (OpenSpec.ofChange fnExactAgreementOfWrong)

/-- 'laws.FnExactAttendanceOf': WHATEVER THE INPUT: true; the input reads as it did. -/
def fnExactAttendanceOfSpec : ChangeSpec := { name := "fnExactAttendanceOf", fn := fun _ => fun
  | [d] => { results := [.lit (.bool true)], args := [d] }
  | _ => none }
def fnExactAttendanceOfRow : OpenClaim := { program := "ytfgfkmjpeffjbaa", sum := "9b8e5b1f5b9a1bf87be99e8a516937dcbaa532ae53db15262ff877a07e4ed6d2", func := "loop.example/g01032/laws.FnExactAttendanceOf", spec := "fnExactAttendanceOf", unfollowed := true, recurses := true, apart := false }
def FnExactAttendanceOfSaid : Prop := fnExactAttendanceOfRow.holds Try.pinned (OpenSpec.ofChange fnExactAttendanceOfSpec)

/-- ITS FALSE NEIGHBOUR: 'it returns false'. Refute it at one input. -/
def fnExactAttendanceOfWrong : ChangeSpec := { name := "fnExactAttendanceOf", fn := fun _ => fun
  | [d] => { results := [.lit (.bool false)], args := [d] }
  | _ => none }
def FnExactAttendanceOfWrongFalsely : Prop := fnExactAttendanceOfRow.holds Try.pinned (OpenSpec.ofChange fnExactAttendanceOfWrong)

/-- 'laws.FnExactResultOf': WHATEVER THE INPUT: true; the input reads as it did. -/
def fnExactResultOfSpec : ChangeSpec := { name := "fnExactResultOf", fn := fun _ => fun
  | [d1, d2] => { results := [.lit (.bool true)], args := [d1, d2] }
  | _ => none }
def fnExactResultOfRow : OpenClaim := { program := "ytfgfkmjpeffjbaa", sum := "9b8e5b1f5b9a1bf87be99e8a516937dcbaa532ae53db15262ff877a07e4ed6d2", func := "loop.example/g01032/laws.FnExactResultOf", spec := "fnExactResultOf", unfollowed := true, recurses := true, apart := false }
def FnExactResultOfSaid : Prop := fnExactResultOfRow.holds Try.pinned (OpenSpec.ofChange fnExactResultOfSpec)

/-- ITS FALSE NEIGHBOUR: 'it returns false'. Refute it at one input. -/
def fnExactResultOfWrong : ChangeSpec := { name := "fnExactResultOf", fn := fun _ => fun
  | [d1, d2] => { results := [.lit (.bool false)], args := [d1, d2] }
  | _ => none }
def FnExactResultOfWrongFalsely : Prop := fnExactResultOfRow.holds Try.pinned (OpenSpec.ofChange fnExactResultOfWrong)

/-- 'laws.FnExactCanStillWin': WHATEVER THE INPUT: true; the input reads as it did. -/
def fnExactCanStillWinSpec : ChangeSpec := { name := "fnExactCanStillWin", fn := fun _ => fun
  | [d1, d2] => { results := [.lit (.bool true)], args := [d1, d2] }
  | _ => none }
def fnExactCanStillWinRow : OpenClaim := { program := "ytfgfkmjpeffjbaa", sum := "9b8e5b1f5b9a1bf87be99e8a516937dcbaa532ae53db15262ff877a07e4ed6d2", func := "loop.example/g01032/laws.FnExactCanStillWin", spec := "fnExactCanStillWin", unfollowed := true, recurses := true, apart := false }
def FnExactCanStillWinSaid : Prop := fnExactCanStillWinRow.holds Try.pinned (OpenSpec.ofChange fnExactCanStillWinSpec)

/-- ITS FALSE NEIGHBOUR: 'it returns false'. Refute it at one input. -/
def fnExactCanStillWinWrong : ChangeSpec := { name := "fnExactCanStillWin", fn := fun _ => fun
  | [d1, d2] => { results := [.lit (.bool false)], args := [d1, d2] }
  | _ => none }
def FnExactCanStillWinWrongFalsely : Prop := fnExactCanStillWinRow.holds Try.pinned (OpenSpec.ofChange fnExactCanStillWinWrong)

/-- 'laws.FnExactCountVotes': WHATEVER THE INPUT: true; the input reads as it did. -/
def fnExactCountVotesSpec : ChangeSpec := { name := "fnExactCountVotes", fn := fun _ => fun
  | [d1, d2] => { results := [.lit (.bool true)], args := [d1, d2] }
  | _ => none }
def fnExactCountVotesRow : OpenClaim := { program := "ytfgfkmjpeffjbaa", sum := "9b8e5b1f5b9a1bf87be99e8a516937dcbaa532ae53db15262ff877a07e4ed6d2", func := "loop.example/g01032/laws.FnExactCountVotes", spec := "fnExactCountVotes", unfollowed := true, recurses := true, apart := false }
def FnExactCountVotesSaid : Prop := fnExactCountVotesRow.holds Try.pinned (OpenSpec.ofChange fnExactCountVotesSpec)

/-- ITS FALSE NEIGHBOUR: 'it returns false'. Refute it at one input. -/
def fnExactCountVotesWrong : ChangeSpec := { name := "fnExactCountVotes", fn := fun _ => fun
  | [d1, d2] => { results := [.lit (.bool false)], args := [d1, d2] }
  | _ => none }
def FnExactCountVotesWrongFalsely : Prop := fnExactCountVotesRow.holds Try.pinned (OpenSpec.ofChange fnExactCountVotesWrong)

/-- 'laws.FnExactAddMotion': WHATEVER THE INPUT: true; the input reads as it did. -/
def fnExactAddMotionSpec : ChangeSpec := { name := "fnExactAddMotion", fn := fun _ => fun
  | [d1, d2] => { results := [.lit (.bool true)], args := [d1, d2] }
  | _ => none }
def fnExactAddMotionRow : OpenClaim := { program := "ytfgfkmjpeffjbaa", sum := "9b8e5b1f5b9a1bf87be99e8a516937dcbaa532ae53db15262ff877a07e4ed6d2", func := "loop.example/g01032/laws.FnExactAddMotion", spec := "fnExactAddMotion", unfollowed := true, recurses := true, apart := false }
def FnExactAddMotionSaid : Prop := fnExactAddMotionRow.holds Try.pinned (OpenSpec.ofChange fnExactAddMotionSpec)

/-- ITS FALSE NEIGHBOUR: 'it returns false'. Refute it at one input. -/
def fnExactAddMotionWrong : ChangeSpec := { name := "fnExactAddMotion", fn := fun _ => fun
  | [d1, d2] => { results := [.lit (.bool false)], args := [d1, d2] }
  | _ => none }
def FnExactAddMotionWrongFalsely : Prop := fnExactAddMotionRow.holds Try.pinned (OpenSpec.ofChange fnExactAddMotionWrong)

/-- 'laws.FnExactCastVote': WHATEVER THE INPUT: true; the input reads as it did. -/
def fnExactCastVoteSpec : ChangeSpec := { name := "fnExactCastVote", fn := fun _ => fun
  | [d1, d2, d3, d4] => { results := [.lit (.bool true)], args := [d1, d2, d3, d4] }
  | _ => none }
def fnExactCastVoteRow : OpenClaim := { program := "ytfgfkmjpeffjbaa", sum := "9b8e5b1f5b9a1bf87be99e8a516937dcbaa532ae53db15262ff877a07e4ed6d2", func := "loop.example/g01032/laws.FnExactCastVote", spec := "fnExactCastVote", unfollowed := true, recurses := true, apart := false }
def FnExactCastVoteSaid : Prop := fnExactCastVoteRow.holds Try.pinned (OpenSpec.ofChange fnExactCastVoteSpec)

/-- ITS FALSE NEIGHBOUR: 'it returns false'. Refute it at one input. -/
def fnExactCastVoteWrong : ChangeSpec := { name := "fnExactCastVote", fn := fun _ => fun
  | [d1, d2, d3, d4] => { results := [.lit (.bool false)], args := [d1, d2, d3, d4] }
  | _ => none }
def FnExactCastVoteWrongFalsely : Prop := fnExactCastVoteRow.holds Try.pinned (OpenSpec.ofChange fnExactCastVoteWrong)

/-- 'laws.FnExactMinutesOf': WHATEVER THE INPUT: true; the input reads as it did. -/
def fnExactMinutesOfSpec : ChangeSpec := { name := "fnExactMinutesOf", fn := fun _ => fun
  | [d] => { results := [.lit (.bool true)], args := [d] }
  | _ => none }
def fnExactMinutesOfRow : OpenClaim := { program := "ytfgfkmjpeffjbaa", sum := "9b8e5b1f5b9a1bf87be99e8a516937dcbaa532ae53db15262ff877a07e4ed6d2", func := "loop.example/g01032/laws.FnExactMinutesOf", spec := "fnExactMinutesOf", unfollowed := true, recurses := true, apart := false }
def FnExactMinutesOfSaid : Prop := fnExactMinutesOfRow.holds Try.pinned (OpenSpec.ofChange fnExactMinutesOfSpec)

/-- ITS FALSE NEIGHBOUR: 'it returns false'. Refute it at one input. -/
def fnExactMinutesOfWrong : ChangeSpec := { name := "fnExactMinutesOf", fn := fun _ => fun
  | [d] => { results := [.lit (.bool false)], args := [d] }
  | _ => none }
def FnExactMinutesOfWrongFalsely : Prop := fnExactMinutesOfRow.holds Try.pinned (OpenSpec.ofChange fnExactMinutesOfWrong)

/-- 'laws.FnExactDecidingSeats': WHATEVER THE INPUT: true; the input reads as it did. -/
def fnExactDecidingSeatsSpec : ChangeSpec := { name := "fnExactDecidingSeats", fn := fun _ => fun
  | [d1, d2] => { results := [.lit (.bool true)], args := [d1, d2] }
  | _ => none }
def fnExactDecidingSeatsRow : OpenClaim := { program := "ytfgfkmjpeffjbaa", sum := "9b8e5b1f5b9a1bf87be99e8a516937dcbaa532ae53db15262ff877a07e4ed6d2", func := "loop.example/g01032/laws.FnExactDecidingSeats", spec := "fnExactDecidingSeats", unfollowed := true, recurses := true, apart := false }
def FnExactDecidingSeatsSaid : Prop := fnExactDecidingSeatsRow.holds Try.pinned (OpenSpec.ofChange fnExactDecidingSeatsSpec)

/-- ITS FALSE NEIGHBOUR: 'it returns false'. Refute it at one input. -/
def fnExactDecidingSeatsWrong : ChangeSpec := { name := "fnExactDecidingSeats", fn := fun _ => fun
  | [d1, d2] => { results := [.lit (.bool false)], args := [d1, d2] }
  | _ => none }
def FnExactDecidingSeatsWrongFalsely : Prop := fnExactDecidingSeatsRow.holds Try.pinned (OpenSpec.ofChange fnExactDecidingSeatsWrong)

/- THE SECOND FORM. 'bulk': how many values and letters a reading holds, each counted each time it is reached (what is shared counts as often as it is met; a slice's spare places count too). A statement '..UptoSaid' is the law's where the arguments, and the package variables that the reading takes, are together of bulk at most 1048576: NARROWER than '..Said'. Prove '..Said' where nothing that the law and all that it calls make is longer than what came in: it says more and counts as full. Else prove '..UptoSaid'. A law counts once. -/
mutual
def uptoBulk {H : Type} : DataW H → Nat
  | .lit (.string bytes) => bytes.length + 1
  | .lit _ => 1
  | .nil => 1
  | .ptr d => uptoBulk d + 1
  | .slice elems spare => uptoBulkAll elems + uptoBulkAll spare + 1
  | .agg parts => uptoBulkAll parts + 1
  | .iface _ d => uptoBulk d + 1
  | .map entries => uptoBulkEntries entries + 1
  | .held _ => 1
def uptoBulkAll {H : Type} : List (DataW H) → Nat
  | [] => 0
  | d :: r => uptoBulk d + uptoBulkAll r
def uptoBulkEntries {H : Type} : List (Lit × DataW H) → Nat
  | [] => 0
  | x :: r => uptoBulkEntry x + uptoBulkEntries r
def uptoBulkEntry {H : Type} : Lit × DataW H → Nat
  | (.string bytes, d) => bytes.length + uptoBulk d + 1
  | (_, d) => uptoBulk d + 1
 end
def uptoSmall : (H : Type) → List (DataW H) → Bool := fun _ ds => decide (uptoBulkAll ds ≤ 1048576)
def OpenSpec.upto (s : _root_.Go.ChangeSpec) : _root_.Go.OpenSpec := { _root_.Go.OpenSpec.ofChange s with cond := some uptoSmall }

/-- 'laws.FnExactSameMeeting', WHERE WHAT IT READS IS OF BULK AT MOST 1048576: true; the input reads as it did. -/
def fnExactSameMeetingUptoRow : OpenClaim := { program := "ytfgfkmjpeffjbaa", sum := "9b8e5b1f5b9a1bf87be99e8a516937dcbaa532ae53db15262ff877a07e4ed6d2", func := "loop.example/g01032/laws.FnExactSameMeeting", spec := "fnExactSameMeeting", apart := false, narrowed := true }
def FnExactSameMeetingUptoSaid : Prop := fnExactSameMeetingUptoRow.holds Try.pinned (OpenSpec.upto fnExactSameMeetingSpec)

/-- 'laws.FnExactValidMeeting', WHERE WHAT IT READS IS OF BULK AT MOST 1048576: true; the input reads as it did. -/
def fnExactValidMeetingUptoRow : OpenClaim := { program := "ytfgfkmjpeffjbaa", sum := "9b8e5b1f5b9a1bf87be99e8a516937dcbaa532ae53db15262ff877a07e4ed6d2", func := "loop.example/g01032/laws.FnExactValidMeeting", spec := "fnExactValidMeeting", unfollowed := true, recurses := true, apart := false, narrowed := true }
def FnExactValidMeetingUptoSaid : Prop := fnExactValidMeetingUptoRow.holds Try.pinned (OpenSpec.upto fnExactValidMeetingSpec)

/-- 'laws.FnExactAgreementOf', WHERE WHAT IT READS IS OF BULK AT MOST 1048576: true; the input reads as it did. -/
def fnExactAgreementOfUptoRow : OpenClaim := { program := "ytfgfkmjpeffjbaa", sum := "9b8e5b1f5b9a1bf87be99e8a516937dcbaa532ae53db15262ff877a07e4ed6d2", func := "loop.example/g01032/laws.FnExactAgreementOf", spec := "fnExactAgreementOf", unfollowed := true, recurses := true, apart := false, narrowed := true }
def FnExactAgreementOfUptoSaid : Prop := fnExactAgreementOfUptoRow.holds Try.pinned (OpenSpec.upto fnExactAgreementOfSpec)

/-- 'laws.FnExactAttendanceOf', WHERE WHAT IT READS IS OF BULK AT MOST 1048576: true; the input reads as it did. -/
def fnExactAttendanceOfUptoRow : OpenClaim := { program := "ytfgfkmjpeffjbaa", sum := "9b8e5b1f5b9a1bf87be99e8a516937dcbaa532ae53db15262ff877a07e4ed6d2", func := "loop.example/g01032/laws.FnExactAttendanceOf", spec := "fnExactAttendanceOf", unfollowed := true, recurses := true, apart := false, narrowed := true }
def FnExactAttendanceOfUptoSaid : Prop := fnExactAttendanceOfUptoRow.holds Try.pinned (OpenSpec.upto fnExactAttendanceOfSpec)

/-- 'laws.FnExactResultOf', WHERE WHAT IT READS IS OF BULK AT MOST 1048576: true; the input reads as it did. -/
def fnExactResultOfUptoRow : OpenClaim := { program := "ytfgfkmjpeffjbaa", sum := "9b8e5b1f5b9a1bf87be99e8a516937dcbaa532ae53db15262ff877a07e4ed6d2", func := "loop.example/g01032/laws.FnExactResultOf", spec := "fnExactResultOf", unfollowed := true, recurses := true, apart := false, narrowed := true }
def FnExactResultOfUptoSaid : Prop := fnExactResultOfUptoRow.holds Try.pinned (OpenSpec.upto fnExactResultOfSpec)

/-- 'laws.FnExactCanStillWin', WHERE WHAT IT READS IS OF BULK AT MOST 1048576: true; the input reads as it did. -/
def fnExactCanStillWinUptoRow : OpenClaim := { program := "ytfgfkmjpeffjbaa", sum := "9b8e5b1f5b9a1bf87be99e8a516937dcbaa532ae53db15262ff877a07e4ed6d2", func := "loop.example/g01032/laws.FnExactCanStillWin", spec := "fnExactCanStillWin", unfollowed := true, recurses := true, apart := false, narrowed := true }
def FnExactCanStillWinUptoSaid : Prop := fnExactCanStillWinUptoRow.holds Try.pinned (OpenSpec.upto fnExactCanStillWinSpec)

/-- 'laws.FnExactCountVotes', WHERE WHAT IT READS IS OF BULK AT MOST 1048576: true; the input reads as it did. -/
def fnExactCountVotesUptoRow : OpenClaim := { program := "ytfgfkmjpeffjbaa", sum := "9b8e5b1f5b9a1bf87be99e8a516937dcbaa532ae53db15262ff877a07e4ed6d2", func := "loop.example/g01032/laws.FnExactCountVotes", spec := "fnExactCountVotes", unfollowed := true, recurses := true, apart := false, narrowed := true }
def FnExactCountVotesUptoSaid : Prop := fnExactCountVotesUptoRow.holds Try.pinned (OpenSpec.upto fnExactCountVotesSpec)

/-- 'laws.FnExactAddMotion', WHERE WHAT IT READS IS OF BULK AT MOST 1048576: true; the input reads as it did. -/
def fnExactAddMotionUptoRow : OpenClaim := { program := "ytfgfkmjpeffjbaa", sum := "9b8e5b1f5b9a1bf87be99e8a516937dcbaa532ae53db15262ff877a07e4ed6d2", func := "loop.example/g01032/laws.FnExactAddMotion", spec := "fnExactAddMotion", unfollowed := true, recurses := true, apart := false, narrowed := true }
def FnExactAddMotionUptoSaid : Prop := fnExactAddMotionUptoRow.holds Try.pinned (OpenSpec.upto fnExactAddMotionSpec)

/-- 'laws.FnExactCastVote', WHERE WHAT IT READS IS OF BULK AT MOST 1048576: true; the input reads as it did. -/
def fnExactCastVoteUptoRow : OpenClaim := { program := "ytfgfkmjpeffjbaa", sum := "9b8e5b1f5b9a1bf87be99e8a516937dcbaa532ae53db15262ff877a07e4ed6d2", func := "loop.example/g01032/laws.FnExactCastVote", spec := "fnExactCastVote", unfollowed := true, recurses := true, apart := false, narrowed := true }
def FnExactCastVoteUptoSaid : Prop := fnExactCastVoteUptoRow.holds Try.pinned (OpenSpec.upto fnExactCastVoteSpec)

/-- 'laws.FnExactMinutesOf', WHERE WHAT IT READS IS OF BULK AT MOST 1048576: true; the input reads as it did. -/
def fnExactMinutesOfUptoRow : OpenClaim := { program := "ytfgfkmjpeffjbaa", sum := "9b8e5b1f5b9a1bf87be99e8a516937dcbaa532ae53db15262ff877a07e4ed6d2", func := "loop.example/g01032/laws.FnExactMinutesOf", spec := "fnExactMinutesOf", unfollowed := true, recurses := true, apart := false, narrowed := true }
def FnExactMinutesOfUptoSaid : Prop := fnExactMinutesOfUptoRow.holds Try.pinned (OpenSpec.upto fnExactMinutesOfSpec)

/-- 'laws.FnExactDecidingSeats', WHERE WHAT IT READS IS OF BULK AT MOST 1048576: true; the input reads as it did. -/
def fnExactDecidingSeatsUptoRow : OpenClaim := { program := "ytfgfkmjpeffjbaa", sum := "9b8e5b1f5b9a1bf87be99e8a516937dcbaa532ae53db15262ff877a07e4ed6d2", func := "loop.example/g01032/laws.FnExactDecidingSeats", spec := "fnExactDecidingSeats", unfollowed := true, recurses := true, apart := false, narrowed := true }
def FnExactDecidingSeatsUptoSaid : Prop := fnExactDecidingSeatsUptoRow.holds Try.pinned (OpenSpec.upto fnExactDecidingSeatsSpec)

end Rows
end Go.Proofs.Ytfgfkmjpeffjbaa
