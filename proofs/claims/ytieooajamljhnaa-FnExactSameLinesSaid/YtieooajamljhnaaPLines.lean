/- Plain laws of the lists of lines: copying, measuring and comparing them; a line's own rule; both ValidLines. No condition but the lengths that fit in memory. -/
import Derived.Test.YtieooajamljhnaaBase
import Derived.Test.YtieooajamljhnaaRdr
import Derived.Test.YtieooajamljhnaaXLawsToLineS
import Derived.Test.YtieooajamljhnaaXLawsSzLineS
import Derived.Test.YtieooajamljhnaaXLawsEqLineS
import Derived.Test.YtieooajamljhnaaXSpecL26Ok
import Derived.Test.YtieooajamljhnaaXImplValidLines
set_option linter.unusedVariables false
set_option linter.unusedSimpArgs false
namespace Go.Proofs.Ytieooajamljhnaa.PLines
open Go.RowKit Go.Proofs.YtieooajamljhnaaW.PrintWords Go.Proofs.Ytieooajamljhnaa.X Go.Proofs.Ytieooajamljhnaa.B

abbrev L := S31
abbrev M := S32
def conv (x : L) : M := ⟨x.f0, x.f1, x.f2, x.f3⟩
theorem rdL {xs : List L} {i : Nat} (h : i < xs.length) : rd_T31 xs (i : Int) = xs[i] := by
  unfold rd_T31; rw [Int.toNat_natCast]; exact getD_at h _
theorem rdM {xs : List M} {i : Nat} (h : i < xs.length) : rd_T32 xs (i : Int) = xs[i] := by
  unfold rd_T32; rw [Int.toNat_natCast]; exact getD_at h _

theorem toLineS_ev (xs : List L) (hn : xs.length ≤ 1048576) : Ev (fun k => laws_toLineS.f k xs) (xs.map conv) := by
  have h0 : Ev (fun k => laws_toLineS.l0 k xs ((xs.map conv).take 0 ++ List.replicate (xs.length - 0) z32) ((0 : Nat) : Int)) (xs.map conv) := by
    refine scan (fun k i => laws_toLineS.l0 k xs ((xs.map conv).take i ++ List.replicate (xs.length - i) z32) (i : Int)) xs.length (fun _ => xs.map conv) ?_ ?_ 0 (by omega)
    · refine Ev.const fun k => ?_
      simp only [laws_toLineS.l0]
      rw [if_neg (by omega)]
      simp [List.take_of_length_le]
    · intro i hi
      right
      refine ⟨rfl, EvEq.now fun k => ?_⟩
      have hl : ((xs.map conv).take i ++ List.replicate (xs.length - i) z32).length = xs.length := by simp; omega
      simp only [laws_toLineS.l0, laws_toLine.f, Option.bind_some]
      rw [if_pos (by omega), if_pos (by omega), if_pos (by rw [hl]; omega), rdL hi, Int.toNat_natCast, wnext hi (by omega)]
      have hs := fill_set (xs.map conv) z32 (i := i) (n := xs.length) hi (by simp)
      rw [← hs]
      simp [conv]
  have e : ∀ k, laws_toLineS.f k xs = laws_toLineS.l0 k xs ((xs.map conv).take 0 ++ List.replicate (xs.length - 0) z32) ((0 : Nat) : Int) := by
    intro k
    unfold laws_toLineS.f
    rw [if_pos (by omega), Int.toNat_natCast, if_pos (by omega)]
    simp
  exact Ev.ofEq (EvEq.now e) h0

theorem szLineS_eq (xs : List L) (left : Int) (h0 : 0 ≤ left) (h1 : left ≤ 1048576) (hx : xs.length ≤ 9223372036854775807) : laws_szLineS.f xs left = some (if (xs.length : Int) ≤ left then left - xs.length else -1) := by
  unfold laws_szLineS.f
  rw [w64 (by omega) (by omega)]
  by_cases h : (xs.length : Int) ≤ left
  · rw [if_neg (by omega), if_pos h]
  · rw [if_pos (by omega), if_neg h]

theorem eqLine_self (x : M) : laws_eqLine.f x.f0 x.f1 x.f2 x.f3 x.f0 x.f1 x.f2 x.f3 = some true := by simp [laws_eqLine.f]
theorem eqLineS_self (xs : List M) (hn : xs.length ≤ 1048576) : Ev (fun k => laws_eqLineS.f k xs xs) true := by
  have h0 : Ev (fun k => laws_eqLineS.l0 k xs xs ((0 : Nat) : Int)) true := by
    refine scan (fun k i => laws_eqLineS.l0 k xs xs (i : Int)) xs.length (fun _ => true) ?_ ?_ 0 (by omega)
    · refine Ev.const fun k => ?_
      simp only [laws_eqLineS.l0]
      rw [if_neg (by omega)]
    · intro i hi
      right
      refine ⟨rfl, EvEq.now fun k => ?_⟩
      simp only [laws_eqLineS.l0]
      rw [if_pos (by omega), if_pos (by omega), if_pos (by omega), rdM hi, eqLine_self, Option.bind_some, if_pos rfl, wnext hi (by omega)]
  refine Ev.ofEq (EvEq.now fun k => ?_) h0
  unfold laws_eqLineS.f
  rw [if_pos rfl]
  rfl

/-- A line's rule. -/
def okLine (x : M) (marks : Int) : Bool := decide (0 ≤ x.f0 ∧ x.f0 ≤ marks - 1 ∧ 0 ≤ x.f1 ∧ x.f1 ≤ marks - 1 ∧ x.f0 ≠ x.f1 ∧ -100000 ≤ x.f2 ∧ x.f2 ≤ 100000 ∧ 1 ≤ x.f3 ∧ x.f3 ≤ 10000)
theorem implIn_eq (a b c : Int) : impl_in.f a b c = some (decide (b ≤ a ∧ a ≤ c)) := by
  unfold impl_in.f
  by_cases h : a ≥ b <;> by_cases h' : a ≤ c <;> simp [h, h'] <;> omega
theorem specIn_eq (a b c : Int) : spec_l00In.f a b c = some (decide (b ≤ a ∧ a ≤ c)) := by
  unfold spec_l00In.f
  by_cases h : a ≥ b <;> by_cases h' : a ≤ c <;> simp [h, h'] <;> omega
theorem implLineOk_eq (x : M) (m : Int) (hm : -9223372036854775808 < m) (hm' : m ≤ 9223372036854775807) : impl_lineOk.f x.f0 x.f1 x.f2 x.f3 m = some (okLine x m) := by
  unfold impl_lineOk.f okLine
  simp only [implIn_eq, Option.bind_some]
  rw [w64 (x := m - 1) (by omega) (by omega)]
  by_cases h1 : 0 ≤ x.f0 ∧ x.f0 ≤ m - 1 <;> by_cases h2 : 0 ≤ x.f1 ∧ x.f1 ≤ m - 1 <;> by_cases h3 : x.f0 = x.f1 <;> by_cases h4 : -100000 ≤ x.f2 ∧ x.f2 ≤ 100000 <;> simp [h1, h2, h3, h4] <;> omega
theorem specLineOk_eq (x : M) (m : Int) (hm : -9223372036854775808 < m) (hm' : m ≤ 9223372036854775807) : spec_l26One.f x.f0 x.f1 x.f2 x.f3 m = some (okLine x m) := by
  unfold spec_l26One.f okLine
  simp only [specIn_eq, Option.bind_some]
  rw [w64 (x := m - 1) (by omega) (by omega)]
  by_cases h1 : 0 ≤ x.f0 ∧ x.f0 ≤ m - 1 <;> by_cases h2 : 0 ≤ x.f1 ∧ x.f1 ≤ m - 1 <;> by_cases h3 : x.f0 = x.f1 <;> by_cases h4 : -100000 ≤ x.f2 ∧ x.f2 ≤ 100000 <;> simp [h1, h2, h3, h4] <;> omega

/-- Both say so of valid lines. -/
def okLines (marks : Int) (xs : List M) : Bool := decide (2 ≤ marks ∧ marks ≤ 10) && (allFrom (fun j => okLine (xs.getD j z32) marks) 0 xs.length && decide ((xs.length : Int) ≤ 12))
theorem specOk_ev (marks : Int) (xs : List M) (hn : xs.length ≤ 1048576) : Ev (fun k => spec_l26Ok.f k marks xs) (okLines marks xs) := by
  unfold okLines
  by_cases hm : 2 ≤ marks ∧ marks ≤ 10
  · have h0 := allScan (fun k i => spec_l26Ok.l0 k marks xs (i : Int)) xs.length (fun j => okLine (xs.getD j z32) marks) (decide ((xs.length : Int) ≤ 12)) (Ev.const fun k => by
      simp only [spec_l26Ok.l0]
      rw [if_neg (by omega)]) (by
      intro i hi
      refine EvEq.now fun k => ?_
      simp only [spec_l26Ok.l0]
      rw [if_pos (by omega), if_pos (by omega), rdM hi, specLineOk_eq _ _ (by omega) (by omega), Option.bind_some, wnext hi (by omega), getD_at hi]) 0 (by omega)
    refine Ev.ofEq (EvEq.now fun k => ?_) (show Ev (fun k => spec_l26Ok.l0 k marks xs ((0 : Nat) : Int)) _ from by simpa [hm] using h0)
    unfold spec_l26Ok.f
    rw [specIn_eq, Option.bind_some, if_pos (by simpa using hm)]
    rfl
  · refine Ev.const fun k => ?_
    unfold spec_l26Ok.f
    rw [specIn_eq, Option.bind_some, if_neg (by simpa using hm)]
    simp [hm]
theorem implOk_ev (marks : Int) (xs : List M) (hn : xs.length ≤ 1048576) : Ev (fun k => impl_ValidLines.f k marks xs) (okLines marks xs) := by
  unfold okLines
  by_cases hm : 2 ≤ marks ∧ marks ≤ 10
  · by_cases hl : (xs.length : Int) ≤ 12
    · have h0 := allScan (fun k i => impl_all_impl_Line__impl_ValidLines_1.l0 k xs (xs.length : Int) (i : Int) marks) xs.length (fun j => okLine (xs.getD j z32) marks) true (Ev.const fun k => by
        simp only [impl_all_impl_Line__impl_ValidLines_1.l0]
        rw [if_neg (by omega)]) (by
        intro i hi
        refine EvEq.now fun k => ?_
        simp only [impl_all_impl_Line__impl_ValidLines_1.l0, impl_ValidLines_1.f]
        rw [if_pos (by omega), if_pos (by omega), if_pos (by omega), rdM hi, implLineOk_eq _ _ (by omega) (by omega), Option.bind_some, Option.bind_some, wnext hi (by omega), getD_at hi]) 0 (by omega)
      refine Ev.ofEq (g := fun k => impl_ValidLines.f k marks xs) (f := fun k => (impl_all_impl_Line__impl_ValidLines_1.l0 k xs (xs.length : Int) ((0 : Nat) : Int) marks).bind fun t => some t) (EvEq.now fun k => ?_) ?_
      · simp only [impl_ValidLines.f, implIn_eq, Option.bind_some, impl_all_impl_Line__impl_ValidLines_1.f]
        rw [if_pos (by simpa using hm), if_pos hl]
        rfl
      · simpa [hm, hl] using h0
    · refine Ev.const fun k => ?_
      simp only [impl_ValidLines.f, implIn_eq, Option.bind_some]
      rw [if_pos (by simpa using hm), if_neg hl]
      simp [hl]
  · refine Ev.const fun k => ?_
    simp only [impl_ValidLines.f, implIn_eq, Option.bind_some]
    rw [if_neg (by simpa using hm)]
    simp [hm]

end Go.Proofs.Ytieooajamljhnaa.PLines
