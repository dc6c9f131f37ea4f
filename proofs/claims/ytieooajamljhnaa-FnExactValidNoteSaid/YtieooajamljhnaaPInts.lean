/- Plain laws of lists of whole numbers: copying, measuring, comparing them. No condition but the lengths that fit in memory. -/
import Derived.Test.YtieooajamljhnaaBase
import Derived.Test.YtieooajamljhnaaXLawsToInt64S
import Derived.Test.YtieooajamljhnaaXLawsSzInt64S
import Derived.Test.YtieooajamljhnaaXLawsEqInt64S
set_option linter.unusedVariables false
set_option linter.unusedSimpArgs false
namespace Go.Proofs.Ytieooajamljhnaa.PInts
open Go.RowKit Go.Proofs.YtieooajamljhnaaW.PrintWords Go.Proofs.Ytieooajamljhnaa.X Go.Proofs.Ytieooajamljhnaa.B

theorem toInts_ev (xs : List Int) (hn : xs.length ≤ 1048576) : Ev (fun k => laws_toInt64S.f k xs) xs := by
  have h0 : Ev (fun k => laws_toInt64S.l0 k xs (xs.take 0 ++ List.replicate (xs.length - 0) 0) ((0 : Nat) : Int)) xs := by
    refine scan (fun k i => laws_toInt64S.l0 k xs (xs.take i ++ List.replicate (xs.length - i) 0) (i : Int)) xs.length (fun _ => xs) ?_ ?_ 0 (by omega)
    · refine Ev.const fun k => ?_
      simp only [laws_toInt64S.l0]
      rw [if_neg (by omega)]
      simp
    · intro i hi
      right
      refine ⟨rfl, EvEq.now fun k => ?_⟩
      have hl : (xs.take i ++ List.replicate (xs.length - i) (0 : Int)).length = xs.length := by simp; omega
      simp only [laws_toInt64S.l0]
      rw [if_pos (by omega), if_pos (by omega), if_pos (by rw [hl]; omega), rd_at hi, Int.toNat_natCast, wnext hi (by omega), fill_set xs 0 hi rfl]
  have e : ∀ k, laws_toInt64S.f k xs = laws_toInt64S.l0 k xs (xs.take 0 ++ List.replicate (xs.length - 0) 0) ((0 : Nat) : Int) := by
    intro k
    unfold laws_toInt64S.f
    rw [if_pos (by omega), Int.toNat_natCast, if_pos (by omega)]
    simp
  exact Ev.ofEq (EvEq.now e) h0

theorem szInts_eq (xs : List Int) (left : Int) (h0 : 0 ≤ left) (h1 : left ≤ 1048576) (hx : xs.length ≤ 9223372036854775807) : laws_szInt64S.f xs left = some (if (xs.length : Int) ≤ left then left - xs.length else -1) := by
  unfold laws_szInt64S.f
  rw [w64 (by omega) (by omega)]
  by_cases h : (xs.length : Int) ≤ left
  · rw [if_neg (by omega), if_pos h]
  · rw [if_pos (by omega), if_neg h]

/-- Comparing two lists tells whether they are equal. -/
theorem eqInts_ev (a b : List Int) (hn : a.length ≤ 9223372036854775806) : Ev (fun k => laws_eqInt64S.f k a b) (decide (a = b)) := by
  by_cases hl : a.length = b.length
  · have h0 := allScan (fun k i => laws_eqInt64S.l0 k a b (i : Int)) a.length (fun j => decide (a.getD j 0 = b.getD j 0)) true (Ev.const fun k => by
      simp only [laws_eqInt64S.l0]
      rw [if_neg (by omega)]) (by
      intro i hi
      refine EvEq.now fun k => ?_
      simp only [laws_eqInt64S.l0]
      rw [if_pos (by omega), if_pos (by omega), if_pos (by omega), rd_at hi, rd_at (by omega), wnext hi (by omega), getD_at hi, getD_at (xs := b) (by omega)]
      simp) 0 (by omega)
    have e : (allFrom (fun j => decide (a.getD j 0 = b.getD j 0)) 0 a.length && true) = decide (a = b) := by
      rw [Bool.and_true, Bool.eq_iff_iff, allFrom_iff, decide_eq_true_iff]
      constructor
      · intro h
        refine List.ext_getElem hl fun j h1 h2 => ?_
        have := h j (by omega) h1
        rw [decide_eq_true_iff, getD_at h1, getD_at h2] at this
        exact this
      · rintro rfl j _ _
        simp
    rw [e] at h0
    refine Ev.ofEq (EvEq.now fun k => ?_) h0
    unfold laws_eqInt64S.f
    rw [if_pos (by omega)]
    rfl
  · have : ¬ a = b := fun h => hl (by rw [h])
    rw [decide_eq_false this]
    refine Ev.const fun k => ?_
    unfold laws_eqInt64S.f
    rw [if_neg (by omega)]
theorem eqInts_self (a : List Int) (hn : a.length ≤ 9223372036854775806) : Ev (fun k => laws_eqInt64S.f k a a) true := by
  simpa using eqInts_ev a a hn
end Go.Proofs.Ytieooajamljhnaa.PInts
