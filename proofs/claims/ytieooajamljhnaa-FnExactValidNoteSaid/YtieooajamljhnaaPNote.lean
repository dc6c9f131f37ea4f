/- Plain laws of one note: copying, measuring, comparing it; both ValidNote. No condition but the lengths that fit in memory. -/
import Derived.Test.YtieooajamljhnaaPName
import Derived.Test.YtieooajamljhnaaPInts
import Derived.Test.YtieooajamljhnaaXLawsToNote
import Derived.Test.YtieooajamljhnaaXLawsSzNote
import Derived.Test.YtieooajamljhnaaXLawsEqNote
import Derived.Test.YtieooajamljhnaaXSpecValidNote
import Derived.Test.YtieooajamljhnaaXImplValidNote
set_option linter.unusedVariables false
set_option linter.unusedSimpArgs false
namespace Go.Proofs.Ytieooajamljhnaa.PNote
open Go.RowKit Go.Proofs.YtieooajamljhnaaW.PrintWords Go.Proofs.Ytieooajamljhnaa.X Go.Proofs.Ytieooajamljhnaa.B Go.Proofs.Ytieooajamljhnaa.PName Go.Proofs.Ytieooajamljhnaa.PInts

theorem szNote_pos (d : Int) (w : ByteArray) (ns : List Int) (h : (w.size : Int) + ns.length ≤ 1048576) : laws_szNote.f d w ns 1048576 = some ((1048576 : Int) - w.size - ns.length) := by
  unfold laws_szNote.f
  rw [w64 (by omega) (by omega), if_neg (by omega), szInts_eq ns _ (by omega) (by omega) (by omega), if_pos (by omega), Option.bind_some, if_neg (by omega)]
theorem szNote_neg (d : Int) (w : ByteArray) (ns : List Int) (hw : w.size ≤ 9223372036854775807) (hn : ns.length ≤ 9223372036854775807) (h : 1048576 < (w.size : Int) + ns.length) : laws_szNote.f d w ns 1048576 = some (-1) := by
  unfold laws_szNote.f
  rw [w64 (by omega) (by omega)]
  by_cases h1 : (1048576 - (w.size : Int)) < 0
  · rw [if_pos h1]
  · rw [if_neg h1, szInts_eq ns _ (by omega) (by omega) hn, if_neg (by omega), Option.bind_some, if_pos (by omega)]
theorem toNote_ev (d : Int) (w : ByteArray) (ns : List Int) (hn : ns.length ≤ 1048576) : Ev (fun k => laws_toNote.f k d w ns) (d, w, ns) :=
  Ev.bindE (toInts_ev ns hn) (Ev.const fun _ => rfl)
theorem eqNote_self (d : Int) (w : ByteArray) (ns : List Int) (hn : ns.length ≤ 1048576) : Ev (fun k => laws_eqNote.f k d w ns d w ns) true := by
  unfold laws_eqNote.f
  refine Ev.ifPos rfl (Ev.ifPos rfl (Ev.bindE (eqInts_self ns (by omega)) ?_))
  exact Ev.const fun k => by simp

theorem specIn_eq (a b c : Int) : spec_l00In.f a b c = some (decide (b ≤ a ∧ a ≤ c)) := by
  unfold spec_l00In.f
  by_cases h : a ≥ b <;> by_cases h' : a ≤ c <;> simp [h, h'] <;> omega
/-- What both tell of a note. -/
def okNote (d : Int) (w : ByteArray) (ns : List Int) : Bool :=
  decide (0 ≤ d ∧ d ≤ 100000) && (isName w && (decide ((ns.length : Int) ≤ 6) && allFrom (fun j => decide (-1000000 ≤ ns.getD j 0 ∧ ns.getD j 0 ≤ 1000000)) 0 ns.length))
theorem implNote_ev (d : Int) (w : ByteArray) (ns : List Int) (hw : w.size ≤ 9223372036854775807) (hn : ns.length ≤ 1048576) : Ev (fun k => impl_ValidNote.f k d w ns) (okNote d w ns) := by
  unfold okNote impl_ValidNote.f
  simp only [impl_ValidDay.f, implIn_eq, Option.bind_some]
  by_cases hd : 0 ≤ d ∧ d ≤ 100000
  · rw [decide_eq_true hd, Bool.true_and]
    refine Ev.ifPos rfl (Ev.bindE (implName_ev w hw) ?_)
    by_cases hi : isName w = true
    · rw [hi, Bool.true_and]
      refine Ev.ifPos rfl ?_
      by_cases hl : (ns.length : Int) ≤ 6
      · rw [decide_eq_true hl, Bool.true_and]
        refine Ev.ifPos hl ?_
        have h0 := allScan (fun k i => impl_all_int64__impl_ValidNote_1.l0 k ns (ns.length : Int) (i : Int)) ns.length (fun j => decide (-1000000 ≤ ns.getD j 0 ∧ ns.getD j 0 ≤ 1000000)) true (Ev.const fun k => by
          simp only [impl_all_int64__impl_ValidNote_1.l0]
          rw [if_neg (by omega)]) (by
          intro i hi
          refine EvEq.now fun k => ?_
          simp only [impl_all_int64__impl_ValidNote_1.l0, impl_ValidNote_1.f, implIn_eq, Option.bind_some]
          rw [if_pos (by omega), if_pos (by omega), if_pos (by omega), rd_at hi, wnext hi (by omega), getD_at hi]) 0 (by omega)
        rw [Bool.and_true] at h0
        exact Ev.bindE h0 (Ev.const fun _ => rfl)
      · rw [decide_eq_false hl]
        exact Ev.ifNeg hl (Ev.const fun _ => rfl)
    · rw [Bool.eq_false_iff.mpr hi, Bool.false_and]
      exact Ev.ifNeg (by simp) (Ev.const fun _ => rfl)
  · rw [decide_eq_false hd, Bool.false_and]
    exact Ev.ifNeg (by simp) (Ev.const fun _ => rfl)
theorem specOkNote_ev (d : Int) (w : ByteArray) (ns : List Int) (hw : w.size ≤ 9223372036854775807) (hn : ns.length ≤ 1048576) : Ev (fun k => spec_l27Ok_ro.f k d w ns) (okNote d w ns) := by
  have h0 := allScan (fun k i => spec_l27Ok_ro.l0 k (i : Int) d w ns) ns.length (fun j => decide (-1000000 ≤ ns.getD j 0 ∧ ns.getD j 0 ≤ 1000000)) (decide (0 ≤ d ∧ d ≤ 100000) && (isName w && decide ((ns.length : Int) ≤ 6))) (by
      simp only [spec_l27Ok_ro.l0, spec_l02Day.f, specIn_eq, Option.bind_some]
      refine Ev.ifNeg (by omega) ?_
      by_cases hd : 0 ≤ d ∧ d ≤ 100000
      · rw [decide_eq_true hd, Bool.true_and]
        refine Ev.ifPos rfl (Ev.bindE (specName_ev w hw) ?_)
        by_cases hi : isName w = true
        · rw [hi, Bool.true_and]
          exact Ev.ifPos rfl (Ev.const fun _ => rfl)
        · rw [Bool.eq_false_iff.mpr hi, Bool.false_and]
          exact Ev.ifNeg (by simp) (Ev.const fun _ => rfl)
      · rw [decide_eq_false hd, Bool.false_and]
        exact Ev.ifNeg (by simp) (Ev.const fun _ => rfl)) (by
      intro i hi
      refine EvEq.now fun k => ?_
      simp only [spec_l27Ok_ro.l0, specIn_eq, Option.bind_some]
      rw [if_pos (by omega), if_pos (by omega), rd_at hi, wnext hi (by omega), getD_at hi]) 0 (by omega)
  have e : (allFrom (fun j => decide (-1000000 ≤ ns.getD j 0 ∧ ns.getD j 0 ≤ 1000000)) 0 ns.length && (decide (0 ≤ d ∧ d ≤ 100000) && (isName w && decide ((ns.length : Int) ≤ 6)))) = okNote d w ns := by
    unfold okNote
    cases allFrom (fun j => decide (-1000000 ≤ ns.getD j 0 ∧ ns.getD j 0 ≤ 1000000)) 0 ns.length <;> cases decide (0 ≤ d ∧ d ≤ 100000) <;> cases isName w <;> cases decide ((ns.length : Int) ≤ 6) <;> rfl
  rw [e] at h0
  exact h0
theorem specNote_ev (d : Int) (w : ByteArray) (ns : List Int) (hw : w.size ≤ 9223372036854775807) (hn : ns.length ≤ 1048576) : Ev (fun k => spec_ValidNote.f k d w ns) (okNote d w ns) :=
  Ev.bindE (specOkNote_ev d w ns hw hn) (Ev.const fun _ => rfl)
end Go.Proofs.Ytieooajamljhnaa.PNote
