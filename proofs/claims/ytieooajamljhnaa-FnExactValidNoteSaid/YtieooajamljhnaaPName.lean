/- Plain laws of names: the program's and the reference's IsName tell the same bool of every string. No condition but that its length fits in memory. -/
import Derived.Test.YtieooajamljhnaaBase
import Derived.Test.YtieooajamljhnaaRdr
import Derived.Test.YtieooajamljhnaaXImplIsName
import Derived.Test.YtieooajamljhnaaXSpecIsName
set_option linter.unusedVariables false
set_option linter.unusedSimpArgs false
namespace Go.Proofs.Ytieooajamljhnaa.PName
open Go.RowKit Go.Proofs.YtieooajamljhnaaW.PrintWords Go.Proofs.Ytieooajamljhnaa.X Go.Proofs.Ytieooajamljhnaa.B

theorem implIn_eq (a b c : Int) : impl_in.f a b c = some (decide (b ≤ a ∧ a ≤ c)) := by
  unfold impl_in.f
  by_cases h : a ≥ b <;> by_cases h' : a ≤ c <;> simp [h, h'] <;> omega
def sm (c : Int) : Bool := decide (97 ≤ c ∧ c ≤ 122)
def okc (c : Int) : Bool := sm c || (decide (48 ≤ c ∧ c ≤ 57) || decide (c = 45))
/-- What both tell. -/
def isName (s : ByteArray) : Bool := allFrom (fun j => okc (bt s j) && (j != 0 || sm (bt s 0))) 0 s.size && decide (1 ≤ (s.size : Int) ∧ (s.size : Int) ≤ 12)

theorem implName_ev (s : ByteArray) (hn : s.size ≤ 9223372036854775807) : Ev (fun k => impl_IsName.f k s) (isName s) := by
  unfold isName
  refine allScan (fun k i => impl_IsName.l0 k s (i : Int)) s.size (fun j => okc (bt s j) && (j != 0 || sm (bt s 0))) (decide (1 ≤ (s.size : Int) ∧ (s.size : Int) ≤ 12)) ?_ ?_ 0 (by omega)
  · refine Ev.const fun k => ?_
    simp only [impl_IsName.l0]
    rw [if_neg (by omega), implIn_eq]
    rfl
  · intro i hi
    refine EvEq.now fun k => ?_
    simp only [impl_IsName.l0]
    rw [if_pos (by omega), if_pos (by omega), wnext hi (by omega)]
    by_cases h0 : i = 0
    · subst h0
      by_cases a : 97 ≤ bt s 0 <;> by_cases b : bt s 0 ≤ 122 <;> by_cases c : 48 ≤ bt s 0 <;> by_cases d : bt s 0 ≤ 57 <;> by_cases e : bt s 0 = 45 <;> simp [okc, sm, a, b, c, d, e] <;> omega
    · have hi0 : ¬ ((i : Int) = 0) := by omega
      by_cases a : 97 ≤ bt s i <;> by_cases b : bt s i ≤ 122 <;> by_cases c : 48 ≤ bt s i <;> by_cases d : bt s i ≤ 57 <;> by_cases e : bt s i = 45 <;> simp [okc, sm, a, b, c, d, e, h0, hi0] <;> omega

theorem small_eq (c : Int) : spec_l01Small.f c = some (sm c) := by
  unfold spec_l01Small.f sm
  by_cases h : c ≥ 97 <;> by_cases h' : c ≤ 122 <;> simp [h, h'] <;> omega
theorem digit_eq (c : Int) : spec_l01Digit.f c = some (decide (48 ≤ c ∧ c ≤ 57)) := by
  unfold spec_l01Digit.f
  by_cases h : c ≥ 48 <;> by_cases h' : c ≤ 57 <;> simp [h, h'] <;> omega
theorem toList_nil (s : ByteArray) : s.toList = ([] : List UInt8) ↔ s.size = 0 := by
  rw [ByteArray.toList_eq]
  constructor
  · intro h
    have := data_length s
    rw [h] at this
    simpa using this.symm
  · intro h
    have := data_length s
    rw [h] at this
    exact List.eq_nil_of_length_eq_zero this
theorem specLoop_ev (s : ByteArray) (hn : s.size ≤ 9223372036854775807) : Ev (fun k => spec_IsName.l0 k s ((0 : Nat) : Int)) (allFrom (fun j => okc (bt s j)) 0 s.size) := by
  have h := allScan (fun k i => spec_IsName.l0 k s (i : Int)) s.size (fun j => okc (bt s j)) true (Ev.const fun k => by
    simp only [spec_IsName.l0]
    rw [if_neg (by omega)]) (by
    intro i hi
    refine EvEq.now fun k => ?_
    simp only [spec_IsName.l0, small_eq, digit_eq, Option.bind_some]
    rw [if_pos (by omega), if_pos (by omega), wnext hi (by omega)]
    by_cases a : sm (bt s i) = true
    · rw [if_pos a, if_pos (by simp [okc, a])]
    · rw [if_neg a]
      by_cases b : 48 ≤ bt s i ∧ bt s i ≤ 57
      · rw [if_pos (by simpa using b), if_pos (by simp [okc, b])]
      · rw [if_neg (by simpa using b)]
        by_cases c : bt s i = 45
        · rw [if_pos c, if_pos (by simp [okc, c])]
        · rw [if_neg c, if_neg (by simp only [okc]; simp [a, b, c])]) 0 (by omega)
  simpa using h
theorem specName_ev (s : ByteArray) (hn : s.size ≤ 9223372036854775807) : Ev (fun k => spec_IsName.f k s) (isName s) := by
  unfold isName
  by_cases h0 : s.size = 0
  · have e : (allFrom (fun j => okc (bt s j) && (j != 0 || sm (bt s 0))) 0 s.size && decide (1 ≤ (s.size : Int) ∧ (s.size : Int) ≤ 12)) = false := by rw [h0]; simp
    rw [e]
    refine Ev.ofEq (f := fun k => spec_IsName.j0 k s true) (EvEq.now fun k => ?_) (Ev.up (g := fun k => spec_IsName.j0 k s true) (Ev.const fun k => by simp [spec_IsName.j0]))
    unfold spec_IsName.f
    rw [if_pos ((toList_nil s).2 h0)]
  · have hl : ¬ s.toList = ([] : List UInt8) := fun h => h0 ((toList_nil s).1 h)
    by_cases h12 : (s.size : Int) > 12
    · have e : (allFrom (fun j => okc (bt s j) && (j != 0 || sm (bt s 0))) 0 s.size && decide (1 ≤ (s.size : Int) ∧ (s.size : Int) ≤ 12)) = false := by
        have : ¬ (1 ≤ (s.size : Int) ∧ (s.size : Int) ≤ 12) := by omega
        rw [decide_eq_false this, Bool.and_false]
      rw [e]
      refine Ev.ofEq (f := fun k => spec_IsName.j0 k s true) (EvEq.now fun k => ?_) (Ev.up (g := fun k => spec_IsName.j0 k s true) (Ev.const fun k => by simp [spec_IsName.j0]))
      unfold spec_IsName.f
      rw [if_neg hl, if_pos h12]
    · have hb : decide (1 ≤ (s.size : Int) ∧ (s.size : Int) ≤ 12) = true := by simp; omega
      rw [hb, Bool.and_true]
      refine Ev.ofEq (f := fun k => spec_IsName.j0 k s (!sm (bt s 0))) (EvEq.now fun k => ?_) (Ev.up (g := fun k => spec_IsName.j0 k s (!sm (bt s 0))) ?_)
      · unfold spec_IsName.f
        rw [if_neg hl, if_neg h12, if_pos (by omega), small_eq]
        rfl
      · simp only [spec_IsName.j0]
        by_cases a : sm (bt s 0) = true
        · have e : allFrom (fun j => okc (bt s j) && (j != 0 || sm (bt s 0))) 0 s.size = allFrom (fun j => okc (bt s j)) 0 s.size := by simp [a]
          rw [e]
          refine Ev.ifNeg (by simp [a]) ?_
          exact specLoop_ev s hn
        · have e : allFrom (fun j => okc (bt s j) && (j != 0 || sm (bt s 0))) 0 s.size = false := by
            rw [allFrom_step _ (by omega)]
            simp [a]
          rw [e]
          exact Ev.ifPos (by simp [a]) (Ev.const fun _ => rfl)
end Go.Proofs.Ytieooajamljhnaa.PName
