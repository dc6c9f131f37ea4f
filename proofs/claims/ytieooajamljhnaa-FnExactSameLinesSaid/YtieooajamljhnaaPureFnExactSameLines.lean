/- The plain law of SameLines: the program and the reference both compare two lists of lines element by element, and leave them as they are. For all lists of at most 1048576 elements together (the law says nothing of longer ones). -/
import Derived.Test.YtieooajamljhnaaSFnExactSameLines
import Derived.Test.YtieooajamljhnaaPLines
set_option linter.unusedVariables false
set_option linter.unusedSimpArgs false
namespace Go.Proofs.Ytieooajamljhnaa.Pure
open Go.RowKit Go.Proofs.YtieooajamljhnaaW.PrintWords Go.Proofs.Ytieooajamljhnaa.X Go.Proofs.Ytieooajamljhnaa.B Go.Proofs.Ytieooajamljhnaa.PLines

def same1 (x y : M) : Bool := x.f0 == y.f0 && (x.f1 == y.f1 && (x.f2 == y.f2 && x.f3 == y.f3))
def sameAll (a b : List M) : Bool := decide (a.length = b.length) && allFrom (fun j => same1 (a.getD j z32) (b.getD j z32)) 0 a.length
theorem cond_eq (x y : M) : (!(x.f0 == y.f0) || (!(x.f1 == y.f1) || (!(x.f2 == y.f2) || (!(x.f3 == y.f3))))) = !same1 x y := by
  unfold same1; cases x.f0 == y.f0 <;> cases x.f1 == y.f1 <;> cases x.f2 == y.f2 <;> cases x.f3 == y.f3 <;> rfl
theorem same1_comm (x y : M) : same1 x y = same1 y x := by
  unfold same1; simp only [Bool.beq_comm (a := x.f0), Bool.beq_comm (a := x.f1), Bool.beq_comm (a := x.f2), Bool.beq_comm (a := x.f3)]
theorem specSame_ev (a b : List M) (ha : a.length ≤ 1048576) : Ev (fun k => spec_SameLines.f k a b) (sameAll a b) := by
  by_cases hl : a.length = b.length
  · have h0 := allScan (fun k i => spec_SameLines.l0 k a b (i : Int)) a.length (fun j => same1 (a.getD j z32) (b.getD j z32)) true (Ev.const fun k => by
      simp only [spec_SameLines.l0]
      rw [if_neg (by omega)]) (by
      intro i hi
      refine EvEq.now fun k => ?_
      simp only [spec_SameLines.l0]
      rw [if_pos (by omega), if_pos (by omega), if_pos (by omega), rdM hi, rdM (by omega), cond_eq, wnext hi (by omega), getD_at hi, getD_at (xs := b) (by omega)]
      cases same1 a[i] b[i] <;> simp) 0 (by omega)
    refine Ev.ofEq (EvEq.now fun k => ?_) (show Ev (fun k => spec_SameLines.l0 k a b ((0 : Nat) : Int)) (sameAll a b) from by simpa [sameAll, hl] using h0)
    unfold spec_SameLines.f
    rw [if_pos (by omega)]
    rfl
  · refine Ev.const fun k => ?_
    unfold spec_SameLines.f sameAll
    rw [if_neg (by omega)]
    simp [hl]
theorem implSame_ev (a b : List M) (ha : a.length ≤ 1048576) : Ev (fun k => impl_SameLines.f k a b) (sameAll a b) := by
  by_cases hl : a.length = b.length
  · have h0 := allScan (fun k i => impl_same_impl_Line.l0 k b a (a.length : Int) (i : Int)) a.length (fun j => same1 (a.getD j z32) (b.getD j z32)) true (Ev.const fun k => by
      simp only [impl_same_impl_Line.l0]
      rw [if_neg (by omega)]) (by
      intro i hi
      refine EvEq.now fun k => ?_
      simp only [impl_same_impl_Line.l0]
      rw [if_pos (by omega), if_pos (by omega), if_pos (by omega), if_pos (by omega), rdM hi, rdM (by omega), cond_eq, wnext hi (by omega), getD_at hi, getD_at (xs := b) (by omega), same1_comm]
      cases same1 a[i] b[i] <;> simp) 0 (by omega)
    refine Ev.ofEq (g := fun k => impl_SameLines.f k a b) (f := fun k => (impl_same_impl_Line.l0 k b a (a.length : Int) ((0 : Nat) : Int)).bind fun t => some t) (EvEq.now fun k => ?_) (by simpa [sameAll, hl] using h0)
    unfold impl_SameLines.f impl_same_impl_Line.f
    rw [if_pos (by omega)]
    rfl
  · refine Ev.const fun k => ?_
    unfold impl_SameLines.f impl_same_impl_Line.f sameAll
    rw [if_neg (by omega)]
    simp [hl]
theorem FnExactSameLines : Say.FnExactSameLines := by
  intro a b ha hb
  refine Ev.rounds ?_
  unfold laws_FnExactSameLines.f
  simp only [szLineS_eq a 1048576 (by omega) (by omega) ha.1, Option.bind_some]
  by_cases h1 : (a.length : Int) ≤ 1048576
  · simp only [if_pos h1]
    refine Ev.ifNeg (by omega) ?_
    simp only [szLineS_eq b (1048576 - a.length) (by omega) (by omega) hb.1, Option.bind_some]
    by_cases h2 : (b.length : Int) ≤ 1048576 - a.length
    · simp only [if_pos h2]
      refine Ev.ifNeg (by omega) ?_
      have ta := toLineS_ev a (by omega)
      have tb := toLineS_ev b (by omega)
      refine Ev.bindE ta (Ev.bindE tb (Ev.bindE (specSame_ev _ _ (by simp; omega)) (Ev.bindE ta (Ev.bindE tb (Ev.bindE (implSame_ev _ _ (by simp; omega)) ?_)))))
      simp only [bne_self_eq_false, Bool.false_eq_true, if_false]
      refine Ev.bindE ta (Ev.bindE (eqLineS_self _ (by simp; omega)) ?_)
      simp only [if_true]
      refine Ev.bindE tb (Ev.bindE (eqLineS_self _ (by simp; omega)) ?_)
      exact Ev.const fun k => by simp
    · simp only [if_neg h2]
      exact Ev.const fun k => by simp
  · simp only [if_neg h1]
    exact Ev.const fun k => by simp
end Go.Proofs.Ytieooajamljhnaa.Pure
