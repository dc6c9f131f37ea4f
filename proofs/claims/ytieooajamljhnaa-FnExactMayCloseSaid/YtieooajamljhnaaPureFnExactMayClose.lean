/- The plain law of MayClose: the reference's halving and the program's counting find the same number, the greatest n with 1000 n n at most 25 times the metres; outside 1 to 1000000000 both answer 0 and the code for a range. For every int64. -/
import Derived.Test.YtieooajamljhnaaPFnExactMayClosex1
namespace Go.Proofs.Ytieooajamljhnaa.Pure
open Go.RowKit Go.Proofs.Ytieooajamljhnaa.PFnExactMayClose Go.Proofs.YtieooajamljhnaaW.PrintWords Go.Proofs.YtieooajamljhnaaW.PrintLast

theorem mcWrap {x : Int} (h : -9223372036854775808 ≤ x) (h' : x ≤ 9223372036854775807) : wrap64 x = x := by
  unfold wrap64; omega

theorem mcSq {n : Int} (h0 : 0 ≤ n) (h1 : n ≤ 10000) : wrap64 (wrap64 (1000 * n) * n) = 1000 * n * n := by
  have e : wrap64 (1000 * n) = 1000 * n := mcWrap (by omega) (by omega)
  rw [e]
  have a : 0 ≤ 1000 * n * n := Int.mul_nonneg (by omega) h0
  have b : 1000 * n * n ≤ 10000000 * n := Int.mul_le_mul_of_nonneg_right (by omega) h0
  exact mcWrap (by omega) (by omega)

theorem mcMono {a b : Int} (h0 : 0 ≤ a) (h : a ≤ b) : 1000 * a * a ≤ 1000 * b * b := by
  have x : 1000 * a * a ≤ 1000 * b * a := Int.mul_le_mul_of_nonneg_right (by omega) h0
  have y : 1000 * b * a ≤ 1000 * b * b := Int.mul_le_mul_of_nonneg_left h (by omega)
  omega

/-- What both look for. -/
def McIs (m n : Int) : Prop := 0 ≤ n ∧ n < 10000 ∧ 1000 * n * n ≤ 25 * m ∧ ¬ 1000 * (n + 1) * (n + 1) ≤ 25 * m

theorem mcOne {m a b : Int} (ha : McIs m a) (hb : McIs m b) : a = b := by
  obtain ⟨a0, _, a2, a3⟩ := ha
  obtain ⟨b0, _, b2, b3⟩ := hb
  by_cases h : a < b
  · have := mcMono (a := a + 1) (b := b) (by omega) (by omega)
    omega
  · by_cases h' : b < a
    · have := mcMono (a := b + 1) (b := a) (by omega) (by omega)
      omega
    · omega

theorem mcSpec (m : Int) (hm : 1 ≤ m) (hm' : m ≤ 1000000000) (d : Nat) : ∀ (k : Nat) (lo hi : Int), 0 ≤ lo → lo < hi → hi ≤ 10000 → hi - lo ≤ d + 1 → d < k →
    1000 * lo * lo ≤ 25 * m → ¬ 1000 * hi * hi ≤ 25 * m → ∃ n, spec_MayClose.l0 k m lo hi = some (n, 0) ∧ McIs m n := by
  have e25 : wrap64 (25 * m) = 25 * m := mcWrap (by omega) (by omega)
  induction d with
  | zero =>
    intro k lo hi h0 h1 h2 hd hk hp hq
    obtain ⟨k, rfl⟩ : ∃ m, k = m + 1 := ⟨k - 1, by omega⟩
    have hh : hi = lo + 1 := by omega
    subst hh
    refine ⟨lo, ?_, h0, by omega, hp, hq⟩
    simp only [spec_MayClose.l0]
    rw [mcWrap (x := lo + 1 - lo) (by omega) (by omega), if_neg (by omega)]
  | succ d ih =>
    intro k lo hi h0 h1 h2 hd hk hp hq
    obtain ⟨k, rfl⟩ : ∃ m, k = m + 1 := ⟨k - 1, by omega⟩
    by_cases hlt : hi - lo > 1
    · have em : wrap64 (Int.tdiv (wrap64 (lo + hi)) 2) = (lo + hi) / 2 := by
        rw [mcWrap (x := lo + hi) (by omega) (by omega), Int.tdiv_eq_ediv_of_nonneg (by omega)]
        exact mcWrap (by omega) (by omega)
      simp only [spec_MayClose.l0]
      rw [mcWrap (x := hi - lo) (by omega) (by omega), if_pos hlt, em, e25, mcSq (by omega) (by omega)]
      by_cases ht : 1000 * ((lo + hi) / 2) * ((lo + hi) / 2) ≤ 25 * m
      · rw [if_pos ht]
        exact ih k _ _ (by omega) (by omega) h2 (by omega) (by omega) ht hq
      · rw [if_neg ht]
        exact ih k _ _ h0 (by omega) (by omega) (by omega) (by omega) hp ht
    · have hh : hi = lo + 1 := by omega
      subst hh
      refine ⟨lo, ?_, h0, by omega, hp, hq⟩
      simp only [spec_MayClose.l0]
      rw [mcWrap (x := lo + 1 - lo) (by omega) (by omega), if_neg (by omega)]

theorem mcImpl (m : Int) (hm : 1 ≤ m) (hm' : m ≤ 1000000000) (d : Nat) : ∀ (k : Nat) (n : Int), 0 ≤ n → n < 10000 → 10000 - n ≤ d + 1 → d < k →
    1000 * n * n ≤ 25 * m → ∃ r, impl_MayClose.l0 k m n = some (r, 0) ∧ McIs m r := by
  have e25 : wrap64 (25 * m) = 25 * m := mcWrap (by omega) (by omega)
  have top : ¬ 1000 * 10000 * 10000 ≤ 25 * m := by omega
  induction d with
  | zero =>
    intro k n h0 h1 hd hk hp
    obtain ⟨k, rfl⟩ : ∃ m, k = m + 1 := ⟨k - 1, by omega⟩
    have hh : n = 9999 := by omega
    subst hh
    refine ⟨9999, ?_, by omega, by omega, hp, by omega⟩
    simp only [impl_MayClose.l0]
    rw [mcWrap (x := 9999 + 1) (by omega) (by omega), e25, mcSq (by omega) (by omega), if_neg (by omega)]
  | succ d ih =>
    intro k n h0 h1 hd hk hp
    obtain ⟨k, rfl⟩ : ∃ m, k = m + 1 := ⟨k - 1, by omega⟩
    simp only [impl_MayClose.l0]
    rw [mcWrap (x := n + 1) (by omega) (by omega), e25, mcSq (by omega) (by omega)]
    by_cases ht : 1000 * (n + 1) * (n + 1) ≤ 25 * m
    · rw [if_pos ht]
      have hne : n + 1 ≠ 10000 := by
        intro h
        rw [h] at ht
        exact top ht
      exact ih k _ (by omega) (by omega) (by omega) (by omega) ht
    · rw [if_neg ht]
      exact ⟨n, rfl, h0, h1, hp, ht⟩

theorem FnExactMayClose : laws_FnExactMayClose.Pure := by
  intro m _
  refine ⟨10001, ?_⟩
  unfold laws_FnExactMayClose.f spec_MayClose.f impl_MayClose.f spec_l00In.f impl_in.f
  by_cases h1 : m ≥ 1
  · by_cases h2 : m ≤ 1000000000
    · obtain ⟨a, ha, ia⟩ := mcSpec m h1 h2 9999 10001 0 10000 (by omega) (by omega) (by omega) (by omega) (by omega) (by omega) (by omega)
      obtain ⟨b, hb, ib⟩ := mcImpl m h1 h2 9999 10001 0 (by omega) (by omega) (by omega) (by omega) (by omega)
      have e := mcOne ia ib
      subst e
      simp only [if_pos h1, Option.bind_some, decide_eq_true h2, if_true, ha, hb]
    · simp [h1, h2]
  · simp [h1]

end Go.Proofs.Ytieooajamljhnaa.Pure
