/- The plain law of FnGains: with the told votes a party gains a mandate, with one vote less it does not; what is below a threshold is cleared, all else is kept. For any bytes (the law says nothing of more than 3000). -/
import Derived.Test.YtoklpimhcdfbbaaWWords
import Derived.Test.YtoklpimhcdfbbaaZFnGains0
import Derived.Test.YtoklpimhcdfbbaaZFnGains3
import Derived.Test.YtoklpimhcdfbbaaZFnGains1
import Derived.Laws.BitsLemmas
import Derived.Test.YtoklpimhcdfbbaaRows
import Derived.WalkKit
import Derived.ProofKit
import Derived.OpenShut
import Derived.ShutString
import Derived.ChangeOld
import Derived.Below
import Derived.SizedLaws
set_option linter.unusedVariables false
set_option linter.unusedSimpArgs false

/-! ## Base -/
/- Plain words for the plain laws: what ends with a value once there are rounds enough; loops over an index; sums that do not wrap. No condition. -/
namespace Go.Proofs.Ytoklpimhcdfbbaa.B
open Go.RowKit Go.Proofs.YtoklpimhcdfbbaaW.PrintWords

theorem w64 {x : Int} (h : -9223372036854775808 ≤ x) (h' : x ≤ 9223372036854775807) : wrap64 x = x := by
  unfold wrap64; omega
theorem wnext {i n : Nat} (h : i < n) (hn : (n : Int) ≤ 9223372036854775807) : wrap64 ((i : Int) + 1) = ((i + 1 : Nat) : Int) := by
  rw [w64 (by omega) (by omega)]; omega

/-- From some number of rounds on these two are the same. -/
def EvEq {α : Type} (g f : Nat → Option α) : Prop := ∃ K, ∀ k, K ≤ k → g k = f k
theorem EvEq.now {α : Type} {g f : Nat → Option α} (h : ∀ k, g k = f k) : EvEq g f := ⟨0, fun k _ => h k⟩
theorem EvEq.trans {α : Type} {g f h : Nat → Option α} (a : EvEq g f) (b : EvEq f h) : EvEq g h := by
  obtain ⟨K, hK⟩ := a
  obtain ⟨K', hK'⟩ := b
  exact ⟨K + K', fun k hk => (hK k (by omega)).trans (hK' k (by omega))⟩
theorem EvEq.bind {α β : Type} {g : Nat → Option α} {a : α} {f : Nat → α → Option β} {h : Nat → Option β} (e : Ev g a) (b : EvEq (fun k => f k a) h) : EvEq (fun k => (g k).bind (f k)) h := by
  obtain ⟨K, hK⟩ := e
  obtain ⟨K', hK'⟩ := b
  refine ⟨K + K', fun k hk => ?_⟩
  show (g k).bind (f k) = _
  rw [hK k (by omega)]
  exact hK' k (by omega)
theorem Ev.ofEq {α : Type} {g f : Nat → Option α} {r : α} (a : EvEq g f) (b : Ev f r) : Ev g r := by
  obtain ⟨K, hK⟩ := a
  obtain ⟨K', hK'⟩ := b
  exact ⟨K + K', fun k hk => (hK k (by omega)).trans (hK' k (by omega))⟩
theorem Ev.const {α : Type} {g : Nat → Option α} {r : α} (h : ∀ k, g k = some r) : Ev g r := ⟨0, fun k _ => h k⟩
theorem Ev.up {α : Type} {g : Nat → Option α} {r : α} (h : Ev (fun k => g (k + 1)) r) : Ev g r := by
  obtain ⟨K, hK⟩ := h
  refine ⟨K + 1, fun k hk => ?_⟩
  have e : g (k - 1 + 1) = some r := hK (k - 1) (by omega)
  have : k - 1 + 1 = k := by omega
  rwa [this] at e
theorem Ev.bindE {α β : Type} {g : Nat → Option α} {a : α} {f : Nat → α → Option β} {r : β} (e : Ev g a) (b : Ev (fun k => f k a) r) : Ev (fun k => (g k).bind (f k)) r := Ev.bind e b
theorem Ev.ifPos {α : Type} {c : Prop} [Decidable c] {A B : Nat → Option α} {r : α} (h : c) (e : Ev A r) : Ev (fun k => if c then A k else B k) r := by
  simpa only [if_pos h] using e
theorem Ev.ifNeg {α : Type} {c : Prop} [Decidable c] {A B : Nat → Option α} {r : α} (h : ¬ c) (e : Ev B r) : Ev (fun k => if c then A k else B k) r := by
  simpa only [if_neg h] using e
theorem Ev.uniq {α : Type} {g : Nat → Option α} {a b : α} (h : Ev g a) (h' : Ev g b) : a = b := by
  obtain ⟨K, hK⟩ := h
  obtain ⟨K', hK'⟩ := h'
  have := (hK (K + K') (by omega)).symm.trans (hK' (K + K') (by omega))
  exact Option.some.inj this

/-- A loop by its rounds: at each one it ends, or goes on to the next. F: what it comes to from there. -/
theorem scan {ρ : Type} (L : Nat → Nat → Option ρ) (n : Nat) (F : Nat → ρ) (hend : Ev (fun k => L (k + 1) n) (F n))
    (hstep : ∀ i, i < n → Ev (fun k => L (k + 1) i) (F i) ∨ (F i = F (i + 1) ∧ EvEq (fun k => L (k + 1) i) (fun k => L k (i + 1)))) : ∀ i, i ≤ n → Ev (fun k => L k i) (F i) := by
  have key : ∀ d i, i + d = n → Ev (fun k => L k i) (F i) := by
    intro d
    induction d with
    | zero =>
      intro i hi
      have e : i = n := by omega
      rw [e]
      exact Ev.up (g := fun k => L k n) hend
    | succ d ih =>
      intro i hi
      rcases hstep i (by omega) with h | ⟨h, h'⟩
      · exact Ev.up (g := fun k => L k i) h
      · rw [h]
        exact Ev.up (g := fun k => L k i) (Ev.ofEq h' (ih (i + 1) (by omega)))
  intro i hi
  exact key (n - i) i (by omega)

/-- A loop whose value at the end is known, and at each round that of the next one. -/
theorem scanI {ρ : Type} (L : Nat → Nat → Option ρ) (n : Nat) (F : Nat → ρ) (hend : Ev (fun k => L k n) (F n))
    (hstep : ∀ i, i < n → Ev (fun k => L k (i + 1)) (F (i + 1)) → Ev (fun k => L k i) (F i)) : ∀ i, i ≤ n → Ev (fun k => L k i) (F i) := by
  have key : ∀ d i, i + d = n → Ev (fun k => L k i) (F i) := by
    intro d
    induction d with
    | zero =>
      intro i hi
      have e : i = n := by omega
      rw [e]
      exact hend
    | succ d ih =>
      intro i hi
      exact hstep i (by omega) (ih (i + 1) (by omega))
  intro i hi
  exact key (n - i) i (by omega)
theorem Ev.ite {α : Type} {c : Prop} [Decidable c] {A B : Nat → Option α} {r : α} (h : c → Ev A r) (h' : ¬ c → Ev B r) : Ev (fun k => if c then A k else B k) r := by
  by_cases e : c
  · exact Ev.ifPos e (h e)
  · exact Ev.ifNeg e (h' e)

def allFrom (p : Nat → Bool) (i n : Nat) : Bool := (List.range' i (n - i)).all p
theorem allFrom_end (p : Nat → Bool) (n : Nat) : allFrom p n n = true := by simp [allFrom]
theorem allFrom_step (p : Nat → Bool) {i n : Nat} (h : i < n) : allFrom p i n = (p i && allFrom p (i + 1) n) := by
  unfold allFrom
  obtain ⟨d, hd⟩ : ∃ d, n - i = d + 1 := ⟨n - i - 1, by omega⟩
  have : n - (i + 1) = d := by omega
  rw [hd, this, List.range'_succ, List.all_cons]
theorem allFrom_iff (p : Nat → Bool) (i n : Nat) : allFrom p i n = true ↔ ∀ j, i ≤ j → j < n → p j = true := by
  unfold allFrom
  rw [List.all_eq_true]
  constructor
  · intro h j h1 h2
    exact h j (by rw [List.mem_range'_1]; omega)
  · intro h j hj
    rw [List.mem_range'_1] at hj
    exact h j (by omega) (by omega)
/-- A loop that goes on while p, and ends with false. -/
theorem allScan (L : Nat → Nat → Option Bool) (n : Nat) (p : Nat → Bool) (fin : Bool) (hend : Ev (fun k => L (k + 1) n) fin)
    (hstep : ∀ i, i < n → EvEq (fun k => L (k + 1) i) (fun k => if p i = true then L k (i + 1) else some false)) : ∀ i, i ≤ n → Ev (fun k => L k i) (allFrom p i n && fin) := by
  refine scan L n (fun i => allFrom p i n && fin) ?_ ?_
  · show Ev _ (allFrom p n n && fin)
    rw [allFrom_end, Bool.true_and]
    exact hend
  · intro i hi
    by_cases hp : p i = true
    · right
      refine ⟨by show (allFrom p i n && fin) = (allFrom p (i + 1) n && fin); rw [allFrom_step p hi, hp, Bool.true_and], ?_⟩
      have h := hstep i hi
      simpa only [if_pos hp] using h
    · left
      have h := hstep i hi
      have hp' : p i = false := by simpa using hp
      have e : (allFrom p i n && fin) = false := by rw [allFrom_step p hi, hp']; rfl
      show Ev _ (allFrom p i n && fin)
      rw [e]
      refine Ev.ofEq h (Ev.const fun k => ?_)
      rw [if_neg hp]

def firstFrom (p : Nat → Bool) (i n : Nat) : Int := match (List.range' i (n - i)).find? p with | some j => (j : Int) | none => -1
theorem firstFrom_end (p : Nat → Bool) (n : Nat) : firstFrom p n n = -1 := by simp [firstFrom]
theorem firstFrom_step (p : Nat → Bool) {i n : Nat} (h : i < n) : firstFrom p i n = if p i = true then (i : Int) else firstFrom p (i + 1) n := by
  unfold firstFrom
  obtain ⟨d, hd⟩ : ∃ d, n - i = d + 1 := ⟨n - i - 1, by omega⟩
  have : n - (i + 1) = d := by omega
  rw [hd, this, List.range'_succ, List.find?_cons]
  cases p i <;> simp
/-- A loop that ends at the first index with p, and tells -1 where there is none. -/
theorem firstScan (L : Nat → Nat → Option Int) (n : Nat) (p : Nat → Bool) (hend : Ev (fun k => L (k + 1) n) (-1))
    (hstep : ∀ i, i < n → EvEq (fun k => L (k + 1) i) (fun k => if p i = true then some (i : Int) else L k (i + 1))) : ∀ i, i ≤ n → Ev (fun k => L k i) (firstFrom p i n) := by
  refine scan L n (fun i => firstFrom p i n) ?_ ?_
  · show Ev _ (firstFrom p n n)
    rw [firstFrom_end]
    exact hend
  · intro i hi
    by_cases hp : p i = true
    · left
      show Ev _ (firstFrom p i n)
      rw [firstFrom_step p hi, if_pos hp]
      exact Ev.ofEq (hstep i hi) (Ev.const fun k => by rw [if_pos hp])
    · right
      refine ⟨by show firstFrom p i n = firstFrom p (i + 1) n; rw [firstFrom_step p hi, if_neg hp], ?_⟩
      simpa only [if_neg hp] using hstep i hi
theorem firstFrom_none (p : Nat → Bool) {n : Nat} : ∀ i, i ≤ n → (firstFrom p i n = -1 ↔ ∀ j, i ≤ j → j < n → p j = false) := by
  have key : ∀ d i, i + d = n → (firstFrom p i n = -1 ↔ ∀ j, i ≤ j → j < n → p j = false) := by
    intro d
    induction d with
    | zero =>
      intro i hi
      have e : i = n := by omega
      subst e
      rw [firstFrom_end]
      exact ⟨fun _ j h1 h2 => by omega, fun _ => rfl⟩
    | succ d ih =>
      intro i hi
      rw [firstFrom_step p (by omega)]
      by_cases hp : p i = true
      · rw [if_pos hp]
        constructor
        · intro h; omega
        · intro h
          have := h i (by omega) (by omega)
          rw [hp] at this
          cases this
      · rw [if_neg hp, ih (i + 1) (by omega)]
        constructor
        · intro h j h1 h2
          by_cases e : j = i
          · subst e; simpa using hp
          · exact h j (by omega) h2
        · intro h j h1 h2
          exact h j (by omega) h2
  intro i hi
  exact key (n - i) i (by omega)
theorem firstFrom_some (p : Nat → Bool) {n : Nat} : ∀ i, i ≤ n → firstFrom p i n ≠ -1 → ∃ j : Nat, firstFrom p i n = (j : Int) ∧ i ≤ j ∧ j < n ∧ p j = true := by
  have key : ∀ d i, i + d = n → firstFrom p i n ≠ -1 → ∃ j : Nat, firstFrom p i n = (j : Int) ∧ i ≤ j ∧ j < n ∧ p j = true := by
    intro d
    induction d with
    | zero =>
      intro i hi h
      have e : i = n := by omega
      subst e
      rw [firstFrom_end] at h
      exact absurd rfl h
    | succ d ih =>
      intro i hi h
      rw [firstFrom_step p (by omega)] at h ⊢
      by_cases hp : p i = true
      · rw [if_pos hp]
        exact ⟨i, rfl, by omega, by omega, hp⟩
      · rw [if_neg hp] at h ⊢
        obtain ⟨j, h1, h2, h3, h4⟩ := ih (i + 1) (by omega) h
        exact ⟨j, h1, by omega, h3, h4⟩
  intro i hi
  exact key (n - i) i (by omega)
theorem firstFrom_congr {p q : Nat → Bool} {n : Nat} (h : ∀ j, j < n → p j = q j) : ∀ i, i ≤ n → firstFrom p i n = firstFrom q i n := by
  have key : ∀ d i, i + d = n → firstFrom p i n = firstFrom q i n := by
    intro d
    induction d with
    | zero =>
      intro i hi
      have e : i = n := by omega
      subst e
      rw [firstFrom_end, firstFrom_end]
    | succ d ih =>
      intro i hi
      rw [firstFrom_step p (by omega), firstFrom_step q (by omega), h i (by omega), ih (i + 1) (by omega)]
  intro i hi
  exact key (n - i) i (by omega)

theorem getD_at {α : Type} {xs : List α} {i : Nat} (h : i < xs.length) (d : α) : xs.getD i d = xs[i] := by
  rw [List.getD_eq_getElem?_getD, List.getElem?_eq_getElem h]; rfl
theorem rd_at {xs : List Int} {i : Nat} (h : i < xs.length) : rd xs (i : Int) = xs[i] := by
  unfold rd; rw [Int.toNat_natCast]; exact getD_at h _
theorem rdOf_at {α : Type} {d : α} {xs : List α} {i : Nat} (h : i < xs.length) : rdOf d xs (i : Int) = xs[i] := by
  unfold rdOf; rw [Int.toNat_natCast]; exact getD_at h _
theorem allFrom_congr {p q : Nat → Bool} (h : ∀ j, p j = q j) (i n : Nat) : allFrom p i n = allFrom q i n := by
  rw [show p = q from funext h]
/-- Rows that are compared place by place. -/
theorem rows3 {L : Nat → Int → Option Bool} {n m : Nat} {c : Int → Bool} (hn : n ≤ 9223372036854775807)
    (hL : ∀ k i, L (k + 1) i = if i < (n : Int) then (if 0 ≤ i then (if i < (m : Int) then (if c i = true then some false else L k (wrap64 (i + 1))) else none) else none) else some true) :
    Ev (fun k => if (n : Int) = (m : Int) then L k 0 else some false) (decide (n = m) && allFrom (fun j => !c j) 0 n) := by
  by_cases hl : n = m
  · rw [decide_eq_true hl, Bool.true_and]
    refine Ev.ifPos (by omega) ?_
    have h := allScan (fun k i => L k (i : Int)) n (fun j => !c j) true (Ev.const fun k => by rw [hL, if_neg (by omega)]) (by
      intro i hi
      refine EvEq.now fun k => ?_
      rw [hL, if_pos (by omega), if_pos (by omega), if_pos (by omega), wnext hi (by omega)]
      cases c i <;> rfl) 0 (by omega)
    rw [Bool.and_true] at h
    exact h
  · rw [decide_eq_false hl, Bool.false_and]
    exact Ev.ifNeg (by omega) (Ev.const fun _ => rfl)
theorem rows4 {L : Nat → Int → Option Bool} {n m : Nat} {c : Int → Bool} (hn : n ≤ 9223372036854775807)
    (hL : ∀ k i, L (k + 1) i = if i < (n : Int) then (if 0 ≤ i then (if i < (n : Int) then (if i < (m : Int) then (if c i = true then some false else L k (wrap64 (i + 1))) else none) else none) else none) else some true) :
    Ev (fun k => if (n : Int) = (m : Int) then L k 0 else some false) (decide (n = m) && allFrom (fun j => !c j) 0 n) := by
  refine rows3 hn fun k i => ?_
  rw [hL]
  by_cases h : i < (n : Int)
  · rw [if_pos h, if_pos h, if_pos h]
  · rw [if_neg h, if_neg h]
/-- A row that is filled from its begin. -/
theorem fill_set {α : Type} (xs : List α) (z : α) {i n : Nat} (hi : i < n) (hl : xs.length = n) : (xs.take i ++ List.replicate (n - i) z).set i (xs[i]'(by omega)) = xs.take (i + 1) ++ List.replicate (n - (i + 1)) z := by
  have hlt : (xs.take i).length = i := by rw [List.length_take]; omega
  rw [List.set_append_right _ _ (by omega), hlt, Nat.sub_self]
  obtain ⟨d, hd⟩ : ∃ d, n - i = d + 1 := ⟨n - i - 1, by omega⟩
  have hd' : n - (i + 1) = d := by omega
  rw [hd, hd', List.replicate_succ, List.set_cons_zero, List.take_succ_eq_append_getElem (by omega), List.append_assoc]
  rfl

end Go.Proofs.Ytoklpimhcdfbbaa.B

/-! ## PSum -/
/- Plain laws of sums. No condition but the lengths that fit. -/
namespace Go.Proofs.Ytoklpimhcdfbbaa.PSum
open Go.RowKit Go.Proofs.YtoklpimhcdfbbaaW.PrintWords Go.Proofs.Ytoklpimhcdfbbaa.X Go.Proofs.Ytoklpimhcdfbbaa.B

def sum64 (c : Int) (xs : List Int) : Int := xs.foldl (fun s x => wrap64 (s + x)) c
theorem sum64_take (xs : List Int) {i : Nat} (h : i < xs.length) : sum64 0 (xs.take (i + 1)) = wrap64 (sum64 0 (xs.take i) + xs[i]) := by
  unfold sum64
  rw [List.take_succ_eq_append_getElem h, List.foldl_append]
  rfl
theorem specSum_ev (xs : List Int) (hn : xs.length ≤ 9223372036854775807) : Ev (fun k => spec_l02Sum.f k xs) (sum64 0 xs) := by
  have h := scanI (fun k i => spec_l02Sum.l0 k xs (sum64 0 (xs.take i)) (i : Int)) xs.length (fun _ => sum64 0 xs) (Ev.up (g := fun k => spec_l02Sum.l0 k xs (sum64 0 (xs.take xs.length)) (xs.length : Int)) (Ev.const fun k => by
      simp only [spec_l02Sum.l0]
      rw [if_neg (by omega), List.take_length])) (by
    intro i hi ih
    refine Ev.up (g := fun k => spec_l02Sum.l0 k xs (sum64 0 (xs.take i)) (i : Int)) ?_
    simp only [spec_l02Sum.l0, rd_at hi, wnext hi (by omega : (xs.length : Int) ≤ _)]
    rw [sum64_take xs hi] at ih
    exact Ev.ifPos (by omega) (Ev.ifPos (by omega) ih)) 0 (by omega)
  exact h
theorem implSum_ev (xs : List Int) (hn : xs.length ≤ 9223372036854775807) : Ev (fun k => impl_sum.f k xs) (sum64 0 xs) := by
  have h := scanI (fun k i => impl_sum.l0 k (sum64 0 (xs.take i)) xs (xs.length : Int) (i : Int)) xs.length (fun _ => sum64 0 xs) (Ev.up (g := fun k => impl_sum.l0 k (sum64 0 (xs.take xs.length)) xs (xs.length : Int) (xs.length : Int)) (Ev.const fun k => by
      simp only [impl_sum.l0]
      rw [if_neg (by omega), List.take_length])) (by
    intro i hi ih
    refine Ev.up (g := fun k => impl_sum.l0 k (sum64 0 (xs.take i)) xs (xs.length : Int) (i : Int)) ?_
    simp only [impl_sum.l0, rd_at hi, wnext hi (by omega : (xs.length : Int) ≤ _)]
    rw [sum64_take xs hi] at ih
    exact Ev.ifPos (by omega) (Ev.ifPos (by omega) (Ev.ifPos (by omega) ih))) 0 (by omega)
  exact h
end Go.Proofs.Ytoklpimhcdfbbaa.PSum

/-! ## PVotes -/
/- Plain laws of votes: both ask the same of votes, mandates and step. No condition but the lengths that fit. -/
namespace Go.Proofs.Ytoklpimhcdfbbaa.PVotes
open Go.RowKit Go.Proofs.YtoklpimhcdfbbaaW.PrintWords Go.Proofs.Ytoklpimhcdfbbaa.X Go.Proofs.Ytoklpimhcdfbbaa.B Go.Proofs.Ytoklpimhcdfbbaa.PSum
theorem implIn_eq (a b c : Int) : impl_in.f a b c = some (decide (b ≤ a ∧ a ≤ c)) := by
  unfold impl_in.f
  by_cases h : a ≥ b <;> by_cases h' : a ≤ c <;> simp [h, h'] <;> omega
theorem specIn_eq (a b c : Int) : spec_l00In.f a b c = some (decide (b ≤ a ∧ a ≤ c)) := by
  unfold spec_l00In.f
  by_cases h : a ≥ b <;> by_cases h' : a ≤ c <;> simp [h, h'] <;> omega
def voteIn (xs : List Int) (j : Nat) : Bool := decide (0 ≤ rd xs (j : Int) ∧ rd xs (j : Int) ≤ 1000000)
def okVotes (xs : List Int) : Bool := allFrom (voteIn xs) 0 xs.length && (decide (1 ≤ (xs.length : Int) ∧ (xs.length : Int) ≤ 8) && decide (sum64 0 xs > 0))
theorem specOk_ev (xs : List Int) (hn : xs.length ≤ 9223372036854775807) : Ev (fun k => spec_l24Ok.f k xs 1000000) (okVotes xs) := by
  have h := allScan (fun k i => spec_l24Ok.l0 k xs 1000000 (i : Int)) xs.length (voteIn xs) (decide (1 ≤ (xs.length : Int) ∧ (xs.length : Int) ≤ 8) && decide (sum64 0 xs > 0)) (by
      simp only [spec_l24Ok.l0, specIn_eq, Option.bind_some]
      refine Ev.ifNeg (by omega) (Ev.ite (fun c => ?_) (fun c => ?_))
      · rw [c, Bool.true_and]; exact Ev.bindE (specSum_ev xs hn) (Ev.const fun _ => rfl)
      · rw [Bool.eq_false_iff.2 c, Bool.false_and]; exact Ev.const fun _ => rfl) (by
    intro i hi
    refine EvEq.now fun k => ?_
    simp only [spec_l24Ok.l0, specIn_eq, Option.bind_some]
    rw [if_pos (by omega), if_pos (by omega), wnext hi (by omega)]
    rfl) 0 (by omega)
  exact h
theorem implOk_ev (xs : List Int) (hn : xs.length ≤ 9223372036854775807) : Ev (fun k => impl_ValidVotes.f k xs) (okVotes xs) := by
  have h := allScan (fun k i => impl_all_int64__impl_ValidVotes_1.l0 k xs (xs.length : Int) (i : Int)) xs.length (voteIn xs) true (Ev.const fun k => by
      simp only [impl_all_int64__impl_ValidVotes_1.l0]
      rw [if_neg (by omega)]) (by
    intro i hi
    refine EvEq.now fun k => ?_
    simp only [impl_all_int64__impl_ValidVotes_1.l0, impl_ValidVotes_1.f, implIn_eq, Option.bind_some]
    rw [if_pos (by omega), if_pos (by omega), if_pos (by omega), wnext hi (by omega)]
    rfl) 0 (by omega)
  rw [Bool.and_true] at h
  unfold impl_ValidVotes.f okVotes
  simp only [impl_size_int64.f, implIn_eq, Option.bind_some]
  refine Ev.ite (fun c => ?_) (fun c => ?_)
  · rw [c, Bool.true_and]
    refine Ev.bindE (show Ev (fun k => impl_all_int64__impl_ValidVotes_1.f k xs) _ from h) (Ev.ite (fun d => ?_) (fun d => ?_))
    · rw [d, Bool.true_and]; exact Ev.bindE (implSum_ev xs hn) (Ev.const fun _ => rfl)
    · rw [Bool.eq_false_iff.2 d, Bool.false_and]; exact Ev.const fun _ => rfl
  · rw [Bool.eq_false_iff.2 c, Bool.false_and, Bool.and_false]; exact Ev.const fun _ => rfl
def code (xs : List Int) (t s : Int) : Int := if okVotes xs = true then (if 1 ≤ t ∧ t ≤ 60 then (if 1 ≤ s ∧ s ≤ 2 then 0 else 2) else 2) else 1
theorem specCode_ev (xs : List Int) (t s : Int) (hn : xs.length ≤ 9223372036854775807) : Ev (fun k => spec_l24Code.f k xs t s) (code xs t s) := by
  unfold spec_l24Code.f code
  simp only [specIn_eq, Option.bind_some, decide_eq_true_eq]
  refine Ev.bindE (specOk_ev xs hn) (Ev.ite (fun c => ?_) (fun c => ?_))
  · rw [if_pos c]
    refine Ev.ite (fun d => ?_) (fun d => ?_)
    · rw [if_pos d]
      refine Ev.ite (fun e => ?_) (fun e => ?_)
      · rw [if_pos e]; exact Ev.const fun _ => rfl
      · rw [if_neg e]; exact Ev.const fun _ => rfl
    · rw [if_neg d]; exact Ev.const fun _ => rfl
  · rw [if_neg c]; exact Ev.const fun _ => rfl
theorem implCode_ev (xs : List Int) (t s : Int) (hn : xs.length ≤ 9223372036854775807) : Ev (fun k => impl_votesCode.f k xs t s) (code xs t s) := by
  unfold impl_votesCode.f code
  simp only [implIn_eq, Option.bind_some, decide_eq_true_eq]
  refine Ev.bindE (implOk_ev xs hn) (Ev.ite (fun c => ?_) (fun c => ?_))
  · rw [if_pos c]
    refine Ev.ite (fun d => ?_) (fun d => ?_)
    · rw [if_pos d]
      refine Ev.ite (fun e => ?_) (fun e => ?_)
      · rw [if_pos e]; exact Ev.const fun _ => rfl
      · rw [if_neg e]; exact Ev.const fun _ => rfl
    · rw [if_neg d]; exact Ev.const fun _ => rfl
  · rw [if_neg c]; exact Ev.const fun _ => rfl
theorem code_zero {xs : List Int} {t s : Int} (h : code xs t s = 0) : okVotes xs = true ∧ (1 ≤ t ∧ t ≤ 60) ∧ 1 ≤ s ∧ s ≤ 2 := by
  unfold code at h
  by_cases c : okVotes xs = true
  · rw [if_pos c] at h
    by_cases d : 1 ≤ t ∧ t ≤ 60
    · rw [if_pos d] at h
      by_cases e : 1 ≤ s ∧ s ≤ 2
      · exact ⟨c, d, e⟩
      · rw [if_neg e] at h; omega
    · rw [if_neg d] at h; omega
  · rw [if_neg c] at h; omega
theorem okVotes_in {xs : List Int} (h : okVotes xs = true) : (1 ≤ xs.length ∧ xs.length ≤ 8) ∧ ∀ i, i < xs.length → 0 ≤ rd xs (i : Int) ∧ rd xs (i : Int) ≤ 1000000 := by
  unfold okVotes at h
  simp only [Bool.and_eq_true, decide_eq_true_eq] at h
  refine ⟨by omega, fun i hi => ?_⟩
  have := (allFrom_iff _ _ _).1 h.1 i (by omega) hi
  simpa [voteIn] using this
end Go.Proofs.Ytoklpimhcdfbbaa.PVotes

/-! ## Conv -/
/- Plain words for the laws' own helpers: measuring an argument, copying it, comparing it with itself, marking a result and finding the marks again. No condition but the lengths that fit. -/
namespace Go.Proofs.Ytoklpimhcdfbbaa.B
open Go.RowKit Go.Proofs.YtoklpimhcdfbbaaW.PrintWords

def sumOf {α : Type} (f : α → Int) (xs : List α) : Int := (xs.map f).sum
theorem sumOf_nil {α : Type} (f : α → Int) : sumOf f [] = 0 := rfl
theorem sumOf_cons {α : Type} (f : α → Int) (x : α) (xs : List α) : sumOf f (x :: xs) = f x + sumOf f xs := by simp [sumOf]
theorem sumOf_nonneg {α : Type} {f : α → Int} {xs : List α} (h : ∀ x ∈ xs, 0 ≤ f x) : 0 ≤ sumOf f xs := by
  induction xs with
  | nil => simp [sumOf]
  | cons x xs ih =>
    rw [sumOf_cons]
    have h1 := h x (List.mem_cons_self ..)
    have h2 := ih fun y hy => h y (List.mem_cons_of_mem _ hy)
    omega
theorem sumOf_mem {α : Type} {f : α → Int} {xs : List α} (h : ∀ x ∈ xs, 0 ≤ f x) : ∀ x ∈ xs, f x ≤ sumOf f xs := by
  induction xs with
  | nil => intro x hx; cases hx
  | cons y xs ih =>
    intro x hx
    rw [sumOf_cons]
    have h1 := h y (List.mem_cons_self ..)
    have h2 := sumOf_nonneg (f := f) (xs := xs) fun z hz => h z (List.mem_cons_of_mem _ hz)
    rcases List.mem_cons.1 hx with rfl | hx
    · omega
    · have := ih (fun z hz => h z (List.mem_cons_of_mem _ hz)) x hx
      omega

/-- g takes s off what is left, or tells -1 if there is less. -/
def Sz (g : Int → Nat → Option Int) (s : Int) : Prop := 0 ≤ s ∧ ∀ left, 0 ≤ left → left ≤ 1048576 → Ev (fun k => g left k) (if s ≤ left then left - s else -1)
theorem Sz.id : Sz (fun left _ => some left) 0 := ⟨by omega, fun left h h' => Ev.const fun k => by show some left = _; rw [if_pos h, show left - 0 = left by omega]⟩
theorem Sz.seq {g h : Int → Nat → Option Int} {s t : Int} (a : Sz g s) (b : Sz h t) : Sz (fun left k => (g left k).bind fun u => if u < 0 then some (-1) else h u k) (s + t) := by
  refine ⟨by have := a.1; have := b.1; omega, fun left h0 h1 => ?_⟩
  have hs := a.1
  have ht := b.1
  refine Ev.bindE (a.2 left h0 h1) ?_
  by_cases c : s ≤ left
  · simp only [if_pos c]
    refine Ev.ifNeg (by omega) ?_
    have := b.2 (left - s) (by omega) (by omega)
    by_cases d : t ≤ left - s
    · rw [if_pos (by omega)]
      rw [if_pos d] at this
      have e : left - s - t = left - (s + t) := by omega
      rwa [e] at this
    · rw [if_neg (by omega)]
      rwa [if_neg d] at this
  · simp only [if_neg c]
    rw [if_neg (by omega)]
    exact Ev.ifPos (by omega) (Ev.const fun _ => rfl)
theorem Sz.len {n : Nat} (hn : n ≤ 9223372036854775807) {h : Int → Nat → Option Int} {t : Int} (b : Sz h t) : Sz (fun left k => if wrap64 (left - (n : Int)) < 0 then some (-1) else h (wrap64 (left - (n : Int))) k) ((n : Int) + t) := by
  have ht := b.1
  refine ⟨by omega, fun left h0 h1 => ?_⟩
  have e : wrap64 (left - (n : Int)) = left - n := w64 (by omega) (by omega)
  simp only [e]
  by_cases c : (n : Int) ≤ left
  · refine Ev.ifNeg (by omega) ?_
    have := b.2 (left - n) (by omega) (by omega)
    by_cases d : t ≤ left - n
    · rw [if_pos (by omega)]
      rw [if_pos d] at this
      have e : left - n - t = left - (n + t) := by omega
      rwa [e] at this
    · rw [if_neg (by omega)]
      rwa [if_neg d] at this
  · rw [if_neg (by omega)]
    exact Ev.ifPos (by omega) (Ev.const fun _ => rfl)
/-- A row: its length, then each element in turn. -/
theorem Sz.list {α : Type} {xs : List α} {rdx : Int → α} {e : α → Int → Nat → Option Int} {s : α → Int} {L : Nat → Int → Int → Option Int} (hn : xs.length ≤ 9223372036854775807)
    (hrd : ∀ (i : Nat) (h : i < xs.length), rdx (i : Int) = xs[i]) (he : ∀ x ∈ xs, Sz (e x) (s x))
    (hL : ∀ k l i, L (k + 1) l i = if i < (xs.length : Int) then (if 0 ≤ i then ((e (rdx i) l k).bind fun u => if u < 0 then some (-1) else L k u (wrap64 (i + 1))) else none) else some l) :
    Sz (fun left k => if wrap64 (left - (xs.length : Int)) < 0 then some (-1) else L k (wrap64 (left - (xs.length : Int))) 0) ((xs.length : Int) + sumOf s xs) := by
  refine Sz.len hn (h := fun left k => L k left 0) ⟨sumOf_nonneg fun x hx => (he x hx).1, ?_⟩
  have key : ∀ (suf pre : List α), xs = pre ++ suf → ∀ left, 0 ≤ left → left ≤ 1048576 → Ev (fun k => L k left (pre.length : Int)) (if sumOf s suf ≤ left then left - sumOf s suf else -1) := by
    intro suf
    induction suf with
    | nil =>
      intro pre hx left h0 h1
      refine Ev.up (g := fun k => L k left (pre.length : Int)) (Ev.const fun k => ?_)
      have : xs.length = pre.length := by rw [hx]; simp
      rw [hL, if_neg (by omega), sumOf_nil, if_pos h0]
      congr 1; omega
    | cons x suf ih =>
      intro pre hx left h0 h1
      have hlen : xs.length = pre.length + (suf.length + 1) := by rw [hx]; simp
      have hi : pre.length < xs.length := by omega
      have hxi : xs[pre.length] = x := by simp [hx]
      have hm : x ∈ xs := by rw [hx]; simp
      have hs := (he x hm).1
      have hss : 0 ≤ sumOf s suf := sumOf_nonneg fun y hy => (he y (by rw [hx]; simp [hy])).1
      refine Ev.up (g := fun k => L k left (pre.length : Int)) ?_
      simp only [hL, hrd _ hi, hxi]
      refine Ev.ifPos (by omega) (Ev.ifPos (by omega) (Ev.bindE ((he x hm).2 left h0 h1) ?_))
      rw [sumOf_cons]
      by_cases c : s x ≤ left
      · simp only [if_pos c]
        refine Ev.ifNeg (by omega) ?_
        have h' := ih (pre ++ [x]) (by rw [hx]; simp) (left - s x) (by omega) (by omega)
        have e1 : ((pre ++ [x]).length : Int) = wrap64 ((pre.length : Int) + 1) := by rw [wnext hi (by omega)]; simp
        rw [e1] at h'
        by_cases d : sumOf s suf ≤ left - s x
        · rw [if_pos (by omega)]
          rw [if_pos d] at h'
          have e : left - s x - sumOf s suf = left - (s x + sumOf s suf) := by omega
          rwa [e] at h'
        · rw [if_neg (by omega)]
          rwa [if_neg d] at h'
      · simp only [if_neg c]
        rw [if_neg (by omega)]
        exact Ev.ifPos (by omega) (Ev.const fun _ => rfl)
  exact key xs [] rfl

/-- Copying a row, element by element. -/
theorem Cv.list {α β τ : Type} {xs : List α} {rdx : Int → α} {e : Nat → α → Option τ} {mk : τ → β} {c : α → β} {t : α → τ} {z : β} {L : Nat → List β → Int → Option (List β)} {lim : Nat}
    (hlim : xs.length ≤ lim) (hbig : xs.length ≤ 9223372036854775807) (hrd : ∀ (i : Nat) (h : i < xs.length), rdx (i : Int) = xs[i]) (he : ∀ x ∈ xs, Ev (fun k => e k x) (t x)) (hc : ∀ x, mk (t x) = c x)
    (hL : ∀ k ys i, L (k + 1) ys i = if i < (xs.length : Int) then (if 0 ≤ i then ((e k (rdx i)).bind fun bt => if i < (ys.length : Int) then L k (ys.set i.toNat (mk bt)) (wrap64 (i + 1)) else none) else none) else some ys) :
    Ev (fun k => if 0 ≤ (xs.length : Int) then (if ((xs.length : Int)).toNat ≤ lim then L k (List.replicate ((xs.length : Int)).toNat z) 0 else none) else none) (xs.map c) := by
  refine Ev.ifPos (by omega) (Ev.ifPos (by omega) ?_)
  have h := scanI (fun k i => L k ((xs.map c).take i ++ List.replicate (xs.length - i) z) (i : Int)) xs.length (fun _ => xs.map c) (Ev.up (g := fun k => L k ((xs.map c).take xs.length ++ List.replicate (xs.length - xs.length) z) (xs.length : Int)) (Ev.const fun k => by
      rw [hL, if_neg (by omega)]
      simp [List.take_of_length_le])) (by
      intro i hi ih
      refine Ev.up (g := fun k => L k ((xs.map c).take i ++ List.replicate (xs.length - i) z) (i : Int)) ?_
      have hl : ((xs.map c).take i ++ List.replicate (xs.length - i) z).length = xs.length := by simp; omega
      simp only [hL, hrd _ hi]
      refine Ev.ifPos (by omega) (Ev.ifPos (by omega) (Ev.bindE (he _ (List.getElem_mem hi)) (Ev.ifPos (by rw [hl]; omega) ?_)))
      have hs := fill_set (xs.map c) z (i := i) (n := xs.length) hi (by simp)
      rw [hc, Int.toNat_natCast, wnext hi (by omega)]
      rw [List.getElem_map] at hs
      rw [hs]
      exact ih) 0 (by omega)
  simpa using h
theorem Cv.plain {α : Type} {xs : List α} {rdx : Int → α} {z : α} {L : Nat → List α → Int → Option (List α)} {lim : Nat}
    (hlim : xs.length ≤ lim) (hbig : xs.length ≤ 9223372036854775807) (hrd : ∀ (i : Nat) (h : i < xs.length), rdx (i : Int) = xs[i])
    (hL : ∀ k ys i, L (k + 1) ys i = if i < (xs.length : Int) then (if 0 ≤ i then (if i < (ys.length : Int) then L k (ys.set i.toNat (rdx i)) (wrap64 (i + 1)) else none) else none) else some ys) :
    Ev (fun k => if 0 ≤ (xs.length : Int) then (if ((xs.length : Int)).toNat ≤ lim then L k (List.replicate ((xs.length : Int)).toNat z) 0 else none) else none) xs := by
  have h := Cv.list (xs := xs) (rdx := rdx) (e := fun _ x => some x) (mk := fun x => x) (c := fun x => x) (t := fun x => x) (z := z) (L := L) hlim hbig hrd (fun x _ => Ev.const fun _ => rfl) (fun _ => rfl) hL
  simpa using h

/-- Comparing a row with itself. -/
theorem Eq.list {α : Type} {xs : List α} {rdx : Int → α} {e : Nat → α → Option Bool} {L : Nat → Int → Option Bool}
    (hbig : xs.length ≤ 9223372036854775807) (hrd : ∀ (i : Nat) (h : i < xs.length), rdx (i : Int) = xs[i]) (he : ∀ x ∈ xs, Ev (fun k => e k x) true)
    (hL : ∀ k i, L (k + 1) i = if i < (xs.length : Int) then (if 0 ≤ i then (if i < (xs.length : Int) then ((e k (rdx i)).bind fun u => if u = true then L k (wrap64 (i + 1)) else some false) else none) else none) else some true) :
    Ev (fun k => if (xs.length : Int) = (xs.length : Int) then L k 0 else some false) true := by
  refine Ev.ifPos rfl ?_
  exact scanI (fun k i => L k (i : Int)) xs.length (fun _ => true) (Ev.up (g := fun k => L k (xs.length : Int)) (Ev.const fun k => by rw [hL, if_neg (by omega)])) (by
    intro i hi ih
    refine Ev.up (g := fun k => L k (i : Int)) ?_
    simp only [hL, hrd _ hi]
    refine Ev.ifPos (by omega) (Ev.ifPos (by omega) (Ev.ifPos (by omega) (Ev.bindE (he _ (List.getElem_mem hi)) (Ev.ifPos rfl ?_))))
    rw [wnext hi (by omega)]
    exact ih) 0 (by omega)

theorem Eq.flat {α : Type} {xs : List α} {P : Int → Prop} [DecidablePred P] {L : Nat → Int → Option Bool}
    (hbig : xs.length ≤ 9223372036854775807) (hP : ∀ x, P x)
    (hL : ∀ k i, L (k + 1) i = if i < (xs.length : Int) then (if 0 ≤ i then (if i < (xs.length : Int) then (if P i then L k (wrap64 (i + 1)) else some false) else none) else none) else some true) :
    Ev (fun k => if (xs.length : Int) = (xs.length : Int) then L k 0 else some false) true := by
  refine Ev.ifPos rfl ?_
  exact scanI (fun k i => L k (i : Int)) xs.length (fun _ => true) (Ev.up (g := fun k => L k (xs.length : Int)) (Ev.const fun k => by rw [hL, if_neg (by omega)])) (by
    intro i hi ih
    refine Ev.up (g := fun k => L k (i : Int)) ?_
    simp only [hL]
    refine Ev.ifPos (by omega) (Ev.ifPos (by omega) (Ev.ifPos (by omega) (Ev.ifPos (hP _) ?_)))
    rw [wnext hi (by omega)]
    exact ih) 0 (by omega)

/-- Marks from c on, put into each element in turn. -/
def markAll {α : Type} (E : α → Int → α) (cost : α → Int) : List α → Int → List α
  | [], _ => []
  | x :: xs, c => E x c :: markAll E cost xs (c + cost x)
theorem markAll_len {α : Type} (E : α → Int → α) (cost : α → Int) (xs : List α) : ∀ c, (markAll E cost xs c).length = xs.length := by
  induction xs with
  | nil => intro c; rfl
  | cons x xs ih => intro c; simp [markAll, ih]
theorem Mk.list {α : Type} {E : α → Int → α} {cost : α → Int} {L : Nat → List α → Int → Int → Option (Int × List α)} {n : Nat} (hbig : n ≤ 1048576) (hcost : ∀ x, 0 ≤ cost x)
    (hend : ∀ k ys c, ys.length = n → L (k + 1) ys c (n : Int) = some (c, ys))
    (hstep : ∀ ys c (i : Nat) (h : i < ys.length), ys.length = n → 0 ≤ c → c + cost ys[i] ≤ 4611686018427387904 → EvEq (fun k => L (k + 1) ys c (i : Int)) (fun k => L k (ys.set i (E ys[i] c)) (c + cost ys[i]) ((i + 1 : Nat) : Int))) :
    ∀ xs : List α, xs.length = n → ∀ c, 0 ≤ c → c + sumOf cost xs ≤ 4611686018427387904 → Ev (fun k => L k xs c 0) (c + sumOf cost xs, markAll E cost xs c) := by
  have key : ∀ (suf pre : List α) (c : Int), (pre ++ suf).length = n → 0 ≤ c → c + sumOf cost suf ≤ 4611686018427387904 → Ev (fun k => L k (pre ++ suf) c (pre.length : Int)) (c + sumOf cost suf, pre ++ markAll E cost suf c) := by
    intro suf
    induction suf with
    | nil =>
      intro pre c hl h0 h1
      refine Ev.up (g := fun k => L k (pre ++ []) c (pre.length : Int)) (Ev.const fun k => ?_)
      have e : (pre.length : Int) = (n : Int) := by rw [← hl]; simp
      rw [e, hend k _ c hl, sumOf_nil]
      simp [markAll]
    | cons x suf ih =>
      intro pre c hl h0 h1
      rw [sumOf_cons] at h1 ⊢
      have hc := hcost x
      have hs : 0 ≤ sumOf cost suf := sumOf_nonneg fun y _ => hcost y
      have hi : pre.length < (pre ++ x :: suf).length := by simp
      have hx : (pre ++ x :: suf)[pre.length] = x := by simp
      refine Ev.up (g := fun k => L k (pre ++ x :: suf) c (pre.length : Int)) ?_
      have st := hstep (pre ++ x :: suf) c pre.length hi hl h0 (by rw [hx]; omega)
      rw [hx] at st
      refine Ev.ofEq st ?_
      have h' := ih (pre ++ [E x c]) (c + cost x) (by simpa using hl) (by omega) (by omega)
      have e1 : (pre ++ x :: suf).set pre.length (E x c) = pre ++ [E x c] ++ suf := by
        rw [List.set_append_right _ _ (by omega), Nat.sub_self]
        simp
      have e2 : ((pre ++ [E x c]).length : Int) = ((pre.length + 1 : Nat) : Int) := by simp
      rw [e1, ← e2]
      have e3 : c + (cost x + sumOf cost suf) = c + cost x + sumOf cost suf := by omega
      rw [e3]
      simpa [markAll] using h'
  intro xs hn c h0 h1
  exact key xs [] c (by simpa using hn) h0 h1
theorem Hd.list {α : Type} {E : α → Int → α} {cost : α → Int} {L : Nat → List α → Int → Int → Option Int} {n : Nat} (hcost : ∀ x, 0 ≤ cost x)
    (hend : ∀ k ys c, ys.length = n → L (k + 1) ys c (n : Int) = some c)
    (hstep : ∀ ys c (i : Nat) (h : i < ys.length) x, ys[i] = E x c → ys.length = n → 0 ≤ c → c + cost x ≤ 4611686018427387904 → EvEq (fun k => L (k + 1) ys c (i : Int)) (fun k => L k ys (c + cost x) ((i + 1 : Nat) : Int))) :
    ∀ xs : List α, xs.length = n → ∀ c, 0 ≤ c → c + sumOf cost xs ≤ 4611686018427387904 → Ev (fun k => L k (markAll E cost xs c) c 0) (c + sumOf cost xs) := by
  have key : ∀ (suf pre : List α) (c : Int), (pre ++ suf).length = n → 0 ≤ c → c + sumOf cost suf ≤ 4611686018427387904 → Ev (fun k => L k (pre ++ markAll E cost suf c) c (pre.length : Int)) (c + sumOf cost suf) := by
    intro suf
    induction suf with
    | nil =>
      intro pre c hl h0 h1
      refine Ev.up (g := fun k => L k (pre ++ markAll E cost [] c) c (pre.length : Int)) (Ev.const fun k => ?_)
      have e : (pre.length : Int) = (n : Int) := by rw [← hl]; simp
      rw [e, hend k _ c (by simpa [markAll] using hl), sumOf_nil]
      simp
    | cons x suf ih =>
      intro pre c hl h0 h1
      rw [sumOf_cons] at h1 ⊢
      have hc := hcost x
      have hs : 0 ≤ sumOf cost suf := sumOf_nonneg fun y _ => hcost y
      have hi : pre.length < (pre ++ markAll E cost (x :: suf) c).length := by simp [markAll]
      have hx : (pre ++ markAll E cost (x :: suf) c)[pre.length] = E x c := by simp [markAll]
      refine Ev.up (g := fun k => L k (pre ++ markAll E cost (x :: suf) c) c (pre.length : Int)) ?_
      have hln : (pre ++ markAll E cost (x :: suf) c).length = n := by
        rw [← hl]; simp [markAll_len]
      refine Ev.ofEq (hstep _ c pre.length hi x hx hln h0 (by omega)) ?_
      have h' := ih (pre ++ [E x c]) (c + cost x) (by simpa using hl) (by omega) (by omega)
      have e2 : ((pre ++ [E x c]).length : Int) = ((pre.length + 1 : Nat) : Int) := by simp
      rw [← e2]
      have e3 : c + (cost x + sumOf cost suf) = c + cost x + sumOf cost suf := by omega
      rw [e3]
      simpa [markAll] using h'
  intro xs hn c h0 h1
  exact key xs [] c (by simpa using hn) h0 h1
end Go.Proofs.Ytoklpimhcdfbbaa.B

/-! ## PAverages -/
/- Plain laws of mandates by averages: both ways of finding the best party find the same first one; the mandates that are given are stable; a party with more votes gets no fewer. For rows of at most 8 votes, each from 0 to 1000000, at most 60 mandates, a step of 1 or 2 (what the program asks of them). -/
namespace Go.Proofs.Ytoklpimhcdfbbaa.PAverages
open Go.RowKit Go.Proofs.YtoklpimhcdfbbaaW.PrintWords Go.Proofs.Ytoklpimhcdfbbaa.X Go.Proofs.Ytoklpimhcdfbbaa.B

theorem mul_le {a b c : Int} (h : a ≤ b) (hc : 0 ≤ c) : a * c ≤ b * c := Int.mul_le_mul_of_nonneg_right h hc
theorem mul_lt {a b c : Int} (h : a < b) (hc : 0 < c) : a * c < b * c := Int.mul_lt_mul_of_pos_right h hc
theorem le_mul {a b c : Int} (h : a * c ≤ b * c) (hc : 0 < c) : a ≤ b := Int.le_of_mul_le_mul_right h hc
theorem lt_mul {a b c : Int} (h : a * c < b * c) (hc : 0 < c) : a < b := Int.lt_of_mul_lt_mul_right h (by omega)
/-- a/b ≤ c/d, c/d ≤ e/f. -/
theorem frac_le {a b c d e f : Int} (hb : 0 < b) (hd : 0 < d) (hf : 0 < f) (h : a * d ≤ c * b) (h' : c * f ≤ e * d) : a * f ≤ e * b := by
  refine le_mul (c := d) ?_ hd
  have h1 := mul_le h (Int.le_of_lt hf)
  have h2 := mul_le h' (Int.le_of_lt hb)
  have e1 : a * d * f = a * f * d := by rw [Int.mul_right_comm]
  have e2 : c * b * f = c * f * b := by rw [Int.mul_right_comm]
  have e3 : e * d * b = e * b * d := by rw [Int.mul_right_comm]
  omega
theorem frac_lt {a b c d e f : Int} (hb : 0 < b) (hd : 0 < d) (hf : 0 < f) (h : a * d < c * b) (h' : c * f ≤ e * d) : a * f < e * b := by
  refine lt_mul (c := d) ?_ hd
  have h1 := mul_lt h hf
  have h2 := mul_le h' (Int.le_of_lt hb)
  have e1 : a * d * f = a * f * d := by rw [Int.mul_right_comm]
  have e2 : c * b * f = c * f * b := by rw [Int.mul_right_comm]
  have e3 : e * d * b = e * b * d := by rw [Int.mul_right_comm]
  omega
theorem frac_lt' {a b c d e f : Int} (hb : 0 < b) (hd : 0 < d) (hf : 0 < f) (h : a * d ≤ c * b) (h' : c * f < e * d) : a * f < e * b := by
  refine lt_mul (c := d) ?_ hd
  have h1 := mul_le h (Int.le_of_lt hf)
  have h2 := mul_lt h' hb
  have e1 : a * d * f = a * f * d := by rw [Int.mul_right_comm]
  have e2 : c * b * f = c * f * b := by rw [Int.mul_right_comm]
  have e3 : e * d * b = e * b * d := by rw [Int.mul_right_comm]
  omega

/-- The divisor of a party's next mandate. -/
def dv (s : Int) (m : List Int) (i : Nat) : Int := 1 + s * rd m (i : Int)
/-- The first of the parties below n with the greatest average. -/
def IsFirst (s : Int) (xs m : List Int) (n h : Nat) : Prop := h < n ∧ (∀ j, j < n → rd xs (j : Int) * dv s m h ≤ rd xs (h : Int) * dv s m j) ∧ ∀ j, j < h → rd xs (j : Int) * dv s m h < rd xs (h : Int) * dv s m j
theorem IsFirst.uniq {s : Int} {xs m : List Int} {n h h' : Nat} (a : IsFirst s xs m n h) (b : IsFirst s xs m n h') : h = h' := by
  rcases Nat.lt_trichotomy h h' with c | c | c
  · have h1 := b.2.2 h c
    have h2 := a.2.1 h' b.1
    omega
  · exact c
  · have h1 := a.2.2 h' c
    have h2 := b.2.1 h a.1
    omega
/-- Votes and mandates as the program has them. -/
structure Fits (s : Int) (xs m : List Int) : Prop where
  step : 1 ≤ s ∧ s ≤ 2
  some : 1 ≤ xs.length ∧ xs.length ≤ 8
  len : m.length = xs.length
  vote : ∀ i, i < xs.length → 0 ≤ rd xs (i : Int) ∧ rd xs (i : Int) ≤ 1000000
  mand : ∀ i, i < xs.length → 0 ≤ rd m (i : Int) ∧ rd m (i : Int) ≤ 60
theorem Fits.dv {s : Int} {xs m : List Int} (f : Fits s xs m) {i : Nat} (h : i < xs.length) : 0 < dv s m i ∧ PAverages.dv s m i ≤ 121 := by
  have h1 := f.step
  have h2 := f.mand i h
  unfold PAverages.dv
  have e : s = 1 ∨ s = 2 := by omega
  rcases e with rfl | rfl <;> omega
theorem Fits.wrapdv {s : Int} {xs m : List Int} (f : Fits s xs m) {i : Nat} (h : i < xs.length) : wrap64 (1 + wrap64 (s * rd m (i : Int))) = PAverages.dv s m i := by
  have h1 := f.step
  have h2 := f.mand i h
  unfold PAverages.dv
  have e : s = 1 ∨ s = 2 := by omega
  rcases e with rfl | rfl
  · rw [w64 (x := 1 * rd m (i : Int)) (by omega) (by omega), w64 (by omega) (by omega)]
  · rw [w64 (x := 2 * rd m (i : Int)) (by omega) (by omega), w64 (by omega) (by omega)]
theorem Fits.wrapmul {s : Int} {xs m : List Int} (f : Fits s xs m) {i j : Nat} (h : i < xs.length) (h' : j < xs.length) : wrap64 (rd xs (i : Int) * wrap64 (1 + wrap64 (s * rd m (j : Int)))) = rd xs (i : Int) * PAverages.dv s m j := by
  rw [f.wrapdv h']
  obtain ⟨d0, d1⟩ := f.dv h'
  obtain ⟨v0, v1⟩ := f.vote i h
  have a1 : 0 ≤ rd xs (i : Int) * PAverages.dv s m j := Int.mul_nonneg v0 (by omega)
  have a2 : rd xs (i : Int) * PAverages.dv s m j ≤ 1000000 * PAverages.dv s m j := mul_le v1 (by omega)
  exact w64 (by omega) (by omega)

/-! The program's way: the best so far. -/
def bl (s : Int) (xs m : List Int) : Nat → List Int
  | 0 => []
  | i + 1 => if (bl s xs m i).length = 0 then [(i : Int)] else
      if rd xs (i : Int) * (1 + s * rd m (rd (bl s xs m i) 0)) > rd xs (rd (bl s xs m i) 0) * (1 + s * rd m (i : Int)) then [(i : Int)] else
      if rd xs (i : Int) * (1 + s * rd m (rd (bl s xs m i) 0)) = rd xs (rd (bl s xs m i) 0) * (1 + s * rd m (i : Int)) then bl s xs m i ++ [(i : Int)] else bl s xs m i
theorem bl_first {s : Int} {xs m : List Int} (f : Fits s xs m) : ∀ i, i + 1 ≤ xs.length → ∃ (h : Nat) (t : List Int), bl s xs m (i + 1) = (h : Int) :: t ∧ IsFirst s xs m (i + 1) h ∧ t.length ≤ i := by
  intro i
  induction i with
  | zero =>
    intro hl
    refine ⟨0, [], by simp [bl], ⟨by omega, ?_, fun j hj => by omega⟩, by simp⟩
    intro j hj
    have : j = 0 := by omega
    subst this
    exact Int.le_refl _
  | succ i ih =>
    intro hl
    obtain ⟨h, t, e, ⟨f1, f2, f3⟩, ht⟩ := ih (by omega)
    have hd : rd ((h : Int) :: t) 0 = (h : Int) := rfl
    have dh := (f.dv (i := h) (by omega)).1
    have di := (f.dv (i := i + 1) (by omega)).1
    rw [bl, e]
    rw [if_neg (by simp), hd, show 1 + s * rd m (h : Int) = dv s m h from rfl, show 1 + s * rd m ((i + 1 : Nat) : Int) = dv s m (i + 1) from rfl]
    by_cases c : rd xs ((i + 1 : Nat) : Int) * dv s m h > rd xs (h : Int) * dv s m (i + 1)
    · rw [if_pos c]
      refine ⟨i + 1, [], rfl, ⟨by omega, ?_, ?_⟩, by simp⟩
      · intro j hj
        by_cases ej : j = i + 1
        · subst ej; exact Int.le_refl _
        · exact Int.le_of_lt (frac_lt' (f.dv (i := j) (by omega)).1 dh di (f2 j (by omega)) c)
      · intro j hj
        exact frac_lt' (f.dv (i := j) (by omega)).1 dh di (f2 j (by omega)) c
    · rw [if_neg c]
      have hle : IsFirst s xs m (i + 1 + 1) h := by
        refine ⟨by omega, ?_, f3⟩
        intro j hj
        by_cases ej : j = i + 1
        · subst ej; omega
        · exact f2 j (by omega)
      by_cases c' : rd xs ((i + 1 : Nat) : Int) * dv s m h = rd xs (h : Int) * dv s m (i + 1)
      · rw [if_pos c']
        exact ⟨h, t ++ [((i + 1 : Nat) : Int)], by simp, hle, by simp; omega⟩
      · rw [if_neg c']
        exact ⟨h, t, rfl, hle, by omega⟩
theorem implBest_ev {s : Int} {xs m : List Int} (f : Fits s xs m) : Ev (fun k => impl_bestParties.f k xs m s) (bl s xs m xs.length) := by
  have hl := f.some.2
  have h := scanI (fun k i => impl_bestParties.l0 k xs m s (bl s xs m i) (xs.length : Int) (i : Int)) xs.length (fun _ => bl s xs m xs.length) (Ev.up (g := fun k => impl_bestParties.l0 k xs m s (bl s xs m xs.length) (xs.length : Int) (xs.length : Int)) (Ev.const fun k => by
      simp only [impl_bestParties.l0]
      rw [if_neg (by omega)])) (by
    intro i hi ih
    refine Ev.up (g := fun k => impl_bestParties.l0 k xs m s (bl s xs m i) (xs.length : Int) (i : Int)) ?_
    simp only [impl_bestParties.l0, wnext hi (by omega : (xs.length : Int) ≤ _)]
    refine Ev.ifPos (by omega) ?_
    cases i with
    | zero =>
      refine Ev.ifPos (by simp [bl]) ?_
      have e : bl s xs m (0 + 1) = [((0 : Nat) : Int)] := by simp [bl]
      rw [e] at ih
      exact ih
    | succ i =>
      obtain ⟨h, t, e, ⟨f1, f2, f3⟩, ht⟩ := bl_first f i (by omega)
      rw [bl, e] at ih
      rw [e]
      have hd : rd ((h : Int) :: t) 0 = (h : Int) := rfl
      rw [hd] at ih ⊢
      rw [if_neg (by simp), show 1 + s * rd m (h : Int) = dv s m h from rfl, show 1 + s * rd m ((i + 1 : Nat) : Int) = dv s m (i + 1) from rfl] at ih
      have hm := f.len
      rw [f.wrapmul (i := i + 1) (j := h) (by omega) (by omega), f.wrapmul (i := h) (j := i + 1) (by omega) (by omega)]
      refine Ev.ifNeg (by simp only [List.length_cons]; omega) (Ev.ifPos (by simp only [List.length_cons]; omega) (Ev.ifPos (by omega) (Ev.ifPos (by omega) (Ev.ifPos (by omega) (Ev.ifPos (by omega) (Ev.ifPos (by omega) (Ev.ifPos (by omega) ?_)))))))
      refine Ev.ite (fun c => ?_) (fun c => Ev.ite (fun c' => ?_) (fun c' => ?_))
      · rw [if_pos c] at ih; exact ih
      · rw [if_neg c, if_pos c'] at ih
        exact Ev.ifPos (by simp only [List.length_cons]; omega) ih
      · rw [if_neg c, if_neg c'] at ih; exact ih) 0 (by omega)
  exact h

/-! The reference's way: all that no one beats. -/
def bestB (s : Int) (xs m : List Int) (i : Nat) (j : Nat) : Bool := decide (rd xs (i : Int) * dv s m j ≥ rd xs (j : Int) * dv s m i)
def al (s : Int) (xs m : List Int) : Nat → List Int
  | 0 => []
  | i + 1 => if allFrom (bestB s xs m i) 0 xs.length = true then al s xs m i ++ [(i : Int)] else al s xs m i
theorem al_len (s : Int) (xs m : List Int) : ∀ i, (al s xs m i).length ≤ i := by
  intro i
  induction i with
  | zero => simp [al]
  | succ i ih =>
    rw [al]
    split
    · simp; omega
    · omega
theorem al_first {s : Int} {xs m : List Int} {h : Nat} (a : IsFirst s xs m xs.length h) : ∀ i, i ≤ xs.length → (i ≤ h → al s xs m i = []) ∧ (h < i → ∃ t, al s xs m i = (h : Int) :: t) := by
  intro i
  induction i with
  | zero => intro _; exact ⟨fun _ => rfl, fun h => by omega⟩
  | succ i ih =>
    intro hi
    obtain ⟨h1, h2⟩ := ih (by omega)
    rw [al]
    constructor
    · intro hh
      have c : ¬ allFrom (bestB s xs m i) 0 xs.length = true := by
        rw [allFrom_iff]
        intro q
        have q1 := q h (by omega) a.1
        have q2 := a.2.2 i (by omega)
        simp only [bestB, decide_eq_true_eq] at q1
        omega
      rw [if_neg c]
      exact h1 (by omega)
    · intro hh
      by_cases e : i = h
      · subst e
        have c : allFrom (bestB s xs m i) 0 xs.length = true := by
          rw [allFrom_iff]
          intro j _ hj
          have := a.2.1 j hj
          simp only [bestB, decide_eq_true_eq]
          omega
        rw [if_pos c, h1 (by omega)]
        exact ⟨[], rfl⟩
      · obtain ⟨t, ht⟩ := h2 (by omega)
        rw [ht]
        split
        · exact ⟨t ++ [(i : Int)], rfl⟩
        · exact ⟨t, rfl⟩
theorem specNext_ev {s : Int} {xs m : List Int} (f : Fits s xs m) : Ev (fun k => spec_l24Next.f k xs m s) (al s xs m xs.length) := by
  have hl := f.some.2
  have hm := f.len
  have inner : ∀ (i : Nat), i < xs.length → ∀ r, Ev (fun k => spec_l24Next.l0 k xs m s (al s xs m (i + 1)) ((i + 1 : Nat) : Int)) r → Ev (fun k => spec_l24Next.l1 k xs m s (al s xs m i) (i : Int) true 0) r := by
    intro i hi r hr
    have h := scanI (fun k j => spec_l24Next.l1 k xs m s (al s xs m i) (i : Int) (decide (∀ q, q < j → bestB s xs m i q = true)) (j : Int)) xs.length (fun _ => r) (Ev.up (g := fun k => spec_l24Next.l1 k xs m s (al s xs m i) (i : Int) (decide (∀ q, q < xs.length → bestB s xs m i q = true)) (xs.length : Int)) (by
        simp only [spec_l24Next.l1, wnext hi (by omega : (xs.length : Int) ≤ _)]
        rw [al] at hr
        have ef : (decide (∀ q, q < xs.length → bestB s xs m i q = true) = true) ↔ allFrom (bestB s xs m i) 0 xs.length = true := by
          rw [decide_eq_true_iff, allFrom_iff]
          exact ⟨fun h j _ hj => h j hj, fun h j hj => h j (by omega) hj⟩
        refine Ev.ifNeg (by omega) (Ev.ite (fun c => ?_) (fun c => ?_))
        · rw [if_pos (ef.1 c)] at hr
          have := al_len s xs m i
          exact Ev.ifPos (by omega) hr
        · rw [if_neg (fun q => c (ef.2 q))] at hr
          exact hr)) (by
      intro j hj ih
      refine Ev.up (g := fun k => spec_l24Next.l1 k xs m s (al s xs m i) (i : Int) (decide (∀ q, q < j → bestB s xs m i q = true)) (j : Int)) ?_
      simp only [spec_l24Next.l1, wnext hj (by omega : (xs.length : Int) ≤ _), f.wrapmul hi hj, f.wrapmul hj hi]
      refine Ev.ifPos (by omega) (Ev.ite (fun c => Ev.ifPos (by omega) (Ev.ifPos (by omega) (Ev.ifPos (by omega) (Ev.ifPos (by omega) (Ev.ifPos (by omega) ?_))))) (fun c => ?_))
      · have e : decide (∀ q, q < j + 1 → bestB s xs m i q = true) = decide (rd xs (i : Int) * dv s m j ≥ rd xs (j : Int) * dv s m i) := by
          rw [decide_eq_true_iff] at c
          refine decide_eq_decide.2 ⟨fun h => by simpa [bestB] using h j (by omega), fun h q hq => ?_⟩
          by_cases eq : q = j
          · subst eq; simpa [bestB] using h
          · exact c q (by omega)
        rw [e] at ih
        exact ih
      · have e : decide (∀ q, q < j + 1 → bestB s xs m i q = true) = false := by
          refine decide_eq_false fun h => c (decide_eq_true fun q hq => h q (by omega))
        rw [e] at ih
        exact ih) 0 (by omega)
    simpa using h
  have h := scanI (fun k i => spec_l24Next.l0 k xs m s (al s xs m i) (i : Int)) xs.length (fun _ => al s xs m xs.length) (Ev.up (g := fun k => spec_l24Next.l0 k xs m s (al s xs m xs.length) (xs.length : Int)) (Ev.const fun k => by
      simp only [spec_l24Next.l0]
      rw [if_neg (by omega)])) (by
    intro i hi ih
    refine Ev.up (g := fun k => spec_l24Next.l0 k xs m s (al s xs m i) (i : Int)) ?_
    simp only [spec_l24Next.l0]
    exact Ev.ifPos (by omega) (inner i hi _ ih)) 0 (by omega)
  exact h

/-! The rounds. -/
def win (s : Int) (xs m : List Int) : Int := rd (bl s xs m xs.length) 0
def give (s : Int) (xs m : List Int) : List Int := m.set (win s xs m).toNat (rd m (win s xs m) + 1)
def av (s : Int) (xs : List Int) : Nat → List Int
  | 0 => List.replicate xs.length 0
  | t + 1 => give s xs (av s xs t)
theorem win_first {s : Int} {xs m : List Int} (f : Fits s xs m) : ∃ h : Nat, win s xs m = (h : Int) ∧ IsFirst s xs m xs.length h := by
  obtain ⟨n, hn⟩ : ∃ n, xs.length = n + 1 := ⟨xs.length - 1, by have := f.some.1; omega⟩
  obtain ⟨h, t, e, hf, _⟩ := bl_first f n (by omega)
  refine ⟨h, ?_, by rw [hn]; exact hf⟩
  unfold win
  rw [hn, e]
  rfl
/-- (q, j) comes no later than (p, i): its average is greater, or the same and q is no later than p. -/
def Beats (s : Int) (xs : List Int) (q : Nat) (j : Int) (p : Nat) (i : Int) : Prop := rd xs (p : Int) * (1 + s * j) < rd xs (q : Int) * (1 + s * i) ∨ (rd xs (p : Int) * (1 + s * j) = rd xs (q : Int) * (1 + s * i) ∧ q ≤ p)
/-- What the votes have to be. -/
structure GoodV (s : Int) (xs : List Int) : Prop where
  step : 1 ≤ s ∧ s ≤ 2
  some : 1 ≤ xs.length ∧ xs.length ≤ 8
  vote : ∀ i, i < xs.length → 0 ≤ rd xs (i : Int) ∧ rd xs (i : Int) ≤ 1000000
/-- t mandates, none of which another party should have had. -/
structure Stable (s : Int) (xs m : List Int) (t : Nat) : Prop where
  len : m.length = xs.length
  mand : ∀ i, i < xs.length → 0 ≤ rd m (i : Int)
  sum : m.sum = t
  beats : ∀ q p, q < xs.length → p < xs.length → 1 ≤ rd m (q : Int) → Beats s xs q (rd m (q : Int) - 1) p (rd m (p : Int))
theorem le_sum : ∀ (m : List Int), (∀ x ∈ m, 0 ≤ x) → ∀ x ∈ m, x ≤ m.sum := by
  intro m
  induction m with
  | nil => intro _ x hx; cases hx
  | cons y m ih =>
    intro h x hx
    have h0 : 0 ≤ m.sum := by
      clear ih hx
      induction m with
      | nil => simp
      | cons z m ih =>
        have := ih (fun q hq => h q (by rcases List.mem_cons.1 hq with rfl | hq <;> simp [*]))
        have := h z (by simp)
        simp; omega
    have hy := h y (by simp)
    rcases List.mem_cons.1 hx with rfl | hx
    · simp; omega
    · have := ih (fun q hq => h q (by simp [hq])) x hx
      simp; omega
theorem rd_mem {m : List Int} {i : Nat} (h : i < m.length) : rd m (i : Int) ∈ m := by rw [rd_at h]; exact List.getElem_mem h
theorem mem_rd {m : List Int} {x : Int} (h : x ∈ m) : ∃ i, i < m.length ∧ rd m (i : Int) = x := by
  obtain ⟨i, hi, e⟩ := List.getElem_of_mem h
  exact ⟨i, hi, by rw [rd_at hi, e]⟩
theorem Stable.fits {s : Int} {xs m : List Int} {t : Nat} (g : GoodV s xs) (h : Stable s xs m t) (ht : t ≤ 60) : Fits s xs m :=
  ⟨g.step, g.some, h.len, g.vote, fun i hi => ⟨h.mand i hi, by
    have hm := h.len
    have := le_sum m (fun x hx => by obtain ⟨j, hj, rfl⟩ := mem_rd hx; exact h.mand j (by omega)) _ (rd_mem (m := m) (i := i) (by omega))
    rw [h.sum] at this
    omega⟩⟩
theorem sum_set : ∀ (m : List Int) (i : Nat) (v : Int), i < m.length → (m.set i v).sum = m.sum - rd m (i : Int) + v := by
  intro m
  induction m with
  | nil => intro i v h; simp at h
  | cons x m ih =>
    intro i v h
    cases i with
    | zero => simp [rd]; omega
    | succ i =>
      have h' := ih i v (by simpa using h)
      have e : rd (x :: m) ((i + 1 : Nat) : Int) = rd m (i : Int) := by unfold rd; simp
      rw [e]
      simp only [List.set_cons_succ, List.sum_cons, h']
      omega
theorem rd_set {m : List Int} {i j : Nat} {v : Int} (h : i < m.length) : rd (m.set i v) (j : Int) = if i = j then v else rd m (j : Int) := by
  unfold rd
  simp only [Int.toNat_natCast, List.getD_eq_getElem?_getD, List.getElem?_set]
  by_cases e : i = j
  · subst e; simp [h]
  · simp [e]
theorem stable_zero {s : Int} {xs : List Int} : Stable s xs (List.replicate xs.length 0) 0 := by
  have e : ∀ i, i < xs.length → rd (List.replicate xs.length (0 : Int)) (i : Int) = 0 := by
    intro i hi
    rw [rd_at (by simpa using hi)]; simp
  refine ⟨by simp, fun i hi => by rw [e i hi]; omega, by simp, fun q p hq hp h => by rw [e q hq] at h; omega⟩
theorem stable_give {s : Int} {xs m : List Int} {t : Nat} (g : GoodV s xs) (h : Stable s xs m t) (ht : t + 1 ≤ 60) : Stable s xs (give s xs m) (t + 1) := by
  have f := h.fits g (by omega)
  obtain ⟨w, ew, hw⟩ := win_first f
  have hl := h.len
  have hwl : w < m.length := by have := hw.1; omega
  unfold give
  rw [ew, Int.toNat_natCast]
  refine ⟨by simp [hl], ?_, by rw [sum_set m w _ hwl, h.sum]; push_cast; omega, ?_⟩
  · intro i hi
    rw [rd_set hwl]
    have := h.mand i hi
    have := h.mand w (by omega)
    split <;> omega
  · intro q p hq hp hge
    have dw := (f.dv (i := w) hw.1).1
    have dp := (f.dv (i := p) hp).1
    have vw := f.vote w hw.1
    have vq := f.vote q hq
    have vp := f.vote p hp
    have hs := f.step
    have mw := f.mand w hw.1
    rw [rd_set hwl] at hge
    rw [rd_set hwl, rd_set hwl]
    -- w's own next average is no greater
    have more : rd xs (w : Int) * (1 + s * rd m (w : Int)) ≤ rd xs (w : Int) * (1 + s * (rd m (w : Int) + 1)) := by
      rw [Int.mul_comm (rd xs (w : Int)), Int.mul_comm (rd xs (w : Int))]
      refine mul_le ?_ vw.1
      rw [Int.mul_add]
      omega
    by_cases e1 : w = q
    · subst e1
      rw [if_pos rfl]
      have e3 : rd m (w : Int) + 1 - 1 = rd m (w : Int) := by omega
      rw [e3]
      by_cases e2 : w = p
      · subst e2
        rw [if_pos rfl]
        unfold Beats
        by_cases c : rd xs (w : Int) * (1 + s * rd m (w : Int)) < rd xs (w : Int) * (1 + s * (rd m (w : Int) + 1))
        · exact Or.inl c
        · exact Or.inr ⟨by omega, Nat.le_refl _⟩
      · rw [if_neg e2]
        have a1 := hw.2.1 p hp
        unfold dv at a1
        unfold Beats
        by_cases c : rd xs (p : Int) * (1 + s * rd m (w : Int)) < rd xs (w : Int) * (1 + s * rd m (p : Int))
        · exact Or.inl c
        · refine Or.inr ⟨by omega, ?_⟩
          by_cases d : w ≤ p
          · exact d
          · have a2 := hw.2.2 p (by omega)
            unfold dv at a2
            omega
    · rw [if_neg e1] at hge ⊢
      by_cases e2 : w = p
      · subst e2
        rw [if_pos rfl]
        have b := h.beats q w hq hw.1 hge
        unfold Beats at b ⊢
        have vmore : rd xs (q : Int) * (1 + s * rd m (w : Int)) ≤ rd xs (q : Int) * (1 + s * (rd m (w : Int) + 1)) := by
          rw [Int.mul_comm (rd xs (q : Int)), Int.mul_comm (rd xs (q : Int))]
          refine mul_le ?_ vq.1
          rw [Int.mul_add]
          omega
        rcases b with b | ⟨b, b'⟩
        · exact Or.inl (by omega)
        · by_cases c : rd xs (w : Int) * (1 + s * (rd m (q : Int) - 1)) < rd xs (q : Int) * (1 + s * (rd m (w : Int) + 1))
          · exact Or.inl c
          · exact Or.inr ⟨by omega, b'⟩
      · rw [if_neg e2]
        exact h.beats q p hq hp hge
theorem stable_av {s : Int} {xs : List Int} (g : GoodV s xs) : ∀ t, t ≤ 60 → Stable s xs (av s xs t) t := by
  intro t
  induction t with
  | zero => intro _; exact stable_zero
  | succ t ih => intro ht; exact stable_give g (ih (by omega)) ht

/-- With the same sum, where one has less another has more. -/
theorem more_of_less : ∀ (a b : List Int), a.length = b.length → a.sum = b.sum → ∀ p, p < a.length → rd b (p : Int) < rd a (p : Int) → ∃ q, q < a.length ∧ rd a (q : Int) < rd b (q : Int) := by
  have key : ∀ (a b : List Int), a.length = b.length → (∀ q, q < a.length → rd b (q : Int) ≤ rd a (q : Int)) → b.sum ≤ a.sum ∧ ∀ p, p < a.length → rd b (p : Int) < rd a (p : Int) → b.sum < a.sum := by
    intro a
    induction a with
    | nil =>
      intro b hl _
      have : b = [] := List.length_eq_zero_iff.1 hl.symm
      subst this
      exact ⟨Int.le_refl _, fun p hp => by simp at hp⟩
    | cons x a ih =>
      intro b hl h
      cases b with
      | nil => simp at hl
      | cons y b =>
        have e : ∀ (z : Int) (l : List Int) (i : Nat), rd (z :: l) ((i + 1 : Nat) : Int) = rd l (i : Int) := by intro z l i; unfold rd; simp
        have e0 : ∀ (z : Int) (l : List Int), rd (z :: l) ((0 : Nat) : Int) = z := fun _ _ => rfl
        obtain ⟨h1, h2⟩ := ih b (by simpa using hl) (fun q hq => by have := h (q + 1) (by simpa using hq); rwa [e, e] at this)
        have h0 := h 0 (by simp)
        rw [e0, e0] at h0
        simp only [List.sum_cons]
        refine ⟨by omega, fun p hp hlt => ?_⟩
        cases p with
        | zero => rw [e0, e0] at hlt; omega
        | succ p =>
          rw [e, e] at hlt
          have := h2 p (by simpa using hp) hlt
          omega
  intro a b hl hs p hp hlt
  by_cases h : ∃ q, q < a.length ∧ rd a (q : Int) < rd b (q : Int)
  · exact h
  · have := (key a b hl (fun q hq => by
      by_cases c : rd b (q : Int) ≤ rd a (q : Int)
      · exact c
      · exact absurd ⟨q, hq, by omega⟩ h)).2 p hp hlt
    omega
/-- A party with more votes, the others' being the same, gets no fewer mandates. -/
theorem mono {s : Int} {xs ys : List Int} (gx : GoodV s xs) (gy : GoodV s ys) (hl : xs.length = ys.length) {p : Nat} (hp : p < xs.length) (hv : rd xs (p : Int) ≤ rd ys (p : Int)) (hq : ∀ q, q ≠ p → rd xs (q : Int) = rd ys (q : Int)) {t : Nat} (ht : t ≤ 60) :
    rd (av s xs t) (p : Int) ≤ rd (av s ys t) (p : Int) := by
  have sx := stable_av gx t ht
  have sy := stable_av gy t ht
  by_cases c : rd (av s xs t) (p : Int) ≤ rd (av s ys t) (p : Int)
  · exact c
  · exfalso
    have hlx := sx.len
    have hly := sy.len
    obtain ⟨q, hql, hqm⟩ := more_of_less (av s xs t) (av s ys t) (by omega) (by rw [sx.sum, sy.sum]) p (by omega) (by omega)
    have hqp : q ≠ p := by rintro rfl; omega
    have mp := sy.mand p (by omega)
    have mq := sx.mand q (by omega)
    have A := sx.beats p q hp (by omega) (by omega)
    have B := sy.beats q p (by omega) (by omega) (by omega)
    have fx := sx.fits gx ht
    have fy := sy.fits gy ht
    have hs := gx.step
    have vq := gx.vote q (by omega)
    have vp := gx.vote p hp
    have evq := hq q hqp
    unfold Beats at A B
    rw [← evq] at B
    generalize ea : rd (av s xs t) (p : Int) = pa at *
    generalize eb : rd (av s ys t) (p : Int) = pb at *
    generalize ec : rd (av s xs t) (q : Int) = qa at *
    generalize ed : rd (av s ys t) (q : Int) = qb at *
    generalize ee : rd xs (p : Int) = va at *
    generalize ef : rd ys (p : Int) = vb at *
    generalize eg : rd xs (q : Int) = v at *
    -- va (1 + s qa) ≥ v (1 + s (pa - 1)) ≥ v (1 + s pb) ≥ vb (1 + s (qb - 1)) ≥ va (1 + s qa)
    have m1 : v * (1 + s * pb) ≤ v * (1 + s * (pa - 1)) := by
      rw [Int.mul_comm v, Int.mul_comm v]
      refine mul_le ?_ vq.1
      have : s * pb ≤ s * (pa - 1) := by rw [Int.mul_comm s, Int.mul_comm s]; exact mul_le (by omega) (by omega)
      omega
    have m2 : vb * (1 + s * qa) ≤ vb * (1 + s * (qb - 1)) := by
      rw [Int.mul_comm vb, Int.mul_comm vb]
      refine mul_le ?_ (by omega)
      have : s * qa ≤ s * (qb - 1) := by rw [Int.mul_comm s, Int.mul_comm s]; exact mul_le (by omega) (by omega)
      omega
    have m3 : va * (1 + s * qa) ≤ vb * (1 + s * qa) := by
      refine mul_le hv ?_
      have : 0 ≤ s * qa := Int.mul_nonneg (by omega) mq
      omega
    rcases A with A | ⟨A, A'⟩
    · rcases B with B | ⟨B, B'⟩ <;> omega
    · rcases B with B | ⟨B, B'⟩
      · omega
      · omega

theorem specAverages_ev {s : Int} {xs : List Int} (g : GoodV s xs) {t : Nat} (ht : t ≤ 60) : ∃ b, Ev (fun k => spec_l24Averages.f k xs (t : Int) s) (av s xs t, b) := by
  have hl := g.some
  have step : ∀ d i (b : List Int), i + d = t → ∃ b', Ev (fun k => spec_l24Averages.l0 k xs (t : Int) s (av s xs i) b (i : Int)) (av s xs t, b') := by
    intro d
    induction d with
    | zero =>
      intro i b hi
      have e : i = t := by omega
      subst e
      refine ⟨b, Ev.up (g := fun k => spec_l24Averages.l0 k xs (i : Int) s (av s xs i) b (i : Int)) (Ev.const fun k => ?_)⟩
      simp only [spec_l24Averages.l0]
      rw [if_neg (by omega)]
    | succ d ih =>
      intro i b hi
      have st := stable_av g i (by omega)
      have f := st.fits g (by omega)
      obtain ⟨w, ew, hw⟩ := win_first f
      obtain ⟨tl, htl⟩ := (al_first hw xs.length (Nat.le_refl _)).2 hw.1
      obtain ⟨b', hb'⟩ := ih (i + 1) (al s xs (av s xs i) xs.length) (by omega)
      refine ⟨b', Ev.up (g := fun k => spec_l24Averages.l0 k xs (t : Int) s (av s xs i) b (i : Int)) ?_⟩
      have e0 : rd (al s xs (av s xs i) xs.length) 0 = (w : Int) := by rw [htl]; rfl
      have hm := st.len
      have mw := f.mand w hw.1
      simp only [spec_l24Averages.l0]
      refine Ev.ifPos (by omega) (Ev.bindE (specNext_ev f) ?_)
      rw [e0, w64 (x := rd (av s xs i) (w : Int) + 1) (by omega) (by omega), wnext (i := i) (n := t) (by omega) (by omega)]
      refine Ev.ifPos (by rw [htl]; simp only [List.length_cons]; omega) (Ev.ifPos (by omega) (Ev.ifPos (by have := hw.1; omega) ?_))
      have e1 : (av s xs i).set (w : Int).toNat (rd (av s xs i) (w : Int) + 1) = av s xs (i + 1) := by
        rw [av, give, ew]
      rw [e1]
      exact hb'
  obtain ⟨b, hb⟩ := step t 0 [] (by omega)
  refine ⟨b, ?_⟩
  unfold spec_l24Averages.f
  refine Ev.ifPos (by omega) (Ev.ifPos (by omega) ?_)
  exact hb
theorem implAverages_ev {s : Int} {xs : List Int} (g : GoodV s xs) {t : Nat} (ht : t ≤ 60) : ∃ b, Ev (fun k => impl_byAverages.f k xs (t : Int) s) (av s xs t, b) := by
  have hl := g.some
  have step : ∀ d i (b : List Int), i + d = t → ∃ b', Ev (fun k => impl_byAverages.l0 k xs (d : Int) s (av s xs i) b) (av s xs t, b') := by
    intro d
    induction d with
    | zero =>
      intro i b hi
      have e : i = t := by omega
      subst e
      refine ⟨b, Ev.up (g := fun k => impl_byAverages.l0 k xs ((0 : Nat) : Int) s (av s xs i) b) (Ev.const fun k => ?_)⟩
      simp only [impl_byAverages.l0]
      rw [if_neg (by omega)]
    | succ d ih =>
      intro i b hi
      have st := stable_av g i (by omega)
      have f := st.fits g (by omega)
      obtain ⟨w, ew, hw⟩ := win_first f
      obtain ⟨b', hb'⟩ := ih (i + 1) (bl s xs (av s xs i) xs.length) (by omega)
      refine ⟨b', Ev.up (g := fun k => impl_byAverages.l0 k xs ((d + 1 : Nat) : Int) s (av s xs i) b) ?_⟩
      have e0 : rd (bl s xs (av s xs i) xs.length) 0 = (w : Int) := ew
      have hm := st.len
      have mw := f.mand w hw.1
      obtain ⟨n, hn⟩ : ∃ n, xs.length = n + 1 := ⟨xs.length - 1, by omega⟩
      obtain ⟨h, tl, e, _, _⟩ := bl_first f n (by omega)
      rw [← hn] at e
      simp only [impl_byAverages.l0]
      refine Ev.ifPos (by omega) (Ev.bindE (implBest_ev f) ?_)
      rw [e0, w64 (x := rd (av s xs i) (w : Int) + 1) (by omega) (by omega), w64 (x := ((d + 1 : Nat) : Int) - 1) (by omega) (by omega)]
      refine Ev.ifPos (by rw [e]; simp only [List.length_cons]; omega) (Ev.ifPos (by omega) (Ev.ifPos (by have := hw.1; omega) ?_))
      have e1 : (av s xs i).set (w : Int).toNat (rd (av s xs i) (w : Int) + 1) = av s xs (i + 1) := by
        rw [av, give, ew]
      have e2 : ((d + 1 : Nat) : Int) - 1 = (d : Int) := by omega
      rw [e1, e2]
      exact hb'
  obtain ⟨b, hb⟩ := step t 0 [] (by omega)
  refine ⟨b, ?_⟩
  unfold impl_byAverages.f
  refine Ev.ifPos (by omega) (Ev.ifPos (by omega) ?_)
  exact hb
end Go.Proofs.Ytoklpimhcdfbbaa.PAverages

/-! ## PGainI -/
/- Plain laws of the votes that a party lacks: the program finds the least number with which it gains a mandate. For votes, mandates and a step that the program takes. -/
namespace Go.Proofs.Ytoklpimhcdfbbaa.PGain
open Go.RowKit Go.Proofs.YtoklpimhcdfbbaaW.PrintWords Go.Proofs.Ytoklpimhcdfbbaa.X Go.Proofs.Ytoklpimhcdfbbaa.B Go.Proofs.Ytoklpimhcdfbbaa.PVotes Go.Proofs.Ytoklpimhcdfbbaa.PAverages
/-- A party's mandates with v votes. -/
def W (s : Int) (xs : List Int) (t p : Nat) (v : Int) : Int := rd (av s (xs.set p v) t) (p : Int)
theorem good_set {s : Int} {xs : List Int} (g : GoodV s xs) {p : Nat} (hp : p < xs.length) {v : Int} (h : 0 ≤ v ∧ v ≤ 1000000) : GoodV s (xs.set p v) := by
  refine ⟨g.step, by simpa using g.some, fun i hi => ?_⟩
  rw [rd_set hp]
  have := g.vote i (by simpa using hi)
  split <;> omega
theorem W_mono {s : Int} {xs : List Int} (g : GoodV s xs) {t p : Nat} (hp : p < xs.length) (ht : t ≤ 60) {v w : Int} (h0 : 0 ≤ v) (h1 : v ≤ w) (h2 : w ≤ 1000000) : W s xs t p v ≤ W s xs t p w := by
  unfold W
  refine mono (good_set g hp (by omega)) (good_set g hp (by omega)) (by simp) (by simpa using hp) ?_ ?_ ht
  · rw [rd_set hp, rd_set hp, if_pos rfl, if_pos rfl]; exact h1
  · intro q hq
    rw [rd_set hp, rd_set hp, if_neg (fun e => hq e.symm), if_neg (fun e => hq e.symm)]
theorem set_own {xs : List Int} {p : Nat} (hp : p < xs.length) : xs.set p (rd xs (p : Int)) = xs := by
  rw [rd_at hp]; simp
theorem W_own {s : Int} {xs : List Int} {t p : Nat} (hp : p < xs.length) : W s xs t p (rd xs (p : Int)) = rd (av s xs t) (p : Int) := by
  unfold W; rw [set_own hp]
theorem av_len {s : Int} {xs : List Int} (g : GoodV s xs) {t : Nat} (ht : t ≤ 60) : (av s xs t).length = xs.length := (stable_av g t ht).len
theorem implGains_ev {s : Int} {xs : List Int} (g : GoodV s xs) {t p : Nat} (hp : p < xs.length) (ht : t ≤ 60) {x : Int} (h0 : 0 ≤ x) (h1 : rd xs (p : Int) + x ≤ 1000000) {bf : List Int} (hb : bf.length = xs.length) :
    Ev (fun k => impl_VotesToGain_1.f k x xs (p : Int) (t : Int) s bf) (decide (W s xs t p (rd xs (p : Int) + x) > rd bf (p : Int))) := by
  have hv := g.vote p hp
  obtain ⟨b, hbv⟩ := implAverages_ev (good_set g hp (v := rd xs (p : Int) + x) (by omega)) ht
  have hl := g.some
  have ha := av_len (good_set g hp (v := rd xs (p : Int) + x) (by omega)) ht
  rw [List.length_set] at ha
  unfold impl_VotesToGain_1.f impl_clone_int64.f
  simp only [Option.bind_some, List.nil_append, List.length_nil]
  rw [if_pos (by omega)]
  simp only [Option.bind_some, Int.toNat_natCast, w64 (x := rd xs (p : Int) + x) (by omega) (by omega)]
  exact Ev.ifPos (by omega) (Ev.ifPos (by omega) (Ev.bindE hbv (Ev.ifPos (by dsimp only; omega) (Ev.ifPos (by omega) (Ev.const fun _ => rfl)))))
/-- So many votes more gain a mandate, and no fewer do. -/
def Least (s : Int) (xs : List Int) (t p : Nat) (r : Int) : Prop := 1 ≤ r ∧ W s xs t p (rd xs (p : Int) + r) > rd (av s xs t) (p : Int) ∧ ∀ x, 0 ≤ x → x < r → ¬ W s xs t p (rd xs (p : Int) + x) > rd (av s xs t) (p : Int)
theorem Least.uniq {s : Int} {xs : List Int} {t p : Nat} {r r' : Int} (a : Least s xs t p r) (b : Least s xs t p r') : r = r' := by
  rcases Int.lt_trichotomy r r' with c | c | c
  · exact absurd a.2.1 (b.2.2 r (by have := a.1; omega) c)
  · exact c
  · exact absurd b.2.1 (a.2.2 r' (by have := b.1; omega) c)
theorem implLoop_ev {s : Int} {xs : List Int} (g : GoodV s xs) {t p : Nat} (hp : p < xs.length) (ht : t ≤ 60) : ∀ (d : Nat) (lo hi : Int), hi - lo ≤ d → 1 ≤ lo → lo ≤ hi → rd xs (p : Int) + hi ≤ 1000000 →
    W s xs t p (rd xs (p : Int) + hi) > rd (av s xs t) (p : Int) → (∀ x, 0 ≤ x → x < lo → ¬ W s xs t p (rd xs (p : Int) + x) > rd (av s xs t) (p : Int)) →
    ∃ r, Ev (fun k => impl_VotesToGain.l0 k lo hi xs (t : Int) s (p : Int) (av s xs t)) (r, 0) ∧ Least s xs t p r := by
  have hv := g.vote p hp
  have fin : ∀ (lo hi : Int), ¬ lo < hi → 1 ≤ lo → lo ≤ hi → W s xs t p (rd xs (p : Int) + hi) > rd (av s xs t) (p : Int) → (∀ x, 0 ≤ x → x < lo → ¬ W s xs t p (rd xs (p : Int) + x) > rd (av s xs t) (p : Int)) →
      ∃ r, Ev (fun k => impl_VotesToGain.l0 k lo hi xs (t : Int) s (p : Int) (av s xs t)) (r, 0) ∧ Least s xs t p r := by
    intro lo hi h h1 h2 hh hl
    have e : lo = hi := by omega
    subst e
    refine ⟨lo, Ev.up (g := fun k => impl_VotesToGain.l0 k lo lo xs (t : Int) s (p : Int) (av s xs t)) ?_, h1, hh, hl⟩
    simp only [impl_VotesToGain.l0]
    exact Ev.ifNeg (by omega) (Ev.const fun _ => rfl)
  intro d
  induction d with
  | zero =>
    intro lo hi hd h1 h2 h3 hh hl
    exact fin lo hi (by omega) h1 h2 hh hl
  | succ d ih =>
    intro lo hi hd h1 h2 h3 hh hl
    by_cases h : lo < hi
    · have em : wrap64 (Int.tdiv (wrap64 (lo + hi)) 2) = (lo + hi) / 2 := by
        rw [w64 (x := lo + hi) (by omega) (by omega), Int.tdiv_eq_ediv_of_nonneg (by omega), w64 (by omega) (by omega)]
      have hgn := implGains_ev g hp ht (x := (lo + hi) / 2) (by omega) (by omega) (bf := av s xs t) (av_len g ht)
      by_cases c : W s xs t p (rd xs (p : Int) + (lo + hi) / 2) > rd (av s xs t) (p : Int)
      · obtain ⟨r, hr, hr'⟩ := ih lo ((lo + hi) / 2) (by omega) h1 (by omega) (by omega) c hl
        refine ⟨r, Ev.up (g := fun k => impl_VotesToGain.l0 k lo hi xs (t : Int) s (p : Int) (av s xs t)) ?_, hr'⟩
        simp only [impl_VotesToGain.l0, em]
        exact Ev.ifPos h (Ev.bindE hgn (Ev.ifPos (decide_eq_true c) hr))
      · have hw : wrap64 ((lo + hi) / 2 + 1) = (lo + hi) / 2 + 1 := w64 (by omega) (by omega)
        obtain ⟨r, hr, hr'⟩ := ih ((lo + hi) / 2 + 1) hi (by omega) (by omega) (by omega) h3 hh (by
          intro x h0 hx q
          have := W_mono g hp ht (v := rd xs (p : Int) + x) (w := rd xs (p : Int) + (lo + hi) / 2) (by omega) (by omega) (by omega)
          omega)
        refine ⟨r, Ev.up (g := fun k => impl_VotesToGain.l0 k lo hi xs (t : Int) s (p : Int) (av s xs t)) ?_, hr'⟩
        simp only [impl_VotesToGain.l0, em, hw]
        exact Ev.ifPos h (Ev.bindE hgn (Ev.ifNeg (by simpa using c) hr))
    · exact fin lo hi h h1 h2 hh hl
end Go.Proofs.Ytoklpimhcdfbbaa.PGain

/-! ## PSource -/
/- Plain laws of the source of draws: each pick is a number below its bound, whatever the bytes are. For sources that have been asked fewer than a million times. -/
namespace Go.Proofs.Ytoklpimhcdfbbaa.PSource
open Go.RowKit Go.Proofs.YtoklpimhcdfbbaaW.PrintWords Go.Proofs.Ytoklpimhcdfbbaa.X Go.Proofs.Ytoklpimhcdfbbaa.B

theorem u64_range (n : Int) : 0 ≤ IntKind.u64.wrap n ∧ IntKind.u64.wrap n < 18446744073709551616 := by
  simp [IntKind.wrap, IntKind.bits, IntKind.signed]
  omega
theorem byte_of (n : Int) : 0 ≤ wrap64 (Go.bits .and .u64 (IntKind.u64.wrap n / 1099511627776) 255) ∧ wrap64 (Go.bits .and .u64 (IntKind.u64.wrap n / 1099511627776) 255) ≤ 255 := by
  have hr := u64_range n
  have h := Go.bits_mask .u64 24 (by decide) (fun n h h' => by simp [IntKind.wrap, IntKind.bits, IntKind.signed] at h' ⊢; omega) 8 (by decide) (IntKind.u64.wrap n / 1099511627776) (by omega) (by simp; omega)
  have e : Go.bits .and .u64 (IntKind.u64.wrap n / 1099511627776) 255 = (IntKind.u64.wrap n / 1099511627776) % 256 := by simpa using h
  rw [e, w64 (by omega) (by omega)]
  omega
/-- A source that gives bytes, and has not been asked too often. -/
def Src (code : List Int) (at_ : Int) : Prop := (∀ x ∈ code, 0 ≤ x ∧ x ≤ 255) ∧ 0 ≤ at_
theorem next_eq {code : List Int} {at_ seed : Int} (h : Src code at_) (hb : at_ ≤ 1000000000) : ∃ b s', spec_l00Src_next.f code at_ seed = some (b, at_ + 1, s') ∧ 0 ≤ b ∧ b ≤ 255 := by
  obtain ⟨hc, h0⟩ := h
  unfold spec_l00Src_next.f
  rw [w64 (x := at_ + 1) (by omega) (by omega)]
  by_cases h1 : at_ < (code.length : Int)
  · have hx : 0 ≤ rd code at_ ∧ rd code at_ ≤ 255 := by
      obtain ⟨i, rfl⟩ : ∃ i : Nat, at_ = (i : Int) := ⟨at_.toNat, by omega⟩
      rw [rd_at (by omega)]
      exact hc _ (List.getElem_mem _)
    rw [if_pos h1, if_pos h0, if_pos (by omega)]
    refine ⟨_, _, rfl, ?_⟩
    rw [w64 (by omega) (by omega)]
    exact hx
  · rw [if_neg h1]
    by_cases h2 : at_ + 1 ≤ (code.length : Int)
    · omega
    · rw [if_neg h2]
      exact ⟨_, _, rfl, byte_of _⟩
theorem pick_eq {code : List Int} {at_ seed n : Int} (h : Src code at_) (hb : at_ ≤ 999999998) (hn : n ≤ 65536) : ∃ x at' s', spec_l00Src_pick.f code at_ seed n = some (x, at', s') ∧ 0 ≤ x ∧ (1 ≤ n → x < n) ∧ (n ≤ 1 → x = 0) ∧ at_ ≤ at' ∧ at' ≤ at_ + 2 := by
  unfold spec_l00Src_pick.f
  by_cases h1 : n ≤ 1
  · rw [if_pos h1]
    exact ⟨_, _, _, rfl, by omega, fun _ => by omega, fun _ => rfl, by omega, by omega⟩
  · rw [if_neg h1]
    obtain ⟨b, s', e, b0, b1⟩ := next_eq (seed := seed) h (by omega)
    rw [e, Option.bind_some]
    by_cases h2 : n > 200
    · rw [if_pos h2]
      obtain ⟨b', s'', e', b0', b1'⟩ := next_eq (seed := s') (code := code) (at_ := at_ + 1) ⟨h.1, by have := h.2; omega⟩ (by omega)
      simp only [e', Option.bind_some]
      rw [if_neg (by omega)]
      refine ⟨_, _, _, rfl, ?_, fun _ => ?_, fun h => by omega, by omega, by omega⟩
      · rw [w64 (x := b * 256) (by omega) (by omega), w64 (by omega) (by omega)]
        exact Int.tmod_nonneg _ (by omega)
      · exact Int.tmod_lt_of_pos _ (by omega)
    · rw [if_neg h2, if_neg (by omega)]
      exact ⟨_, _, _, rfl, Int.tmod_nonneg _ b0, fun _ => Int.tmod_lt_of_pos _ (by omega), fun h => by omega, by dsimp only; omega, by dsimp only; omega⟩
end Go.Proofs.Ytoklpimhcdfbbaa.PSource

/-! ## PureFnGains -/
/- The plain law of FnGains: with the told votes a party gains a mandate, with one vote less it does not; what is below a threshold is cleared, all else is kept. For any bytes (the law says nothing of more than 3000). -/
namespace Go.Proofs.Ytoklpimhcdfbbaa.Pure
open Go.RowKit Go.Proofs.YtoklpimhcdfbbaaW.PrintWords Go.Proofs.Ytoklpimhcdfbbaa.X Go.Proofs.Ytoklpimhcdfbbaa.B Go.Proofs.Ytoklpimhcdfbbaa.PSum Go.Proofs.Ytoklpimhcdfbbaa.PVotes Go.Proofs.Ytoklpimhcdfbbaa.PAverages Go.Proofs.Ytoklpimhcdfbbaa.PGain Go.Proofs.Ytoklpimhcdfbbaa.PSource

theorem draw_ev {code : List Int} {at_ seed : Int} (h : Src code at_) (hb : at_ ≤ 900000000) : ∃ vs at' s', Ev (fun k => spec_l24Draw.f k code at_ seed) (vs, at', s') ∧ 1 ≤ vs.length ∧ vs.length ≤ 6 ∧ (∀ v ∈ vs, 0 ≤ v ∧ v ≤ 1000) ∧ at_ ≤ at' ∧ at' ≤ at_ + 100 := by
  have loop : ∀ (d : Nat) (acc : List Int) (a s : Int), Src code a → a ≤ 900000100 - 6 * d → acc.length + d ≤ 6 → (∀ v ∈ acc, 0 ≤ v ∧ v ≤ 1000) → ∃ vs at' s', Ev (fun k => spec_l24Draw.l0 k acc (d : Int) code a s) (vs, at', s') ∧ vs.length = acc.length + d ∧ (∀ v ∈ vs, 0 ≤ v ∧ v ≤ 1000) ∧ a ≤ at' ∧ at' ≤ a + 6 * d := by
    intro d
    induction d with
    | zero =>
      intro acc a s hs ha hl hv
      refine ⟨acc, a, s, Ev.up (g := fun k => spec_l24Draw.l0 k acc ((0 : Nat) : Int) code a s) (Ev.const fun k => ?_), by omega, hv, by omega, by omega⟩
      simp only [spec_l24Draw.l0]
      rw [if_neg (by omega)]
    | succ d ih =>
      intro acc a s hs ha hl hv
      obtain ⟨x, a1, s1, e1, x0, x1, _, b0, b1⟩ := pick_eq (seed := s) (n := 3) hs (by omega) (by omega)
      have hs1 : Src code a1 := ⟨hs.1, by have := hs.2; omega⟩
      have e4 : wrap64 (((d + 1 : Nat) : Int) - 1) = (d : Int) := by rw [w64 (by omega) (by omega)]; omega
      by_cases c : x = 0
      · obtain ⟨y, a2, s2, e2, y0, y1, _, c0, c1⟩ := pick_eq (seed := s1) (n := 20) hs1 (by omega) (by omega)
        obtain ⟨vs, at', s', hE, hl', hv', g0, g1⟩ := ih (acc ++ [wrap64 (10 * y)]) a2 s2 ⟨hs.1, by have := hs1.2; omega⟩ (by omega) (by simp; omega) (by
          intro v hv'
          rcases List.mem_append.1 hv' with q | q
          · exact hv v q
          · have := y1 (by omega)
            rw [List.mem_singleton.1 q, w64 (by omega) (by omega)]; omega)
        refine ⟨vs, at', s', Ev.up (g := fun k => spec_l24Draw.l0 k acc ((d + 1 : Nat) : Int) code a s) ?_, by rw [hl']; simp; omega, hv', by omega, by omega⟩
        simp only [spec_l24Draw.l0, spec_l00Src_one.f, e1, Option.bind_some, e4, c]
        refine Ev.ifPos (by omega) (Ev.ifPos rfl ?_)
        simp only [e2, Option.bind_some]
        exact Ev.ifPos (by omega) hE
      · obtain ⟨y, a2, s2, e2, y0, y1, _, c0, c1⟩ := pick_eq (seed := s1) (n := 1000) hs1 (by omega) (by omega)
        obtain ⟨vs, at', s', hE, hl', hv', g0, g1⟩ := ih (acc ++ [y]) a2 s2 ⟨hs.1, by have := hs1.2; omega⟩ (by omega) (by simp; omega) (by
          intro v hv'
          rcases List.mem_append.1 hv' with q | q
          · exact hv v q
          · have := y1 (by omega)
            rw [List.mem_singleton.1 q]; omega)
        refine ⟨vs, at', s', Ev.up (g := fun k => spec_l24Draw.l0 k acc ((d + 1 : Nat) : Int) code a s) ?_, by rw [hl']; simp; omega, hv', by omega, by omega⟩
        simp only [spec_l24Draw.l0, spec_l00Src_one.f, e1, Option.bind_some, e4]
        refine Ev.ifPos (by omega) (Ev.ifNeg (by simpa using c) ?_)
        simp only [e2, Option.bind_some]
        exact Ev.ifPos (by omega) hE
  obtain ⟨x, a1, s1, e1, x0, x1, _, b0, b1⟩ := pick_eq (seed := seed) (n := 6) h (by omega) (by omega)
  have hx := x1 (by omega)
  obtain ⟨vs, at', s', hE, hl', hv', g0, g1⟩ := loop (x + 1).toNat [] a1 s1 ⟨h.1, by have := h.2; omega⟩ (by omega) (by simp; omega) (by intro v hv; cases hv)
  refine ⟨vs, at', s', ?_, by rw [hl']; simp; omega, by rw [hl']; simp; omega, hv', by omega, by omega⟩
  unfold spec_l24Draw.f
  simp only [e1, Option.bind_some]
  have e : wrap64 (1 + x) = ((x + 1).toNat : Int) := by rw [w64 (by omega) (by omega)]; omega
  rw [e]
  exact hE
theorem votes_ev {code : List Int} (h : ∀ x ∈ code, 0 ≤ x ∧ x ≤ 255) : ∃ xs : List Int, Ev (fun k => spec_A2Votes.f k code) xs ∧ 1 ≤ xs.length ∧ xs.length ≤ 7 ∧ (∀ v ∈ xs, 0 ≤ v ∧ v ≤ 1000) ∧ 0 < xs.sum := by
  obtain ⟨vs, at', s', hE, l1, l2, hv, g0, g1⟩ := draw_ev (code := code) (at_ := 0) (seed := 0) ⟨h, by omega⟩ (by omega)
  obtain ⟨y, a2, s2, e2, y0, y1, _, c0, c1⟩ := pick_eq (seed := s') (n := 500) (code := code) (at_ := at') ⟨h, by omega⟩ (by omega) (by omega)
  have hy := y1 (by omega)
  refine ⟨vs ++ [1 + y], ?_, by simp, by simp; omega, ?_, ?_⟩
  · unfold spec_A2Votes.f spec_l00From.f
    simp only [Option.bind_some]
    refine Ev.bindE hE ?_
    simp only [e2, Option.bind_some, w64 (x := 1 + y) (by omega) (by omega)]
    exact Ev.ifPos (by omega) (Ev.const fun _ => rfl)
  · intro v hv'
    rcases List.mem_append.1 hv' with q | q
    · exact hv v q
    · rw [List.mem_singleton.1 q]; omega
  · have := le_sum (vs ++ [1 + y]) (by
      intro v hv'
      rcases List.mem_append.1 hv' with q | q
      · exact (hv v q).1
      · rw [List.mem_singleton.1 q]; omega) (1 + y) (by simp)
    omega
theorem sum64_eq : ∀ (xs : List Int) (c : Int), 0 ≤ c → (∀ x ∈ xs, 0 ≤ x) → c + xs.sum ≤ 4611686018427387904 → sum64 c xs = c + xs.sum := by
  intro xs
  induction xs with
  | nil => intro c _ _ _; simp [sum64]
  | cons x xs ih =>
    intro c h0 h1 h2
    rw [List.sum_cons] at h2 ⊢
    have hx := h1 x (by simp)
    have hs : 0 ≤ xs.sum := by
      cases xs with
      | nil => simp
      | cons y ys =>
        have := le_sum (y :: ys) (fun q hq => h1 q (List.mem_cons_of_mem _ hq)) y (by simp)
        have := h1 y (by simp)
        omega
    have e : sum64 c (x :: xs) = sum64 (wrap64 (c + x)) xs := rfl
    rw [e, w64 (by omega) (by omega), ih (c + x) (by omega) (fun q hq => h1 q (List.mem_cons_of_mem _ hq)) (by omega)]
    omega
theorem sum_le : ∀ (xs : List Int) (m : Int), (∀ x ∈ xs, x ≤ m) → xs.sum ≤ m * xs.length := by
  intro xs m
  induction xs with
  | nil => intro _; simp
  | cons x xs ih =>
    intro h
    have := ih (fun q hq => h q (List.mem_cons_of_mem _ hq))
    have := h x (by simp)
    have e : m * ((x :: xs).length : Int) = m * xs.length + m := by
      rw [List.length_cons]; push_cast; rw [Int.mul_add, Int.mul_one]
    rw [List.sum_cons]
    omega
theorem sum_small {xs : List Int} (hl : xs.length ≤ 8) (h : ∀ v ∈ xs, 0 ≤ v ∧ v ≤ 1000000) : sum64 0 xs = xs.sum ∧ xs.sum ≤ 8000000 := by
  have h1 := sum_le xs 1000000 (fun v hv => (h v hv).2)
  have h2 : (1000000 : Int) * xs.length ≤ 8000000 := by omega
  refine ⟨?_, by omega⟩
  rw [sum64_eq xs 0 (by omega) (fun v hv => (h v hv).1) (by omega)]
  omega
theorem ok_of {xs : List Int} (h1 : 1 ≤ xs.length) (h2 : xs.length ≤ 8) (h : ∀ v ∈ xs, 0 ≤ v ∧ v ≤ 1000000) (hs : 0 < xs.sum) : okVotes xs = true := by
  unfold okVotes
  rw [(sum_small h2 h).1]
  simp only [Bool.and_eq_true, decide_eq_true_eq]
  refine ⟨(allFrom_iff _ _ _).2 fun j _ hj => ?_, by omega, hs⟩
  simp only [voteIn, decide_eq_true_eq]
  exact h _ (rd_mem hj)
theorem code_ok {xs : List Int} {t s : Int} (h : okVotes xs = true) (ht : 1 ≤ t ∧ t ≤ 60) (hs : 1 ≤ s ∧ s ≤ 2) : code xs t s = 0 := by
  unfold code; rw [if_pos h, if_pos ht, if_pos hs]
theorem specMandates_ev {s : Int} {xs : List Int} (g : GoodV s xs) (hok : okVotes xs = true) {t : Nat} (h1 : 1 ≤ t) (ht : t ≤ 60) : Ev (fun k => spec_MandatesByAverages.f k xs (t : Int) s) (av s xs t, 0) := by
  have hc := code_ok hok (t := (t : Int)) (s := s) (by omega) g.step
  obtain ⟨b, hb⟩ := specAverages_ev g ht
  unfold spec_MandatesByAverages.f
  exact Ev.bindE (specCode_ev xs t s (by have := g.some; omega)) (Ev.ifPos hc (Ev.bindE hb (Ev.const fun _ => rfl)))
theorem a2At_eq {l : List Int} (h : ∀ x ∈ l, 0 ≤ x ∧ x ≤ 255) (a n : Int) (ha : 0 ≤ a) (hn : 1 ≤ n) : ∃ x, laws_a2At.f l a n = some x ∧ 0 ≤ x ∧ x < n := by
  unfold laws_a2At.f
  by_cases c : a ≥ (l.length : Int)
  · rw [if_pos c]; exact ⟨0, rfl, by omega, by omega⟩
  · rw [if_neg c, if_neg (by omega), if_pos ha, if_pos (by omega), if_neg (by omega)]
    obtain ⟨i, rfl⟩ : ∃ i : Nat, a = (i : Int) := ⟨a.toNat, by omega⟩
    have hx := h _ (rd_mem (m := l) (i := i) (by omega))
    refine ⟨_, rfl, Int.tmod_nonneg _ ?_, Int.tmod_lt_of_pos _ (by omega)⟩
    rw [w64 (by omega) (by omega)]
    exact hx.1
theorem a2Sum_ev (xs : List Int) (hn : xs.length ≤ 9223372036854775807) : Ev (fun k => laws_a2Sum.f k xs) (sum64 0 xs) := by
  have h := scanI (fun k i => laws_a2Sum.l0 k xs (sum64 0 (xs.take i)) (i : Int)) xs.length (fun _ => sum64 0 xs) (Ev.up (g := fun k => laws_a2Sum.l0 k xs (sum64 0 (xs.take xs.length)) (xs.length : Int)) (Ev.const fun k => by
      simp only [laws_a2Sum.l0]
      rw [if_neg (by omega), List.take_length])) (by
    intro i hi ih
    refine Ev.up (g := fun k => laws_a2Sum.l0 k xs (sum64 0 (xs.take i)) (i : Int)) ?_
    simp only [laws_a2Sum.l0, rd_at hi, wnext hi (by omega : (xs.length : Int) ≤ _)]
    rw [sum64_take xs hi] at ih
    exact Ev.ifPos (by omega) (Ev.ifPos (by omega) ih)) 0 (by omega)
  exact h
/-- With so many votes a party gets all mandates. -/
theorem W_all {s : Int} {xs : List Int} (g : GoodV s xs) {t p : Nat} (hp : p < xs.length) (ht : t ≤ 20) (h : ∀ v ∈ xs, 0 ≤ v ∧ v ≤ 1000) : W s xs t p 1000000 = t := by
  have gs := good_set g hp (v := 1000000) (by omega)
  have st := stable_av gs t (by omega)
  unfold W
  generalize hm : av s (xs.set p 1000000) t = m at st
  have hl := st.len
  rw [List.length_set] at hl
  have hpm := le_sum m (fun x hx => by obtain ⟨j, hj, rfl⟩ := mem_rd hx; exact st.mand j (by simp; omega)) _ (rd_mem (m := m) (i := p) (by omega))
  rw [st.sum] at hpm
  by_cases c : rd m (p : Int) = t
  · exact c
  · exfalso
    -- another party has some
    have hq : ∃ q, q < m.length ∧ q ≠ p ∧ 1 ≤ rd m (q : Int) := by
      by_cases e : ∃ q, q < m.length ∧ q ≠ p ∧ 1 ≤ rd m (q : Int)
      · exact e
      · exfalso
        have z : ∀ q, q < m.length → q ≠ p → rd m (q : Int) = 0 := by
          intro q hq hqp
          have h0 := st.mand q (by simp; omega)
          by_cases f : 1 ≤ rd m (q : Int)
          · exact absurd ⟨q, hq, hqp, f⟩ e
          · omega
        have hs := sum_set m p 0 (by omega)
        have h0 : (m.set p 0).sum ≤ 0 * (m.set p 0).length := sum_le _ 0 (by
          intro x hx
          obtain ⟨j, hj, rfl⟩ := mem_rd hx
          rw [List.length_set] at hj
          rw [rd_set (by omega)]
          by_cases f : p = j
          · rw [if_pos f]; omega
          · rw [if_neg f, z j hj (fun q => f q.symm)]; omega)
        rw [Int.zero_mul] at h0
        rw [st.sum] at hs
        omega
    obtain ⟨q, hql, hqp, hq1⟩ := hq
    have hqx : q < xs.length := by omega
    have B := st.beats q p (by simp; omega) (by simp; omega) hq1
    unfold Beats at B
    rw [rd_set hp, rd_set hp, if_pos rfl, if_neg (fun e => hqp e.symm)] at B
    have hvq := h _ (rd_mem (m := xs) (i := q) hqx)
    have hs := g.step
    have mp := st.mand p (by simp; omega)
    have d1 : 1 ≤ 1 + s * (rd m (q : Int) - 1) := by
      have : 0 ≤ s * (rd m (q : Int) - 1) := Int.mul_nonneg (by omega) (by omega)
      omega
    have d2 : 1 + s * rd m (p : Int) ≤ 41 := by
      have e : s = 1 ∨ s = 2 := by omega
      rcases e with rfl | rfl <;> omega
    have d0 : 0 ≤ 1 + s * rd m (p : Int) := by
      have : 0 ≤ s * rd m (p : Int) := Int.mul_nonneg (by omega) mp
      omega
    have u1 : rd xs (q : Int) * (1 + s * rd m (p : Int)) ≤ 1000 * (1 + s * rd m (p : Int)) := mul_le hvq.2 d0
    omega
/-- What the program tells of the votes that a party lacks. -/
theorem implGain_ev {s : Int} {xs : List Int} (g : GoodV s xs) (hok : okVotes xs = true) {t p : Nat} (h1 : 1 ≤ t) (ht : t ≤ 60) (hp : p < xs.length) :
    (W s xs t p 1000000 = rd (av s xs t) (p : Int) ∧ Ev (fun k => impl_VotesToGain.f k xs (t : Int) s (p : Int)) (0, 3)) ∨ ∃ r, Least s xs t p r ∧ rd xs (p : Int) + r ≤ 1000000 ∧ Ev (fun k => impl_VotesToGain.f k xs (t : Int) s (p : Int)) (r, 0) := by
  have hl := g.some
  have hvp := g.vote p hp
  have c := code_ok hok (t := (t : Int)) (s := s) (by omega) g.step
  have ic := implCode_ev xs t s (by omega)
  have ew : wrap64 ((xs.length : Int) - 1) = (xs.length : Int) - 1 := w64 (by omega) (by omega)
  obtain ⟨bb, hbb⟩ := implAverages_ev g ht
  have hmono := W_mono g hp ht (v := rd xs (p : Int)) (w := 1000000) (by omega) (by omega) (by omega)
  rw [W_own hp] at hmono
  have ed : wrap64 (1000000 - rd xs (p : Int)) = 1000000 - rd xs (p : Int) := w64 (by omega) (by omega)
  have e1 : rd xs (p : Int) + (1000000 - rd xs (p : Int)) = 1000000 := by omega
  have hin : 0 ≤ (p : Int) ∧ (p : Int) ≤ (xs.length : Int) - 1 := by omega
  by_cases h3 : W s xs t p 1000000 = rd (av s xs t) (p : Int)
  · left
    refine ⟨h3, ?_⟩
    unfold impl_VotesToGain.f
    refine Ev.bindE ic (Ev.ifPos c ?_)
    simp only [impl_size_int64.f, implIn_eq, Option.bind_some, ew, ed]
    refine Ev.ifPos (decide_eq_true hin) (Ev.bindE hbb (Ev.ifPos (by omega) (Ev.ifPos (by omega) ?_)))
    refine Ev.ite (fun q => ?_) (fun q => ?_)
    · refine Ev.up (g := fun k => impl_VotesToGain.j0 k 1 (1000000 - rd xs (p : Int)) true xs (t : Int) s (p : Int) (av s xs t)) (Ev.const fun k => ?_)
      simp only [impl_VotesToGain.j0]
      rw [if_pos trivial]
    · refine Ev.bindE (implGains_ev g hp ht (x := 1000000 - rd xs (p : Int)) (by omega) (by omega) (av_len g ht)) ?_
      rw [e1, decide_eq_false (by omega : ¬ W s xs t p 1000000 > rd (av s xs t) (p : Int)), Bool.not_false]
      refine Ev.up (g := fun k => impl_VotesToGain.j0 k 1 (1000000 - rd xs (p : Int)) true xs (t : Int) s (p : Int) (av s xs t)) (Ev.const fun k => ?_)
      simp only [impl_VotesToGain.j0]
      rw [if_pos trivial]
  · right
    have hgt : W s xs t p 1000000 > rd (av s xs t) (p : Int) := by omega
    have hlt : rd xs (p : Int) < 1000000 := by
      rcases Int.lt_or_le (rd xs (p : Int)) 1000000 with q | q
      · exact q
      · have e : rd xs (p : Int) = 1000000 := by omega
        have := W_own (s := s) (t := t) hp
        rw [e] at this
        omega
    have own0 : ¬ W s xs t p (rd xs (p : Int)) > rd (av s xs t) (p : Int) := by rw [W_own hp]; omega
    obtain ⟨r2, hr2, hr2'⟩ := implLoop_ev g hp ht (1000000 - rd xs (p : Int)).toNat 1 (1000000 - rd xs (p : Int)) (by omega) (by omega) (by omega) (by omega) (by rw [e1]; exact hgt) (by
      intro x h0 h1
      have : x = 0 := by omega
      subst this
      rw [Int.add_zero]
      exact own0)
    refine ⟨r2, hr2', ?_, ?_⟩
    · rcases Int.lt_or_le (1000000 - rd xs (p : Int)) r2 with q | q
      · exact absurd (by rw [e1]; exact hgt) (hr2'.2.2 _ (by omega) q)
      · omega
    · unfold impl_VotesToGain.f
      refine Ev.bindE ic (Ev.ifPos c ?_)
      simp only [impl_size_int64.f, implIn_eq, Option.bind_some, ew, ed]
      refine Ev.ifPos (decide_eq_true hin) (Ev.bindE hbb (Ev.ifPos (by omega) (Ev.ifPos (by omega) (Ev.ifNeg (by omega) ?_))))
      refine Ev.bindE (implGains_ev g hp ht (x := 1000000 - rd xs (p : Int)) (by omega) (by omega) (av_len g ht)) ?_
      rw [e1, decide_eq_true hgt, Bool.not_true]
      refine Ev.up (g := fun k => impl_VotesToGain.j0 k 1 (1000000 - rd xs (p : Int)) false xs (t : Int) s (p : Int) (av s xs t)) ?_
      simp only [impl_VotesToGain.j0]
      exact Ev.ifNeg (by simp) hr2

/-! Thresholds. -/
def kept (pct : Int) (xs : List Int) (v : Int) : Int := if 100 * v < pct * xs.sum then 0 else v
def cleared (pct : Int) (xs : List Int) (i : Nat) : List Int := (xs.take i).map (kept pct xs) ++ xs.drop i
theorem cleared_len (pct : Int) (xs : List Int) (i : Nat) : (cleared pct xs i).length = xs.length := by
  simp [cleared]; omega
theorem cleared_succ (pct : Int) (xs : List Int) {i : Nat} (h : i < xs.length) : cleared pct xs (i + 1) = if 100 * xs[i] < pct * xs.sum then (cleared pct xs i).set i 0 else cleared pct xs i := by
  unfold cleared
  rw [List.take_succ_eq_append_getElem h, List.drop_eq_getElem_cons h, List.map_append]
  have hl : ((xs.take i).map (kept pct xs)).length = i := by simp; omega
  by_cases c : 100 * xs[i] < pct * xs.sum
  · rw [if_pos c, List.set_append_right _ _ (by omega), hl, Nat.sub_self, List.set_cons_zero]
    simp [kept, c]
  · rw [if_neg c]
    simp [kept, c]
theorem clear_ev {xs : List Int} (h1 : 1 ≤ xs.length) (h2 : xs.length ≤ 8) (h : ∀ v ∈ xs, 0 ≤ v ∧ v ≤ 1000) (hok : okVotes xs = true) {pct : Int} (hp : 0 ≤ pct ∧ pct ≤ 100) :
    Ev (fun k => impl_ClearThreshold.f k xs pct) (if (xs.map (kept pct xs)).sum = 0 then ([], 6) else (xs.map (kept pct xs), 0)) := by
  have hsm := sum_small h2 (fun v hv => by have := h v hv; omega)
  have hs0 : 0 ≤ xs.sum := by
    obtain ⟨x, hx⟩ : ∃ x, x ∈ xs := ⟨xs[0], List.getElem_mem _⟩
    have := le_sum xs (fun v hv => (h v hv).1) x hx
    have := h x hx
    omega
  have hb1 : 0 ≤ pct * xs.sum := Int.mul_nonneg hp.1 hs0
  have hb2 : pct * xs.sum ≤ 100 * xs.sum := mul_le hp.2 hs0
  have hsum := implSum_ev xs (by omega)
  rw [hsm.1] at hsum
  have full : cleared pct xs xs.length = xs.map (kept pct xs) := by simp [cleared]
  have hk : ∀ v ∈ xs.map (kept pct xs), 0 ≤ v ∧ v ≤ 1000000 := by
    intro v hv
    obtain ⟨x, hx, rfl⟩ := List.mem_map.1 hv
    have := h x hx
    unfold kept
    split <;> omega
  have hsumk := implSum_ev (xs.map (kept pct xs)) (by simp; omega)
  rw [(sum_small (xs := xs.map (kept pct xs)) (by simp; omega) hk).1] at hsumk
  have hl := scanI (fun k i => impl_ClearThreshold.l0 k xs pct (cleared pct xs i) xs (xs.length : Int) (i : Int)) xs.length (fun _ => if (xs.map (kept pct xs)).sum = 0 then (([] : List Int), (6 : Int)) else (xs.map (kept pct xs), 0)) (Ev.up (g := fun k => impl_ClearThreshold.l0 k xs pct (cleared pct xs xs.length) xs (xs.length : Int) (xs.length : Int)) (by
      simp only [impl_ClearThreshold.l0, full]
      refine Ev.ifNeg (by omega) (Ev.bindE hsumk (Ev.ite (fun c => ?_) (fun c => ?_)))
      · rw [if_pos c]; exact Ev.const fun _ => rfl
      · rw [if_neg c]; exact Ev.const fun _ => rfl)) (by
    intro i hi ih
    have hx := h _ (List.getElem_mem hi)
    have hcl := cleared_len pct xs i
    rw [cleared_succ pct xs hi] at ih
    refine Ev.up (g := fun k => impl_ClearThreshold.l0 k xs pct (cleared pct xs i) xs (xs.length : Int) (i : Int)) ?_
    simp only [impl_ClearThreshold.l0, rd_at hi, wnext hi (by omega : (xs.length : Int) ≤ _), Int.toNat_natCast]
    refine Ev.ifPos (by omega) (Ev.ifPos (by omega) (Ev.ifPos (by omega) (Ev.bindE hsum ?_)))
    rw [w64 (x := 100 * xs[i]) (by omega) (by omega), w64 (x := pct * xs.sum) (by omega) (by omega)]
    refine Ev.ite (fun c => Ev.ifPos (by omega) ?_) (fun c => ?_)
    · rw [if_pos c] at ih; exact ih
    · rw [if_neg c] at ih; exact ih) 0 (by omega)
  have e0 : cleared pct xs 0 = xs := by simp [cleared]
  unfold impl_ClearThreshold.f impl_clone_int64.f
  refine Ev.bindE (implOk_ev xs (by omega)) (Ev.ifPos hok ?_)
  simp only [implIn_eq, Option.bind_some, List.nil_append, List.length_nil]
  refine Ev.ifPos (decide_eq_true hp) ?_
  rw [if_pos (by omega)]
  simp only [Option.bind_some]
  simp only [e0] at hl
  exact hl
theorem check_ev {xs : List Int} (h1 : 1 ≤ xs.length) (h2 : xs.length ≤ 8) (h : ∀ v ∈ xs, 0 ≤ v ∧ v ≤ 1000) {pct : Int} (hp : 0 ≤ pct ∧ pct ≤ 100) : Ev (fun k => laws_FnGains.l0 k xs pct (xs.map (kept pct xs)) 0) true := by
  have hsm := sum_small h2 (fun v hv => by have := h v hv; omega)
  have hs0 : 0 ≤ xs.sum := by
    obtain ⟨x, hx⟩ : ∃ x, x ∈ xs := ⟨xs[0], List.getElem_mem _⟩
    have := le_sum xs (fun v hv => (h v hv).1) x hx
    have := h x hx
    omega
  have hb1 : 0 ≤ pct * xs.sum := Int.mul_nonneg hp.1 hs0
  have hb2 : pct * xs.sum ≤ 100 * xs.sum := mul_le hp.2 hs0
  have hsum := a2Sum_ev xs (by omega)
  rw [hsm.1] at hsum
  have hl := scanI (fun k i => laws_FnGains.l0 k xs pct (xs.map (kept pct xs)) (i : Int)) xs.length (fun _ => true) (Ev.up (g := fun k => laws_FnGains.l0 k xs pct (xs.map (kept pct xs)) (xs.length : Int)) (Ev.const fun k => by
      simp only [laws_FnGains.l0]
      rw [if_neg (by omega)])) (by
    intro i hi ih
    have hx := h _ (List.getElem_mem hi)
    have hk : rd (xs.map (kept pct xs)) (i : Int) = kept pct xs xs[i] := by rw [rd_at (by simpa using hi)]; simp
    refine Ev.up (g := fun k => laws_FnGains.l0 k xs pct (xs.map (kept pct xs)) (i : Int)) ?_
    simp only [laws_FnGains.l0, rd_at hi, hk, wnext hi (by omega : (xs.length : Int) ≤ _)]
    refine Ev.ifPos (by omega) (Ev.ifPos (by omega) (Ev.bindE hsum ?_))
    rw [w64 (x := 100 * xs[i]) (by omega) (by omega), w64 (x := pct * xs.sum) (by omega) (by omega)]
    unfold kept
    refine Ev.ite (fun c => Ev.ifPos (by simp; omega) ?_) (fun c => ?_)
    · rw [if_pos c]
      refine Ev.ifPos rfl (Ev.bindE hsum ?_)
      rw [w64 (x := pct * xs.sum) (by omega) (by omega)]
      exact Ev.ifNeg (by omega) ih
    · rw [if_neg c]
      refine Ev.bindE hsum ?_
      rw [w64 (x := pct * xs.sum) (by omega) (by omega)]
      exact Ev.ifPos (by omega) (Ev.ifPos (by simp; omega) (Ev.ifPos rfl ih))) 0 (by omega)
  exact hl
theorem FnGains : Say.FnGains := by
  intro code more hcode hmore
  refine Ev.rounds ?_
  unfold laws_FnGains.f laws_a2Long.f
  by_cases hl0 : (code.length : Int) > 3000
  · rw [if_pos hl0]; simp only [Option.bind_some]; exact Ev.ifPos trivial (Ev.const fun _ => rfl)
  rw [if_neg hl0]
  simp only [Option.bind_some]
  by_cases hl1 : (more.length : Int) > 3000
  · exact Ev.ifPos (decide_eq_true hl1) (Ev.const fun _ => rfl)
  refine Ev.ifNeg (by simpa using hl1) ?_
  obtain ⟨xs, hE, h1, h2, hv, hs⟩ := votes_ev (code := code) (fun x hx => hcode.2 x hx)
  have hv' : ∀ v ∈ xs, 0 ≤ v ∧ v ≤ 1000000 := fun v q => by have := hv v q; omega
  have hok := ok_of h1 (by omega) hv' hs
  have hmo : ∀ x ∈ more, 0 ≤ x ∧ x ≤ 255 := fun x hx => hmore.2 x hx
  obtain ⟨n0, en, n1, n2⟩ := a2At_eq hmo 0 20 (by omega) (by omega)
  obtain ⟨s0, es, s1, s2⟩ := a2At_eq hmo 1 2 (by omega) (by omega)
  obtain ⟨p0, ep, p1, p2⟩ := a2At_eq hmo 2 (xs.length : Int) (by omega) (by omega)
  obtain ⟨pc, epc, pc1, pc2⟩ := a2At_eq hmo 3 20 (by omega) (by omega)
  refine Ev.bindE hE ?_
  simp only [en, es, ep, Option.bind_some, w64 (x := 1 + n0) (by omega) (by omega), w64 (x := 1 + s0) (by omega) (by omega)]
  obtain ⟨t, et⟩ : ∃ t : Nat, 1 + n0 = (t : Int) := ⟨(1 + n0).toNat, by omega⟩
  obtain ⟨p, epp⟩ : ∃ p : Nat, p0 = (p : Int) := ⟨p0.toNat, by omega⟩
  subst epp
  rw [et]
  have g : GoodV (1 + s0) xs := ⟨by omega, by omega, fun i hi => hv' _ (rd_mem hi)⟩
  have hp : p < xs.length := by omega
  have ht1 : 1 ≤ t := by omega
  have ht : t ≤ 20 := by omega
  have hM := specMandates_ev g hok ht1 (by omega)
  have hal := av_len g (t := t) (by omega)
  have clear := clear_ev h1 (by omega) hv hok (pct := pc) (by omega)
  have check := check_ev h1 (by omega) hv (pct := pc) (by omega)
  have J1 : Ev (fun k => laws_FnGains.j1 k more xs false) true := by
    refine Ev.up (g := fun k => laws_FnGains.j1 k more xs false) ?_
    simp only [laws_FnGains.j1, epc, Option.bind_some]
    refine Ev.ifNeg (by simp) (Ev.bindE clear ?_)
    by_cases c : (xs.map (kept pc xs)).sum = 0
    · rw [if_pos c]
      exact Ev.ifNeg (by simp) (Ev.const fun _ => rfl)
    · rw [if_neg c]
      exact Ev.ifPos rfl (Ev.ifPos (by simp) check)
  rcases implGain_ev g hok ht1 (by omega) hp with ⟨h3, hI⟩ | ⟨r, hr, hr', hI⟩
  · refine Ev.bindE hI (Ev.bindE hM (Ev.ifPos rfl (Ev.ifNeg (by simp) (Ev.ifPos rfl (Ev.ifPos (by omega) (Ev.ifPos (by dsimp only; omega) (Ev.const fun _ => ?_)))))))
    rw [W_all g hp ht hv] at h3
    simp [← h3]
  · refine Ev.bindE hI (Ev.bindE hM (Ev.ifPos rfl (Ev.ifPos rfl (Ev.ifNeg (by have := hr.1; dsimp only; omega) (Ev.ifPos (by omega) (Ev.ifPos (by omega) ?_))))))
    have hvp := g.vote p hp
    have r1 := hr.1
    rw [w64 (x := 1000000 - rd xs (p : Int)) (by omega) (by omega), decide_eq_false (by dsimp only; omega)]
    refine Ev.up (g := fun k => laws_FnGains.j0 k more xs (t : Int) (1 + s0) (p : Int) r (av (1 + s0) xs t) false) ?_
    simp only [laws_FnGains.j0, Option.bind_some, List.nil_append, List.length_nil]
    refine Ev.ifNeg (by simp) (Ev.ifPos (by omega) ?_)
    simp only [Int.toNat_natCast, w64 (x := rd xs (p : Int) + r) (by omega) (by omega), w64 (x := rd xs (p : Int) + r - 1) (by omega) (by omega), List.set_set]
    have okset : ∀ x, rd xs (p : Int) ≤ x → x ≤ 1000000 → okVotes (xs.set p x) = true := by
      intro x hx0 hx1
      refine ok_of (by simpa using h1) (by simp; omega) ?_ ?_
      · intro v hvv
        obtain ⟨j, hj, rfl⟩ := mem_rd hvv
        rw [List.length_set] at hj
        rw [rd_set hp]
        have := hv' _ (rd_mem hj)
        split <;> omega
      · rw [sum_set xs p x hp]; omega
    have M1 := specMandates_ev (good_set g hp (v := rd xs (p : Int) + r) (by omega)) (okset _ (by omega) hr') ht1 (by omega)
    have M2 := specMandates_ev (good_set g hp (v := rd xs (p : Int) + r - 1) (by omega)) (okset _ (by omega) (by omega)) ht1 (by omega)
    have l1 := av_len (good_set g hp (v := rd xs (p : Int) + r) (by omega)) (t := t) (by omega)
    have l2 := av_len (good_set g hp (v := rd xs (p : Int) + r - 1) (by omega)) (t := t) (by omega)
    rw [List.length_set] at l1 l2
    refine Ev.ifPos (by omega) (Ev.ifPos (by omega) (Ev.ifPos (by omega) (Ev.bindE M1 (Ev.bindE M2 (Ev.ifPos rfl (Ev.ifPos rfl (Ev.ifPos (by dsimp only; omega) (Ev.ifPos (by omega) (Ev.ifNeg ?_ (Ev.ifPos (by dsimp only; omega) ?_))))))))))
    · have := hr.2.1
      unfold W at this
      dsimp only
      omega
    · have hno := hr.2.2 (r - 1) (by omega) (by omega)
      have e : rd xs (p : Int) + (r - 1) = rd xs (p : Int) + r - 1 := by omega
      rw [e] at hno
      have hmn := W_mono g hp (t := t) (by omega) (v := rd xs (p : Int)) (w := rd xs (p : Int) + r - 1) (by omega) (by omega) (by omega)
      rw [W_own hp] at hmn
      have heq : rd (av (1 + s0) (xs.set p (rd xs (p : Int) + r - 1)) t) (p : Int) = rd (av (1 + s0) xs t) (p : Int) := by
        unfold W at hno hmn; omega
      simp only [heq, bne_self_eq_false]
      exact J1
end Go.Proofs.Ytoklpimhcdfbbaa.Pure

/-! ## LawFnGains -/
/- FnGains: the law's row, out of its plain statement and the walks. -/
namespace Go.Proofs.Ytoklpimhcdfbbaa.fnGains
open Go.ChangeShapes Go.WideShapes Go.ChangeAt Go.RowKit Go.Proofs.Ytoklpimhcdfbbaa.X
open Go.ChangeMaps (open_string shut_string)
theorem own : ownKnob Try.prog.godebug = none := by kernel_rfl
theorem laidOut : laidOutB Try.prog = true := by kernel_rfl
open Go.Proofs.YtoklpimhcdfbbaaW.PrintWords in
theorem reader0 : Rdr.Reads Try.prog 22 (Kd.slice 5 (Kd.int .u8)) (Rdr.Lst Rdr.U8) := (Rdr.reads_slice Try.underlying22 (by kernel_rfl) (Rdr.reads_u8 Try.underlying5 (by kernel_rfl)))
open Go.Proofs.YtoklpimhcdfbbaaW.PrintWords in
theorem reader1 : Rdr.Reads Try.prog 22 (Kd.slice 5 (Kd.int .u8)) (Rdr.Lst Rdr.U8) := (Rdr.reads_slice Try.underlying22 (by kernel_rfl) (Rdr.reads_u8 Try.underlying5 (by kernel_rfl)))
set_option maxRecDepth 100000 in
theorem lifted (os : Os) (started : os.Started) (H : Type) (enc : TypeId × Value → H) :
    ReturnsInHanded {} Try.checked os 6 .any (Rows.fnGainsSpec.pre6 enc Try.prog Try.f6 Rows.fnGainsRow.domain false) (Rows.fnGainsSpec.post enc Try.prog Try.f6 false true false false) := by
  refine returnsInHanded_of_change_sized (C := Try.checked) own started (by kernel_rfl) Try.func6
    (ChangeSpec.witness6 (enc := enc) (C := Try.checked) false ⟨#[], #[.slice none 0 0, .slice none 0 0], []⟩ 8 (by kernel_rfl) (by kernel_rfl) (by kernel_rfl) (by kernel_rfl)) ?_
  intro W base args ds gs before hval0 hW hcnd hsz0 _
  have hval : ∀ (j : Nat) t v, Try.f6.params[j]? = some t → args[j]? = some v → Value.okWide Try.prog W .any base t v := hval0
  have hW' := hW
  obtain ⟨p, q, hA0, hV, rfl, hfz, hnd⟩ := hW
  have hA : DataW.TrodAll enc Try.prog W 0 (fun _ => true) true Try.f6.params.toList args.toList ds p := hA0
  rw [Try.params6] at hA hval
  obtain ⟨v0, vs0, d0, ds0, p0, q0, hargs, rfl, rfl, h0, r0⟩ := trodAll_cons hA
  obtain ⟨v1, vs1, d1, ds1, p1, q1, rfl, rfl, rfl, h1, r1⟩ := trodAll_cons r0
  obtain ⟨rfl, rfl, rfl⟩ := trodAll_nil r1
  obtain rfl : args = #[v0, v1] := by cases args; simp_all
  obtain ⟨rfl, rfl⟩ := trodVars_none hV
  have k0 := h0
  have lt0 : ∀ x ∈ p0, x.block < W.heap.size := by obtain ⟨m, hm⟩ := k0; exact DataW.trod_lt m _ _ _ hm
  obtain ⟨fuel0, hf0⟩ := h0
  obtain ⟨x0, hK0, w0⟩ := reader0.read hf0
  obtain ⟨a0, len0, cap0, rfl⟩ := okWide_slice Try.underlying22 (hval 0 22 v0 rfl rfl)
  obtain ⟨A0, c0, hcs0, hl0, hC0⟩ := hK0
  simp [Value.cells] at hcs0
  obtain ⟨rfl, rfl, rfl⟩ := hcs0
  have k1 := h1
  have lt1 : ∀ x ∈ p1, x.block < W.heap.size := by obtain ⟨m, hm⟩ := k1; exact DataW.trod_lt m _ _ _ hm
  obtain ⟨fuel1, hf1⟩ := h1
  obtain ⟨x1, hK1, w1⟩ := reader1.read hf1
  obtain ⟨a1, len1, cap1, rfl⟩ := okWide_slice Try.underlying22 (hval 1 22 v1 rfl rfl)
  obtain ⟨A1, c1, hcs1, hl1, hC1⟩ := hK1
  simp [Value.cells] at hcs1
  obtain ⟨rfl, rfl, rfl⟩ := hcs1
  clear hA0 hval0 hsz0
  obtain ⟨k, h⟩ := Pure.FnGains x0 x1 w0 w1
  refine (laws_FnGains.calls k _ _ x0 _ _ x1 true W hC0 hl0 hC1 hl1 ⟨rfl⟩ h).mono fun e W' ⟨he, hd⟩ => ?_
  have bel : Below W.heap.size W W' := hd
  subst he
  exact ⟨_, rfl, _, _, _, [], _, [], hW', trodAll_mk1 (shut_bool Try.underlying4 _), (trodAll_cons_mk (Below.trod laidOut (by kernel_rfl) (of_decide_eq_true (by kernel_rfl)) k0 bel lt0) (trodAll_cons_mk (Below.trod laidOut (by kernel_rfl) (of_decide_eq_true (by kernel_rfl)) k1 bel lt1) trodAll_mk0)), rfl, bel.frame _, fun h => by cases h⟩
theorem over : Rows.fnGainsRow.holds Try.pinned (OpenSpec.ofChange Rows.fnGainsSpec) :=
  OpenClaim.holds_of_wide 6 Try.f6 rfl rfl rfl rfl rfl rfl rfl ⟨rfl, rfl, rfl, rfl, rfl⟩ rfl rfl rfl rfl rfl (by kernel_rfl) Try.func6 (by kernel_rfl)
    (of_decide_eq_true (by kernel_rfl)) (by unfold Func.isWrapper; first | (rw [if_pos (by decide +kernel)]; kernel_rfl) | (rw [if_neg (by decide +kernel)]; exact ⟨rfl, rfl⟩))
    (fun os started H enc _ => lifted os started H enc)
theorem proved : Rows.FnGainsSaid := over
end Go.Proofs.Ytoklpimhcdfbbaa.fnGains
namespace Go.Proofs.Ytoklpimhcdfbbaa
/-- The row, under a short name, for the claim. -/
theorem fnGains_holds : Rows.FnGainsSaid := fnGains.proved
end Go.Proofs.Ytoklpimhcdfbbaa
