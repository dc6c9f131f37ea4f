/- The plain law of AddMotion: both answer the meeting with a motion more on which nobody has voted, or the same code; what came in is left as it is, and the answer shares nothing with it. For all meetings whose motions hold at most 1048576 letters and elements together, and all names of at most so many letters (the law says nothing of greater ones). -/
import Derived.Test.YtfgfkmjpeffjbaaZFnExactAddMotion0
import Derived.Test.YtfgfkmjpeffjbaaZFnExactAddMotion5
import Derived.Test.YtfgfkmjpeffjbaaZFnExactAddMotion1
import Derived.Test.YtfgfkmjpeffjbaaZFnExactAddMotion3
import Derived.Test.YtfgfkmjpeffjbaaZFnExactAddMotion2
import Derived.Test.YtfgfkmjpeffjbaaZFnExactAddMotion4
import Derived.Test.YtfgfkmjpeffjbaaRows
import Derived.WalkKit
import Derived.ProofKit
import Derived.OpenShut
import Derived.ShutString
import Derived.ChangeOld
import Derived.Below
import Derived.SizedLaws
set_option linter.unusedVariables false
set_option linter.unusedSimpArgs false

/-! ## Base -/
/- Plain words for the plain laws: what ends with a value once there are rounds enough; loops over an index; sums that do not wrap. No condition. -/
namespace Go.Proofs.Ytfgfkmjpeffjbaa.B
open Go.RowKit Go.Proofs.YtfgfkmjpeffjbaaW.PrintWords

theorem w64 {x : Int} (h : -9223372036854775808 ≤ x) (h' : x ≤ 9223372036854775807) : wrap64 x = x := by
  unfold wrap64; omega
theorem wnext {i n : Nat} (h : i < n) (hn : (n : Int) ≤ 9223372036854775807) : wrap64 ((i : Int) + 1) = ((i + 1 : Nat) : Int) := by
  rw [w64 (by omega) (by omega)]; omega

/-- From some number of rounds on these two are the same. -/
def EvEq {α : Type} (g f : Nat → Option α) : Prop := ∃ K, ∀ k, K ≤ k → g k = f k
theorem EvEq.now {α : Type} {g f : Nat → Option α} (h : ∀ k, g k = f k) : EvEq g f := ⟨0, fun k _ => h k⟩
theorem EvEq.trans {α : Type} {g f h : Nat → Option α} (a : EvEq g f) (b : EvEq f h) : EvEq g h := by
  obtain ⟨K, hK⟩ := a
  obtain ⟨K', hK'⟩ := b
  exact ⟨K + K', fun k hk => (hK k (by omega)).trans (hK' k (by omega))⟩
theorem EvEq.bind {α β : Type} {g : Nat → Option α} {a : α} {f : Nat → α → Option β} {h : Nat → Option β} (e : Ev g a) (b : EvEq (fun k => f k a) h) : EvEq (fun k => (g k).bind (f k)) h := by
  obtain ⟨K, hK⟩ := e
  obtain ⟨K', hK'⟩ := b
  refine ⟨K + K', fun k hk => ?_⟩
  show (g k).bind (f k) = _
  rw [hK k (by omega)]
  exact hK' k (by omega)
theorem Ev.ofEq {α : Type} {g f : Nat → Option α} {r : α} (a : EvEq g f) (b : Ev f r) : Ev g r := by
  obtain ⟨K, hK⟩ := a
  obtain ⟨K', hK'⟩ := b
  exact ⟨K + K', fun k hk => (hK k (by omega)).trans (hK' k (by omega))⟩
theorem Ev.const {α : Type} {g : Nat → Option α} {r : α} (h : ∀ k, g k = some r) : Ev g r := ⟨0, fun k _ => h k⟩
theorem Ev.up {α : Type} {g : Nat → Option α} {r : α} (h : Ev (fun k => g (k + 1)) r) : Ev g r := by
  obtain ⟨K, hK⟩ := h
  refine ⟨K + 1, fun k hk => ?_⟩
  have e : g (k - 1 + 1) = some r := hK (k - 1) (by omega)
  have : k - 1 + 1 = k := by omega
  rwa [this] at e
theorem Ev.bindE {α β : Type} {g : Nat → Option α} {a : α} {f : Nat → α → Option β} {r : β} (e : Ev g a) (b : Ev (fun k => f k a) r) : Ev (fun k => (g k).bind (f k)) r := Ev.bind e b
theorem Ev.ifPos {α : Type} {c : Prop} [Decidable c] {A B : Nat → Option α} {r : α} (h : c) (e : Ev A r) : Ev (fun k => if c then A k else B k) r := by
  simpa only [if_pos h] using e
theorem Ev.ifNeg {α : Type} {c : Prop} [Decidable c] {A B : Nat → Option α} {r : α} (h : ¬ c) (e : Ev B r) : Ev (fun k => if c then A k else B k) r := by
  simpa only [if_neg h] using e
theorem Ev.uniq {α : Type} {g : Nat → Option α} {a b : α} (h : Ev g a) (h' : Ev g b) : a = b := by
  obtain ⟨K, hK⟩ := h
  obtain ⟨K', hK'⟩ := h'
  have := (hK (K + K') (by omega)).symm.trans (hK' (K + K') (by omega))
  exact Option.some.inj this

/-- A loop by its rounds: at each one it ends, or goes on to the next. F: what it comes to from there. -/
theorem scan {ρ : Type} (L : Nat → Nat → Option ρ) (n : Nat) (F : Nat → ρ) (hend : Ev (fun k => L (k + 1) n) (F n))
    (hstep : ∀ i, i < n → Ev (fun k => L (k + 1) i) (F i) ∨ (F i = F (i + 1) ∧ EvEq (fun k => L (k + 1) i) (fun k => L k (i + 1)))) : ∀ i, i ≤ n → Ev (fun k => L k i) (F i) := by
  have key : ∀ d i, i + d = n → Ev (fun k => L k i) (F i) := by
    intro d
    induction d with
    | zero =>
      intro i hi
      have e : i = n := by omega
      rw [e]
      exact Ev.up (g := fun k => L k n) hend
    | succ d ih =>
      intro i hi
      rcases hstep i (by omega) with h | ⟨h, h'⟩
      · exact Ev.up (g := fun k => L k i) h
      · rw [h]
        exact Ev.up (g := fun k => L k i) (Ev.ofEq h' (ih (i + 1) (by omega)))
  intro i hi
  exact key (n - i) i (by omega)

/-- A loop whose value at the end is known, and at each round that of the next one. -/
theorem scanI {ρ : Type} (L : Nat → Nat → Option ρ) (n : Nat) (F : Nat → ρ) (hend : Ev (fun k => L k n) (F n))
    (hstep : ∀ i, i < n → Ev (fun k => L k (i + 1)) (F (i + 1)) → Ev (fun k => L k i) (F i)) : ∀ i, i ≤ n → Ev (fun k => L k i) (F i) := by
  have key : ∀ d i, i + d = n → Ev (fun k => L k i) (F i) := by
    intro d
    induction d with
    | zero =>
      intro i hi
      have e : i = n := by omega
      rw [e]
      exact hend
    | succ d ih =>
      intro i hi
      exact hstep i (by omega) (ih (i + 1) (by omega))
  intro i hi
  exact key (n - i) i (by omega)
theorem Ev.ite {α : Type} {c : Prop} [Decidable c] {A B : Nat → Option α} {r : α} (h : c → Ev A r) (h' : ¬ c → Ev B r) : Ev (fun k => if c then A k else B k) r := by
  by_cases e : c
  · exact Ev.ifPos e (h e)
  · exact Ev.ifNeg e (h' e)

def allFrom (p : Nat → Bool) (i n : Nat) : Bool := (List.range' i (n - i)).all p
theorem allFrom_end (p : Nat → Bool) (n : Nat) : allFrom p n n = true := by simp [allFrom]
theorem allFrom_step (p : Nat → Bool) {i n : Nat} (h : i < n) : allFrom p i n = (p i && allFrom p (i + 1) n) := by
  unfold allFrom
  obtain ⟨d, hd⟩ : ∃ d, n - i = d + 1 := ⟨n - i - 1, by omega⟩
  have : n - (i + 1) = d := by omega
  rw [hd, this, List.range'_succ, List.all_cons]
theorem allFrom_iff (p : Nat → Bool) (i n : Nat) : allFrom p i n = true ↔ ∀ j, i ≤ j → j < n → p j = true := by
  unfold allFrom
  rw [List.all_eq_true]
  constructor
  · intro h j h1 h2
    exact h j (by rw [List.mem_range'_1]; omega)
  · intro h j hj
    rw [List.mem_range'_1] at hj
    exact h j (by omega) (by omega)
/-- A loop that goes on while p, and ends with false. -/
theorem allScan (L : Nat → Nat → Option Bool) (n : Nat) (p : Nat → Bool) (fin : Bool) (hend : Ev (fun k => L (k + 1) n) fin)
    (hstep : ∀ i, i < n → EvEq (fun k => L (k + 1) i) (fun k => if p i = true then L k (i + 1) else some false)) : ∀ i, i ≤ n → Ev (fun k => L k i) (allFrom p i n && fin) := by
  refine scan L n (fun i => allFrom p i n && fin) ?_ ?_
  · show Ev _ (allFrom p n n && fin)
    rw [allFrom_end, Bool.true_and]
    exact hend
  · intro i hi
    by_cases hp : p i = true
    · right
      refine ⟨by show (allFrom p i n && fin) = (allFrom p (i + 1) n && fin); rw [allFrom_step p hi, hp, Bool.true_and], ?_⟩
      have h := hstep i hi
      simpa only [if_pos hp] using h
    · left
      have h := hstep i hi
      have hp' : p i = false := by simpa using hp
      have e : (allFrom p i n && fin) = false := by rw [allFrom_step p hi, hp']; rfl
      show Ev _ (allFrom p i n && fin)
      rw [e]
      refine Ev.ofEq h (Ev.const fun k => ?_)
      rw [if_neg hp]

def firstFrom (p : Nat → Bool) (i n : Nat) : Int := match (List.range' i (n - i)).find? p with | some j => (j : Int) | none => -1
theorem firstFrom_end (p : Nat → Bool) (n : Nat) : firstFrom p n n = -1 := by simp [firstFrom]
theorem firstFrom_step (p : Nat → Bool) {i n : Nat} (h : i < n) : firstFrom p i n = if p i = true then (i : Int) else firstFrom p (i + 1) n := by
  unfold firstFrom
  obtain ⟨d, hd⟩ : ∃ d, n - i = d + 1 := ⟨n - i - 1, by omega⟩
  have : n - (i + 1) = d := by omega
  rw [hd, this, List.range'_succ, List.find?_cons]
  cases p i <;> simp
/-- A loop that ends at the first index with p, and tells -1 where there is none. -/
theorem firstScan (L : Nat → Nat → Option Int) (n : Nat) (p : Nat → Bool) (hend : Ev (fun k => L (k + 1) n) (-1))
    (hstep : ∀ i, i < n → EvEq (fun k => L (k + 1) i) (fun k => if p i = true then some (i : Int) else L k (i + 1))) : ∀ i, i ≤ n → Ev (fun k => L k i) (firstFrom p i n) := by
  refine scan L n (fun i => firstFrom p i n) ?_ ?_
  · show Ev _ (firstFrom p n n)
    rw [firstFrom_end]
    exact hend
  · intro i hi
    by_cases hp : p i = true
    · left
      show Ev _ (firstFrom p i n)
      rw [firstFrom_step p hi, if_pos hp]
      exact Ev.ofEq (hstep i hi) (Ev.const fun k => by rw [if_pos hp])
    · right
      refine ⟨by show firstFrom p i n = firstFrom p (i + 1) n; rw [firstFrom_step p hi, if_neg hp], ?_⟩
      simpa only [if_neg hp] using hstep i hi
theorem firstFrom_none (p : Nat → Bool) {n : Nat} : ∀ i, i ≤ n → (firstFrom p i n = -1 ↔ ∀ j, i ≤ j → j < n → p j = false) := by
  have key : ∀ d i, i + d = n → (firstFrom p i n = -1 ↔ ∀ j, i ≤ j → j < n → p j = false) := by
    intro d
    induction d with
    | zero =>
      intro i hi
      have e : i = n := by omega
      subst e
      rw [firstFrom_end]
      exact ⟨fun _ j h1 h2 => by omega, fun _ => rfl⟩
    | succ d ih =>
      intro i hi
      rw [firstFrom_step p (by omega)]
      by_cases hp : p i = true
      · rw [if_pos hp]
        constructor
        · intro h; omega
        · intro h
          have := h i (by omega) (by omega)
          rw [hp] at this
          cases this
      · rw [if_neg hp, ih (i + 1) (by omega)]
        constructor
        · intro h j h1 h2
          by_cases e : j = i
          · subst e; simpa using hp
          · exact h j (by omega) h2
        · intro h j h1 h2
          exact h j (by omega) h2
  intro i hi
  exact key (n - i) i (by omega)
theorem firstFrom_some (p : Nat → Bool) {n : Nat} : ∀ i, i ≤ n → firstFrom p i n ≠ -1 → ∃ j : Nat, firstFrom p i n = (j : Int) ∧ i ≤ j ∧ j < n ∧ p j = true := by
  have key : ∀ d i, i + d = n → firstFrom p i n ≠ -1 → ∃ j : Nat, firstFrom p i n = (j : Int) ∧ i ≤ j ∧ j < n ∧ p j = true := by
    intro d
    induction d with
    | zero =>
      intro i hi h
      have e : i = n := by omega
      subst e
      rw [firstFrom_end] at h
      exact absurd rfl h
    | succ d ih =>
      intro i hi h
      rw [firstFrom_step p (by omega)] at h ⊢
      by_cases hp : p i = true
      · rw [if_pos hp]
        exact ⟨i, rfl, by omega, by omega, hp⟩
      · rw [if_neg hp] at h ⊢
        obtain ⟨j, h1, h2, h3, h4⟩ := ih (i + 1) (by omega) h
        exact ⟨j, h1, by omega, h3, h4⟩
  intro i hi
  exact key (n - i) i (by omega)
theorem firstFrom_congr {p q : Nat → Bool} {n : Nat} (h : ∀ j, j < n → p j = q j) : ∀ i, i ≤ n → firstFrom p i n = firstFrom q i n := by
  have key : ∀ d i, i + d = n → firstFrom p i n = firstFrom q i n := by
    intro d
    induction d with
    | zero =>
      intro i hi
      have e : i = n := by omega
      subst e
      rw [firstFrom_end, firstFrom_end]
    | succ d ih =>
      intro i hi
      rw [firstFrom_step p (by omega), firstFrom_step q (by omega), h i (by omega), ih (i + 1) (by omega)]
  intro i hi
  exact key (n - i) i (by omega)

theorem getD_at {α : Type} {xs : List α} {i : Nat} (h : i < xs.length) (d : α) : xs.getD i d = xs[i] := by
  rw [List.getD_eq_getElem?_getD, List.getElem?_eq_getElem h]; rfl
theorem rd_at {xs : List Int} {i : Nat} (h : i < xs.length) : rd xs (i : Int) = xs[i] := by
  unfold rd; rw [Int.toNat_natCast]; exact getD_at h _
theorem rdOf_at {α : Type} {d : α} {xs : List α} {i : Nat} (h : i < xs.length) : rdOf d xs (i : Int) = xs[i] := by
  unfold rdOf; rw [Int.toNat_natCast]; exact getD_at h _
theorem allFrom_congr {p q : Nat → Bool} (h : ∀ j, p j = q j) (i n : Nat) : allFrom p i n = allFrom q i n := by
  rw [show p = q from funext h]
/-- Rows that are compared place by place. -/
theorem rows3 {L : Nat → Int → Option Bool} {n m : Nat} {c : Int → Bool} (hn : n ≤ 9223372036854775807)
    (hL : ∀ k i, L (k + 1) i = if i < (n : Int) then (if 0 ≤ i then (if i < (m : Int) then (if c i = true then some false else L k (wrap64 (i + 1))) else none) else none) else some true) :
    Ev (fun k => if (n : Int) = (m : Int) then L k 0 else some false) (decide (n = m) && allFrom (fun j => !c j) 0 n) := by
  by_cases hl : n = m
  · rw [decide_eq_true hl, Bool.true_and]
    refine Ev.ifPos (by omega) ?_
    have h := allScan (fun k i => L k (i : Int)) n (fun j => !c j) true (Ev.const fun k => by rw [hL, if_neg (by omega)]) (by
      intro i hi
      refine EvEq.now fun k => ?_
      rw [hL, if_pos (by omega), if_pos (by omega), if_pos (by omega), wnext hi (by omega)]
      cases c i <;> rfl) 0 (by omega)
    rw [Bool.and_true] at h
    exact h
  · rw [decide_eq_false hl, Bool.false_and]
    exact Ev.ifNeg (by omega) (Ev.const fun _ => rfl)
theorem rows4 {L : Nat → Int → Option Bool} {n m : Nat} {c : Int → Bool} (hn : n ≤ 9223372036854775807)
    (hL : ∀ k i, L (k + 1) i = if i < (n : Int) then (if 0 ≤ i then (if i < (n : Int) then (if i < (m : Int) then (if c i = true then some false else L k (wrap64 (i + 1))) else none) else none) else none) else some true) :
    Ev (fun k => if (n : Int) = (m : Int) then L k 0 else some false) (decide (n = m) && allFrom (fun j => !c j) 0 n) := by
  refine rows3 hn fun k i => ?_
  rw [hL]
  by_cases h : i < (n : Int)
  · rw [if_pos h, if_pos h, if_pos h]
  · rw [if_neg h, if_neg h]
/-- A row that is filled from its begin. -/
theorem fill_set {α : Type} (xs : List α) (z : α) {i n : Nat} (hi : i < n) (hl : xs.length = n) : (xs.take i ++ List.replicate (n - i) z).set i (xs[i]'(by omega)) = xs.take (i + 1) ++ List.replicate (n - (i + 1)) z := by
  have hlt : (xs.take i).length = i := by rw [List.length_take]; omega
  rw [List.set_append_right _ _ (by omega), hlt, Nat.sub_self]
  obtain ⟨d, hd⟩ : ∃ d, n - i = d + 1 := ⟨n - i - 1, by omega⟩
  have hd' : n - (i + 1) = d := by omega
  rw [hd, hd', List.replicate_succ, List.set_cons_zero, List.take_succ_eq_append_getElem (by omega), List.append_assoc]
  rfl

end Go.Proofs.Ytfgfkmjpeffjbaa.B

/-! ## Conv -/
/- Plain words for the laws' own helpers: measuring an argument, copying it, comparing it with itself, marking a result and finding the marks again. No condition but the lengths that fit. -/
namespace Go.Proofs.Ytfgfkmjpeffjbaa.B
open Go.RowKit Go.Proofs.YtfgfkmjpeffjbaaW.PrintWords

def sumOf {α : Type} (f : α → Int) (xs : List α) : Int := (xs.map f).sum
theorem sumOf_nil {α : Type} (f : α → Int) : sumOf f [] = 0 := rfl
theorem sumOf_cons {α : Type} (f : α → Int) (x : α) (xs : List α) : sumOf f (x :: xs) = f x + sumOf f xs := by simp [sumOf]
theorem sumOf_nonneg {α : Type} {f : α → Int} {xs : List α} (h : ∀ x ∈ xs, 0 ≤ f x) : 0 ≤ sumOf f xs := by
  induction xs with
  | nil => simp [sumOf]
  | cons x xs ih =>
    rw [sumOf_cons]
    have h1 := h x (List.mem_cons_self ..)
    have h2 := ih fun y hy => h y (List.mem_cons_of_mem _ hy)
    omega
theorem sumOf_mem {α : Type} {f : α → Int} {xs : List α} (h : ∀ x ∈ xs, 0 ≤ f x) : ∀ x ∈ xs, f x ≤ sumOf f xs := by
  induction xs with
  | nil => intro x hx; cases hx
  | cons y xs ih =>
    intro x hx
    rw [sumOf_cons]
    have h1 := h y (List.mem_cons_self ..)
    have h2 := sumOf_nonneg (f := f) (xs := xs) fun z hz => h z (List.mem_cons_of_mem _ hz)
    rcases List.mem_cons.1 hx with rfl | hx
    · omega
    · have := ih (fun z hz => h z (List.mem_cons_of_mem _ hz)) x hx
      omega

/-- g takes s off what is left, or tells -1 if there is less. -/
def Sz (g : Int → Nat → Option Int) (s : Int) : Prop := 0 ≤ s ∧ ∀ left, 0 ≤ left → left ≤ 1048576 → Ev (fun k => g left k) (if s ≤ left then left - s else -1)
theorem Sz.id : Sz (fun left _ => some left) 0 := ⟨by omega, fun left h h' => Ev.const fun k => by show some left = _; rw [if_pos h, show left - 0 = left by omega]⟩
theorem Sz.seq {g h : Int → Nat → Option Int} {s t : Int} (a : Sz g s) (b : Sz h t) : Sz (fun left k => (g left k).bind fun u => if u < 0 then some (-1) else h u k) (s + t) := by
  refine ⟨by have := a.1; have := b.1; omega, fun left h0 h1 => ?_⟩
  have hs := a.1
  have ht := b.1
  refine Ev.bindE (a.2 left h0 h1) ?_
  by_cases c : s ≤ left
  · simp only [if_pos c]
    refine Ev.ifNeg (by omega) ?_
    have := b.2 (left - s) (by omega) (by omega)
    by_cases d : t ≤ left - s
    · rw [if_pos (by omega)]
      rw [if_pos d] at this
      have e : left - s - t = left - (s + t) := by omega
      rwa [e] at this
    · rw [if_neg (by omega)]
      rwa [if_neg d] at this
  · simp only [if_neg c]
    rw [if_neg (by omega)]
    exact Ev.ifPos (by omega) (Ev.const fun _ => rfl)
theorem Sz.len {n : Nat} (hn : n ≤ 9223372036854775807) {h : Int → Nat → Option Int} {t : Int} (b : Sz h t) : Sz (fun left k => if wrap64 (left - (n : Int)) < 0 then some (-1) else h (wrap64 (left - (n : Int))) k) ((n : Int) + t) := by
  have ht := b.1
  refine ⟨by omega, fun left h0 h1 => ?_⟩
  have e : wrap64 (left - (n : Int)) = left - n := w64 (by omega) (by omega)
  simp only [e]
  by_cases c : (n : Int) ≤ left
  · refine Ev.ifNeg (by omega) ?_
    have := b.2 (left - n) (by omega) (by omega)
    by_cases d : t ≤ left - n
    · rw [if_pos (by omega)]
      rw [if_pos d] at this
      have e : left - n - t = left - (n + t) := by omega
      rwa [e] at this
    · rw [if_neg (by omega)]
      rwa [if_neg d] at this
  · rw [if_neg (by omega)]
    exact Ev.ifPos (by omega) (Ev.const fun _ => rfl)
/-- A row: its length, then each element in turn. -/
theorem Sz.list {α : Type} {xs : List α} {rdx : Int → α} {e : α → Int → Nat → Option Int} {s : α → Int} {L : Nat → Int → Int → Option Int} (hn : xs.length ≤ 9223372036854775807)
    (hrd : ∀ (i : Nat) (h : i < xs.length), rdx (i : Int) = xs[i]) (he : ∀ x ∈ xs, Sz (e x) (s x))
    (hL : ∀ k l i, L (k + 1) l i = if i < (xs.length : Int) then (if 0 ≤ i then ((e (rdx i) l k).bind fun u => if u < 0 then some (-1) else L k u (wrap64 (i + 1))) else none) else some l) :
    Sz (fun left k => if wrap64 (left - (xs.length : Int)) < 0 then some (-1) else L k (wrap64 (left - (xs.length : Int))) 0) ((xs.length : Int) + sumOf s xs) := by
  refine Sz.len hn (h := fun left k => L k left 0) ⟨sumOf_nonneg fun x hx => (he x hx).1, ?_⟩
  have key : ∀ (suf pre : List α), xs = pre ++ suf → ∀ left, 0 ≤ left → left ≤ 1048576 → Ev (fun k => L k left (pre.length : Int)) (if sumOf s suf ≤ left then left - sumOf s suf else -1) := by
    intro suf
    induction suf with
    | nil =>
      intro pre hx left h0 h1
      refine Ev.up (g := fun k => L k left (pre.length : Int)) (Ev.const fun k => ?_)
      have : xs.length = pre.length := by rw [hx]; simp
      rw [hL, if_neg (by omega), sumOf_nil, if_pos h0]
      congr 1; omega
    | cons x suf ih =>
      intro pre hx left h0 h1
      have hlen : xs.length = pre.length + (suf.length + 1) := by rw [hx]; simp
      have hi : pre.length < xs.length := by omega
      have hxi : xs[pre.length] = x := by simp [hx]
      have hm : x ∈ xs := by rw [hx]; simp
      have hs := (he x hm).1
      have hss : 0 ≤ sumOf s suf := sumOf_nonneg fun y hy => (he y (by rw [hx]; simp [hy])).1
      refine Ev.up (g := fun k => L k left (pre.length : Int)) ?_
      simp only [hL, hrd _ hi, hxi]
      refine Ev.ifPos (by omega) (Ev.ifPos (by omega) (Ev.bindE ((he x hm).2 left h0 h1) ?_))
      rw [sumOf_cons]
      by_cases c : s x ≤ left
      · simp only [if_pos c]
        refine Ev.ifNeg (by omega) ?_
        have h' := ih (pre ++ [x]) (by rw [hx]; simp) (left - s x) (by omega) (by omega)
        have e1 : ((pre ++ [x]).length : Int) = wrap64 ((pre.length : Int) + 1) := by rw [wnext hi (by omega)]; simp
        rw [e1] at h'
        by_cases d : sumOf s suf ≤ left - s x
        · rw [if_pos (by omega)]
          rw [if_pos d] at h'
          have e : left - s x - sumOf s suf = left - (s x + sumOf s suf) := by omega
          rwa [e] at h'
        · rw [if_neg (by omega)]
          rwa [if_neg d] at h'
      · simp only [if_neg c]
        rw [if_neg (by omega)]
        exact Ev.ifPos (by omega) (Ev.const fun _ => rfl)
  exact key xs [] rfl

/-- Copying a row, element by element. -/
theorem Cv.list {α β τ : Type} {xs : List α} {rdx : Int → α} {e : Nat → α → Option τ} {mk : τ → β} {c : α → β} {t : α → τ} {z : β} {L : Nat → List β → Int → Option (List β)} {lim : Nat}
    (hlim : xs.length ≤ lim) (hbig : xs.length ≤ 9223372036854775807) (hrd : ∀ (i : Nat) (h : i < xs.length), rdx (i : Int) = xs[i]) (he : ∀ x ∈ xs, Ev (fun k => e k x) (t x)) (hc : ∀ x, mk (t x) = c x)
    (hL : ∀ k ys i, L (k + 1) ys i = if i < (xs.length : Int) then (if 0 ≤ i then ((e k (rdx i)).bind fun bt => if i < (ys.length : Int) then L k (ys.set i.toNat (mk bt)) (wrap64 (i + 1)) else none) else none) else some ys) :
    Ev (fun k => if 0 ≤ (xs.length : Int) then (if ((xs.length : Int)).toNat ≤ lim then L k (List.replicate ((xs.length : Int)).toNat z) 0 else none) else none) (xs.map c) := by
  refine Ev.ifPos (by omega) (Ev.ifPos (by omega) ?_)
  have h := scanI (fun k i => L k ((xs.map c).take i ++ List.replicate (xs.length - i) z) (i : Int)) xs.length (fun _ => xs.map c) (Ev.up (g := fun k => L k ((xs.map c).take xs.length ++ List.replicate (xs.length - xs.length) z) (xs.length : Int)) (Ev.const fun k => by
      rw [hL, if_neg (by omega)]
      simp [List.take_of_length_le])) (by
      intro i hi ih
      refine Ev.up (g := fun k => L k ((xs.map c).take i ++ List.replicate (xs.length - i) z) (i : Int)) ?_
      have hl : ((xs.map c).take i ++ List.replicate (xs.length - i) z).length = xs.length := by simp; omega
      simp only [hL, hrd _ hi]
      refine Ev.ifPos (by omega) (Ev.ifPos (by omega) (Ev.bindE (he _ (List.getElem_mem hi)) (Ev.ifPos (by rw [hl]; omega) ?_)))
      have hs := fill_set (xs.map c) z (i := i) (n := xs.length) hi (by simp)
      rw [hc, Int.toNat_natCast, wnext hi (by omega)]
      rw [List.getElem_map] at hs
      rw [hs]
      exact ih) 0 (by omega)
  simpa using h
theorem Cv.plain {α : Type} {xs : List α} {rdx : Int → α} {z : α} {L : Nat → List α → Int → Option (List α)} {lim : Nat}
    (hlim : xs.length ≤ lim) (hbig : xs.length ≤ 9223372036854775807) (hrd : ∀ (i : Nat) (h : i < xs.length), rdx (i : Int) = xs[i])
    (hL : ∀ k ys i, L (k + 1) ys i = if i < (xs.length : Int) then (if 0 ≤ i then (if i < (ys.length : Int) then L k (ys.set i.toNat (rdx i)) (wrap64 (i + 1)) else none) else none) else some ys) :
    Ev (fun k => if 0 ≤ (xs.length : Int) then (if ((xs.length : Int)).toNat ≤ lim then L k (List.replicate ((xs.length : Int)).toNat z) 0 else none) else none) xs := by
  have h := Cv.list (xs := xs) (rdx := rdx) (e := fun _ x => some x) (mk := fun x => x) (c := fun x => x) (t := fun x => x) (z := z) (L := L) hlim hbig hrd (fun x _ => Ev.const fun _ => rfl) (fun _ => rfl) hL
  simpa using h

/-- Comparing a row with itself. -/
theorem Eq.list {α : Type} {xs : List α} {rdx : Int → α} {e : Nat → α → Option Bool} {L : Nat → Int → Option Bool}
    (hbig : xs.length ≤ 9223372036854775807) (hrd : ∀ (i : Nat) (h : i < xs.length), rdx (i : Int) = xs[i]) (he : ∀ x ∈ xs, Ev (fun k => e k x) true)
    (hL : ∀ k i, L (k + 1) i = if i < (xs.length : Int) then (if 0 ≤ i then (if i < (xs.length : Int) then ((e k (rdx i)).bind fun u => if u = true then L k (wrap64 (i + 1)) else some false) else none) else none) else some true) :
    Ev (fun k => if (xs.length : Int) = (xs.length : Int) then L k 0 else some false) true := by
  refine Ev.ifPos rfl ?_
  exact scanI (fun k i => L k (i : Int)) xs.length (fun _ => true) (Ev.up (g := fun k => L k (xs.length : Int)) (Ev.const fun k => by rw [hL, if_neg (by omega)])) (by
    intro i hi ih
    refine Ev.up (g := fun k => L k (i : Int)) ?_
    simp only [hL, hrd _ hi]
    refine Ev.ifPos (by omega) (Ev.ifPos (by omega) (Ev.ifPos (by omega) (Ev.bindE (he _ (List.getElem_mem hi)) (Ev.ifPos rfl ?_))))
    rw [wnext hi (by omega)]
    exact ih) 0 (by omega)

theorem Eq.flat {α : Type} {xs : List α} {P : Int → Prop} [DecidablePred P] {L : Nat → Int → Option Bool}
    (hbig : xs.length ≤ 9223372036854775807) (hP : ∀ x, P x)
    (hL : ∀ k i, L (k + 1) i = if i < (xs.length : Int) then (if 0 ≤ i then (if i < (xs.length : Int) then (if P i then L k (wrap64 (i + 1)) else some false) else none) else none) else some true) :
    Ev (fun k => if (xs.length : Int) = (xs.length : Int) then L k 0 else some false) true := by
  refine Ev.ifPos rfl ?_
  exact scanI (fun k i => L k (i : Int)) xs.length (fun _ => true) (Ev.up (g := fun k => L k (xs.length : Int)) (Ev.const fun k => by rw [hL, if_neg (by omega)])) (by
    intro i hi ih
    refine Ev.up (g := fun k => L k (i : Int)) ?_
    simp only [hL]
    refine Ev.ifPos (by omega) (Ev.ifPos (by omega) (Ev.ifPos (by omega) (Ev.ifPos (hP _) ?_)))
    rw [wnext hi (by omega)]
    exact ih) 0 (by omega)

/-- Marks from c on, put into each element in turn. -/
def markAll {α : Type} (E : α → Int → α) (cost : α → Int) : List α → Int → List α
  | [], _ => []
  | x :: xs, c => E x c :: markAll E cost xs (c + cost x)
theorem markAll_len {α : Type} (E : α → Int → α) (cost : α → Int) (xs : List α) : ∀ c, (markAll E cost xs c).length = xs.length := by
  induction xs with
  | nil => intro c; rfl
  | cons x xs ih => intro c; simp [markAll, ih]
theorem Mk.list {α : Type} {E : α → Int → α} {cost : α → Int} {L : Nat → List α → Int → Int → Option (Int × List α)} {n : Nat} (hbig : n ≤ 1048576) (hcost : ∀ x, 0 ≤ cost x)
    (hend : ∀ k ys c, ys.length = n → L (k + 1) ys c (n : Int) = some (c, ys))
    (hstep : ∀ ys c (i : Nat) (h : i < ys.length), ys.length = n → 0 ≤ c → c + cost ys[i] ≤ 4611686018427387904 → EvEq (fun k => L (k + 1) ys c (i : Int)) (fun k => L k (ys.set i (E ys[i] c)) (c + cost ys[i]) ((i + 1 : Nat) : Int))) :
    ∀ xs : List α, xs.length = n → ∀ c, 0 ≤ c → c + sumOf cost xs ≤ 4611686018427387904 → Ev (fun k => L k xs c 0) (c + sumOf cost xs, markAll E cost xs c) := by
  have key : ∀ (suf pre : List α) (c : Int), (pre ++ suf).length = n → 0 ≤ c → c + sumOf cost suf ≤ 4611686018427387904 → Ev (fun k => L k (pre ++ suf) c (pre.length : Int)) (c + sumOf cost suf, pre ++ markAll E cost suf c) := by
    intro suf
    induction suf with
    | nil =>
      intro pre c hl h0 h1
      refine Ev.up (g := fun k => L k (pre ++ []) c (pre.length : Int)) (Ev.const fun k => ?_)
      have e : (pre.length : Int) = (n : Int) := by rw [← hl]; simp
      rw [e, hend k _ c hl, sumOf_nil]
      simp [markAll]
    | cons x suf ih =>
      intro pre c hl h0 h1
      rw [sumOf_cons] at h1 ⊢
      have hc := hcost x
      have hs : 0 ≤ sumOf cost suf := sumOf_nonneg fun y _ => hcost y
      have hi : pre.length < (pre ++ x :: suf).length := by simp
      have hx : (pre ++ x :: suf)[pre.length] = x := by simp
      refine Ev.up (g := fun k => L k (pre ++ x :: suf) c (pre.length : Int)) ?_
      have st := hstep (pre ++ x :: suf) c pre.length hi hl h0 (by rw [hx]; omega)
      rw [hx] at st
      refine Ev.ofEq st ?_
      have h' := ih (pre ++ [E x c]) (c + cost x) (by simpa using hl) (by omega) (by omega)
      have e1 : (pre ++ x :: suf).set pre.length (E x c) = pre ++ [E x c] ++ suf := by
        rw [List.set_append_right _ _ (by omega), Nat.sub_self]
        simp
      have e2 : ((pre ++ [E x c]).length : Int) = ((pre.length + 1 : Nat) : Int) := by simp
      rw [e1, ← e2]
      have e3 : c + (cost x + sumOf cost suf) = c + cost x + sumOf cost suf := by omega
      rw [e3]
      simpa [markAll] using h'
  intro xs hn c h0 h1
  exact key xs [] c (by simpa using hn) h0 h1
theorem Hd.list {α : Type} {E : α → Int → α} {cost : α → Int} {L : Nat → List α → Int → Int → Option Int} {n : Nat} (hcost : ∀ x, 0 ≤ cost x)
    (hend : ∀ k ys c, ys.length = n → L (k + 1) ys c (n : Int) = some c)
    (hstep : ∀ ys c (i : Nat) (h : i < ys.length) x, ys[i] = E x c → ys.length = n → 0 ≤ c → c + cost x ≤ 4611686018427387904 → EvEq (fun k => L (k + 1) ys c (i : Int)) (fun k => L k ys (c + cost x) ((i + 1 : Nat) : Int))) :
    ∀ xs : List α, xs.length = n → ∀ c, 0 ≤ c → c + sumOf cost xs ≤ 4611686018427387904 → Ev (fun k => L k (markAll E cost xs c) c 0) (c + sumOf cost xs) := by
  have key : ∀ (suf pre : List α) (c : Int), (pre ++ suf).length = n → 0 ≤ c → c + sumOf cost suf ≤ 4611686018427387904 → Ev (fun k => L k (pre ++ markAll E cost suf c) c (pre.length : Int)) (c + sumOf cost suf) := by
    intro suf
    induction suf with
    | nil =>
      intro pre c hl h0 h1
      refine Ev.up (g := fun k => L k (pre ++ markAll E cost [] c) c (pre.length : Int)) (Ev.const fun k => ?_)
      have e : (pre.length : Int) = (n : Int) := by rw [← hl]; simp
      rw [e, hend k _ c (by simpa [markAll] using hl), sumOf_nil]
      simp
    | cons x suf ih =>
      intro pre c hl h0 h1
      rw [sumOf_cons] at h1 ⊢
      have hc := hcost x
      have hs : 0 ≤ sumOf cost suf := sumOf_nonneg fun y _ => hcost y
      have hi : pre.length < (pre ++ markAll E cost (x :: suf) c).length := by simp [markAll]
      have hx : (pre ++ markAll E cost (x :: suf) c)[pre.length] = E x c := by simp [markAll]
      refine Ev.up (g := fun k => L k (pre ++ markAll E cost (x :: suf) c) c (pre.length : Int)) ?_
      have hln : (pre ++ markAll E cost (x :: suf) c).length = n := by
        rw [← hl]; simp [markAll_len]
      refine Ev.ofEq (hstep _ c pre.length hi x hx hln h0 (by omega)) ?_
      have h' := ih (pre ++ [E x c]) (c + cost x) (by simpa using hl) (by omega) (by omega)
      have e2 : ((pre ++ [E x c]).length : Int) = ((pre.length + 1 : Nat) : Int) := by simp
      rw [← e2]
      have e3 : c + (cost x + sumOf cost suf) = c + cost x + sumOf cost suf := by omega
      rw [e3]
      simpa [markAll] using h'
  intro xs hn c h0 h1
  exact key xs [] c (by simpa using hn) h0 h1
end Go.Proofs.Ytfgfkmjpeffjbaa.B

/-! ## PMarks -/
/- Plain laws of marks: a row of whole numbers marked and found again; the text of a mark. No condition but sizes that fit. -/
namespace Go.Proofs.Ytfgfkmjpeffjbaa.PMarks
open Go.RowKit Go.Proofs.YtfgfkmjpeffjbaaW.PrintWords Go.Proofs.Ytfgfkmjpeffjbaa.X Go.Proofs.Ytfgfkmjpeffjbaa.B
/-- Whole numbers, marked from c on. -/
def mi (xs : List Int) (c : Int) : List Int := markAll (fun _ c => c) (fun _ => 1) xs c
theorem mi_len (xs : List Int) (c : Int) : (mi xs c).length = xs.length := markAll_len _ _ _ _
theorem one_sum (xs : List Int) : sumOf (fun _ : Int => (1 : Int)) xs = xs.length := by
  induction xs with
  | nil => rfl
  | cons x xs ih => rw [sumOf_cons, ih]; simp; omega
theorem markInts_ev (xs : List Int) (c : Int) (hn : xs.length ≤ 1048576) (h0 : 0 ≤ c) (h1 : c + xs.length ≤ 4611686018427387904) : Ev (fun k => laws_markInt64S.f k xs c) (c + xs.length, mi xs c) := by
  have h := Mk.list (E := fun (_ : Int) (c : Int) => c) (cost := fun _ => 1) (L := fun k ys c i => laws_markInt64S.l0 k ys c i) (n := xs.length) hn (fun _ => by omega) (by
    intro k ys c hl
    simp only [laws_markInt64S.l0]
    rw [if_neg (by omega)]) (by
    intro ys c i hi hl h0 h1
    refine EvEq.now fun k => ?_
    simp only [laws_markInt64S.l0]
    rw [if_pos (by omega), if_pos (by omega), wnext hi (by omega), w64 (x := c + 1) (by omega) (by omega)]
    rfl) xs rfl c h0 (by rw [one_sum]; omega)
  rw [one_sum] at h
  exact h
theorem heldInts_ev (xs : List Int) (c : Int) (hn : xs.length ≤ 1048576) (h0 : 0 ≤ c) (h1 : c + xs.length ≤ 4611686018427387904) : Ev (fun k => laws_heldInt64S.f k (mi xs c) c) (c + xs.length) := by
  have h := Hd.list (E := fun (_ : Int) (c : Int) => c) (cost := fun _ => 1) (L := fun k ys c i => laws_heldInt64S.l0 k ys c i) (n := xs.length) (fun _ => by omega) (by
    intro k ys c hl
    simp only [laws_heldInt64S.l0]
    rw [if_neg (by omega)]) (by
    intro ys c i hi x hx hl h0 h1
    refine EvEq.now fun k => ?_
    simp only [laws_heldInt64S.l0]
    rw [if_pos (by omega), if_pos (by omega), rd_at hi, if_pos hx, wnext hi (by omega), w64 (x := c + 1) (by omega) (by omega)]) xs rfl c h0 (by rw [one_sum]; omega)
  rw [one_sum] at h
  exact h
end Go.Proofs.Ytfgfkmjpeffjbaa.PMarks

/-! ## PMarkText -/
/- The text of a mark: there is one. No condition but a size that fits. -/
namespace Go.Proofs.Ytfgfkmjpeffjbaa.PMarks
open Go.RowKit Go.Proofs.YtfgfkmjpeffjbaaW.PrintWords Go.Proofs.Ytfgfkmjpeffjbaa.X Go.Proofs.Ytfgfkmjpeffjbaa.B
theorem one_size (x : Int) : (strOfNums [x]).size = 1 := rfl
theorem text_from : ∀ (m : Nat) (n : Int), 0 ≤ n → n ≤ 9223372036854775807 → n < 10 ^ m → ∀ s : ByteArray, s.size + m ≤ 1000 → ∃ t, Ev (fun k => laws_markText.l0 k n s) t := by
  intro m
  induction m with
  | zero =>
    intro n h0 hb h1 s hs
    refine ⟨(⟨#[109]⟩ : ByteArray) ++ s, Ev.up (g := fun k => laws_markText.l0 k n s) (Ev.const fun k => ?_)⟩
    simp only [laws_markText.l0]
    rw [if_neg (by omega), if_pos (by omega)]
  | succ m ih =>
    intro n h0 hb h1 s hs
    by_cases h : n > 0
    · have hd : wrap64 (Int.tdiv n 10) = n / 10 := by
        rw [Int.tdiv_eq_ediv_of_nonneg h0]
        exact w64 (by omega) (by omega)
      have hz := one_size ((wrap64 (48 + (Int.tmod n 10))) % 256)
      obtain ⟨t, ht⟩ := ih (n / 10) (by omega) (by omega) (by rw [Int.pow_succ] at h1; omega) (strOfNums [(wrap64 (48 + (Int.tmod n 10))) % 256] ++ s) (by rw [ByteArray.size_append, hz]; omega)
      refine ⟨t, Ev.up (g := fun k => laws_markText.l0 k n s) ?_⟩
      simp only [laws_markText.l0, Option.bind_some, hd, hz]
      exact Ev.ifPos h (Ev.ifPos (by omega) ht)
    · refine ⟨(⟨#[109]⟩ : ByteArray) ++ s, Ev.up (g := fun k => laws_markText.l0 k n s) (Ev.const fun k => ?_)⟩
      simp only [laws_markText.l0]
      rw [if_neg h, if_pos (by omega)]
theorem text_ev (n : Int) (h0 : 0 ≤ n) (h1 : n ≤ 9223372036854775807) : ∃ t, Ev (fun k => laws_markText.f k n) t := by
  unfold laws_markText.f
  by_cases h : n ≤ 0
  · exact ⟨_, Ev.ifPos h (Ev.const fun _ => rfl)⟩
  · obtain ⟨t, ht⟩ := text_from 19 n h0 h1 (by omega) (⟨#[]⟩ : ByteArray) (by decide)
    exact ⟨t, Ev.ifNeg h ht⟩
open Classical in
/-- The text of mark n. -/
noncomputable def txt (n : Int) : ByteArray := if h : ∃ t, Ev (fun k => laws_markText.f k n) t then h.choose else ByteArray.empty
theorem txt_ev (n : Int) (h0 : 0 ≤ n) (h1 : n ≤ 9223372036854775807) : Ev (fun k => laws_markText.f k n) (txt n) := by
  have h := text_ev n h0 h1
  unfold txt
  rw [dif_pos h]
  exact h.choose_spec
end Go.Proofs.Ytfgfkmjpeffjbaa.PMarks

/-! ## PName -/
/- Plain laws of names: the program's and the reference's IsName tell the same bool of every string. No condition but that its length fits in memory. -/
namespace Go.Proofs.Ytfgfkmjpeffjbaa.PName
open Go.RowKit Go.Proofs.YtfgfkmjpeffjbaaW.PrintWords Go.Proofs.Ytfgfkmjpeffjbaa.X Go.Proofs.Ytfgfkmjpeffjbaa.B

theorem implIn_eq (a b c : Int) : impl_in.f a b c = some (decide (b ≤ a ∧ a ≤ c)) := by
  unfold impl_in.f
  by_cases h : a ≥ b <;> by_cases h' : a ≤ c <;> simp [h, h'] <;> omega
def sm (c : Int) : Bool := decide (97 ≤ c ∧ c ≤ 122)
def okc (c : Int) : Bool := sm c || (decide (48 ≤ c ∧ c ≤ 57) || decide (c = 45))
/-- What both tell. -/
def isName (s : ByteArray) : Bool := allFrom (fun j => okc (bt s j) && (j != 0 || sm (bt s 0))) 0 s.size && decide (1 ≤ (s.size : Int) ∧ (s.size : Int) ≤ 12)

theorem implName_ev (s : ByteArray) (hn : s.size ≤ 9223372036854775807) : Ev (fun k => impl_IsName.f k s) (isName s) := by
  unfold isName
  refine allScan (fun k i => impl_IsName.l0 k s (i : Int)) s.size (fun j => okc (bt s j) && (j != 0 || sm (bt s 0))) (decide (1 ≤ (s.size : Int) ∧ (s.size : Int) ≤ 12)) ?_ ?_ 0 (by omega)
  · refine Ev.const fun k => ?_
    simp only [impl_IsName.l0]
    rw [if_neg (by omega), implIn_eq]
    rfl
  · intro i hi
    refine EvEq.now fun k => ?_
    simp only [impl_IsName.l0]
    rw [if_pos (by omega), if_pos (by omega), wnext hi (by omega)]
    by_cases h0 : i = 0
    · subst h0
      by_cases a : 97 ≤ bt s 0 <;> by_cases b : bt s 0 ≤ 122 <;> by_cases c : 48 ≤ bt s 0 <;> by_cases d : bt s 0 ≤ 57 <;> by_cases e : bt s 0 = 45 <;> simp [okc, sm, a, b, c, d, e] <;> omega
    · have hi0 : ¬ ((i : Int) = 0) := by omega
      by_cases a : 97 ≤ bt s i <;> by_cases b : bt s i ≤ 122 <;> by_cases c : 48 ≤ bt s i <;> by_cases d : bt s i ≤ 57 <;> by_cases e : bt s i = 45 <;> simp [okc, sm, a, b, c, d, e, h0, hi0] <;> omega

theorem small_eq (c : Int) : spec_l01Small.f c = some (sm c) := by
  unfold spec_l01Small.f sm
  by_cases h : c ≥ 97 <;> by_cases h' : c ≤ 122 <;> simp [h, h'] <;> omega
theorem digit_eq (c : Int) : spec_l01Digit.f c = some (decide (48 ≤ c ∧ c ≤ 57)) := by
  unfold spec_l01Digit.f
  by_cases h : c ≥ 48 <;> by_cases h' : c ≤ 57 <;> simp [h, h'] <;> omega
theorem toList_nil (s : ByteArray) : s.toList = ([] : List UInt8) ↔ s.size = 0 := by
  rw [ByteArray.toList_eq]
  constructor
  · intro h
    have := data_length s
    rw [h] at this
    simpa using this.symm
  · intro h
    have := data_length s
    rw [h] at this
    exact List.eq_nil_of_length_eq_zero this
theorem specLoop_ev (s : ByteArray) (hn : s.size ≤ 9223372036854775807) : Ev (fun k => spec_IsName.l0 k s ((0 : Nat) : Int)) (allFrom (fun j => okc (bt s j)) 0 s.size) := by
  have h := allScan (fun k i => spec_IsName.l0 k s (i : Int)) s.size (fun j => okc (bt s j)) true (Ev.const fun k => by
    simp only [spec_IsName.l0]
    rw [if_neg (by omega)]) (by
    intro i hi
    refine EvEq.now fun k => ?_
    simp only [spec_IsName.l0, small_eq, digit_eq, Option.bind_some]
    rw [if_pos (by omega), if_pos (by omega), wnext hi (by omega)]
    by_cases a : sm (bt s i) = true
    · rw [if_pos a, if_pos (by simp [okc, a])]
    · rw [if_neg a]
      by_cases b : 48 ≤ bt s i ∧ bt s i ≤ 57
      · rw [if_pos (by simpa using b), if_pos (by simp [okc, b])]
      · rw [if_neg (by simpa using b)]
        by_cases c : bt s i = 45
        · rw [if_pos c, if_pos (by simp [okc, c])]
        · rw [if_neg c, if_neg (by simp only [okc]; simp [a, b, c])]) 0 (by omega)
  simpa using h
theorem specName_ev (s : ByteArray) (hn : s.size ≤ 9223372036854775807) : Ev (fun k => spec_IsName.f k s) (isName s) := by
  unfold isName
  by_cases h0 : s.size = 0
  · have e : (allFrom (fun j => okc (bt s j) && (j != 0 || sm (bt s 0))) 0 s.size && decide (1 ≤ (s.size : Int) ∧ (s.size : Int) ≤ 12)) = false := by rw [h0]; simp
    rw [e]
    refine Ev.ofEq (f := fun k => spec_IsName.j0 k s true) (EvEq.now fun k => ?_) (Ev.up (g := fun k => spec_IsName.j0 k s true) (Ev.const fun k => by simp [spec_IsName.j0]))
    unfold spec_IsName.f
    rw [if_pos ((toList_nil s).2 h0)]
  · have hl : ¬ s.toList = ([] : List UInt8) := fun h => h0 ((toList_nil s).1 h)
    by_cases h12 : (s.size : Int) > 12
    · have e : (allFrom (fun j => okc (bt s j) && (j != 0 || sm (bt s 0))) 0 s.size && decide (1 ≤ (s.size : Int) ∧ (s.size : Int) ≤ 12)) = false := by
        have : ¬ (1 ≤ (s.size : Int) ∧ (s.size : Int) ≤ 12) := by omega
        rw [decide_eq_false this, Bool.and_false]
      rw [e]
      refine Ev.ofEq (f := fun k => spec_IsName.j0 k s true) (EvEq.now fun k => ?_) (Ev.up (g := fun k => spec_IsName.j0 k s true) (Ev.const fun k => by simp [spec_IsName.j0]))
      unfold spec_IsName.f
      rw [if_neg hl, if_pos h12]
    · have hb : decide (1 ≤ (s.size : Int) ∧ (s.size : Int) ≤ 12) = true := by simp; omega
      rw [hb, Bool.and_true]
      refine Ev.ofEq (f := fun k => spec_IsName.j0 k s (!sm (bt s 0))) (EvEq.now fun k => ?_) (Ev.up (g := fun k => spec_IsName.j0 k s (!sm (bt s 0))) ?_)
      · unfold spec_IsName.f
        rw [if_neg hl, if_neg h12, if_pos (by omega), small_eq]
        rfl
      · simp only [spec_IsName.j0]
        by_cases a : sm (bt s 0) = true
        · have e : allFrom (fun j => okc (bt s j) && (j != 0 || sm (bt s 0))) 0 s.size = allFrom (fun j => okc (bt s j)) 0 s.size := by simp [a]
          rw [e]
          refine Ev.ifNeg (by simp [a]) ?_
          exact specLoop_ev s hn
        · have e : allFrom (fun j => okc (bt s j) && (j != 0 || sm (bt s 0))) 0 s.size = false := by
            rw [allFrom_step _ (by omega)]
            simp [a]
          rw [e]
          exact Ev.ifPos (by simp [a]) (Ev.const fun _ => rfl)
end Go.Proofs.Ytfgfkmjpeffjbaa.PName

/-! ## PInts -/
/- Plain laws of lists of whole numbers: copying, measuring, comparing them. No condition but the lengths that fit in memory. -/
namespace Go.Proofs.Ytfgfkmjpeffjbaa.PInts
open Go.RowKit Go.Proofs.YtfgfkmjpeffjbaaW.PrintWords Go.Proofs.Ytfgfkmjpeffjbaa.X Go.Proofs.Ytfgfkmjpeffjbaa.B

theorem toInts_ev (xs : List Int) (hn : xs.length ≤ 1048576) : Ev (fun k => laws_toInt64S.f k xs) xs := by
  have h0 : Ev (fun k => laws_toInt64S.l0 k xs (xs.take 0 ++ List.replicate (xs.length - 0) 0) ((0 : Nat) : Int)) xs := by
    refine scan (fun k i => laws_toInt64S.l0 k xs (xs.take i ++ List.replicate (xs.length - i) 0) (i : Int)) xs.length (fun _ => xs) ?_ ?_ 0 (by omega)
    · refine Ev.const fun k => ?_
      simp only [laws_toInt64S.l0]
      rw [if_neg (by omega)]
      simp
    · intro i hi
      right
      refine ⟨rfl, EvEq.now fun k => ?_⟩
      have hl : (xs.take i ++ List.replicate (xs.length - i) (0 : Int)).length = xs.length := by simp; omega
      simp only [laws_toInt64S.l0]
      rw [if_pos (by omega), if_pos (by omega), if_pos (by rw [hl]; omega), rd_at hi, Int.toNat_natCast, wnext hi (by omega), fill_set xs 0 hi rfl]
  have e : ∀ k, laws_toInt64S.f k xs = laws_toInt64S.l0 k xs (xs.take 0 ++ List.replicate (xs.length - 0) 0) ((0 : Nat) : Int) := by
    intro k
    unfold laws_toInt64S.f
    rw [if_pos (by omega), Int.toNat_natCast, if_pos (by omega)]
    simp
  exact Ev.ofEq (EvEq.now e) h0

theorem szInts_eq (xs : List Int) (left : Int) (h0 : 0 ≤ left) (h1 : left ≤ 1048576) (hx : xs.length ≤ 9223372036854775807) : laws_szInt64S.f xs left = some (if (xs.length : Int) ≤ left then left - xs.length else -1) := by
  unfold laws_szInt64S.f
  rw [w64 (by omega) (by omega)]
  by_cases h : (xs.length : Int) ≤ left
  · rw [if_neg (by omega), if_pos h]
  · rw [if_pos (by omega), if_neg h]

/-- Comparing two lists tells whether they are equal. -/
theorem eqInts_ev (a b : List Int) (hn : a.length ≤ 9223372036854775806) : Ev (fun k => laws_eqInt64S.f k a b) (decide (a = b)) := by
  by_cases hl : a.length = b.length
  · have h0 := allScan (fun k i => laws_eqInt64S.l0 k a b (i : Int)) a.length (fun j => decide (a.getD j 0 = b.getD j 0)) true (Ev.const fun k => by
      simp only [laws_eqInt64S.l0]
      rw [if_neg (by omega)]) (by
      intro i hi
      refine EvEq.now fun k => ?_
      simp only [laws_eqInt64S.l0]
      rw [if_pos (by omega), if_pos (by omega), if_pos (by omega), rd_at hi, rd_at (by omega), wnext hi (by omega), getD_at hi, getD_at (xs := b) (by omega)]
      simp) 0 (by omega)
    have e : (allFrom (fun j => decide (a.getD j 0 = b.getD j 0)) 0 a.length && true) = decide (a = b) := by
      rw [Bool.and_true, Bool.eq_iff_iff, allFrom_iff, decide_eq_true_iff]
      constructor
      · intro h
        refine List.ext_getElem hl fun j h1 h2 => ?_
        have := h j (by omega) h1
        rw [decide_eq_true_iff, getD_at h1, getD_at h2] at this
        exact this
      · rintro rfl j _ _
        simp
    rw [e] at h0
    refine Ev.ofEq (EvEq.now fun k => ?_) h0
    unfold laws_eqInt64S.f
    rw [if_pos (by omega)]
    rfl
  · have : ¬ a = b := fun h => hl (by rw [h])
    rw [decide_eq_false this]
    refine Ev.const fun k => ?_
    unfold laws_eqInt64S.f
    rw [if_neg (by omega)]
theorem eqInts_self (a : List Int) (hn : a.length ≤ 9223372036854775806) : Ev (fun k => laws_eqInt64S.f k a a) true := by
  simpa using eqInts_ev a a hn
end Go.Proofs.Ytfgfkmjpeffjbaa.PInts

/-! ## PMeeting -/
/- Plain laws of meetings: copying, measuring, comparing them; finding a motion; both ValidMeeting. No condition but the lengths that fit in memory. -/
namespace Go.Proofs.Ytfgfkmjpeffjbaa.PMeeting
open Go.RowKit Go.Proofs.YtfgfkmjpeffjbaaW.PrintWords Go.Proofs.Ytfgfkmjpeffjbaa.X Go.Proofs.Ytfgfkmjpeffjbaa.B Go.Proofs.Ytfgfkmjpeffjbaa.PName Go.Proofs.Ytfgfkmjpeffjbaa.PInts

abbrev L := S87
abbrev M := S60
def conv (x : L) : M := ⟨x.f0, x.f1⟩
theorem rdL {xs : List L} {i : Nat} (h : i < xs.length) : rd_T87 xs (i : Int) = xs[i] := by
  unfold rd_T87; rw [Int.toNat_natCast]; exact getD_at h _
theorem rdM {xs : List M} {i : Nat} (h : i < xs.length) : rd_T60 xs (i : Int) = xs[i] := by
  unfold rd_T60; rw [Int.toNat_natCast]; exact getD_at h _

/-- How many letters and elements motions have. -/
def bulk (xs : List L) : Int := (xs.map fun x => (x.f0.size : Int) + x.f1.length).sum
theorem bulk_nonneg (xs : List L) : 0 ≤ bulk xs := by
  induction xs with
  | nil => simp [bulk]
  | cons x xs ih => simp only [bulk, List.map_cons, List.sum_cons] at ih ⊢; omega
theorem bulk_drop (xs : List L) {i : Nat} (h : i < xs.length) : bulk (xs.drop i) = (xs[i].f0.size : Int) + xs[i].f1.length + bulk (xs.drop (i + 1)) := by
  rw [List.drop_eq_getElem_cons h]
  simp only [bulk, List.map_cons, List.sum_cons]
theorem bulk_mem (xs : List L) : ∀ x ∈ xs, (x.f0.size : Int) + x.f1.length ≤ bulk xs := by
  induction xs with
  | nil => intro x h; cases h
  | cons y xs ih =>
    intro x h
    have := bulk_nonneg xs
    simp only [bulk, List.map_cons, List.sum_cons] at this ⊢
    rcases List.mem_cons.1 h with rfl | h
    · omega
    · have := ih x h
      simp only [bulk] at this
      omega

def WfL (x : L) : Prop := x.f0.size ≤ 9223372036854775807 ∧ x.f1.length ≤ 9223372036854775807
theorem szMotion_eq (x : L) (left : Int) (h0 : 0 ≤ left) (h1 : left ≤ 1048576) (hx : WfL x) : laws_szMotion.f x.f0 x.f1 left = some (if (x.f0.size : Int) + x.f1.length ≤ left then left - (x.f0.size + x.f1.length) else -1) := by
  obtain ⟨ha, hb⟩ := hx
  unfold laws_szMotion.f
  rw [w64 (by omega) (by omega)]
  by_cases h : (left - (x.f0.size : Int)) < 0
  · rw [if_pos h, if_neg (by omega)]
  · rw [if_neg h, szInts_eq x.f1 _ (by omega) (by omega) hb, Option.bind_some]
    by_cases h2 : (x.f1.length : Int) ≤ left - x.f0.size
    · rw [if_pos h2, if_neg (by omega), if_pos (by omega)]
      congr 1; omega
    · rw [if_neg h2, if_pos (by omega), if_neg (by omega)]
theorem szMotionS_ev (xs : List L) (left : Int) (h0 : 0 ≤ left) (h1 : left ≤ 1048576) (hx : xs.length ≤ 9223372036854775807) (hw : ∀ x ∈ xs, WfL x) :
    Ev (fun k => laws_szMotionS.f k xs left) (if (xs.length : Int) + bulk xs ≤ left then left - (xs.length + bulk xs) else -1) := by
  have hb := bulk_nonneg xs
  by_cases hl : (left - (xs.length : Int)) < 0
  · refine Ev.const fun k => ?_
    unfold laws_szMotionS.f
    rw [w64 (by omega) (by omega), if_pos hl, if_neg (by omega)]
  · have key : ∀ d i (l : Int), i + d = xs.length → 0 ≤ l → l ≤ 1048576 → Ev (fun k => laws_szMotionS.l0 k xs l (i : Int)) (if bulk (xs.drop i) ≤ l then l - bulk (xs.drop i) else -1) := by
      intro d
      induction d with
      | zero =>
        intro i l hi hl0 hl1
        have e : i = xs.length := by omega
        subst e
        refine Ev.up (g := fun k => laws_szMotionS.l0 k xs l (xs.length : Int)) (Ev.const fun k => ?_)
        simp only [laws_szMotionS.l0]
        rw [if_neg (by omega)]
        have : bulk (xs.drop xs.length) = 0 := by simp [bulk]
        rw [this, if_pos hl0]
        congr 1; omega
      | succ d ih =>
        intro i l hi hl0 hl1
        have hil : i < xs.length := by omega
        have hbd := bulk_drop xs hil
        have hbn := bulk_nonneg (xs.drop (i + 1))
        refine Ev.up (g := fun k => laws_szMotionS.l0 k xs l (i : Int)) ?_
        by_cases hx' : (xs[i].f0.size : Int) + xs[i].f1.length ≤ l
        · have h' := ih (i + 1) (l - (xs[i].f0.size + xs[i].f1.length)) (by omega) (by omega) (by omega)
          have e : (if bulk (xs.drop i) ≤ l then l - bulk (xs.drop i) else -1) = (if bulk (xs.drop (i + 1)) ≤ l - (xs[i].f0.size + xs[i].f1.length) then l - (xs[i].f0.size + xs[i].f1.length) - bulk (xs.drop (i + 1)) else -1) := by
            by_cases hh : bulk (xs.drop i) ≤ l
            · rw [if_pos hh, if_pos (by omega)]; omega
            · rw [if_neg hh, if_neg (by omega)]
          rw [e]
          refine Ev.ofEq (EvEq.now fun k => ?_) h'
          simp only [laws_szMotionS.l0]
          rw [if_pos (by omega), if_pos (by omega), rdL hil, szMotion_eq _ _ hl0 hl1 (hw _ (List.getElem_mem hil)), if_pos hx', Option.bind_some, if_neg (by omega), wnext hil (by omega)]
        · rw [if_neg (by omega)]
          refine Ev.const fun k => ?_
          simp only [laws_szMotionS.l0]
          rw [if_pos (by omega), if_pos (by omega), rdL hil, szMotion_eq _ _ hl0 hl1 (hw _ (List.getElem_mem hil)), if_neg hx', Option.bind_some, if_pos (by omega)]
    have h' := key xs.length 0 (left - xs.length) (by omega) (by omega) (by omega)
    rw [List.drop_zero] at h'
    have e : (if (xs.length : Int) + bulk xs ≤ left then left - (xs.length + bulk xs) else -1) = (if bulk xs ≤ left - xs.length then left - xs.length - bulk xs else -1) := by
      by_cases hh : (xs.length : Int) + bulk xs ≤ left
      · rw [if_pos hh, if_pos (by omega)]; omega
      · rw [if_neg hh, if_neg (by omega)]
    rw [e]
    refine Ev.ofEq (EvEq.now fun k => ?_) h'
    unfold laws_szMotionS.f
    rw [w64 (by omega) (by omega), if_neg hl]
    rfl
theorem szMeeting_ev (s : Int) (xs : List L) (left : Int) (h0 : 0 ≤ left) (h1 : left ≤ 1048576) (hx : xs.length ≤ 9223372036854775807) (hw : ∀ x ∈ xs, WfL x) :
    Ev (fun k => laws_szMeeting.f k s xs left) (if (xs.length : Int) + bulk xs ≤ left then left - (xs.length + bulk xs) else -1) := by
  unfold laws_szMeeting.f
  refine Ev.bindE (szMotionS_ev xs left h0 h1 hx hw) ?_
  by_cases h : (xs.length : Int) + bulk xs ≤ left
  · simp only [if_pos h]
    exact Ev.ifNeg (by omega) (Ev.const fun _ => rfl)
  · simp only [if_neg h]
    exact Ev.ifPos (by omega) (Ev.const fun _ => rfl)

theorem toMotionS_ev (xs : List L) (hn : xs.length ≤ 1048576) (hw : ∀ x ∈ xs, x.f1.length ≤ 1048576) : Ev (fun k => laws_toMotionS.f k xs) (xs.map conv) := by
  have h0 : Ev (fun k => laws_toMotionS.l0 k xs ((xs.map conv).take 0 ++ List.replicate (xs.length - 0) z60) ((0 : Nat) : Int)) (xs.map conv) := by
    refine scan (fun k i => laws_toMotionS.l0 k xs ((xs.map conv).take i ++ List.replicate (xs.length - i) z60) (i : Int)) xs.length (fun _ => xs.map conv) ?_ ?_ 0 (by omega)
    · refine Ev.const fun k => ?_
      simp only [laws_toMotionS.l0]
      rw [if_neg (by omega)]
      simp [List.take_of_length_le]
    · intro i hi
      right
      refine ⟨rfl, ?_⟩
      have hl : ((xs.map conv).take i ++ List.replicate (xs.length - i) z60).length = xs.length := by simp; omega
      refine EvEq.trans (EvEq.now (f := fun k => (laws_toMotion.f k xs[i].f0 xs[i].f1).bind fun bt => laws_toMotionS.l0 k xs ((((xs.map conv).take i ++ List.replicate (xs.length - i) z60)).set i (⟨bt.1, bt.2⟩ : M)) ((i + 1 : Nat) : Int)) fun k => ?_) ?_
      · simp only [laws_toMotionS.l0]
        rw [if_pos (by omega), if_pos (by omega), rdL hi, wnext hi (by omega)]
        congr 1
        funext bt
        rw [if_pos (by rw [hl]; omega), Int.toNat_natCast]
      · have tm : Ev (fun k => laws_toMotion.f k xs[i].f0 xs[i].f1) (xs[i].f0, xs[i].f1) := Ev.bindE (toInts_ev _ (hw _ (List.getElem_mem hi))) (Ev.const fun _ => rfl)
        refine EvEq.bind tm (EvEq.now fun k => ?_)
        have hs := fill_set (xs.map conv) z60 (i := i) (n := xs.length) hi (by simp)
        rw [← hs]
        simp [conv]
  have e : ∀ k, laws_toMotionS.f k xs = laws_toMotionS.l0 k xs ((xs.map conv).take 0 ++ List.replicate (xs.length - 0) z60) ((0 : Nat) : Int) := by
    intro k
    unfold laws_toMotionS.f
    rw [if_pos (by omega), Int.toNat_natCast, if_pos (by omega)]
    simp
  exact Ev.ofEq (EvEq.now e) h0
theorem toMeeting_ev (s : Int) (xs : List L) (hn : xs.length ≤ 1048576) (hw : ∀ x ∈ xs, x.f1.length ≤ 1048576) : Ev (fun k => laws_toMeeting.f k s xs) (s, xs.map conv) :=
  Ev.bindE (toMotionS_ev xs hn hw) (Ev.const fun _ => rfl)

theorem eqMotionS_self (xs : List M) (hn : xs.length ≤ 1048576) (hw : ∀ x ∈ xs, x.f1.length ≤ 1048576) : Ev (fun k => laws_eqMotionS.f k xs xs) true := by
  have h0 : Ev (fun k => laws_eqMotionS.l0 k xs xs ((0 : Nat) : Int)) true := by
    refine scan (fun k i => laws_eqMotionS.l0 k xs xs (i : Int)) xs.length (fun _ => true) ?_ ?_ 0 (by omega)
    · refine Ev.const fun k => ?_
      simp only [laws_eqMotionS.l0]
      rw [if_neg (by omega)]
    · intro i hi
      right
      refine ⟨rfl, ?_⟩
      have em : Ev (fun k => laws_eqMotion.f k xs[i].f0 xs[i].f1 xs[i].f0 xs[i].f1) true := by
        unfold laws_eqMotion.f
        refine Ev.ifPos rfl (Ev.bindE (eqInts_self _ (by have := hw _ (List.getElem_mem hi); omega)) ?_)
        exact Ev.const fun k => by simp
      refine EvEq.trans (EvEq.now (f := fun k => (laws_eqMotion.f k xs[i].f0 xs[i].f1 xs[i].f0 xs[i].f1).bind fun t => if t = true then laws_eqMotionS.l0 k xs xs ((i + 1 : Nat) : Int) else some false) fun k => ?_) (EvEq.bind em (EvEq.now fun k => by simp))
      simp only [laws_eqMotionS.l0]
      rw [if_pos (by omega), if_pos (by omega), if_pos (by omega), rdM hi, wnext hi (by omega)]
  refine Ev.ofEq (EvEq.now fun k => ?_) h0
  unfold laws_eqMotionS.f
  rw [if_pos rfl]
  rfl
theorem eqMeeting_self (s : Int) (xs : List M) (hn : xs.length ≤ 1048576) (hw : ∀ x ∈ xs, x.f1.length ≤ 1048576) : Ev (fun k => laws_eqMeeting.f k s xs s xs) true := by
  unfold laws_eqMeeting.f
  refine Ev.ifPos rfl (Ev.bindE (eqMotionS_self xs hn hw) ?_)
  exact Ev.const fun k => by simp

/-! Finding a motion; what is valid. -/
def named (xs : List M) (nm : ByteArray) (j : Nat) : Bool := decide ((xs.getD j z60).f0.toList = nm.toList)
def find (xs : List M) (nm : ByteArray) : Int := firstFrom (named xs nm) 0 xs.length
theorem specFind_ev (xs : List M) (nm : ByteArray) (hn : xs.length ≤ 1048576) : Ev (fun k => spec_l25Find.f k xs nm) (find xs nm) :=
  firstScan (fun k i => spec_l25Find.l0 k xs nm (i : Int)) xs.length (named xs nm) (Ev.const fun k => by
    simp only [spec_l25Find.l0]
    rw [if_neg (by omega)]) (by
    intro i hi
    refine EvEq.now fun k => ?_
    have hnm : named xs nm i = decide (xs[i].f0.toList = nm.toList) := by unfold named; rw [getD_at hi]
    simp only [spec_l25Find.l0, hnm]
    rw [if_pos (by omega), if_pos (by omega), rdM hi, wnext hi (by omega)]
    simp only [decide_eq_true_eq]) 0 (by omega)
theorem implFind_ev (xs : List M) (nm : ByteArray) (hn : xs.length ≤ 1048576) : Ev (fun k => impl_motionAt.f k xs nm) (find xs nm) :=
  firstScan (fun k i => impl_motionAt.l0 k nm xs (xs.length : Int) (i : Int)) xs.length (named xs nm) (Ev.const fun k => by
    simp only [impl_motionAt.l0]
    rw [if_neg (by omega)]) (by
    intro i hi
    refine EvEq.now fun k => ?_
    have hnm : named xs nm i = decide (xs[i].f0.toList = nm.toList) := by unfold named; rw [getD_at hi]
    simp only [impl_motionAt.l0, hnm]
    rw [if_pos (by omega), if_pos (by omega), if_pos (by omega), rdM hi, wnext hi (by omega)]
    simp only [decide_eq_true_eq]) 0 (by omega)

theorem specIn_eq (a b c : Int) : spec_l00In.f a b c = some (decide (b ≤ a ∧ a ≤ c)) := by
  unfold spec_l00In.f
  by_cases h : a ≥ b <;> by_cases h' : a ≤ c <;> simp [h, h'] <;> omega
def votesOk (v : List Int) : Bool := allFrom (fun j => decide (0 ≤ v.getD j 0 ∧ v.getD j 0 ≤ 3)) 0 v.length
theorem specVotes_ev (v : List Int) (s : Int) (hn : v.length ≤ 1048576) : Ev (fun k => spec_l25Votes.f k v s) (votesOk v && ((v.length : Int) == s)) :=
  allScan (fun k i => spec_l25Votes.l0 k v s (i : Int)) v.length (fun j => decide (0 ≤ v.getD j 0 ∧ v.getD j 0 ≤ 3)) ((v.length : Int) == s) (Ev.const fun k => by
    simp only [spec_l25Votes.l0]
    rw [if_neg (by omega)]) (by
    intro i hi
    refine EvEq.now fun k => ?_
    simp only [spec_l25Votes.l0, specIn_eq, Option.bind_some]
    rw [if_pos (by omega), if_pos (by omega), rd_at hi, wnext hi (by omega), getD_at hi]) 0 (by omega)
theorem implVotes_ev (v : List Int) (hn : v.length ≤ 1048576) : Ev (fun k => impl_all_int64__impl_ValidMeeting_1.f k v) (votesOk v) := by
  have h := allScan (fun k i => impl_all_int64__impl_ValidMeeting_1.l0 k v (v.length : Int) (i : Int)) v.length (fun j => decide (0 ≤ v.getD j 0 ∧ v.getD j 0 ≤ 3)) true (Ev.const fun k => by
    simp only [impl_all_int64__impl_ValidMeeting_1.l0]
    rw [if_neg (by omega)]) (by
    intro i hi
    refine EvEq.now fun k => ?_
    simp only [impl_all_int64__impl_ValidMeeting_1.l0, impl_ValidMeeting_1.f, implIn_eq, Option.bind_some]
    rw [if_pos (by omega), if_pos (by omega), if_pos (by omega), rd_at hi, wnext hi (by omega), getD_at hi]) 0 (by omega)
  rw [Bool.and_true] at h
  exact h
/-- What both ask of motion i. -/
def okMotion (s : Int) (xs : List M) (i : Nat) : Bool :=
  isName (xs.getD i z60).f0 && (decide (find (xs.take i) (xs.getD i z60).f0 < 0) && (((xs.getD i z60).f1.length : Int) == s && votesOk (xs.getD i z60).f1))
def okMeeting (s : Int) (xs : List M) : Bool := allFrom (okMotion s xs) 0 xs.length && (decide (1 ≤ s ∧ s ≤ 30) && decide ((xs.length : Int) ≤ 20))
def Small (xs : List M) : Prop := xs.length ≤ 1048576 ∧ ∀ x ∈ xs, x.f0.size ≤ 1048576 ∧ x.f1.length ≤ 1048576
theorem specOk_ev (s : Int) (xs : List M) (h : Small xs) : Ev (fun k => spec_l25Ok_ro.f k s xs) (okMeeting s xs) := by
  obtain ⟨hn, hx⟩ := h
  refine allScan (fun k i => spec_l25Ok_ro.l0 k (i : Int) s xs) xs.length (okMotion s xs) (decide (1 ≤ s ∧ s ≤ 30) && decide ((xs.length : Int) ≤ 20)) ?_ ?_ 0 (by omega)
  · refine Ev.const fun k => ?_
    simp only [spec_l25Ok_ro.l0, specIn_eq, Option.bind_some]
    rw [if_neg (by omega)]
    by_cases hs : 1 ≤ s ∧ s ≤ 30
    · rw [decide_eq_true hs, if_pos rfl, Bool.true_and]
    · rw [decide_eq_false hs, if_neg (by simp), Bool.false_and]
  · intro i hi
    obtain ⟨h1, h2⟩ := hx _ (List.getElem_mem hi)
    have hr := EvEq.now (g := fun k => spec_l25Ok_ro.l0 (k + 1) (i : Int) s xs) (f := fun k => (spec_IsName.f k xs[i].f0).bind fun t => if t = true then (spec_l25Votes.f k xs[i].f1 s).bind fun t => if t = true then (spec_l25Find.f k (xs.take i) xs[i].f0).bind fun t => if t ≥ 0 then some false else spec_l25Ok_ro.l0 k ((i + 1 : Nat) : Int) s xs else some false else some false) fun k => by
      simp only [spec_l25Ok_ro.l0]
      rw [if_pos (by omega), if_pos (by omega), if_pos (by omega), rdM hi, wnext hi (by omega), Int.toNat_natCast]
    refine hr.trans ?_
    refine EvEq.bind (specName_ev _ (by omega)) ?_
    by_cases a : isName xs[i].f0 = true
    · rw [a]
      simp only [if_true]
      refine EvEq.bind (specVotes_ev _ s (by omega)) ?_
      by_cases b : (votesOk xs[i].f1 && ((xs[i].f1.length : Int) == s)) = true
      · rw [b]
        simp only [if_true]
        refine EvEq.bind (specFind_ev _ _ (by rw [List.length_take]; omega)) (EvEq.now fun k => ?_)
        simp only [Bool.and_eq_true] at b
        by_cases c : find (xs.take i) xs[i].f0 ≥ 0
        · rw [if_pos c, if_neg]
          simp only [okMotion, getD_at hi, a, b.1, b.2, decide_eq_false (show ¬ find (xs.take i) xs[i].f0 < 0 by omega)]
          decide
        · rw [if_neg c, if_pos]
          simp only [okMotion, getD_at hi, a, b.1, b.2, decide_eq_true (show find (xs.take i) xs[i].f0 < 0 by omega)]
          decide
      · refine EvEq.now fun k => ?_
        rw [if_neg b, if_neg]
        intro hc
        simp only [okMotion, getD_at hi, Bool.and_eq_true] at hc
        exact b (by simp only [Bool.and_eq_true]; exact ⟨hc.2.2.2, hc.2.2.1⟩)
    · refine EvEq.now fun k => ?_
      rw [if_neg a, if_neg]
      intro hc
      simp only [okMotion, getD_at hi, Bool.and_eq_true] at hc
      exact a hc.1
theorem implOk_ev (s : Int) (xs : List M) (h : Small xs) : Ev (fun k => impl_ValidMeeting.f k s xs) (okMeeting s xs) := by
  obtain ⟨hn, hx⟩ := h
  refine allScan (fun k i => impl_ValidMeeting.l0 k xs (xs.length : Int) (i : Int) s xs) xs.length (okMotion s xs) (decide (1 ≤ s ∧ s ≤ 30) && decide ((xs.length : Int) ≤ 20)) ?_ ?_ 0 (by omega)
  · refine Ev.const fun k => ?_
    simp only [impl_ValidMeeting.l0, implIn_eq, Option.bind_some]
    rw [if_neg (by omega)]
    by_cases hs : 1 ≤ s ∧ s ≤ 30
    · rw [decide_eq_true hs, if_pos rfl, Bool.true_and]
    · rw [decide_eq_false hs, if_neg (by simp), Bool.false_and]
  · intro i hi
    obtain ⟨h1, h2⟩ := hx _ (List.getElem_mem hi)
    have hr := EvEq.now (g := fun k => impl_ValidMeeting.l0 (k + 1) xs (xs.length : Int) (i : Int) s xs) (f := fun k => (impl_IsName.f k xs[i].f0).bind fun t => if t = true then (impl_motionAt.f k (xs.take i) xs[i].f0).bind fun t => if t ≥ 0 then some false else (if (xs[i].f1.length : Int) = s then (impl_all_int64__impl_ValidMeeting_1.f k xs[i].f1).bind fun t => if t = true then impl_ValidMeeting.l0 k xs (xs.length : Int) ((i + 1 : Nat) : Int) s xs else some false else some false) else some false) fun k => by
      simp only [impl_ValidMeeting.l0, impl_size_int64.f, Option.bind_some]
      rw [if_pos (by omega), if_pos (by omega), if_pos (by omega), if_pos (by omega), rdM hi, wnext hi (by omega), Int.toNat_natCast]
    refine hr.trans ?_
    refine EvEq.bind (implName_ev _ (by omega)) ?_
    by_cases a : isName xs[i].f0 = true
    · rw [a]
      simp only [if_true]
      refine EvEq.bind (implFind_ev _ _ (by rw [List.length_take]; omega)) ?_
      by_cases c : find (xs.take i) xs[i].f0 ≥ 0
      · refine EvEq.now fun k => ?_
        rw [if_pos c, if_neg]
        intro hc
        simp only [okMotion, getD_at hi, Bool.and_eq_true, decide_eq_true_eq] at hc
        omega
      · simp only [if_neg c]
        by_cases b : (xs[i].f1.length : Int) = s
        · simp only [if_pos b]
          refine EvEq.bind (implVotes_ev _ (by omega)) (EvEq.now fun k => ?_)
          have e : okMotion s xs i = votesOk xs[i].f1 := by
            simp only [okMotion, getD_at hi, a, decide_eq_true (show find (xs.take i) xs[i].f0 < 0 by omega), b, beq_self_eq_true, Bool.true_and]
          rw [e]
        · refine EvEq.now fun k => ?_
          rw [if_neg b, if_neg]
          intro hc
          simp only [okMotion, getD_at hi, Bool.and_eq_true, beq_iff_eq] at hc
          exact b hc.2.2.1
    · refine EvEq.now fun k => ?_
      rw [if_neg a, if_neg]
      intro hc
      simp only [okMotion, getD_at hi, Bool.and_eq_true] at hc
      exact a hc.1
theorem small_conv {xs : List L} {left : Int} (hl : left ≤ 1048576) (h : (xs.length : Int) + bulk xs ≤ left) : Small (xs.map conv) ∧ xs.length ≤ 1048576 ∧ (∀ x ∈ xs, x.f1.length ≤ 1048576) ∧ ∀ x ∈ xs.map conv, x.f1.length ≤ 1048576 := by
  have hb := bulk_nonneg xs
  have hm := bulk_mem xs
  have h1 : ∀ x ∈ xs.map conv, x.f0.size ≤ 1048576 ∧ x.f1.length ≤ 1048576 := by
    intro x hx
    obtain ⟨y, hy, rfl⟩ := List.mem_map.1 hx
    have := hm y hy
    simp only [conv]
    omega
  exact ⟨⟨by simp; omega, h1⟩, by omega, fun x hx => by have := hm x hx; omega, fun x hx => (h1 x hx).2⟩
end Go.Proofs.Ytfgfkmjpeffjbaa.PMeeting

/-! ## PMarkMeeting -/
/- Plain laws of marks in a meeting: there is room for them. No condition but sizes that fit. -/
namespace Go.Proofs.Ytfgfkmjpeffjbaa.PMarks
open Go.RowKit Go.Proofs.YtfgfkmjpeffjbaaW.PrintWords Go.Proofs.Ytfgfkmjpeffjbaa.X Go.Proofs.Ytfgfkmjpeffjbaa.B Go.Proofs.Ytfgfkmjpeffjbaa.PMeeting
noncomputable def mm (x : M) (c : Int) : M := ⟨txt c, mi x.f1 (c + 1)⟩
def cm (x : M) : Int := 1 + x.f1.length
theorem markMotions_ev (xs : List M) (c : Int) (hn : xs.length ≤ 1048576) (hw : ∀ x ∈ xs, x.f1.length ≤ 1048576) (h0 : 0 ≤ c) (h1 : c + sumOf cm xs ≤ 4611686018427387904) : Ev (fun k => laws_markMotionS.f k xs c) (c + sumOf cm xs, markAll mm cm xs c) := by
  have key : ∀ (suf pre : List M) (c : Int), (∀ x ∈ suf, x.f1.length ≤ 1048576) → pre.length + suf.length = xs.length → 0 ≤ c → c + sumOf cm suf ≤ 4611686018427387904 → Ev (fun k => laws_markMotionS.l0 k (pre ++ suf) c (pre.length : Int)) (c + sumOf cm suf, pre ++ markAll mm cm suf c) := by
    intro suf
    induction suf with
    | nil =>
      intro pre c hw hl h0 h1
      refine Ev.up (g := fun k => laws_markMotionS.l0 k (pre ++ []) c (pre.length : Int)) (Ev.const fun k => ?_)
      simp only [laws_markMotionS.l0]
      rw [if_neg (by simp), sumOf_nil]
      simp [markAll]
    | cons x suf ih =>
      intro pre c hw hl h0 h1
      have hx := hw x (List.mem_cons_self ..)
      have hs : 0 ≤ sumOf cm suf := sumOf_nonneg fun y _ => by unfold cm; omega
      rw [sumOf_cons] at h1 ⊢
      have hcx : cm x = 1 + x.f1.length := rfl
      have hl2 : (pre ++ x :: suf).length = pre.length + (suf.length + 1) := by simp
      have hl3 : (x :: suf).length = suf.length + 1 := rfl
      have hrd : rd_T60 (pre ++ x :: suf) (pre.length : Int) = x := by rw [rdM (by omega)]; simp
      refine Ev.up (g := fun k => laws_markMotionS.l0 k (pre ++ x :: suf) c (pre.length : Int)) ?_
      simp only [laws_markMotionS.l0, hrd, w64 (x := c + 1) (by omega) (by omega)]
      refine Ev.ifPos (by omega) (Ev.ifPos (by omega) (Ev.bindE (txt_ev c h0 (by omega)) (Ev.bindE (markInts_ev x.f1 (c + 1) hx (by omega) (by omega)) ?_)))
      have h' := ih (pre ++ [mm x c]) (c + cm x) (fun y hy => hw y (List.mem_cons_of_mem _ hy)) (by simp; omega) (by omega) (by omega)
      have e1 : (pre ++ x :: suf).set (pre.length : Int).toNat (⟨txt c, mi x.f1 (c + 1)⟩ : M) = pre ++ [mm x c] ++ suf := by
        rw [Int.toNat_natCast, List.set_append_right _ _ (by omega), Nat.sub_self]
        simp [mm]
      have e2 : ((pre ++ [mm x c]).length : Int) = wrap64 ((pre.length : Int) + 1) := by
        rw [w64 (by omega) (by omega)]; simp
      have e3 : c + 1 + (x.f1.length : Int) = c + cm x := by omega
      have e4 : c + (cm x + sumOf cm suf) = c + cm x + sumOf cm suf := by omega
      simp only [e1, e3, e4]
      rw [e2] at h'
      simpa [markAll] using h'
  exact key xs [] c hw (by simp) h0 h1
theorem markMeeting_ev (s : Int) (xs : List M) (hn : xs.length ≤ 1048576) (hw : ∀ x ∈ xs, x.f1.length ≤ 1048576) : ∃ r : Int × List M, 0 ≤ r.1 ∧ Ev (fun k => laws_markMeeting.f k s xs 1) r := by
  have hb : sumOf cm xs ≤ xs.length * 1048577 := by
    clear hn
    induction xs with
    | nil => simp [sumOf]
    | cons x xs ih =>
      have h1 := hw x (List.mem_cons_self ..)
      have h2 := ih fun y hy => hw y (List.mem_cons_of_mem _ hy)
      rw [sumOf_cons]
      simp only [List.length_cons, cm]
      push_cast
      omega
  have hs : 0 ≤ sumOf cm xs := sumOf_nonneg fun y _ => by unfold cm; omega
  refine ⟨_, ?_, markMotions_ev xs 1 hn hw (by omega) (by omega)⟩
  show 0 ≤ 1 + sumOf cm xs
  omega
end Go.Proofs.Ytfgfkmjpeffjbaa.PMarks

/-! ## PHeldMeeting -/
/- Plain laws of marks in a meeting: they are found again. No condition but sizes that fit. -/
namespace Go.Proofs.Ytfgfkmjpeffjbaa.PMarks
open Go.RowKit Go.Proofs.YtfgfkmjpeffjbaaW.PrintWords Go.Proofs.Ytfgfkmjpeffjbaa.X Go.Proofs.Ytfgfkmjpeffjbaa.B Go.Proofs.Ytfgfkmjpeffjbaa.PMeeting
theorem heldMotions_ev (xs : List M) (c : Int) (hn : xs.length ≤ 1048576) (hw : ∀ x ∈ xs, x.f1.length ≤ 1048576) (h0 : 0 ≤ c) (h1 : c + sumOf cm xs ≤ 4611686018427387904) : Ev (fun k => laws_heldMotionS.f k (markAll mm cm xs c) c) (c + sumOf cm xs) := by
  have key : ∀ (suf : List M) (pre : List M) (c : Int), (∀ x ∈ suf, x.f1.length ≤ 1048576) → pre.length + suf.length = xs.length → 0 ≤ c → c + sumOf cm suf ≤ 4611686018427387904 → Ev (fun k => laws_heldMotionS.l0 k (pre ++ markAll mm cm suf c) c (pre.length : Int)) (c + sumOf cm suf) := by
    intro suf
    induction suf with
    | nil =>
      intro pre c hw hl h0 h1
      refine Ev.up (g := fun k => laws_heldMotionS.l0 k (pre ++ markAll mm cm [] c) c (pre.length : Int)) (Ev.const fun k => ?_)
      simp only [laws_heldMotionS.l0]
      rw [if_neg (by simp [markAll]), sumOf_nil]
      simp
    | cons x suf ih =>
      intro pre c hw hl h0 h1
      have hx := hw x (List.mem_cons_self ..)
      have hs : 0 ≤ sumOf cm suf := sumOf_nonneg fun y _ => by unfold cm; omega
      rw [sumOf_cons] at h1 ⊢
      have hcx : cm x = 1 + x.f1.length := rfl
      have hl3 : (x :: suf).length = suf.length + 1 := rfl
      have em : markAll mm cm (x :: suf) c = mm x c :: markAll mm cm suf (c + cm x) := rfl
      rw [em]
      have hl2 : (pre ++ mm x c :: markAll mm cm suf (c + cm x)).length = pre.length + (suf.length + 1) := by simp [markAll_len]
      have hrd : rd_T60 (pre ++ mm x c :: markAll mm cm suf (c + cm x)) (pre.length : Int) = mm x c := by rw [rdM (by omega)]; simp
      refine Ev.up (g := fun k => laws_heldMotionS.l0 k (pre ++ mm x c :: markAll mm cm suf (c + cm x)) c (pre.length : Int)) ?_
      simp only [laws_heldMotionS.l0, hrd, w64 (x := c + 1) (by omega) (by omega)]
      have hh := heldInts_ev x.f1 (c + 1) hx (by omega) (by omega)
      refine Ev.ifPos (by omega) (Ev.ifPos (by omega) (Ev.bindE (txt_ev c h0 (by omega)) (Ev.ifPos rfl (Ev.bindE hh (Ev.ifNeg (by omega) ?_)))))
      have h' := ih (pre ++ [mm x c]) (c + cm x) (fun y hy => hw y (List.mem_cons_of_mem _ hy)) (by simp; omega) (by omega) (by omega)
      have e1 : pre ++ mm x c :: markAll mm cm suf (c + cm x) = pre ++ [mm x c] ++ markAll mm cm suf (c + cm x) := by simp
      have e2 : ((pre ++ [mm x c]).length : Int) = wrap64 ((pre.length : Int) + 1) := by
        rw [w64 (by omega) (by omega)]; simp
      have e3 : c + 1 + (x.f1.length : Int) = c + cm x := by omega
      have e4 : c + (cm x + sumOf cm suf) = c + cm x + sumOf cm suf := by omega
      simp only [e1, e3, e4]
      rw [e2] at h'
      exact h'
  exact key xs [] c hw (by simp) h0 h1
/-- Marks are laid, and found again: in each slot its own. -/
theorem marksMeeting_ev (s : Int) (xs : List M) (hn : xs.length ≤ 1048576) (hw : ∀ x ∈ xs, x.f1.length ≤ 1048576) : ∃ (r : Int) (ys : List M), 0 ≤ r ∧ Ev (fun k => laws_markMeeting.f k s xs 1) (r, ys) ∧ Ev (fun k => laws_heldMeeting.f k s ys 1) r := by
  have hb : sumOf cm xs ≤ xs.length * 1048577 := by
    clear hn
    induction xs with
    | nil => simp [sumOf]
    | cons x xs ih =>
      have h1 := hw x (List.mem_cons_self ..)
      have h2 := ih fun y hy => hw y (List.mem_cons_of_mem _ hy)
      rw [sumOf_cons]
      simp only [List.length_cons, cm]
      push_cast
      omega
  have hs : 0 ≤ sumOf cm xs := sumOf_nonneg fun y _ => by unfold cm; omega
  refine ⟨_, _, ?_, markMotions_ev xs 1 hn hw (by omega) (by omega), ?_⟩
  · omega
  · unfold laws_heldMeeting.f
    exact Ev.bindE (heldMotions_ev xs 1 hn hw (by omega) (by omega)) (Ev.ifNeg (by omega) (Ev.const fun _ => rfl))
end Go.Proofs.Ytfgfkmjpeffjbaa.PMarks

/-! ## PureFnExactAddMotion -/
/- The plain law of AddMotion: both answer the meeting with a motion more on which nobody has voted, or the same code; what came in is left as it is, and the answer shares nothing with it. For all meetings whose motions hold at most 1048576 letters and elements together, and all names of at most so many letters (the law says nothing of greater ones). -/
namespace Go.Proofs.Ytfgfkmjpeffjbaa.Pure
open Go.RowKit Go.Proofs.YtfgfkmjpeffjbaaW.PrintWords Go.Proofs.Ytfgfkmjpeffjbaa.X Go.Proofs.Ytfgfkmjpeffjbaa.B Go.Proofs.Ytfgfkmjpeffjbaa.PName Go.Proofs.Ytfgfkmjpeffjbaa.PInts Go.Proofs.Ytfgfkmjpeffjbaa.PMeeting Go.Proofs.Ytfgfkmjpeffjbaa.PMarks
theorem take_next {α : Type} (xs : List α) {i : Nat} (hi : i < xs.length) : xs.take i ++ [xs[i]] = xs.take (i + 1) := (List.take_succ_eq_append_getElem hi).symm
theorem clone_ev (s : Int) (xs : List M) (hs : Small xs) : Ev (fun k => impl_cloneMeeting.f k s xs) (s, xs) := by
  have h0 : Ev (fun k => impl_cloneMeeting.l0 k xs (xs.length : Int) ((0 : Nat) : Int) s (xs.take 0)) (s, xs) := by
    refine scanI (fun k i => impl_cloneMeeting.l0 k xs (xs.length : Int) (i : Int) s (xs.take i)) xs.length (fun _ => (s, xs)) (Ev.up (g := fun k => impl_cloneMeeting.l0 k xs (xs.length : Int) (xs.length : Int) s (xs.take xs.length)) (Ev.const fun k => by
      simp only [impl_cloneMeeting.l0]
      rw [if_neg (by omega), List.take_length])) (fun i hi ih => ?_) 0 (by omega)
    refine Ev.up (g := fun k => impl_cloneMeeting.l0 k xs (xs.length : Int) (i : Int) s (xs.take i)) ?_
    have hx := hs.2 _ (List.getElem_mem hi)
    have h1 := hs.1
    have ht : (xs.take i).length ≤ i := by rw [List.length_take]; omega
    have hc : impl_clone_int64.f xs[i].f1 = some xs[i].f1 := by
      simp only [impl_clone_int64.f, Option.bind_some, List.nil_append, List.length_nil]
      rw [if_pos (by omega)]
    simp only [impl_cloneMeeting.l0, rdM hi, hc, wnext hi (by omega : (xs.length : Int) ≤ _), Option.bind_some]
    refine Ev.ifPos (by omega) (Ev.ifPos (by omega) (Ev.ifPos (by omega) (Ev.ifPos (by omega) ?_)))
    have e : (⟨xs[i].f0, xs[i].f1⟩ : M) = xs[i] := rfl
    rw [e, take_next xs hi]
    exact ih
  exact h0
theorem own_ev (s : Int) (xs : List M) (hs : Small xs) : Ev (fun k => spec_l25Own_ro.f k s xs) (s, xs) := by
  have h0 : Ev (fun k => spec_l25Own_ro.l0 k ((0 : Nat) : Int) s xs s (xs.take 0)) (s, xs) := by
    refine scanI (fun k i => spec_l25Own_ro.l0 k (i : Int) s xs s (xs.take i)) xs.length (fun _ => (s, xs)) (Ev.up (g := fun k => spec_l25Own_ro.l0 k (xs.length : Int) s xs s (xs.take xs.length)) (Ev.const fun k => by
      simp only [spec_l25Own_ro.l0]
      rw [if_neg (by omega), List.take_length])) (fun i hi ih => ?_) 0 (by omega)
    refine Ev.up (g := fun k => spec_l25Own_ro.l0 k (i : Int) s xs s (xs.take i)) ?_
    have hx := hs.2 _ (List.getElem_mem hi)
    have h1 := hs.1
    have ht : (xs.take i).length ≤ i := by rw [List.length_take]; omega
    have hc : spec_l00Own.f xs[i].f1 = some xs[i].f1 := by
      simp only [spec_l00Own.f, Option.bind_some, List.nil_append, List.length_nil]
      rw [if_pos (by omega)]
    simp only [spec_l25Own_ro.l0, rdM hi, hc, wnext hi (by omega : (xs.length : Int) ≤ _), Option.bind_some]
    refine Ev.ifPos (by omega) (Ev.ifPos (by omega) (Ev.ifPos (by omega) ?_))
    have e : (⟨xs[i].f0, xs[i].f1⟩ : M) = xs[i] := rfl
    rw [e, take_next xs hi]
    exact ih
  exact h0
def added (s : Int) (xs : List M) (nm : ByteArray) : Int × List M × Int :=
  if okMeeting s xs = true then (if isName nm = true then (if find xs nm ≥ 0 then (0, [], 4) else if (xs.length : Int) = 20 then (0, [], 5) else (s, xs ++ [(⟨nm, List.replicate s.toNat 0⟩ : M)], 0)) else (0, [], 2)) else (0, [], 1)
theorem okMeeting_room {s : Int} {xs : List M} (h : okMeeting s xs = true) : (1 ≤ s ∧ s ≤ 30) ∧ xs.length ≤ 20 := by
  simp only [okMeeting, Bool.and_eq_true, decide_eq_true_eq] at h
  exact ⟨h.2.1, by omega⟩
theorem specAdded_ev (s : Int) (xs : List M) (nm : ByteArray) (hs : Small xs) (hn : nm.size ≤ 9223372036854775807) : Ev (fun k => spec_AddMotion.f k s xs nm) (added s xs nm) := by
  unfold spec_AddMotion.f added
  refine Ev.bindE (specOk_ev s xs hs) ?_
  by_cases ho : okMeeting s xs = true
  · obtain ⟨⟨hs1, hs2⟩, hlen⟩ := okMeeting_room ho
    simp only [if_pos ho]
    refine Ev.bindE (specName_ev nm hn) ?_
    by_cases hnm : isName nm = true
    · simp only [if_pos hnm]
      refine Ev.bindE (specFind_ev xs nm hs.1) ?_
      by_cases hf : find xs nm ≥ 0
      · simp only [if_pos hf]; exact Ev.const fun _ => rfl
      · simp only [if_neg hf]
        by_cases hl : (xs.length : Int) = 20
        · simp only [if_pos hl]
          exact Ev.ifPos (by omega) (Ev.const fun _ => rfl)
        · simp only [if_neg hl]
          exact Ev.ifNeg (by omega) (Ev.bindE (own_ev s xs hs) (Ev.ifPos (by omega) (Ev.ifPos (by omega) (Ev.ifPos (by simp only; omega) (Ev.const fun _ => rfl)))))
    · simp only [if_neg hnm]; exact Ev.const fun _ => rfl
  · simp only [if_neg ho]; exact Ev.const fun _ => rfl
theorem implAdded_ev (s : Int) (xs : List M) (nm : ByteArray) (hs : Small xs) (hn : nm.size ≤ 9223372036854775807) : Ev (fun k => impl_AddMotion.f k s xs nm) (added s xs nm) := by
  unfold impl_AddMotion.f added
  refine Ev.bindE (implOk_ev s xs hs) ?_
  by_cases ho : okMeeting s xs = true
  · obtain ⟨⟨hs1, hs2⟩, hlen⟩ := okMeeting_room ho
    simp only [if_pos ho]
    refine Ev.bindE (implName_ev nm hn) ?_
    by_cases hnm : isName nm = true
    · simp only [if_pos hnm]
      refine Ev.bindE (implFind_ev xs nm hs.1) ?_
      by_cases hf : find xs nm ≥ 0
      · simp only [if_pos hf]; exact Ev.const fun _ => rfl
      · simp only [if_neg hf]
        by_cases hl : (xs.length : Int) = 20
        · simp only [if_pos hl]; exact Ev.const fun _ => rfl
        · simp only [if_neg hl]
          exact Ev.bindE (clone_ev s xs hs) (Ev.ifPos (by omega) (Ev.ifPos (by omega) (Ev.ifPos (by simp only; omega) (Ev.const fun _ => rfl))))
    · simp only [if_neg hnm]; exact Ev.const fun _ => rfl
  · simp only [if_neg ho]; exact Ev.const fun _ => rfl
theorem added_small (s : Int) (xs : List M) (nm : ByteArray) (hs : Small xs) : (added s xs nm).2.1.length ≤ 1048576 ∧ ∀ x ∈ (added s xs nm).2.1, x.f1.length ≤ 1048576 := by
  have he : ([] : List M).length ≤ 1048576 ∧ ∀ x ∈ ([] : List M), x.f1.length ≤ 1048576 := ⟨by simp, fun x h => by cases h⟩
  unfold added
  by_cases ho : okMeeting s xs = true
  · obtain ⟨⟨hs1, hs2⟩, hlen⟩ := okMeeting_room ho
    simp only [if_pos ho]
    split
    · split
      · exact he
      · split
        · exact he
        · refine ⟨by simp; omega, fun x hx => ?_⟩
          rcases List.mem_append.1 hx with hx | hx
          · exact (hs.2 x hx).2
          · rw [List.mem_singleton.1 hx]
            simp only [List.length_replicate]
            omega
    · exact he
  · simp only [if_neg ho]; exact he
theorem FnExactAddMotion : Say.FnExactAddMotion := by
  intro s xs nm hs hx hnm
  have hw : ∀ x ∈ xs, WfL x := fun x h => ⟨(hx.2 x h).1, (hx.2 x h).2.1⟩
  have hbk := bulk_nonneg xs
  refine Ev.rounds ?_
  unfold laws_FnExactAddMotion.f
  by_cases hz : (nm.size : Int) > 1048576
  · exact Ev.ifPos hz (Ev.const fun _ => rfl)
  refine Ev.ifNeg hz ?_
  refine Ev.bindE (szMeeting_ev s xs 1048576 (by omega) (by omega) hx.1 hw) ?_
  by_cases h : (xs.length : Int) + bulk xs ≤ 1048576
  · simp only [if_pos h]
    refine Ev.ifNeg (by omega) ?_
    obtain ⟨h1, h2, h3, h4⟩ := small_conv (by omega) h
    have tm := toMeeting_ev s xs h2 h3
    have eq := eqMeeting_self s (xs.map conv) h1.1 h4
    have sa := specAdded_ev s (xs.map conv) nm h1 (by omega)
    have ia := implAdded_ev s (xs.map conv) nm h1 (by omega)
    obtain ⟨a1, a2⟩ := added_small s (xs.map conv) nm h1
    have eg := eqMeeting_self (added s (xs.map conv) nm).1 _ a1 a2
    obtain ⟨r, hr, hm⟩ := markMeeting_ev s (xs.map conv) h1.1 h4
    obtain ⟨q, ys, hq, mg, hg⟩ := marksMeeting_ev (added s (xs.map conv) nm).1 _ a1 a2
    refine Ev.bindE tm (Ev.bindE sa (Ev.bindE tm (Ev.bindE ia (Ev.bindE eg (Ev.ifPos rfl (Ev.ifPos rfl (Ev.bindE tm (Ev.bindE eq (Ev.ifPos rfl (Ev.bindE hm (Ev.ifNeg (by omega) (Ev.bindE eg (Ev.ifPos rfl ?_)))))))))))))
    refine Ev.bindE mg (Ev.bindE hg (Ev.ifNeg (by omega) (Ev.ifPos rfl (Ev.bindE tm (Ev.bindE ia (Ev.bindE eg (Ev.ifPos rfl (Ev.ifPos rfl (Ev.bindE hg (Ev.ifNeg (by omega) (Ev.ifPos rfl (Ev.const fun _ => rfl))))))))))))
  · simp only [if_neg h]
    exact Ev.ifPos (by omega) (Ev.const fun _ => rfl)
end Go.Proofs.Ytfgfkmjpeffjbaa.Pure

/-! ## LawFnExactAddMotion -/
/- FnExactAddMotion: the law's row, out of its plain statement and the walks. -/
namespace Go.Proofs.Ytfgfkmjpeffjbaa.fnExactAddMotion
open Go.ChangeShapes Go.WideShapes Go.ChangeAt Go.RowKit Go.Proofs.Ytfgfkmjpeffjbaa.X
open Go.ChangeMaps (open_string shut_string)
theorem own : ownKnob Try.prog.godebug = none := by kernel_rfl
theorem laidOut : laidOutB Try.prog = true := by kernel_rfl
open Go.Proofs.YtfgfkmjpeffjbaaW.PrintWords in
theorem reader0 : Rdr.Reads Try.prog 24 k24 (fun x : S24 => Rdr.I64 x.f0 ∧ ((Rdr.Lst (fun x : S87 => Rdr.Str x.f0 ∧ ((Rdr.Lst Rdr.I64) x.f1))) x.f1)) := (show Rdr.Reads Try.prog 24 k24 _ from Rdr.reads_iso (f := fun x : S24 => (x.f0, x.f1)) (fun a => ⟨a.1, a.2⟩) (fun _ => rfl) (Rdr.reads_struct Try.underlying24 (by kernel_rfl) (Rdr.freads_cons rfl (Rdr.reads_i64 Try.underlying2 (by kernel_rfl)) rfl (Rdr.freads_last rfl (Rdr.reads_slice Try.underlying22 (by kernel_rfl) (show Rdr.Reads Try.prog 87 k87 _ from Rdr.reads_iso (f := fun x : S87 => (x.f0, x.f1)) (fun a => ⟨a.1, a.2⟩) (fun _ => rfl) (Rdr.reads_struct Try.underlying87 (by kernel_rfl) (Rdr.freads_cons rfl (Rdr.reads_str Try.underlying9 (by kernel_rfl)) rfl (Rdr.freads_last rfl (Rdr.reads_slice Try.underlying37 (by kernel_rfl) (Rdr.reads_i64 Try.underlying2 (by kernel_rfl))))))))))))
set_option maxRecDepth 100000 in
theorem lifted (os : Os) (started : os.Started) (H : Type) (enc : TypeId × Value → H) :
    ReturnsInHanded {} Try.checked os 10 .any (Rows.fnExactAddMotionSpec.pre6 enc Try.prog Try.f10 Rows.fnExactAddMotionRow.domain false) (Rows.fnExactAddMotionSpec.post enc Try.prog Try.f10 false true false false) := by
  refine returnsInHanded_of_change_sized (C := Try.checked) own started (by kernel_rfl) Try.func10
    (ChangeSpec.witness6 (enc := enc) (C := Try.checked) false ⟨#[], #[.agg #[(.int .i64 0), (.slice none 0 0)], .string ⟨#[]⟩], []⟩ 8 (by kernel_rfl) (by kernel_rfl) (by kernel_rfl) (by kernel_rfl)) ?_
  intro W base args ds gs before hval0 hW hcnd hsz0 _
  have hval : ∀ (j : Nat) t v, Try.f10.params[j]? = some t → args[j]? = some v → Value.okWide Try.prog W .any base t v := hval0
  have hW' := hW
  obtain ⟨p, q, hA0, hV, rfl, hfz, hnd⟩ := hW
  have hA : DataW.TrodAll enc Try.prog W 0 (fun _ => true) true Try.f10.params.toList args.toList ds p := hA0
  rw [Try.params10] at hA hval
  obtain ⟨v0, vs0, d0, ds0, p0, q0, hargs, rfl, rfl, h0, r0⟩ := trodAll_cons hA
  obtain ⟨v1, vs1, d1, ds1, p1, q1, rfl, rfl, rfl, h1, r1⟩ := trodAll_cons r0
  obtain ⟨rfl, rfl, rfl⟩ := trodAll_nil r1
  obtain rfl : args = #[v0, v1] := by cases args; simp_all
  obtain ⟨rfl, rfl⟩ := trodVars_none hV
  have k0 := h0
  have lt0 : ∀ x ∈ p0, x.block < W.heap.size := by obtain ⟨m, hm⟩ := k0; exact DataW.trod_lt m _ _ _ hm
  obtain ⟨fuel0, hf0⟩ := h0
  obtain ⟨x0, hK0, w0⟩ := reader0.read hf0
  obtain ⟨cs0, rfl, hsz0⟩ := okWide_struct Try.underlying24 (hval 0 24 v0 rfl rfl)
  obtain ⟨A0_1, c0_1, hcs0, hl0_1, hC0_1⟩ := k24_open hK0
  obtain rfl : cs0 = #[.int .i64 x0.f0, .slice A0_1 x0.f1.length c0_1] := by cases cs0; simpa [Value.cells] using hcs0
  obtain ⟨a1, rfl, rfl, rfl, y1⟩ := open_string Try.underlying9 (hval 1 9 v1 rfl rfl) h1
  have w1 : Rdr.Str a1 := y1
  clear hA0 hval0 hsz0
  obtain ⟨k, h⟩ := Pure.FnExactAddMotion (x0.f0) (x0.f1) a1 w0.1 w0.2 w1
  refine (laws_FnExactAddMotion.calls k (x0.f0) _ _ (x0.f1) a1 true W hC0_1 hl0_1 ⟨rfl⟩ h).mono fun e W' ⟨he, hd⟩ => ?_
  have bel : Below W.heap.size W W' := hd
  subst he
  exact ⟨_, rfl, _, _, _, [], _, [], hW', trodAll_mk1 (shut_bool Try.underlying4 _), (trodAll_cons_mk (Below.trod laidOut (by kernel_rfl) (of_decide_eq_true (by kernel_rfl)) k0 bel lt0) (trodAll_cons_mk (shut_string Try.underlying9 y1) trodAll_mk0)), rfl, bel.frame _, fun h => by cases h⟩
theorem over : Rows.fnExactAddMotionRow.holds Try.pinned (OpenSpec.ofChange Rows.fnExactAddMotionSpec) :=
  OpenClaim.holds_of_wide 10 Try.f10 rfl rfl rfl rfl rfl rfl rfl ⟨rfl, rfl, rfl, rfl, rfl⟩ rfl rfl rfl rfl rfl (by kernel_rfl) Try.func10 (by kernel_rfl)
    (of_decide_eq_true (by kernel_rfl)) (by unfold Func.isWrapper; first | (rw [if_pos (by decide +kernel)]; kernel_rfl) | (rw [if_neg (by decide +kernel)]; exact ⟨rfl, rfl⟩))
    (fun os started H enc _ => lifted os started H enc)
theorem proved : Rows.FnExactAddMotionSaid := over
end Go.Proofs.Ytfgfkmjpeffjbaa.fnExactAddMotion
namespace Go.Proofs.Ytfgfkmjpeffjbaa
/-- The row, under a short name, for the claim. -/
theorem fnExactAddMotion_holds : Rows.FnExactAddMotionSaid := fnExactAddMotion.proved
end Go.Proofs.Ytfgfkmjpeffjbaa
